/- Contracts of functions of the program: each says that the call does what a plain Lean function tells. Made by programs of this session and of the kit. No condition beyond the hypotheses that each theorem names. -/
import Derived.Test.YtmkhghbalnadlaaPFnExactBeginx0
import Derived.Test.YtmkhghbalnadlaaPFnExactBeginx1
import Derived.Test.YtmkhghbalnadlaaPFnExactBeginx2
import Derived.Test.YtmkhghbalnadlaaPFnExactBeginx3
import Derived.Test.YtmkhghbalnadlaaPFnExactBeginx4
import Derived.Test.YtmkhghbalnadlaaPFnExactBeginx5
import Derived.Test.YtmkhghbalnadlaaPFnExactBeginx10
import Derived.Test.YtmkhghbalnadlaaPFnExactBeginx14
import Derived.Test.YtmkhghbalnadlaaPFnExactBeginx15
namespace Go.Proofs.Ytmkhghbalnadlaa.PFnExactBegin
open Go.RowKit Go.Proofs.YtmkhghbalnadlaaW.PrintWords Go.Proofs.YtmkhghbalnadlaaW.PrintLast Go.Proofs.YtmkhghbalnadlaaW.PrintMore
attribute [local go_sem] max2_int min2_int max_two min_two max_three min_three max_four min_four   -- for this text's walks alone
set_option linter.unusedVariables false
set_option linter.unusedSimpArgs false

/-! ### laws_FnExactBegin: function 7 -/
mutual
def laws_FnExactBegin.j0 : Nat → Int → List (S124) → Bool → List (S122) → Bool → Bool → List (S140) → List (S134) → Int → List Int → List (S95) → List (S119) → Int → Int → Int → Int → List (S95) → List (S119) → Int → List Int → List (S95) → List (S119) → Int → Int → Int → Int → Option (Bool)
 | 0, _, _, _, _, _, _, _, _, _, _, _, _, _, _, _, _, _, _, _, _, _, _, _, _, _, _ => none
 | k + 1, x1, x2, x12, x14, x18, x81, x466000, x466001, x467000, x467001, x495000, x495001, x496000, x496001, x496002, x496003, x503000, x503001, x511000, x511001, x523000, x523001, x524000, x524001, x524002, x524003 => if x81 = true then (none) else ((laws_toMem.f k x466000 x466001).bind fun bt526 => ((laws_eqMem.f k x503000 x503001 bt526.1 bt526.2).bind fun t532 => (if t532 = true then ((laws_toEntryS.f k x2).bind fun t533 => ((laws_eqEntryS.f k x14 t533).bind fun t536 => (if t536 = true then ((laws_toRes.f k x467000 x467001).bind fun bt537 => ((laws_eqRes.f k x511000 x511001 bt537.1 bt537.2).bind fun t541 => (if t541 = true then ((laws_markMem.f k x503000 x503001 1).bind fun bt542 => ((laws_markEntryS.f k x14 bt542.1).bind fun bt544 => ((laws_markRes.f k x511000 x511001 bt544.1).bind fun bt546 => (if bt546.1 < 0 then (laws_FnExactBegin.j1 k x1 x2 x12 true x466000 x466001 x467000 x467001 x495000 x495001 x496000 x496001 x496002 x496003 x523000 x523001) else ((laws_eqMem.f k x523000 x523001 x495000 x495001).bind fun t548 => (if t548 = true then ((laws_eqHelp.f x524000 x524001 x524002 x524003 x496000 x496001 x496002 x496003).bind fun t549 => (if t549 = true then (laws_FnExactBegin.j1 k x1 x2 x12 (x18 != x12) x466000 x466001 x467000 x467001 x495000 x495001 x496000 x496001 x496002 x496003 x523000 x523001) else (laws_FnExactBegin.j1 k x1 x2 x12 true x466000 x466001 x467000 x467001 x495000 x495001 x496000 x496001 x496002 x496003 x523000 x523001))) else (laws_FnExactBegin.j1 k x1 x2 x12 true x466000 x466001 x467000 x467001 x495000 x495001 x496000 x496001 x496002 x496003 x523000 x523001))))))) else (none)))) else (none)))) else (none))))
def laws_FnExactBegin.j1 : Nat → Int → List (S124) → Bool → Bool → List (S140) → List (S134) → Int → List Int → List (S95) → List (S119) → Int → Int → Int → Int → List (S95) → List (S119) → Option (Bool)
 | 0, _, _, _, _, _, _, _, _, _, _, _, _, _, _, _, _ => none
 | k + 1, x1, x2, x12, x124, x466000, x466001, x467000, x467001, x495000, x495001, x496000, x496001, x496002, x496003, x523000, x523001 => if x124 = true then (none) else ((laws_markMem.f k x523000 x523001 1).bind fun bt550 => ((laws_heldMem.f k bt550.2.1 bt550.2.2 1).bind fun t552 => (if t552 < 0 then (none) else (if t552 = bt550.1 then ((laws_toMem.f k x466000 x466001).bind fun bt553 => ((laws_toEntryS.f k x2).bind fun t559 => ((laws_toRes.f k x467000 x467001).bind fun bt562 => ((impl_Begin.f k bt553.1 bt553.2 x1 t559 bt562.1 bt562.2).bind fun bt566 => ((laws_eqMem.f k bt566.1 bt566.2.1 x495000 x495001).bind fun t579 => (if t579 = true then ((laws_eqHelp.f bt566.2.2.1 bt566.2.2.2.1 bt566.2.2.2.2.1 bt566.2.2.2.2.2.1 x496000 x496001 x496002 x496003).bind fun t580 => (if t580 = true then (laws_FnExactBegin.j2 k bt550.1 (bt566.2.2.2.2.2.2 != x12) bt550.2.1 bt550.2.2) else (laws_FnExactBegin.j2 k bt550.1 true bt550.2.1 bt550.2.2))) else (laws_FnExactBegin.j2 k bt550.1 true bt550.2.1 bt550.2.2))))))) else (none)))))
def laws_FnExactBegin.j2 : Nat → Int → Bool → List (S95) → List (S119) → Option (Bool)
 | 0, _, _, _, _ => none
 | k + 1, x20, x162, x523000, x523001 => if x162 = true then (none) else ((laws_heldMem.f k x523000 x523001 1).bind fun t581 => (if t581 < 0 then (none) else (if t581 = x20 then (some true) else (none))))
end
def laws_FnExactBegin.f (k : Nat) (l0_0 : List (S140)) (l0_1 : List (S134)) (a1 : Int) (l2 : List (S124)) (a3_0 : Int) (l3_1 : List Int) : Option (Bool) := (laws_szMem.f k l0_0 l0_1 1048576).bind fun t467 => (if t467 < 0 then (some true) else ((laws_szEntryS.f l2 t467).bind fun t468 => (if t468 < 0 then (some true) else ((laws_szRes.f a3_0 l3_1 t468).bind fun t469 => (if t469 < 0 then (some true) else ((laws_toMem.f k l0_0 l0_1).bind fun bt470 => ((laws_toEntryS.f k l2).bind fun t476 => ((laws_toRes.f k a3_0 l3_1).bind fun bt479 => ((spec_Begin.f k bt470.1 bt470.2 a1 t476 bt479.1 bt479.2).bind fun bt483 => ((laws_toMem.f k l0_0 l0_1).bind fun bt496 => ((laws_toEntryS.f k l2).bind fun t503 => ((laws_toRes.f k a3_0 l3_1).bind fun bt506 => ((impl_Begin.f k bt496.1 bt496.2 a1 t503 bt506.1 bt506.2).bind fun bt511 => ((laws_eqMem.f k bt511.1 bt511.2.1 bt483.1 bt483.2.1).bind fun t524 => (if t524 = true then ((laws_eqHelp.f bt511.2.2.1 bt511.2.2.2.1 bt511.2.2.2.2.1 bt511.2.2.2.2.2.1 bt483.2.2.1 bt483.2.2.2.1 bt483.2.2.2.2.1 bt483.2.2.2.2.2.1).bind fun t525 => (if t525 = true then (laws_FnExactBegin.j0 k a1 l2 bt483.2.2.2.2.2.2 t503 bt511.2.2.2.2.2.2 (bt511.2.2.2.2.2.2 != bt483.2.2.2.2.2.2) l0_0 l0_1 a3_0 l3_1 bt483.1 bt483.2.1 bt483.2.2.1 bt483.2.2.2.1 bt483.2.2.2.2.1 bt483.2.2.2.2.2.1 bt496.1 bt496.2 bt506.1 bt506.2 bt511.1 bt511.2.1 bt511.2.2.1 bt511.2.2.2.1 bt511.2.2.2.2.1 bt511.2.2.2.2.2.1) else (laws_FnExactBegin.j0 k a1 l2 bt483.2.2.2.2.2.2 t503 bt511.2.2.2.2.2.2 true l0_0 l0_1 a3_0 l3_1 bt483.1 bt483.2.1 bt483.2.2.1 bt483.2.2.2.1 bt483.2.2.2.2.1 bt483.2.2.2.2.2.1 bt496.1 bt496.2 bt506.1 bt506.2 bt511.1 bt511.2.1 bt511.2.2.1 bt511.2.2.2.1 bt511.2.2.2.2.1 bt511.2.2.2.2.2.1))) else (laws_FnExactBegin.j0 k a1 l2 bt483.2.2.2.2.2.2 t503 bt511.2.2.2.2.2.2 true l0_0 l0_1 a3_0 l3_1 bt483.1 bt483.2.1 bt483.2.2.1 bt483.2.2.2.1 bt483.2.2.2.2.1 bt483.2.2.2.2.2.1 bt496.1 bt496.2 bt506.1 bt506.2 bt511.1 bt511.2.1 bt511.2.2.1 bt511.2.2.2.1 bt511.2.2.2.2.1 bt511.2.2.2.2.2.1))))))))))))))))
def laws_FnExactBegin.T11 : Bool × List (List Nat × List Nat) := (true, [([], []), ([0], [0]), ([], []), ([], []), ([3, 1], [3]), ([], []), ([5, 4], [5]), ([1, 2, 4, 6, 6], [1, 2, 4, 6]), ([7], [7]), ([8], [8]), ([8], [8]), ([8], [8]), ([], []), ([], []), ([12, 9, 7, 0, 1, 2, 3, 4, 5, 6, 7, 8, 9, 12, 13], [9, 12]), ([13, 10, 14, 0, 1, 2, 3, 4, 5, 6, 7, 8, 9, 10, 12, 13, 14], [10, 13]), ([11, 15, 0, 1, 2, 3, 4, 5, 6, 7, 8, 9, 10, 11, 12, 13, 14, 15], [11])])
def laws_FnExactBegin.B11 : List Nat := [0, 1, 0, 0, 11, 0, 59, 127, 255, 511, 511, 511, 0, 0, 13311, 30719, 65535]
theorem laws_FnExactBegin.tab11 : rtab .any (opsOf Try.f7 11) = laws_FnExactBegin.T11 := by kernel_rfl
theorem laws_FnExactBegin.bits11 : waitsOk laws_FnExactBegin.T11.2 laws_FnExactBegin.B11 = true := by kernel_rfl
def laws_FnExactBegin.T38 : Bool × List (List Nat × List Nat) := (true, [([], []), ([0], [0]), ([], []), ([], []), ([3, 1], [3]), ([], []), ([5, 4], [5]), ([1, 2, 4, 6, 6], [1, 2, 4, 6]), ([7], [7]), ([8], [8]), ([8], [8]), ([8], [8]), ([], []), ([], []), ([12, 9, 7, 0, 1, 2, 3, 4, 5, 6, 7, 8, 9, 12, 13], [9, 12]), ([13, 10, 14, 0, 1, 2, 3, 4, 5, 6, 7, 8, 9, 10, 12, 13, 14], [10, 13]), ([11, 15, 0, 1, 2, 3, 4, 5, 6, 7, 8, 9, 10, 11, 12, 13, 14, 15], [11])])
def laws_FnExactBegin.B38 : List Nat := [0, 1, 0, 0, 11, 0, 59, 127, 255, 511, 511, 511, 0, 0, 13311, 30719, 65535]
theorem laws_FnExactBegin.tab38 : rtab .any (opsOf Try.f7 38) = laws_FnExactBegin.T38 := by kernel_rfl
theorem laws_FnExactBegin.bits38 : waitsOk laws_FnExactBegin.T38.2 laws_FnExactBegin.B38 = true := by kernel_rfl
theorem laws_FnExactBegin.j0_dead : ∀ k y0 y1 y2 y3 y4 y6 y7 y8 y9 y10 y11 y12 y13 y14 y15 y16 y17 y18 y19 y20 y21 y22 y23 y24 y25 r, ¬ laws_FnExactBegin.j0 k y0 y1 y2 y3 y4 true y6 y7 y8 y9 y10 y11 y12 y13 y14 y15 y16 y17 y18 y19 y20 y21 y22 y23 y24 y25 = some r := by intro k; cases k <;> simp [laws_FnExactBegin.j0]
theorem laws_FnExactBegin.j1_dead : ∀ k y0 y1 y2 y4 y5 y6 y7 y8 y9 y10 y11 y12 y13 y14 y15 r, ¬ laws_FnExactBegin.j1 k y0 y1 y2 true y4 y5 y6 y7 y8 y9 y10 y11 y12 y13 y14 y15 = some r := by intro k; cases k <;> simp [laws_FnExactBegin.j1]
theorem laws_FnExactBegin.j2_dead : ∀ k y0 y2 y3 r, ¬ laws_FnExactBegin.j2 k y0 true y2 y3 = some r := by intro k; cases k <;> simp [laws_FnExactBegin.j2]
theorem mm_mile {W w1 : World} (hb : Below W.heap.size W w1) : ∃ n, n = W.heap.size := ⟨_, rfl⟩
theorem mm_lt {base n N : Nat} {W : World} {ok : Nat → Prop} {v : Value} {xs : List S119} (hn : n = N) (h : Kd.S k119 119 W base (fun k => ok k ∧ k < N) v xs) : Kd.S k119 119 W base (fun k => ok k ∧ k < n) v xs := by subst hn; exact h
theorem mm_foot {base : Nat} {W : World} {ok : Nat → Prop} {v : Value} {xs : List S119} (h : Kd.S k119 119 W base ok v xs) : ∃ P : Nat → Prop, Kd.S k119 119 W base P v xs ∧ (∀ k, P k → ∃ q, q ∈ 119 :: k119.E ∧ ∃ cells, W.heap[k]? = some (.cells cells q (0, 0))) ∧ (∀ k, P k → ok k) := ⟨_, mm_typed h, fun _ hk => hk.2, fun _ hk => hk.1⟩
theorem mm_off {W : World} {P : Nat → Prop} {v : Value} {t : Nat} (h : ∀ k, v.ownBlock = some k → ∃ cells, W.heap[k]? = some (.cells cells t (0, 0))) (h1 : ∀ k, P k → ∃ q, q ∈ 119 :: k119.E ∧ ∃ cells, W.heap[k]? = some (.cells cells q (0, 0))) (hq : ∀ q2, q2 ∈ 119 :: k119.E → t ≠ q2) : ∀ k, P k → ¬ some k = v.ownBlock := by
 intro k hP hk
 obtain ⟨c, hc⟩ := h k hk.symm
 obtain ⟨q2, hq2, c2, hc2⟩ := h1 k hP
 rw [hc] at hc2
 injection hc2 with hc2
 injection hc2 with _ hc2
 exact hq q2 hq2 hc2
theorem mm_len {base n c : Nat} {A : Option Addr} {W : World} {ok : Nat → Prop} {xs : List S119} (h : Kd.S k119 119 W base ok (.slice A n c) xs) (hn : n = xs.length) : Kd.S k119 119 W base ok (.slice A xs.length c) xs := by subst hn; exact h
theorem mm_len2 {n m c g t : Nat} {A : Option Addr} {W : World} {u : Value} (h : W.heap[g]? = some (.cells #[u, .slice A n c] t (0, 0))) (hn : n = m) : W.heap[g]? = some (.cells #[u, .slice A m c] t (0, 0)) := by subst hn; exact h
theorem mm_Rb {α : Type} {d : Kd α} {e base : Nat} {W W2 : World} {ok P0 P1 : Nat → Prop} {v : Value} {xs : List α} (h : d.R e W base ok v xs) (hk : Kept W W2 (fun k => P0 k ∨ P1 k)) (h0 : ∀ k, ok k → ¬ P0 k) (h1 : ∀ k, P1 k → ∃ q, q ∈ 119 :: k119.E ∧ ∃ cells, W.heap[k]? = some (.cells cells q (0, 0))) (hq : ∀ q, q ∈ e :: d.E → ∀ q2, q2 ∈ 119 :: k119.E → q ≠ q2) : d.R e W2 base (fun k => ok k ∧ ¬ P0 k) v xs := Kd.R_mono (mm_R h hk h0 h1 hq) (fun k hk => ⟨hk, h0 k hk⟩)
theorem mm_Rc {α : Type} {d : Kd α} {e base : Nat} {W W2 : World} {ok P0 P1 : Nat → Prop} {v : Value} {xs : List α} (hE : d.E = []) (h : d.R e W base ok v xs) (hk : Kept W W2 (fun k => P0 k ∨ P1 k)) (h0 : ∀ k, ok k → ¬ P0 k) (h1 : ∀ k, v.ownBlock = some k → ¬ P1 k) : d.R e W2 base (fun k => ok k ∧ ¬ P0 k) v xs := Kd.R_mono (Kd.R_kept (Kd.R_tight2 hE h) hk (fun k hk hs => Or.elim hs (h0 k hk.2) (h1 k hk.1.symm))) (fun k hk => ⟨hk.2, h0 k hk.2⟩)
theorem mm_Sb {base : Nat} {W W2 : World} {ok P0 P1 : Nat → Prop} {v : Value} {xs : List S119} (h : Kd.S k119 119 W base ok v xs) (hk : Kept W W2 (fun k => P0 k ∨ P1 k)) (h0 : ∀ k, ok k → ¬ P0 k) (h1 : ∀ k, ok k → ¬ P1 k) : Kd.S k119 119 W2 base (fun k => ok k ∧ ¬ P0 k) v xs := Kd.S_mono (Kd.S_kept h hk (fun k hk hs => Or.elim hs (h0 k hk) (h1 k hk))) (fun k hk => ⟨hk, h0 k hk⟩)
theorem mm_Sk {base : Nat} {W : World} {P ok : Nat → Prop} {v : Value} {xs : List S119} (h : Kd.S k119 119 W base P v xs) (hI : ∀ k, P k → ok k) : Kd.S k119 119 W base (fun k => ok k ∧ True) v xs := Kd.S_mono h (fun k hk => ⟨hI k hk, trivial⟩)
theorem mm_held4 {W W' : World} {a b c d : Addr} {x y z u : Value} (h : W.cell? a = some x ∧ W.cell? b = some y ∧ W.cell? c = some z ∧ W.cell? d = some u) (hb : Below W.heap.size W W') : W'.cell? a = some x ∧ W'.cell? b = some y ∧ W'.cell? c = some z ∧ W'.cell? d = some u :=
 ⟨(hb.cell (World.block_lt_of_cell? W _ h.1)).trans h.1, (hb.cell (World.block_lt_of_cell? W _ h.2.1)).trans h.2.1, (hb.cell (World.block_lt_of_cell? W _ h.2.2.1)).trans h.2.2.1, (hb.cell (World.block_lt_of_cell? W _ h.2.2.2)).trans h.2.2.2⟩
theorem mm_nb {W : World} {g g' t t' : Nat} {c c' : Array Value} (h : W.heap[g]? = some (.cells c t (0, 0))) (h' : W.heap[g']? = some (.cells c' t' (0, 0))) (ht : t ≠ t') : g ≠ g' := by
 intro e
 subst e
 rw [h] at h'
 injection h' with h'
 injection h' with _ h'
 exact ht h'
set_option maxHeartbeats 8000000 in
set_option maxRecDepth 100000 in
theorem laws_FnExactBegin.calls (k : Nat) (A0_0 : Option Addr) (c0_0 : Nat) (l0_0 : List (S140)) (A0_1 : Option Addr) (c0_1 : Nat) (l0_1 : List (S134)) (a1 : Int) (A2 : Option Addr) (c2 : Nat) (l2 : List (S124)) (a3_0 : Int) (A3_1 : Option Addr) (c3_1 : Nat) (l3_1 : List Int) (r : Bool) (w : World) (hr0_0 : Kd.C k140 w A0_0 l0_0.length l0_0) (hc0_0 : l0_0.length ≤ c0_0) (hr0_1 : Kd.C k134 w A0_1 l0_1.length l0_1) (hc0_1 : l0_1.length ≤ c0_1) (hr2 : Kd.C k124 w A2 l2.length l2) (hc2 : l2.length ≤ c2) (hr3_1 : Kd.C (Kd.int .i64) w A3_1 l3_1.length l3_1) (hc3_1 : l3_1.length ≤ c3_1) (h : laws_FnExactBegin.f k l0_0 l0_1 a1 l2 a3_0 l3_1 = some r) :
    Calls Try.prog 7 #[.agg #[.slice A0_0 l0_0.length c0_0, .slice A0_1 l0_1.length c0_1], .int .i64 a1, .slice A2 l2.length c2, .agg #[.int .i64 a3_0, .slice A3_1 l3_1.length c3_1]] w fun e w' => e = .returned (.bool r) ∧ Below w.heap.size w w' := by
 have hu25 := Try.underlying25
 have hu41 := Try.underlying41
 have hu31 := Try.underlying31
 have hu74 := Try.underlying74
 have hu49 := Try.underlying49
 have HR0_0 := A_ hr0_0
 have HC0_0 := A_ hc0_0
 clear hr0_0 hc0_0
 have HR0_1 := A_ hr0_1
 have HC0_1 := A_ hc0_1
 clear hr0_1 hc0_1
 have HR2 := A_ hr2
 have HC2 := A_ hc2
 clear hr2 hc2
 have HR3_1 := A_ hr3_1
 have HC3_1 := A_ hc3_1
 clear hr3_1 hc3_1
 have HB := A_ (Below.refl w.heap.size w)
 have H : ((laws_szMem.f k l0_0 l0_1 1048576).bind fun t467 => (if t467 < 0 then (some true) else ((laws_szEntryS.f l2 t467).bind fun t468 => (if t468 < 0 then (some true) else ((laws_szRes.f a3_0 l3_1 t468).bind fun t469 => (if t469 < 0 then (some true) else ((laws_toMem.f k l0_0 l0_1).bind fun bt470 => ((laws_toEntryS.f k l2).bind fun t476 => ((laws_toRes.f k a3_0 l3_1).bind fun bt479 => ((spec_Begin.f k bt470.1 bt470.2 a1 t476 bt479.1 bt479.2).bind fun bt483 => ((laws_toMem.f k l0_0 l0_1).bind fun bt496 => ((laws_toEntryS.f k l2).bind fun t503 => ((laws_toRes.f k a3_0 l3_1).bind fun bt506 => ((impl_Begin.f k bt496.1 bt496.2 a1 t503 bt506.1 bt506.2).bind fun bt511 => ((laws_eqMem.f k bt511.1 bt511.2.1 bt483.1 bt483.2.1).bind fun t524 => (if t524 = true then ((laws_eqHelp.f bt511.2.2.1 bt511.2.2.2.1 bt511.2.2.2.2.1 bt511.2.2.2.2.2.1 bt483.2.2.1 bt483.2.2.2.1 bt483.2.2.2.2.1 bt483.2.2.2.2.2.1).bind fun t525 => (if t525 = true then (laws_FnExactBegin.j0 k a1 l2 bt483.2.2.2.2.2.2 t503 bt511.2.2.2.2.2.2 (bt511.2.2.2.2.2.2 != bt483.2.2.2.2.2.2) l0_0 l0_1 a3_0 l3_1 bt483.1 bt483.2.1 bt483.2.2.1 bt483.2.2.2.1 bt483.2.2.2.2.1 bt483.2.2.2.2.2.1 bt496.1 bt496.2 bt506.1 bt506.2 bt511.1 bt511.2.1 bt511.2.2.1 bt511.2.2.2.1 bt511.2.2.2.2.1 bt511.2.2.2.2.2.1) else (laws_FnExactBegin.j0 k a1 l2 bt483.2.2.2.2.2.2 t503 bt511.2.2.2.2.2.2 true l0_0 l0_1 a3_0 l3_1 bt483.1 bt483.2.1 bt483.2.2.1 bt483.2.2.2.1 bt483.2.2.2.2.1 bt483.2.2.2.2.2.1 bt496.1 bt496.2 bt506.1 bt506.2 bt511.1 bt511.2.1 bt511.2.2.1 bt511.2.2.2.1 bt511.2.2.2.2.1 bt511.2.2.2.2.2.1))) else (laws_FnExactBegin.j0 k a1 l2 bt483.2.2.2.2.2.2 t503 bt511.2.2.2.2.2.2 true l0_0 l0_1 a3_0 l3_1 bt483.1 bt483.2.1 bt483.2.2.1 bt483.2.2.2.1 bt483.2.2.2.2.1 bt483.2.2.2.2.2.1 bt496.1 bt496.2 bt506.1 bt506.2 bt511.1 bt511.2.1 bt511.2.2.1 bt511.2.2.2.1 bt511.2.2.2.2.1 bt511.2.2.2.2.2.1))))))))))))))))) = some r := h
 clear h
 replace H := bs_ H
 obtain ⟨t467, A5, H⟩ := H
 replace H := ic_ H
 rcases H with ⟨c6b0, H⟩ | ⟨c6b0, H⟩
 ·
  obtain rfl := Option.some.inj H
  go_enter Try.func7, Try.ntmps7
  go_wp2_with (first | ((with_reducible refine gate_dst (N := 4) rfl ?_); refine bx_ HB rfl (N := 4) rfl (cs := #[.slice A0_0 l0_0.length c0_0, .slice A0_1 l0_1.length c0_1]) (t := 25) hr_ ?_; clear HB; intro gb465 w7 hg hb BK465 GW465 HB; clear hb hg) | ((with_reducible refine gate_dst (N := 7) rfl ?_); refine bx_ HB rfl (N := 7) rfl (cs := #[.int .i64 a3_0, .slice A3_1 l3_1.length c3_1]) (t := 41) hr_ ?_; clear HB; intro gb466 w8 hg hb BK466 GW466 HB; have NB465_466 := ng_ BK465 hg; have NB466_465 := ns_ (ng_ BK465 hg); replace BK465 := bb_ BK465 hb; clear hb hg; have hnb9 := NB465_466.out; have hnc9 := NB466_465.out; obtain ⟨hcz10_0, hcz10_1, hfz10_0, hfz10_1⟩ := cz2_ BK465) | ((with_reducible refine gate_callee (f := 9) rfl ?_); refine goesL_ (some 27) rfl rfl Try.func9 (by kernel_rfl) rfl #[.agg #[.slice A0_0 l0_0.length c0_0, .slice A0_1 l0_1.length c0_1], .int .i64 1048576] rfl al_ ?_; (with_reducible refine (laws_szMem.calls k _ _ l0_0 _ _ l0_1 1048576 t467 _ ?side1 ?side2 ?side3 ?side4 A5.out).mono ?_); (case side1 => exact cb_ (Kd.C_below HR0_0.out HB.out)); (case side2 => exact HC0_0.out); (case side3 => exact cb_ (Kd.C_below HR0_1.out HB.out)); (case side4 => exact HC0_1.out); rintro e w11 ⟨rfl, hb⟩; refine ⟨_, rfl, ?_⟩; replace BK465 := bb_ BK465 hb; replace BK466 := bb_ BK466 hb; replace HB := hs_ HB hb; (try clear hb); (try clear hb2); (try clear hk); (try clear hi)))
  go_ret
  exact ⟨rs_, hb_ HB⟩
 replace H := bs_ H
 obtain ⟨t468, A12, H⟩ := H
 replace H := ic_ H
 rcases H with ⟨c13b0, H⟩ | ⟨c13b0, H⟩
 ·
  obtain rfl := Option.some.inj H
  go_enter Try.func7, Try.ntmps7
  go_wp2_with (first | ((with_reducible refine gate_dst (N := 4) rfl ?_); refine bx_ HB rfl (N := 4) rfl (cs := #[.slice A0_0 l0_0.length c0_0, .slice A0_1 l0_1.length c0_1]) (t := 25) hr_ ?_; clear HB; intro gb465 w14 hg hb BK465 GW465 HB; clear hb hg) | ((with_reducible refine gate_dst (N := 7) rfl ?_); refine bx_ HB rfl (N := 7) rfl (cs := #[.int .i64 a3_0, .slice A3_1 l3_1.length c3_1]) (t := 41) hr_ ?_; clear HB; intro gb466 w15 hg hb BK466 GW466 HB; have NB465_466 := ng_ BK465 hg; have NB466_465 := ns_ (ng_ BK465 hg); replace BK465 := bb_ BK465 hb; clear hb hg; have hnb16 := NB465_466.out; have hnc16 := NB466_465.out; obtain ⟨hcz17_0, hcz17_1, hfz17_0, hfz17_1⟩ := cz2_ BK465) | ((with_reducible refine gate_callee (f := 9) rfl ?_); refine goesL_ (some 27) rfl rfl Try.func9 (by kernel_rfl) rfl #[.agg #[.slice A0_0 l0_0.length c0_0, .slice A0_1 l0_1.length c0_1], .int .i64 1048576] rfl al_ ?_; (with_reducible refine (laws_szMem.calls k _ _ l0_0 _ _ l0_1 1048576 t467 _ ?side1 ?side2 ?side3 ?side4 A5.out).mono ?_); (case side1 => exact cb_ (Kd.C_below HR0_0.out HB.out)); (case side2 => exact HC0_0.out); (case side3 => exact cb_ (Kd.C_below HR0_1.out HB.out)); (case side4 => exact HC0_1.out); rintro e w18 ⟨rfl, hb⟩; refine ⟨_, rfl, ?_⟩; replace BK465 := bb_ BK465 hb; replace BK466 := bb_ BK466 hb; replace HB := hs_ HB hb; (try clear hb); (try clear hb2); (try clear hk); (try clear hi)) | ((with_reducible refine gate_callee (f := 42) rfl ?_); refine goesL_ (some 32) rfl rfl Try.func42 (by kernel_rfl) rfl #[.slice A2 l2.length c2, .int .i64 t467] rfl al_ ?_; (with_reducible refine (laws_szEntryS.calls _ _ l2 t467 t468 _ ?side1 ?side2 A12.out).mono ?_); (case side1 => exact cb_ (Kd.C_below HR2.out HB.out)); (case side2 => exact HC2.out); rintro e w' ⟨rfl, ⟨nd, rfl⟩⟩; refine ⟨_, rfl, ?_⟩))
  go_ret
  exact ⟨rs_, hb_ HB⟩
 replace H := bs_ H
 obtain ⟨t469, A19, H⟩ := H
 replace H := ic_ H
 rcases H with ⟨c20b0, H⟩ | ⟨c20b0, H⟩
 ·
  obtain rfl := Option.some.inj H
  go_enter Try.func7, Try.ntmps7
  go_wp2_with (first | ((with_reducible refine gate_dst (N := 4) rfl ?_); refine bx_ HB rfl (N := 4) rfl (cs := #[.slice A0_0 l0_0.length c0_0, .slice A0_1 l0_1.length c0_1]) (t := 25) hr_ ?_; clear HB; intro gb465 w21 hg hb BK465 GW465 HB; clear hb hg) | ((with_reducible refine gate_dst (N := 7) rfl ?_); refine bx_ HB rfl (N := 7) rfl (cs := #[.int .i64 a3_0, .slice A3_1 l3_1.length c3_1]) (t := 41) hr_ ?_; clear HB; intro gb466 w22 hg hb BK466 GW466 HB; have NB465_466 := ng_ BK465 hg; have NB466_465 := ns_ (ng_ BK465 hg); replace BK465 := bb_ BK465 hb; clear hb hg; have hnb23 := NB465_466.out; have hnc23 := NB466_465.out; obtain ⟨hcz24_0, hcz24_1, hfz24_0, hfz24_1⟩ := cz2_ BK465) | ((with_reducible refine gate_callee (f := 9) rfl ?_); refine goesL_ (some 27) rfl rfl Try.func9 (by kernel_rfl) rfl #[.agg #[.slice A0_0 l0_0.length c0_0, .slice A0_1 l0_1.length c0_1], .int .i64 1048576] rfl al_ ?_; (with_reducible refine (laws_szMem.calls k _ _ l0_0 _ _ l0_1 1048576 t467 _ ?side1 ?side2 ?side3 ?side4 A5.out).mono ?_); (case side1 => exact cb_ (Kd.C_below HR0_0.out HB.out)); (case side2 => exact HC0_0.out); (case side3 => exact cb_ (Kd.C_below HR0_1.out HB.out)); (case side4 => exact HC0_1.out); rintro e w25 ⟨rfl, hb⟩; refine ⟨_, rfl, ?_⟩; replace BK465 := bb_ BK465 hb; replace BK466 := bb_ BK466 hb; replace HB := hs_ HB hb; (try clear hb); (try clear hb2); (try clear hk); (try clear hi)) | ((with_reducible refine gate_callee (f := 42) rfl ?_); refine goesL_ (some 32) rfl rfl Try.func42 (by kernel_rfl) rfl #[.slice A2 l2.length c2, .int .i64 t467] rfl al_ ?_; (with_reducible refine (laws_szEntryS.calls _ _ l2 t467 t468 _ ?side1 ?side2 A12.out).mono ?_); (case side1 => exact cb_ (Kd.C_below HR2.out HB.out)); (case side2 => exact HC2.out); rintro e w' ⟨rfl, ⟨nd, rfl⟩⟩; refine ⟨_, rfl, ?_⟩; obtain ⟨hcz26_0, hcz26_1, hfz26_0, hfz26_1⟩ := cz2_ BK466) | ((with_reducible refine gate_callee (f := 15) rfl ?_); refine goesL_ (some 37) rfl rfl Try.func15 (by kernel_rfl) rfl #[.agg #[.int .i64 a3_0, .slice A3_1 l3_1.length c3_1], .int .i64 t468] rfl al_ ?_; (with_reducible refine (laws_szRes.calls a3_0 _ _ l3_1 t468 t469 _ ?side1 ?side2 A19.out).mono ?_); (case side1 => exact cb_ (Kd.C_below HR3_1.out (hb_ HB))); (case side2 => exact HC3_1.out); rintro e w27 ⟨rfl, hb⟩; refine ⟨_, rfl, ?_⟩; replace BK465 := bb_ BK465 hb; replace BK466 := bb_ BK466 hb; replace HB := hs_ HB hb; (try clear hb); (try clear hb2); (try clear hk); (try clear hi)))
  go_ret
  exact ⟨rs_, hb_ HB⟩
 replace H := bs_ H
 obtain ⟨⟨t470, t473⟩, A28, H⟩ := H
 dsimp only at H
 replace H := bs_ H
 obtain ⟨t476, A29, H⟩ := H
 replace H := bs_ H
 obtain ⟨⟨t479, t480⟩, A30, H⟩ := H
 dsimp only at H
 replace H := bs_ H
 obtain ⟨⟨t483, t486, t489, t490, t491, t492, t493⟩, A31, H⟩ := H
 dsimp only at H
 replace H := bs_ H
 obtain ⟨⟨t496, t499⟩, A32, H⟩ := H
 dsimp only at H
 replace H := bs_ H
 obtain ⟨t503, A33, H⟩ := H
 replace H := bs_ H
 obtain ⟨⟨t506, t507⟩, A34, H⟩ := H
 dsimp only at H
 replace H := bs_ H
 obtain ⟨⟨t511, t514, t517, t518, t519, t520, t521⟩, A35, H⟩ := H
 dsimp only at H
 have HC36 := A_ H
 clear H
 go_enter Try.func7, Try.ntmps7
 try go_wp2_with (first | ((with_reducible refine gate_dst (N := 4) rfl ?_); refine bx_ HB rfl (N := 4) rfl (cs := #[.slice A0_0 l0_0.length c0_0, .slice A0_1 l0_1.length c0_1]) (t := 25) hr_ ?_; clear HB; intro gb465 w37 hg hb BK465 GW465 HB; clear hb hg) | ((with_reducible refine gate_dst (N := 7) rfl ?_); refine bx_ HB rfl (N := 7) rfl (cs := #[.int .i64 a3_0, .slice A3_1 l3_1.length c3_1]) (t := 41) hr_ ?_; clear HB; intro gb466 w38 hg hb BK466 GW466 HB; have NB465_466 := ng_ BK465 hg; have NB466_465 := ns_ (ng_ BK465 hg); replace BK465 := bb_ BK465 hb; clear hb hg; have hnb39 := NB465_466.out; have hnc39 := NB466_465.out; obtain ⟨hcz40_0, hcz40_1, hfz40_0, hfz40_1⟩ := cz2_ BK465) | ((with_reducible refine gate_callee (f := 9) rfl ?_); refine goesL_ (some 27) rfl rfl Try.func9 (by kernel_rfl) rfl #[.agg #[.slice A0_0 l0_0.length c0_0, .slice A0_1 l0_1.length c0_1], .int .i64 1048576] rfl al_ ?_; (with_reducible refine (laws_szMem.calls k _ _ l0_0 _ _ l0_1 1048576 t467 _ ?side1 ?side2 ?side3 ?side4 A5.out).mono ?_); (case side1 => exact cb_ (Kd.C_below HR0_0.out HB.out)); (case side2 => exact HC0_0.out); (case side3 => exact cb_ (Kd.C_below HR0_1.out HB.out)); (case side4 => exact HC0_1.out); rintro e w41 ⟨rfl, hb⟩; refine ⟨_, rfl, ?_⟩; replace BK465 := bb_ BK465 hb; replace BK466 := bb_ BK466 hb; replace HB := hs_ HB hb; (try clear hb); (try clear hb2); (try clear hk); (try clear hi)) | ((with_reducible refine gate_callee (f := 42) rfl ?_); refine goesL_ (some 32) rfl rfl Try.func42 (by kernel_rfl) rfl #[.slice A2 l2.length c2, .int .i64 t467] rfl al_ ?_; (with_reducible refine (laws_szEntryS.calls _ _ l2 t467 t468 _ ?side1 ?side2 A12.out).mono ?_); (case side1 => exact cb_ (Kd.C_below HR2.out HB.out)); (case side2 => exact HC2.out); rintro e w' ⟨rfl, ⟨nd, rfl⟩⟩; refine ⟨_, rfl, ?_⟩; (try (rw [drewN_self w41]; generalize hq_ : World.drewN w41 _ = w41; have n0_ : Aside0 (w41.heap[gb465]? = some (.cells #[.slice A0_0 l0_0.length c0_0, .slice A0_1 l0_1.length c0_1] 25 (0, 0))) := ⟨by rw [← hq_]; exact (bk_ BK465)⟩; have n1_ : Aside0 (w41.heap[gb466]? = some (.cells #[.int .i64 a3_0, .slice A3_1 l3_1.length c3_1] 41 (0, 0))) := ⟨by rw [← hq_]; exact (bk_ BK466)⟩; have n2_ : Aside0 (Below w.heap.size w w41) := ⟨by rw [← hq_]; exact (hb_ HB)⟩; clear BK465 BK466 HB hq_; have BK465 := n0_; have BK466 := n1_; have HB := n2_; clear n0_ n1_ n2_)); obtain ⟨hcz42_0, hcz42_1, hfz42_0, hfz42_1⟩ := cz2_ BK466) | ((with_reducible refine gate_callee (f := 15) rfl ?_); refine goesL_ (some 37) rfl rfl Try.func15 (by kernel_rfl) rfl #[.agg #[.int .i64 a3_0, .slice A3_1 l3_1.length c3_1], .int .i64 t468] rfl al_ ?_; (with_reducible refine (laws_szRes.calls a3_0 _ _ l3_1 t468 t469 _ ?side1 ?side2 A19.out).mono ?_); (case side1 => exact cb_ (Kd.C_below HR3_1.out HB.out)); (case side2 => exact HC3_1.out); rintro e w43 ⟨rfl, hb⟩; refine ⟨_, rfl, ?_⟩; replace BK465 := bb_ BK465 hb; replace BK466 := bb_ BK466 hb; replace HB := hs_ HB hb; (try clear hb); (try clear hb2); (try clear hk); (try clear hi)))
 replace BK465 := A_ (blk_drew BK465.out)
 replace BK466 := A_ (blk_drew BK466.out)
 replace HB := A_ (below_drew1 HB.out)
 refine start_ (n := 17) (S := fun w' => w'.cell? ⟨gb465, 0, none⟩ = some (.slice A0_0 l0_0.length c0_0) ∧ w'.cell? ⟨gb465, 1, none⟩ = some (.slice A0_1 l0_1.length c0_1) ∧ w'.cell? ⟨gb466, 0, none⟩ = some (.int .i64 a3_0) ∧ w'.cell? ⟨gb466, 1, none⟩ = some (.slice A3_1 l3_1.length c3_1)) (ds := []) (bt_ 0 17) (by kernel_rfl) rfl rfl ⟨(blk_cell BK465.out 0).trans rfl, (blk_cell BK465.out 1).trans rfl, (blk_cell BK466.out 0).trans rfl, (blk_cell BK466.out 1).trans rfl⟩ (fun hHeld => ?_); refine with_tabW laws_FnExactBegin.tab11 laws_FnExactBegin.bits11 (fun HT_ HW_ => ?_)
 generalize w43.drew = w44 at BK465 BK466 HB hHeld ⊢
 refine pu_ 2 43 (bt_ 4 17) ?_
 refine pu_ 3 44 (bt_ 12 17) ?_
 refine tk4_ 0 41 (bt_ 13 17) hHeld ?_
 refine tk4_ 5 46 (bt_ 45 17) hHeld ?_
 refine join_ (σ := Value × Value × Value × Value × Value × Value × Nat × Nat) 3 (bt_ 16383 17) (fun s_ => [(42, .agg #[s_.1, s_.2.1]), (45, s_.2.2.1), (47, .agg #[.int .i64 t479, s_.2.2.2.1]), (48, .tuple #[.agg #[s_.2.2.2.2.1, s_.2.2.2.2.2.1], .agg #[.int .i64 t489, .int .i64 t490, .int .i64 t491, .int .i64 t492], .bool t493]), (10, .pointer (some ⟨s_.2.2.2.2.2.2.1, 0, none⟩)), (11, .pointer (some ⟨s_.2.2.2.2.2.2.2, 0, none⟩)), (40, .tuple #[.agg #[s_.2.2.2.2.1, s_.2.2.2.2.2.1], .agg #[.int .i64 t489, .int .i64 t490, .int .i64 t491, .int .i64 t492], .bool t493]), (49, .agg #[s_.2.2.2.2.1, s_.2.2.2.2.2.1]), (50, .agg #[.int .i64 t489, .int .i64 t490, .int .i64 t491, .int .i64 t492]), (51, .bool t493)]) (fun s_ w' => (w'.cell? ⟨gb465, 0, none⟩ = some (.slice A0_0 l0_0.length c0_0) ∧ w'.cell? ⟨gb465, 1, none⟩ = some (.slice A0_1 l0_1.length c0_1) ∧ w'.cell? ⟨gb466, 0, none⟩ = some (.int .i64 a3_0) ∧ w'.cell? ⟨gb466, 1, none⟩ = some (.slice A3_1 l3_1.length c3_1)) ∧ (Kd.R k95 95 w' w44.heap.size (fun k_ => some k_ ≠ (s_.2.2.2.2.1 : Value).ownBlock) s_.1 t470) ∧ (Kd.S k119 119 w' w44.heap.size (fun k_ => some k_ ≠ (s_.2.2.1 : Value).ownBlock ∧ some k_ ≠ (s_.2.2.2.1 : Value).ownBlock ∧ some k_ ≠ (s_.2.2.2.2.2.1 : Value).ownBlock) s_.2.1 t473) ∧ (Kd.R k122 122 w' w44.heap.size (fun _ => True) s_.2.2.1 t476) ∧ (Kd.R (Kd.int .i64) 3 w' w44.heap.size (fun _ => True) s_.2.2.2.1 t480) ∧ (Kd.R k95 95 w' w44.heap.size (fun k_ => some k_ ≠ (s_.1 : Value).ownBlock) s_.2.2.2.2.1 t483) ∧ (Kd.S k119 119 w' w44.heap.size (fun k_ => some k_ ≠ (s_.2.1 : Value).ownBlock ∧ some k_ ≠ (s_.2.2.1 : Value).ownBlock ∧ some k_ ≠ (s_.2.2.2.1 : Value).ownBlock) s_.2.2.2.2.2.1 t486) ∧ (w44.heap.size ≤ s_.2.2.2.2.2.2.1 ∧ w'.heap[s_.2.2.2.2.2.2.1]? = some (.cells #[.slice none 0 0, .slice none 0 0] 31 (0, 0))) ∧ (w44.heap.size ≤ s_.2.2.2.2.2.2.2 ∧ w'.heap[s_.2.2.2.2.2.2.2]? = some (.cells #[.int .i64 0, .int .i64 0, .int .i64 0, .int .i64 0] 74 (0, 0))) ∧ (Below w44.heap.size w44 w')) ?_ ?_
 rotate_left
 ·
  intro hJ411
  refine join_ (σ := Value × Value × Value × Value × Value × Value × Nat) 4 (bt_ 8191 17) (fun s_ => [(42, .agg #[s_.1, s_.2.1]), (45, s_.2.2.1), (47, .agg #[.int .i64 t479, s_.2.2.2.1]), (48, .tuple #[.agg #[s_.2.2.2.2.1, s_.2.2.2.2.2.1], .agg #[.int .i64 t489, .int .i64 t490, .int .i64 t491, .int .i64 t492], .bool t493]), (10, .pointer (some ⟨s_.2.2.2.2.2.2, 0, none⟩)), (40, .tuple #[.agg #[s_.2.2.2.2.1, s_.2.2.2.2.2.1], .agg #[.int .i64 t489, .int .i64 t490, .int .i64 t491, .int .i64 t492], .bool t493]), (49, .agg #[s_.2.2.2.2.1, s_.2.2.2.2.2.1]), (50, .agg #[.int .i64 t489, .int .i64 t490, .int .i64 t491, .int .i64 t492]), (51, .bool t493)]) (fun s_ w' => (w'.cell? ⟨gb465, 0, none⟩ = some (.slice A0_0 l0_0.length c0_0) ∧ w'.cell? ⟨gb465, 1, none⟩ = some (.slice A0_1 l0_1.length c0_1) ∧ w'.cell? ⟨gb466, 0, none⟩ = some (.int .i64 a3_0) ∧ w'.cell? ⟨gb466, 1, none⟩ = some (.slice A3_1 l3_1.length c3_1)) ∧ (Kd.R k95 95 w' w44.heap.size (fun k_ => some k_ ≠ (s_.2.2.2.2.1 : Value).ownBlock) s_.1 t470) ∧ (Kd.S k119 119 w' w44.heap.size (fun k_ => some k_ ≠ (s_.2.2.1 : Value).ownBlock ∧ some k_ ≠ (s_.2.2.2.1 : Value).ownBlock ∧ some k_ ≠ (s_.2.2.2.2.2.1 : Value).ownBlock) s_.2.1 t473) ∧ (Kd.R k122 122 w' w44.heap.size (fun _ => True) s_.2.2.1 t476) ∧ (Kd.R (Kd.int .i64) 3 w' w44.heap.size (fun _ => True) s_.2.2.2.1 t480) ∧ (Kd.R k95 95 w' w44.heap.size (fun k_ => some k_ ≠ (s_.1 : Value).ownBlock) s_.2.2.2.2.1 t483) ∧ (Kd.S k119 119 w' w44.heap.size (fun k_ => some k_ ≠ (s_.2.1 : Value).ownBlock ∧ some k_ ≠ (s_.2.2.1 : Value).ownBlock ∧ some k_ ≠ (s_.2.2.2.1 : Value).ownBlock) s_.2.2.2.2.2.1 t486) ∧ (w44.heap.size ≤ s_.2.2.2.2.2.2 ∧ w'.heap[s_.2.2.2.2.2.2]? = some (.cells #[.slice none 0 0, .slice none 0 0] 31 (0, 0))) ∧ (Below w44.heap.size w44 w')) ?_ ?_
  rotate_left
  ·
   intro hJ410
   refine join_ (σ := Value × Value × Value × Value × Value × Value × Nat) 4 (bt_ 12287 17) (fun s_ => [(42, .agg #[s_.1, s_.2.1]), (45, s_.2.2.1), (47, .agg #[.int .i64 t479, s_.2.2.2.1]), (48, .tuple #[.agg #[s_.2.2.2.2.1, s_.2.2.2.2.2.1], .agg #[.int .i64 t489, .int .i64 t490, .int .i64 t491, .int .i64 t492], .bool t493]), (11, .pointer (some ⟨s_.2.2.2.2.2.2, 0, none⟩)), (40, .tuple #[.agg #[s_.2.2.2.2.1, s_.2.2.2.2.2.1], .agg #[.int .i64 t489, .int .i64 t490, .int .i64 t491, .int .i64 t492], .bool t493]), (49, .agg #[s_.2.2.2.2.1, s_.2.2.2.2.2.1]), (50, .agg #[.int .i64 t489, .int .i64 t490, .int .i64 t491, .int .i64 t492]), (51, .bool t493)]) (fun s_ w' => (w'.cell? ⟨gb465, 0, none⟩ = some (.slice A0_0 l0_0.length c0_0) ∧ w'.cell? ⟨gb465, 1, none⟩ = some (.slice A0_1 l0_1.length c0_1) ∧ w'.cell? ⟨gb466, 0, none⟩ = some (.int .i64 a3_0) ∧ w'.cell? ⟨gb466, 1, none⟩ = some (.slice A3_1 l3_1.length c3_1)) ∧ (Kd.R k95 95 w' w44.heap.size (fun k_ => some k_ ≠ (s_.2.2.2.2.1 : Value).ownBlock) s_.1 t470) ∧ (Kd.S k119 119 w' w44.heap.size (fun k_ => some k_ ≠ (s_.2.2.1 : Value).ownBlock ∧ some k_ ≠ (s_.2.2.2.1 : Value).ownBlock ∧ some k_ ≠ (s_.2.2.2.2.2.1 : Value).ownBlock) s_.2.1 t473) ∧ (Kd.R k122 122 w' w44.heap.size (fun _ => True) s_.2.2.1 t476) ∧ (Kd.R (Kd.int .i64) 3 w' w44.heap.size (fun _ => True) s_.2.2.2.1 t480) ∧ (Kd.R k95 95 w' w44.heap.size (fun k_ => some k_ ≠ (s_.1 : Value).ownBlock) s_.2.2.2.2.1 t483) ∧ (Kd.S k119 119 w' w44.heap.size (fun k_ => some k_ ≠ (s_.2.1 : Value).ownBlock ∧ some k_ ≠ (s_.2.2.1 : Value).ownBlock ∧ some k_ ≠ (s_.2.2.2.1 : Value).ownBlock) s_.2.2.2.2.2.1 t486) ∧ (w44.heap.size ≤ s_.2.2.2.2.2.2 ∧ w'.heap[s_.2.2.2.2.2.2]? = some (.cells #[.int .i64 0, .int .i64 0, .int .i64 0, .int .i64 0] 74 (0, 0))) ∧ (Below w44.heap.size w44 w')) ?_ ?_
   rotate_left
   ·
    intro hJ401
    refine join_ (σ := Value × Value × Value × Value × Value × Value) 5 (bt_ 4095 17) (fun s_ => [(42, .agg #[s_.1, s_.2.1]), (45, s_.2.2.1), (47, .agg #[.int .i64 t479, s_.2.2.2.1]), (48, .tuple #[.agg #[s_.2.2.2.2.1, s_.2.2.2.2.2], .agg #[.int .i64 t489, .int .i64 t490, .int .i64 t491, .int .i64 t492], .bool t493]), (40, .tuple #[.agg #[s_.2.2.2.2.1, s_.2.2.2.2.2], .agg #[.int .i64 t489, .int .i64 t490, .int .i64 t491, .int .i64 t492], .bool t493]), (49, .agg #[s_.2.2.2.2.1, s_.2.2.2.2.2]), (50, .agg #[.int .i64 t489, .int .i64 t490, .int .i64 t491, .int .i64 t492]), (51, .bool t493)]) (fun s_ w' => (w'.cell? ⟨gb465, 0, none⟩ = some (.slice A0_0 l0_0.length c0_0) ∧ w'.cell? ⟨gb465, 1, none⟩ = some (.slice A0_1 l0_1.length c0_1) ∧ w'.cell? ⟨gb466, 0, none⟩ = some (.int .i64 a3_0) ∧ w'.cell? ⟨gb466, 1, none⟩ = some (.slice A3_1 l3_1.length c3_1)) ∧ (Kd.R k95 95 w' w44.heap.size (fun k_ => some k_ ≠ (s_.2.2.2.2.1 : Value).ownBlock) s_.1 t470) ∧ (Kd.S k119 119 w' w44.heap.size (fun k_ => some k_ ≠ (s_.2.2.1 : Value).ownBlock ∧ some k_ ≠ (s_.2.2.2.1 : Value).ownBlock ∧ some k_ ≠ (s_.2.2.2.2.2 : Value).ownBlock) s_.2.1 t473) ∧ (Kd.R k122 122 w' w44.heap.size (fun _ => True) s_.2.2.1 t476) ∧ (Kd.R (Kd.int .i64) 3 w' w44.heap.size (fun _ => True) s_.2.2.2.1 t480) ∧ (Kd.R k95 95 w' w44.heap.size (fun k_ => some k_ ≠ (s_.1 : Value).ownBlock) s_.2.2.2.2.1 t483) ∧ (Kd.S k119 119 w' w44.heap.size (fun k_ => some k_ ≠ (s_.2.1 : Value).ownBlock ∧ some k_ ≠ (s_.2.2.1 : Value).ownBlock ∧ some k_ ≠ (s_.2.2.2.1 : Value).ownBlock) s_.2.2.2.2.2 t486) ∧ (Below w44.heap.size w44 w')) ?_ ?_
    rotate_left
    ·
     intro hJ400
     refine join_ (σ := Value × Value × Value × Value × Nat × Nat) 8 (bt_ 12415 17) (fun s_ => [(42, .agg #[s_.1, s_.2.1]), (45, s_.2.2.1), (47, .agg #[.int .i64 t479, s_.2.2.2.1]), (10, .pointer (some ⟨s_.2.2.2.2.1, 0, none⟩)), (11, .pointer (some ⟨s_.2.2.2.2.2, 0, none⟩))]) (fun s_ w' => (w'.cell? ⟨gb465, 0, none⟩ = some (.slice A0_0 l0_0.length c0_0) ∧ w'.cell? ⟨gb465, 1, none⟩ = some (.slice A0_1 l0_1.length c0_1) ∧ w'.cell? ⟨gb466, 0, none⟩ = some (.int .i64 a3_0) ∧ w'.cell? ⟨gb466, 1, none⟩ = some (.slice A3_1 l3_1.length c3_1)) ∧ (Kd.R k95 95 w' w44.heap.size (fun _ => True) s_.1 t470) ∧ (Kd.S k119 119 w' w44.heap.size (fun k_ => some k_ ≠ (s_.2.2.1 : Value).ownBlock ∧ some k_ ≠ (s_.2.2.2.1 : Value).ownBlock) s_.2.1 t473) ∧ (Kd.R k122 122 w' w44.heap.size (fun _ => True) s_.2.2.1 t476) ∧ (Kd.R (Kd.int .i64) 3 w' w44.heap.size (fun _ => True) s_.2.2.2.1 t480) ∧ (w44.heap.size ≤ s_.2.2.2.2.1 ∧ w'.heap[s_.2.2.2.2.1]? = some (.cells #[.slice none 0 0, .slice none 0 0] 31 (0, 0))) ∧ (w44.heap.size ≤ s_.2.2.2.2.2 ∧ w'.heap[s_.2.2.2.2.2]? = some (.cells #[.int .i64 0, .int .i64 0, .int .i64 0, .int .i64 0] 74 (0, 0))) ∧ (Below w44.heap.size w44 w')) ?_ ?_
     rotate_left
     ·
      intro hJ311
      refine join_ (σ := Value × Value × Value × Value × Nat) 9 (bt_ 4223 17) (fun s_ => [(42, .agg #[s_.1, s_.2.1]), (45, s_.2.2.1), (47, .agg #[.int .i64 t479, s_.2.2.2.1]), (10, .pointer (some ⟨s_.2.2.2.2, 0, none⟩))]) (fun s_ w' => (w'.cell? ⟨gb465, 0, none⟩ = some (.slice A0_0 l0_0.length c0_0) ∧ w'.cell? ⟨gb465, 1, none⟩ = some (.slice A0_1 l0_1.length c0_1) ∧ w'.cell? ⟨gb466, 0, none⟩ = some (.int .i64 a3_0) ∧ w'.cell? ⟨gb466, 1, none⟩ = some (.slice A3_1 l3_1.length c3_1)) ∧ (Kd.R k95 95 w' w44.heap.size (fun _ => True) s_.1 t470) ∧ (Kd.S k119 119 w' w44.heap.size (fun k_ => some k_ ≠ (s_.2.2.1 : Value).ownBlock ∧ some k_ ≠ (s_.2.2.2.1 : Value).ownBlock) s_.2.1 t473) ∧ (Kd.R k122 122 w' w44.heap.size (fun _ => True) s_.2.2.1 t476) ∧ (Kd.R (Kd.int .i64) 3 w' w44.heap.size (fun _ => True) s_.2.2.2.1 t480) ∧ (w44.heap.size ≤ s_.2.2.2.2 ∧ w'.heap[s_.2.2.2.2]? = some (.cells #[.slice none 0 0, .slice none 0 0] 31 (0, 0))) ∧ (Below w44.heap.size w44 w')) ?_ ?_
      rotate_left
      ·
       intro hJ310
       refine join_ (σ := Value × Value × Value × Value × Nat) 9 (bt_ 8319 17) (fun s_ => [(42, .agg #[s_.1, s_.2.1]), (45, s_.2.2.1), (47, .agg #[.int .i64 t479, s_.2.2.2.1]), (11, .pointer (some ⟨s_.2.2.2.2, 0, none⟩))]) (fun s_ w' => (w'.cell? ⟨gb465, 0, none⟩ = some (.slice A0_0 l0_0.length c0_0) ∧ w'.cell? ⟨gb465, 1, none⟩ = some (.slice A0_1 l0_1.length c0_1) ∧ w'.cell? ⟨gb466, 0, none⟩ = some (.int .i64 a3_0) ∧ w'.cell? ⟨gb466, 1, none⟩ = some (.slice A3_1 l3_1.length c3_1)) ∧ (Kd.R k95 95 w' w44.heap.size (fun _ => True) s_.1 t470) ∧ (Kd.S k119 119 w' w44.heap.size (fun k_ => some k_ ≠ (s_.2.2.1 : Value).ownBlock ∧ some k_ ≠ (s_.2.2.2.1 : Value).ownBlock) s_.2.1 t473) ∧ (Kd.R k122 122 w' w44.heap.size (fun _ => True) s_.2.2.1 t476) ∧ (Kd.R (Kd.int .i64) 3 w' w44.heap.size (fun _ => True) s_.2.2.2.1 t480) ∧ (w44.heap.size ≤ s_.2.2.2.2 ∧ w'.heap[s_.2.2.2.2]? = some (.cells #[.int .i64 0, .int .i64 0, .int .i64 0, .int .i64 0] 74 (0, 0))) ∧ (Below w44.heap.size w44 w')) ?_ ?_
       rotate_left
       ·
        intro hJ301
        refine join_ (σ := Value × Value × Value × Value) 10 (bt_ 127 17) (fun s_ => [(42, .agg #[s_.1, s_.2.1]), (45, s_.2.2.1), (47, .agg #[.int .i64 t479, s_.2.2.2])]) (fun s_ w' => (w'.cell? ⟨gb465, 0, none⟩ = some (.slice A0_0 l0_0.length c0_0) ∧ w'.cell? ⟨gb465, 1, none⟩ = some (.slice A0_1 l0_1.length c0_1) ∧ w'.cell? ⟨gb466, 0, none⟩ = some (.int .i64 a3_0) ∧ w'.cell? ⟨gb466, 1, none⟩ = some (.slice A3_1 l3_1.length c3_1)) ∧ (Kd.R k95 95 w' w44.heap.size (fun _ => True) s_.1 t470) ∧ (Kd.S k119 119 w' w44.heap.size (fun k_ => some k_ ≠ (s_.2.2.1 : Value).ownBlock ∧ some k_ ≠ (s_.2.2.2 : Value).ownBlock) s_.2.1 t473) ∧ (Kd.R k122 122 w' w44.heap.size (fun _ => True) s_.2.2.1 t476) ∧ (Kd.R (Kd.int .i64) 3 w' w44.heap.size (fun _ => True) s_.2.2.2 t480) ∧ (Below w44.heap.size w44 w')) ?_ ?_
        rotate_left
        ·
         intro hJ300
         refine join_ (σ := Value × Value × Value × Nat × Nat) 9 (bt_ 12351 17) (fun s_ => [(42, .agg #[s_.1, s_.2.1]), (45, s_.2.2.1), (10, .pointer (some ⟨s_.2.2.2.1, 0, none⟩)), (11, .pointer (some ⟨s_.2.2.2.2, 0, none⟩))]) (fun s_ w' => (w'.cell? ⟨gb465, 0, none⟩ = some (.slice A0_0 l0_0.length c0_0) ∧ w'.cell? ⟨gb465, 1, none⟩ = some (.slice A0_1 l0_1.length c0_1) ∧ w'.cell? ⟨gb466, 0, none⟩ = some (.int .i64 a3_0) ∧ w'.cell? ⟨gb466, 1, none⟩ = some (.slice A3_1 l3_1.length c3_1)) ∧ (Kd.R k95 95 w' w44.heap.size (fun _ => True) s_.1 t470) ∧ (Kd.S k119 119 w' w44.heap.size (fun k_ => some k_ ≠ (s_.2.2.1 : Value).ownBlock) s_.2.1 t473) ∧ (Kd.R k122 122 w' w44.heap.size (fun _ => True) s_.2.2.1 t476) ∧ (w44.heap.size ≤ s_.2.2.2.1 ∧ w'.heap[s_.2.2.2.1]? = some (.cells #[.slice none 0 0, .slice none 0 0] 31 (0, 0))) ∧ (w44.heap.size ≤ s_.2.2.2.2 ∧ w'.heap[s_.2.2.2.2]? = some (.cells #[.int .i64 0, .int .i64 0, .int .i64 0, .int .i64 0] 74 (0, 0))) ∧ (Below w44.heap.size w44 w')) ?_ ?_
         rotate_left
         ·
          intro hJ211
          refine join_ (σ := Value × Value × Value × Nat) 10 (bt_ 4159 17) (fun s_ => [(42, .agg #[s_.1, s_.2.1]), (45, s_.2.2.1), (10, .pointer (some ⟨s_.2.2.2, 0, none⟩))]) (fun s_ w' => (w'.cell? ⟨gb465, 0, none⟩ = some (.slice A0_0 l0_0.length c0_0) ∧ w'.cell? ⟨gb465, 1, none⟩ = some (.slice A0_1 l0_1.length c0_1) ∧ w'.cell? ⟨gb466, 0, none⟩ = some (.int .i64 a3_0) ∧ w'.cell? ⟨gb466, 1, none⟩ = some (.slice A3_1 l3_1.length c3_1)) ∧ (Kd.R k95 95 w' w44.heap.size (fun _ => True) s_.1 t470) ∧ (Kd.S k119 119 w' w44.heap.size (fun k_ => some k_ ≠ (s_.2.2.1 : Value).ownBlock) s_.2.1 t473) ∧ (Kd.R k122 122 w' w44.heap.size (fun _ => True) s_.2.2.1 t476) ∧ (w44.heap.size ≤ s_.2.2.2 ∧ w'.heap[s_.2.2.2]? = some (.cells #[.slice none 0 0, .slice none 0 0] 31 (0, 0))) ∧ (Below w44.heap.size w44 w')) ?_ ?_
          rotate_left
          ·
           intro hJ210
           refine join_ (σ := Value × Value × Value × Nat) 10 (bt_ 8255 17) (fun s_ => [(42, .agg #[s_.1, s_.2.1]), (45, s_.2.2.1), (11, .pointer (some ⟨s_.2.2.2, 0, none⟩))]) (fun s_ w' => (w'.cell? ⟨gb465, 0, none⟩ = some (.slice A0_0 l0_0.length c0_0) ∧ w'.cell? ⟨gb465, 1, none⟩ = some (.slice A0_1 l0_1.length c0_1) ∧ w'.cell? ⟨gb466, 0, none⟩ = some (.int .i64 a3_0) ∧ w'.cell? ⟨gb466, 1, none⟩ = some (.slice A3_1 l3_1.length c3_1)) ∧ (Kd.R k95 95 w' w44.heap.size (fun _ => True) s_.1 t470) ∧ (Kd.S k119 119 w' w44.heap.size (fun k_ => some k_ ≠ (s_.2.2.1 : Value).ownBlock) s_.2.1 t473) ∧ (Kd.R k122 122 w' w44.heap.size (fun _ => True) s_.2.2.1 t476) ∧ (w44.heap.size ≤ s_.2.2.2 ∧ w'.heap[s_.2.2.2]? = some (.cells #[.int .i64 0, .int .i64 0, .int .i64 0, .int .i64 0] 74 (0, 0))) ∧ (Below w44.heap.size w44 w')) ?_ ?_
           rotate_left
           ·
            intro hJ201
            refine join_ (σ := Value × Value × Value) 11 (bt_ 63 17) (fun s_ => [(42, .agg #[s_.1, s_.2.1]), (45, s_.2.2)]) (fun s_ w' => (w'.cell? ⟨gb465, 0, none⟩ = some (.slice A0_0 l0_0.length c0_0) ∧ w'.cell? ⟨gb465, 1, none⟩ = some (.slice A0_1 l0_1.length c0_1) ∧ w'.cell? ⟨gb466, 0, none⟩ = some (.int .i64 a3_0) ∧ w'.cell? ⟨gb466, 1, none⟩ = some (.slice A3_1 l3_1.length c3_1)) ∧ (Kd.R k95 95 w' w44.heap.size (fun _ => True) s_.1 t470) ∧ (Kd.S k119 119 w' w44.heap.size (fun k_ => some k_ ≠ (s_.2.2 : Value).ownBlock) s_.2.1 t473) ∧ (Kd.R k122 122 w' w44.heap.size (fun _ => True) s_.2.2 t476) ∧ (Below w44.heap.size w44 w')) ?_ ?_
            rotate_left
            · exact z0_
            rintro ⟨v471, v474, v477⟩ w1_ ⟨hHeld, h_v471, h_v474, h_v477, hM_⟩
            refine norm_ (a' := ?_) ?_ ?_
            rotate_left
            ·
             simp only [putAll, Act.put, List.setIfInBounds_toArray, List.set_cons_zero, List.set_cons_succ]
             rfl
            refine three_ (i := 6) (j := 12) (k := 13) (Ni := some 47) (Nj := some 10) (Nk := some 11) (bt_ 127 17) (bt_ 4159 17) (bt_ 8255 17) rfl rfl rfl rfl rfl rfl (three_of HT_.out (by kernel_rfl)) (by decide) (by decide) (by decide) (fun K hK => ?_) (fun K hK => ?_) (fun K hK => ?_)
            ·
             skip
             refine goes_ Try.func19 (by kernel_rfl) rfl #[.agg #[.int .i64 a3_0, .slice A3_1 l3_1.length c3_1]] (by rfl) rfl rfl al_ ?_
             with_reducible refine (laws_toRes.calls k a3_0 _ _ l3_1 t479 t480 _ ?side1 ?side2 A30.out).mono ?_
             (case side1 => exact Kd.C_below HR3_1.out (below_step HB.out hM_))
             (case side2 => exact HC3_1.out)
             rintro e w2_ ⟨v481, rfl, ho0, hb⟩
             refine ⟨_, rfl, ?_⟩
             refine hK.out _ _ (mm_held4 hHeld hb) (fun hHeld => ?_)
             clear hK K
             refine norm_ (a' := ?_) ?_ ?_
             rotate_left
             ·
              show Act.put _ (some 47) _ = _
              simp only [Act.put, List.setIfInBounds_toArray, List.set_cons_zero, List.set_cons_succ, i64_w, i32_w]
              rfl
             exact norm_ nm_ (hJ300 (v471, v474, v477, v481) _ ⟨hHeld, (Kd.R_below h_v471 hb), (Kd.S_mono (Kd.S_elder' h_v474 (Kd.R_base ho0) hb) (fun _ h_ => by simp only [and_assoc] at h_; exact h_)), (Kd.R_below h_v477 hb), (Kd.R_mono (Kd.R_lower (ho0) hM_.size) (fun _ _ => trivial)), below_step hM_ hb⟩)
            ·
             skip
             refine box_step ?hg (N := 10) ?hd (cs := #[.slice none 0 0, .slice none 0 0]) (t := 31) ?hr ?_; (case hd => rfl); (case hg => rfl); (case hr => first | (go_simp; done) | (go_simp; rfl))
             intro gb494 hg w2_ hbox hb
             refine hK.out _ _ (mm_held4 hHeld hb) (fun hHeld => ?_)
             clear hK K
             refine norm_ (a' := ?_) ?_ ?_
             rotate_left
             ·
              show Act.put _ (some 10) _ = _
              simp only [Act.put, List.setIfInBounds_toArray, List.set_cons_zero, List.set_cons_succ, i64_w, i32_w]
              rfl
             exact norm_ nm_ (hJ210 (v471, v474, v477, gb494) _ ⟨hHeld, (Kd.R_below h_v471 hb), (Kd.S_below h_v474 hb), (Kd.R_below h_v477 hb), ⟨(by rw [hg]; exact hM_.size), hbox⟩, below_step hM_ hb⟩)
            skip
            refine box_step ?hg (N := 11) ?hd (cs := #[.int .i64 0, .int .i64 0, .int .i64 0, .int .i64 0]) (t := 74) ?hr ?_; (case hd => rfl); (case hg => rfl); (case hr => first | (go_simp; done) | (go_simp; rfl))
            intro gb495 hg w2_ hbox hb
            refine hK.out _ _ (mm_held4 hHeld hb) (fun hHeld => ?_)
            clear hK K
            refine norm_ (a' := ?_) ?_ ?_
            rotate_left
            ·
             show Act.put _ (some 11) _ = _
             simp only [Act.put, List.setIfInBounds_toArray, List.set_cons_zero, List.set_cons_succ, i64_w, i32_w]
             rfl
            exact norm_ nm_ (hJ201 (v471, v474, v477, gb495) _ ⟨hHeld, (Kd.R_below h_v471 hb), (Kd.S_below h_v474 hb), (Kd.R_below h_v477 hb), ⟨(by rw [hg]; exact hM_.size), hbox⟩, below_step hM_ hb⟩)
           rintro ⟨v471, v474, v477, gb495⟩ w1_ ⟨hHeld, h_v471, h_v474, h_v477, ⟨hl_gb495, hb_gb495⟩, hM_⟩
           refine norm_ (a' := ?_) ?_ ?_
           rotate_left
           ·
            simp only [putAll, Act.put, List.setIfInBounds_toArray, List.set_cons_zero, List.set_cons_succ]
            rfl
           refine two_ (i := 6) (j := 12) (Ni := some 47) (Nj := some 10) (bt_ 8319 17) (bt_ 12351 17) rfl rfl rfl rfl (two_of HT_.out (by kernel_rfl)) (by decide) (by decide) (fun K hK => ?_) (fun K hK => ?_)
           ·
            skip
            refine goes_ Try.func19 (by kernel_rfl) rfl #[.agg #[.int .i64 a3_0, .slice A3_1 l3_1.length c3_1]] (by rfl) rfl rfl al_ ?_
            with_reducible refine (laws_toRes.calls k a3_0 _ _ l3_1 t479 t480 _ ?side1 ?side2 A30.out).mono ?_
            (case side1 => exact Kd.C_below HR3_1.out (below_step HB.out hM_))
            (case side2 => exact HC3_1.out)
            rintro e w2_ ⟨v481, rfl, ho0, hb⟩
            refine ⟨_, rfl, ?_⟩
            refine hK.out _ _ (mm_held4 hHeld hb) (fun hHeld => ?_)
            clear hK K
            refine norm_ (a' := ?_) ?_ ?_
            rotate_left
            ·
             show Act.put _ (some 47) _ = _
             simp only [Act.put, List.setIfInBounds_toArray, List.set_cons_zero, List.set_cons_succ, i64_w, i32_w]
             rfl
            exact norm_ nm_ (hJ301 (v471, v474, v477, v481, gb495) _ ⟨hHeld, (Kd.R_below h_v471 hb), (Kd.S_mono (Kd.S_elder' h_v474 (Kd.R_base ho0) hb) (fun _ h_ => by simp only [and_assoc] at h_; exact h_)), (Kd.R_below h_v477 hb), (Kd.R_mono (Kd.R_lower (ho0) hM_.size) (fun _ _ => trivial)), ⟨hl_gb495, blk_below hb_gb495 hb⟩, below_step hM_ hb⟩)
           skip
           refine box_step ?hg (N := 10) ?hd (cs := #[.slice none 0 0, .slice none 0 0]) (t := 31) ?hr ?_; (case hd => rfl); (case hg => rfl); (case hr => first | (go_simp; done) | (go_simp; rfl))
           intro gb494 hg w2_ hbox hb
           refine hK.out _ _ (mm_held4 hHeld hb) (fun hHeld => ?_)
           clear hK K
           refine norm_ (a' := ?_) ?_ ?_
           rotate_left
           ·
            show Act.put _ (some 10) _ = _
            simp only [Act.put, List.setIfInBounds_toArray, List.set_cons_zero, List.set_cons_succ, i64_w, i32_w]
            rfl
           exact norm_ nm_ (hJ211 (v471, v474, v477, gb494, gb495) _ ⟨hHeld, (Kd.R_below h_v471 hb), (Kd.S_below h_v474 hb), (Kd.R_below h_v477 hb), ⟨(by rw [hg]; exact hM_.size), hbox⟩, ⟨hl_gb495, blk_below hb_gb495 hb⟩, below_step hM_ hb⟩)
          rintro ⟨v471, v474, v477, gb494⟩ w1_ ⟨hHeld, h_v471, h_v474, h_v477, ⟨hl_gb494, hb_gb494⟩, hM_⟩
          refine norm_ (a' := ?_) ?_ ?_
          rotate_left
          ·
           simp only [putAll, Act.put, List.setIfInBounds_toArray, List.set_cons_zero, List.set_cons_succ]
           rfl
          refine two_ (i := 6) (j := 13) (Ni := some 47) (Nj := some 11) (bt_ 4223 17) (bt_ 12351 17) rfl rfl rfl rfl (two_of HT_.out (by kernel_rfl)) (by decide) (by decide) (fun K hK => ?_) (fun K hK => ?_)
          ·
           skip
           refine goes_ Try.func19 (by kernel_rfl) rfl #[.agg #[.int .i64 a3_0, .slice A3_1 l3_1.length c3_1]] (by rfl) rfl rfl al_ ?_
           with_reducible refine (laws_toRes.calls k a3_0 _ _ l3_1 t479 t480 _ ?side1 ?side2 A30.out).mono ?_
           (case side1 => exact Kd.C_below HR3_1.out (below_step HB.out hM_))
           (case side2 => exact HC3_1.out)
           rintro e w2_ ⟨v481, rfl, ho0, hb⟩
           refine ⟨_, rfl, ?_⟩
           refine hK.out _ _ (mm_held4 hHeld hb) (fun hHeld => ?_)
           clear hK K
           refine norm_ (a' := ?_) ?_ ?_
           rotate_left
           ·
            show Act.put _ (some 47) _ = _
            simp only [Act.put, List.setIfInBounds_toArray, List.set_cons_zero, List.set_cons_succ, i64_w, i32_w]
            rfl
           exact norm_ nm_ (hJ310 (v471, v474, v477, v481, gb494) _ ⟨hHeld, (Kd.R_below h_v471 hb), (Kd.S_mono (Kd.S_elder' h_v474 (Kd.R_base ho0) hb) (fun _ h_ => by simp only [and_assoc] at h_; exact h_)), (Kd.R_below h_v477 hb), (Kd.R_mono (Kd.R_lower (ho0) hM_.size) (fun _ _ => trivial)), ⟨hl_gb494, blk_below hb_gb494 hb⟩, below_step hM_ hb⟩)
          skip
          refine box_step ?hg (N := 11) ?hd (cs := #[.int .i64 0, .int .i64 0, .int .i64 0, .int .i64 0]) (t := 74) ?hr ?_; (case hd => rfl); (case hg => rfl); (case hr => first | (go_simp; done) | (go_simp; rfl))
          intro gb495 hg w2_ hbox hb
          refine hK.out _ _ (mm_held4 hHeld hb) (fun hHeld => ?_)
          clear hK K
          refine norm_ (a' := ?_) ?_ ?_
          rotate_left
          ·
           show Act.put _ (some 11) _ = _
           simp only [Act.put, List.setIfInBounds_toArray, List.set_cons_zero, List.set_cons_succ, i64_w, i32_w]
           rfl
          exact norm_ nm_ (hJ211 (v471, v474, v477, gb494, gb495) _ ⟨hHeld, (Kd.R_below h_v471 hb), (Kd.S_below h_v474 hb), (Kd.R_below h_v477 hb), ⟨hl_gb494, blk_below hb_gb494 hb⟩, ⟨(by rw [hg]; exact hM_.size), hbox⟩, below_step hM_ hb⟩)
         rintro ⟨v471, v474, v477, gb494, gb495⟩ w1_ ⟨hHeld, h_v471, h_v474, h_v477, ⟨hl_gb494, hb_gb494⟩, ⟨hl_gb495, hb_gb495⟩, hM_⟩
         refine norm_ (a' := ?_) ?_ ?_
         rotate_left
         ·
          simp only [putAll, Act.put, List.setIfInBounds_toArray, List.set_cons_zero, List.set_cons_succ]
          rfl
         refine one_ (i := 6) (N := some 47) (bt_ 12415 17) rfl rfl (one_of HT_.out (by kernel_rfl)) (by decide) (fun K hK => ?_)
         refine goes_ Try.func19 (by kernel_rfl) rfl #[.agg #[.int .i64 a3_0, .slice A3_1 l3_1.length c3_1]] (by rfl) rfl rfl al_ ?_
         with_reducible refine (laws_toRes.calls k a3_0 _ _ l3_1 t479 t480 _ ?side1 ?side2 A30.out).mono ?_
         (case side1 => exact Kd.C_below HR3_1.out (below_step HB.out hM_))
         (case side2 => exact HC3_1.out)
         rintro e w2_ ⟨v481, rfl, ho0, hb⟩
         refine ⟨_, rfl, ?_⟩
         refine hK.out _ _ (mm_held4 hHeld hb) (fun hHeld => ?_)
         clear hK K
         refine norm_ (a' := ?_) ?_ ?_
         rotate_left
         ·
          show Act.put _ (some 47) _ = _
          simp only [Act.put, List.setIfInBounds_toArray, List.set_cons_zero, List.set_cons_succ, i64_w, i32_w]
          rfl
         exact norm_ nm_ (hJ311 (v471, v474, v477, v481, gb494, gb495) _ ⟨hHeld, (Kd.R_below h_v471 hb), (Kd.S_mono (Kd.S_elder' h_v474 (Kd.R_base ho0) hb) (fun _ h_ => by simp only [and_assoc] at h_; exact h_)), (Kd.R_below h_v477 hb), (Kd.R_mono (Kd.R_lower (ho0) hM_.size) (fun _ _ => trivial)), ⟨hl_gb494, blk_below hb_gb494 hb⟩, ⟨hl_gb495, blk_below hb_gb495 hb⟩, below_step hM_ hb⟩)
        rintro ⟨v471, v474, v477, v481⟩ w1_ ⟨hHeld, h_v471, h_v474, h_v477, h_v481, hM_⟩
        refine norm_ (a' := ?_) ?_ ?_
        rotate_left
        ·
         simp only [putAll, Act.put, List.setIfInBounds_toArray, List.set_cons_zero, List.set_cons_succ]
         rfl
        refine three_ (i := 7) (j := 12) (k := 13) (Ni := some 48) (Nj := some 10) (Nk := some 11) (bt_ 255 17) (bt_ 4223 17) (bt_ 8319 17) rfl rfl rfl rfl rfl rfl (three_of HT_.out (by kernel_rfl)) (by decide) (by decide) (by decide) (fun K hK => ?_) (fun K hK => ?_) (fun K hK => ?_)
        ·
         skip
         obtain ⟨Az0, cz0, ez0⟩ := Kd.R_slice h_v471
         subst ez0
         obtain ⟨Az1, cz1, ez1⟩ := Kd.S_slice h_v474
         subst ez1
         obtain ⟨Az2, cz2, ez2⟩ := Kd.R_slice h_v477
         subst ez2
         obtain ⟨Az3, cz3, ez3⟩ := Kd.R_slice h_v481
         subst ez3
         refine goes_ Try.func43 (by kernel_rfl) rfl #[.agg #[.slice Az0 t470.length cz0, .slice Az1 t473.length cz1], .int .i64 a1, .slice Az2 t476.length cz2, .agg #[.int .i64 t479, .slice Az3 t480.length cz3]] (by rfl) rfl rfl al_ ?_
         with_reducible refine (spec_Begin.calls k _ _ t470 _ _ t473 a1 _ _ t476 t479 _ _ t480 t483 t486 t489 t490 t491 t492 t493 _ ?side1 ?side2 ?side3 ?side4 ?side5 ?side6 ?side7 ?side8 A31.out).mono ?_
         (case side1 => exact (Kd.R_reads' h_v471).2.2)
         (case side2 => exact (Kd.R_reads' h_v471).2.1)
         (case side3 => exact (Kd.S_reads' h_v474).2.2)
         (case side4 => exact (Kd.S_reads' h_v474).2.1)
         (case side5 => exact (Kd.R_reads' h_v477).2.2)
         (case side6 => exact (Kd.R_reads' h_v477).2.1)
         (case side7 => exact (Kd.R_reads' h_v481).2.2)
         (case side8 => exact (Kd.R_reads' h_v481).2.1)
         rintro e w2_ ⟨v484, v487, rfl, ho0, ho1, hb⟩
         refine ⟨_, rfl, ?_⟩
         refine hK.out _ _ (mm_held4 hHeld hb) (fun hHeld => ?_)
         clear hK K
         refine norm_ (a' := ?_) ?_ ?_
         rotate_left
         ·
          show Act.put _ (some 48) _ = _
          simp only [Act.put, List.setIfInBounds_toArray, List.set_cons_zero, List.set_cons_succ, i64_w, i32_w]
          rfl
         refine pu_ 8 40 (bt_ 511 17) ?_
         refine pu_ 9 49 (bt_ 1023 17) ?_
         refine pu_ 10 50 (bt_ 2047 17) ?_
         refine pu_ 11 51 (bt_ 4095 17) ?_
         exact norm_ nm_ (hJ400 ((.slice Az0 t470.length cz0), (.slice Az1 t473.length cz1), (.slice Az2 t476.length cz2), (.slice Az3 t480.length cz3), v484, v487) _ ⟨hHeld, (Kd.R_mono (Kd.R_elder' h_v471 (Kd.R_base ho0) hb) (fun _ h_ => h_.2)), (Kd.S_mono (Kd.S_elder' h_v474 (Kd.S_base ho1) hb) (fun _ h_ => by simp only [and_assoc] at h_; exact h_)), (Kd.R_below h_v477 hb), (Kd.R_below h_v481 hb), (Kd.R_mono (Kd.R_lower (Kd.R_new' (Kd.R_mono (ok' := fun _ => True) ho0 (fun _ _ => trivial)) (Kd.R_lt h_v471)) hM_.size) (fun _ h_ => h_.2)), (Kd.S_mono (Kd.S_lower (Kd.S_new' (Kd.S_new' (Kd.S_new' (Kd.S_mono (ok' := fun _ => True) ho1 (fun _ _ => trivial)) (Kd.S_lt h_v474)) (Kd.R_lt h_v477)) (Kd.R_lt h_v481)) hM_.size) (fun _ h_ => ⟨h_.1.1.2, h_.1.2, h_.2⟩)), below_step hM_ hb⟩)
        ·
         skip
         refine box_step ?hg (N := 10) ?hd (cs := #[.slice none 0 0, .slice none 0 0]) (t := 31) ?hr ?_; (case hd => rfl); (case hg => rfl); (case hr => first | (go_simp; done) | (go_simp; rfl))
         intro gb494 hg w2_ hbox hb
         refine hK.out _ _ (mm_held4 hHeld hb) (fun hHeld => ?_)
         clear hK K
         refine norm_ (a' := ?_) ?_ ?_
         rotate_left
         ·
          show Act.put _ (some 10) _ = _
          simp only [Act.put, List.setIfInBounds_toArray, List.set_cons_zero, List.set_cons_succ, i64_w, i32_w]
          rfl
         exact norm_ nm_ (hJ310 (v471, v474, v477, v481, gb494) _ ⟨hHeld, (Kd.R_below h_v471 hb), (Kd.S_below h_v474 hb), (Kd.R_below h_v477 hb), (Kd.R_below h_v481 hb), ⟨(by rw [hg]; exact hM_.size), hbox⟩, below_step hM_ hb⟩)
        skip
        refine box_step ?hg (N := 11) ?hd (cs := #[.int .i64 0, .int .i64 0, .int .i64 0, .int .i64 0]) (t := 74) ?hr ?_; (case hd => rfl); (case hg => rfl); (case hr => first | (go_simp; done) | (go_simp; rfl))
        intro gb495 hg w2_ hbox hb
        refine hK.out _ _ (mm_held4 hHeld hb) (fun hHeld => ?_)
        clear hK K
        refine norm_ (a' := ?_) ?_ ?_
        rotate_left
        ·
         show Act.put _ (some 11) _ = _
         simp only [Act.put, List.setIfInBounds_toArray, List.set_cons_zero, List.set_cons_succ, i64_w, i32_w]
         rfl
        exact norm_ nm_ (hJ301 (v471, v474, v477, v481, gb495) _ ⟨hHeld, (Kd.R_below h_v471 hb), (Kd.S_below h_v474 hb), (Kd.R_below h_v477 hb), (Kd.R_below h_v481 hb), ⟨(by rw [hg]; exact hM_.size), hbox⟩, below_step hM_ hb⟩)
       rintro ⟨v471, v474, v477, v481, gb495⟩ w1_ ⟨hHeld, h_v471, h_v474, h_v477, h_v481, ⟨hl_gb495, hb_gb495⟩, hM_⟩
       refine norm_ (a' := ?_) ?_ ?_
       rotate_left
       ·
        simp only [putAll, Act.put, List.setIfInBounds_toArray, List.set_cons_zero, List.set_cons_succ]
        rfl
       refine two_ (i := 7) (j := 12) (Ni := some 48) (Nj := some 10) (bt_ 8447 17) (bt_ 12415 17) rfl rfl rfl rfl (two_of HT_.out (by kernel_rfl)) (by decide) (by decide) (fun K hK => ?_) (fun K hK => ?_)
       ·
        skip
        obtain ⟨Az0, cz0, ez0⟩ := Kd.R_slice h_v471
        subst ez0
        obtain ⟨Az1, cz1, ez1⟩ := Kd.S_slice h_v474
        subst ez1
        obtain ⟨Az2, cz2, ez2⟩ := Kd.R_slice h_v477
        subst ez2
        obtain ⟨Az3, cz3, ez3⟩ := Kd.R_slice h_v481
        subst ez3
        refine goes_ Try.func43 (by kernel_rfl) rfl #[.agg #[.slice Az0 t470.length cz0, .slice Az1 t473.length cz1], .int .i64 a1, .slice Az2 t476.length cz2, .agg #[.int .i64 t479, .slice Az3 t480.length cz3]] (by rfl) rfl rfl al_ ?_
        with_reducible refine (spec_Begin.calls k _ _ t470 _ _ t473 a1 _ _ t476 t479 _ _ t480 t483 t486 t489 t490 t491 t492 t493 _ ?side1 ?side2 ?side3 ?side4 ?side5 ?side6 ?side7 ?side8 A31.out).mono ?_
        (case side1 => exact (Kd.R_reads' h_v471).2.2)
        (case side2 => exact (Kd.R_reads' h_v471).2.1)
        (case side3 => exact (Kd.S_reads' h_v474).2.2)
        (case side4 => exact (Kd.S_reads' h_v474).2.1)
        (case side5 => exact (Kd.R_reads' h_v477).2.2)
        (case side6 => exact (Kd.R_reads' h_v477).2.1)
        (case side7 => exact (Kd.R_reads' h_v481).2.2)
        (case side8 => exact (Kd.R_reads' h_v481).2.1)
        rintro e w2_ ⟨v484, v487, rfl, ho0, ho1, hb⟩
        refine ⟨_, rfl, ?_⟩
        refine hK.out _ _ (mm_held4 hHeld hb) (fun hHeld => ?_)
        clear hK K
        refine norm_ (a' := ?_) ?_ ?_
        rotate_left
        ·
         show Act.put _ (some 48) _ = _
         simp only [Act.put, List.setIfInBounds_toArray, List.set_cons_zero, List.set_cons_succ, i64_w, i32_w]
         rfl
        refine pu_ 8 40 (bt_ 8703 17) ?_
        refine pu_ 9 49 (bt_ 9215 17) ?_
        refine pu_ 10 50 (bt_ 10239 17) ?_
        refine pu_ 11 51 (bt_ 12287 17) ?_
        exact norm_ nm_ (hJ401 ((.slice Az0 t470.length cz0), (.slice Az1 t473.length cz1), (.slice Az2 t476.length cz2), (.slice Az3 t480.length cz3), v484, v487, gb495) _ ⟨hHeld, (Kd.R_mono (Kd.R_elder' h_v471 (Kd.R_base ho0) hb) (fun _ h_ => h_.2)), (Kd.S_mono (Kd.S_elder' h_v474 (Kd.S_base ho1) hb) (fun _ h_ => by simp only [and_assoc] at h_; exact h_)), (Kd.R_below h_v477 hb), (Kd.R_below h_v481 hb), (Kd.R_mono (Kd.R_lower (Kd.R_new' (Kd.R_mono (ok' := fun _ => True) ho0 (fun _ _ => trivial)) (Kd.R_lt h_v471)) hM_.size) (fun _ h_ => h_.2)), (Kd.S_mono (Kd.S_lower (Kd.S_new' (Kd.S_new' (Kd.S_new' (Kd.S_mono (ok' := fun _ => True) ho1 (fun _ _ => trivial)) (Kd.S_lt h_v474)) (Kd.R_lt h_v477)) (Kd.R_lt h_v481)) hM_.size) (fun _ h_ => ⟨h_.1.1.2, h_.1.2, h_.2⟩)), ⟨hl_gb495, blk_below hb_gb495 hb⟩, below_step hM_ hb⟩)
       skip
       refine box_step ?hg (N := 10) ?hd (cs := #[.slice none 0 0, .slice none 0 0]) (t := 31) ?hr ?_; (case hd => rfl); (case hg => rfl); (case hr => first | (go_simp; done) | (go_simp; rfl))
       intro gb494 hg w2_ hbox hb
       refine hK.out _ _ (mm_held4 hHeld hb) (fun hHeld => ?_)
       clear hK K
       refine norm_ (a' := ?_) ?_ ?_
       rotate_left
       ·
        show Act.put _ (some 10) _ = _
        simp only [Act.put, List.setIfInBounds_toArray, List.set_cons_zero, List.set_cons_succ, i64_w, i32_w]
        rfl
       exact norm_ nm_ (hJ311 (v471, v474, v477, v481, gb494, gb495) _ ⟨hHeld, (Kd.R_below h_v471 hb), (Kd.S_below h_v474 hb), (Kd.R_below h_v477 hb), (Kd.R_below h_v481 hb), ⟨(by rw [hg]; exact hM_.size), hbox⟩, ⟨hl_gb495, blk_below hb_gb495 hb⟩, below_step hM_ hb⟩)
      rintro ⟨v471, v474, v477, v481, gb494⟩ w1_ ⟨hHeld, h_v471, h_v474, h_v477, h_v481, ⟨hl_gb494, hb_gb494⟩, hM_⟩
      refine norm_ (a' := ?_) ?_ ?_
      rotate_left
      ·
       simp only [putAll, Act.put, List.setIfInBounds_toArray, List.set_cons_zero, List.set_cons_succ]
       rfl
      refine two_ (i := 7) (j := 13) (Ni := some 48) (Nj := some 11) (bt_ 4351 17) (bt_ 12415 17) rfl rfl rfl rfl (two_of HT_.out (by kernel_rfl)) (by decide) (by decide) (fun K hK => ?_) (fun K hK => ?_)
      ·
       skip
       obtain ⟨Az0, cz0, ez0⟩ := Kd.R_slice h_v471
       subst ez0
       obtain ⟨Az1, cz1, ez1⟩ := Kd.S_slice h_v474
       subst ez1
       obtain ⟨Az2, cz2, ez2⟩ := Kd.R_slice h_v477
       subst ez2
       obtain ⟨Az3, cz3, ez3⟩ := Kd.R_slice h_v481
       subst ez3
       refine goes_ Try.func43 (by kernel_rfl) rfl #[.agg #[.slice Az0 t470.length cz0, .slice Az1 t473.length cz1], .int .i64 a1, .slice Az2 t476.length cz2, .agg #[.int .i64 t479, .slice Az3 t480.length cz3]] (by rfl) rfl rfl al_ ?_
       with_reducible refine (spec_Begin.calls k _ _ t470 _ _ t473 a1 _ _ t476 t479 _ _ t480 t483 t486 t489 t490 t491 t492 t493 _ ?side1 ?side2 ?side3 ?side4 ?side5 ?side6 ?side7 ?side8 A31.out).mono ?_
       (case side1 => exact (Kd.R_reads' h_v471).2.2)
       (case side2 => exact (Kd.R_reads' h_v471).2.1)
       (case side3 => exact (Kd.S_reads' h_v474).2.2)
       (case side4 => exact (Kd.S_reads' h_v474).2.1)
       (case side5 => exact (Kd.R_reads' h_v477).2.2)
       (case side6 => exact (Kd.R_reads' h_v477).2.1)
       (case side7 => exact (Kd.R_reads' h_v481).2.2)
       (case side8 => exact (Kd.R_reads' h_v481).2.1)
       rintro e w2_ ⟨v484, v487, rfl, ho0, ho1, hb⟩
       refine ⟨_, rfl, ?_⟩
       refine hK.out _ _ (mm_held4 hHeld hb) (fun hHeld => ?_)
       clear hK K
       refine norm_ (a' := ?_) ?_ ?_
       rotate_left
       ·
        show Act.put _ (some 48) _ = _
        simp only [Act.put, List.setIfInBounds_toArray, List.set_cons_zero, List.set_cons_succ, i64_w, i32_w]
        rfl
       refine pu_ 8 40 (bt_ 4607 17) ?_
       refine pu_ 9 49 (bt_ 5119 17) ?_
       refine pu_ 10 50 (bt_ 6143 17) ?_
       refine pu_ 11 51 (bt_ 8191 17) ?_
       exact norm_ nm_ (hJ410 ((.slice Az0 t470.length cz0), (.slice Az1 t473.length cz1), (.slice Az2 t476.length cz2), (.slice Az3 t480.length cz3), v484, v487, gb494) _ ⟨hHeld, (Kd.R_mono (Kd.R_elder' h_v471 (Kd.R_base ho0) hb) (fun _ h_ => h_.2)), (Kd.S_mono (Kd.S_elder' h_v474 (Kd.S_base ho1) hb) (fun _ h_ => by simp only [and_assoc] at h_; exact h_)), (Kd.R_below h_v477 hb), (Kd.R_below h_v481 hb), (Kd.R_mono (Kd.R_lower (Kd.R_new' (Kd.R_mono (ok' := fun _ => True) ho0 (fun _ _ => trivial)) (Kd.R_lt h_v471)) hM_.size) (fun _ h_ => h_.2)), (Kd.S_mono (Kd.S_lower (Kd.S_new' (Kd.S_new' (Kd.S_new' (Kd.S_mono (ok' := fun _ => True) ho1 (fun _ _ => trivial)) (Kd.S_lt h_v474)) (Kd.R_lt h_v477)) (Kd.R_lt h_v481)) hM_.size) (fun _ h_ => ⟨h_.1.1.2, h_.1.2, h_.2⟩)), ⟨hl_gb494, blk_below hb_gb494 hb⟩, below_step hM_ hb⟩)
      skip
      refine box_step ?hg (N := 11) ?hd (cs := #[.int .i64 0, .int .i64 0, .int .i64 0, .int .i64 0]) (t := 74) ?hr ?_; (case hd => rfl); (case hg => rfl); (case hr => first | (go_simp; done) | (go_simp; rfl))
      intro gb495 hg w2_ hbox hb
      refine hK.out _ _ (mm_held4 hHeld hb) (fun hHeld => ?_)
      clear hK K
      refine norm_ (a' := ?_) ?_ ?_
      rotate_left
      ·
       show Act.put _ (some 11) _ = _
       simp only [Act.put, List.setIfInBounds_toArray, List.set_cons_zero, List.set_cons_succ, i64_w, i32_w]
       rfl
      exact norm_ nm_ (hJ311 (v471, v474, v477, v481, gb494, gb495) _ ⟨hHeld, (Kd.R_below h_v471 hb), (Kd.S_below h_v474 hb), (Kd.R_below h_v477 hb), (Kd.R_below h_v481 hb), ⟨hl_gb494, blk_below hb_gb494 hb⟩, ⟨(by rw [hg]; exact hM_.size), hbox⟩, below_step hM_ hb⟩)
     rintro ⟨v471, v474, v477, v481, gb494, gb495⟩ w1_ ⟨hHeld, h_v471, h_v474, h_v477, h_v481, ⟨hl_gb494, hb_gb494⟩, ⟨hl_gb495, hb_gb495⟩, hM_⟩
     refine norm_ (a' := ?_) ?_ ?_
     rotate_left
     ·
      simp only [putAll, Act.put, List.setIfInBounds_toArray, List.set_cons_zero, List.set_cons_succ]
      rfl
     refine one_ (i := 7) (N := some 48) (bt_ 12543 17) rfl rfl (one_of HT_.out (by kernel_rfl)) (by decide) (fun K hK => ?_)
     obtain ⟨Az0, cz0, ez0⟩ := Kd.R_slice h_v471
     subst ez0
     obtain ⟨Az1, cz1, ez1⟩ := Kd.S_slice h_v474
     subst ez1
     obtain ⟨Az2, cz2, ez2⟩ := Kd.R_slice h_v477
     subst ez2
     obtain ⟨Az3, cz3, ez3⟩ := Kd.R_slice h_v481
     subst ez3
     refine goes_ Try.func43 (by kernel_rfl) rfl #[.agg #[.slice Az0 t470.length cz0, .slice Az1 t473.length cz1], .int .i64 a1, .slice Az2 t476.length cz2, .agg #[.int .i64 t479, .slice Az3 t480.length cz3]] (by rfl) rfl rfl al_ ?_
     with_reducible refine (spec_Begin.calls k _ _ t470 _ _ t473 a1 _ _ t476 t479 _ _ t480 t483 t486 t489 t490 t491 t492 t493 _ ?side1 ?side2 ?side3 ?side4 ?side5 ?side6 ?side7 ?side8 A31.out).mono ?_
     (case side1 => exact (Kd.R_reads' h_v471).2.2)
     (case side2 => exact (Kd.R_reads' h_v471).2.1)
     (case side3 => exact (Kd.S_reads' h_v474).2.2)
     (case side4 => exact (Kd.S_reads' h_v474).2.1)
     (case side5 => exact (Kd.R_reads' h_v477).2.2)
     (case side6 => exact (Kd.R_reads' h_v477).2.1)
     (case side7 => exact (Kd.R_reads' h_v481).2.2)
     (case side8 => exact (Kd.R_reads' h_v481).2.1)
     rintro e w2_ ⟨v484, v487, rfl, ho0, ho1, hb⟩
     refine ⟨_, rfl, ?_⟩
     refine hK.out _ _ (mm_held4 hHeld hb) (fun hHeld => ?_)
     clear hK K
     refine norm_ (a' := ?_) ?_ ?_
     rotate_left
     ·
      show Act.put _ (some 48) _ = _
      simp only [Act.put, List.setIfInBounds_toArray, List.set_cons_zero, List.set_cons_succ, i64_w, i32_w]
      rfl
     refine pu_ 8 40 (bt_ 12799 17) ?_
     refine pu_ 9 49 (bt_ 13311 17) ?_
     refine pu_ 10 50 (bt_ 14335 17) ?_
     refine pu_ 11 51 (bt_ 16383 17) ?_
     exact norm_ nm_ (hJ411 ((.slice Az0 t470.length cz0), (.slice Az1 t473.length cz1), (.slice Az2 t476.length cz2), (.slice Az3 t480.length cz3), v484, v487, gb494, gb495) _ ⟨hHeld, (Kd.R_mono (Kd.R_elder' h_v471 (Kd.R_base ho0) hb) (fun _ h_ => h_.2)), (Kd.S_mono (Kd.S_elder' h_v474 (Kd.S_base ho1) hb) (fun _ h_ => by simp only [and_assoc] at h_; exact h_)), (Kd.R_below h_v477 hb), (Kd.R_below h_v481 hb), (Kd.R_mono (Kd.R_lower (Kd.R_new' (Kd.R_mono (ok' := fun _ => True) ho0 (fun _ _ => trivial)) (Kd.R_lt h_v471)) hM_.size) (fun _ h_ => h_.2)), (Kd.S_mono (Kd.S_lower (Kd.S_new' (Kd.S_new' (Kd.S_new' (Kd.S_mono (ok' := fun _ => True) ho1 (fun _ _ => trivial)) (Kd.S_lt h_v474)) (Kd.R_lt h_v477)) (Kd.R_lt h_v481)) hM_.size) (fun _ h_ => ⟨h_.1.1.2, h_.1.2, h_.2⟩)), ⟨hl_gb494, blk_below hb_gb494 hb⟩, ⟨hl_gb495, blk_below hb_gb495 hb⟩, below_step hM_ hb⟩)
    rintro ⟨v471, v474, v477, v481, v484, v487⟩ w1_ ⟨hHeld, h_v471, h_v474, h_v477, h_v481, h_v484, h_v487, hM_⟩
    refine norm_ (a' := ?_) ?_ ?_
    rotate_left
    ·
     simp only [putAll, Act.put, List.setIfInBounds_toArray, List.set_cons_zero, List.set_cons_succ]
     rfl
    refine two_ (i := 12) (j := 13) (Ni := some 10) (Nj := some 11) (bt_ 8191 17) (bt_ 12287 17) rfl rfl rfl rfl (two_of HT_.out (by kernel_rfl)) (by decide) (by decide) (fun K hK => ?_) (fun K hK => ?_)
    ·
     skip
     refine box_step ?hg (N := 10) ?hd (cs := #[.slice none 0 0, .slice none 0 0]) (t := 31) ?hr ?_; (case hd => rfl); (case hg => rfl); (case hr => first | (go_simp; done) | (go_simp; rfl))
     intro gb494 hg w2_ hbox hb
     refine hK.out _ _ (mm_held4 hHeld hb) (fun hHeld => ?_)
     clear hK K
     refine norm_ (a' := ?_) ?_ ?_
     rotate_left
     ·
      show Act.put _ (some 10) _ = _
      simp only [Act.put, List.setIfInBounds_toArray, List.set_cons_zero, List.set_cons_succ, i64_w, i32_w]
      rfl
     exact norm_ nm_ (hJ410 (v471, v474, v477, v481, v484, v487, gb494) _ ⟨hHeld, (Kd.R_below h_v471 hb), (Kd.S_below h_v474 hb), (Kd.R_below h_v477 hb), (Kd.R_below h_v481 hb), (Kd.R_below h_v484 hb), (Kd.S_below h_v487 hb), ⟨(by rw [hg]; exact hM_.size), hbox⟩, below_step hM_ hb⟩)
    skip
    refine box_step ?hg (N := 11) ?hd (cs := #[.int .i64 0, .int .i64 0, .int .i64 0, .int .i64 0]) (t := 74) ?hr ?_; (case hd => rfl); (case hg => rfl); (case hr => first | (go_simp; done) | (go_simp; rfl))
    intro gb495 hg w2_ hbox hb
    refine hK.out _ _ (mm_held4 hHeld hb) (fun hHeld => ?_)
    clear hK K
    refine norm_ (a' := ?_) ?_ ?_
    rotate_left
    ·
     show Act.put _ (some 11) _ = _
     simp only [Act.put, List.setIfInBounds_toArray, List.set_cons_zero, List.set_cons_succ, i64_w, i32_w]
     rfl
    exact norm_ nm_ (hJ401 (v471, v474, v477, v481, v484, v487, gb495) _ ⟨hHeld, (Kd.R_below h_v471 hb), (Kd.S_below h_v474 hb), (Kd.R_below h_v477 hb), (Kd.R_below h_v481 hb), (Kd.R_below h_v484 hb), (Kd.S_below h_v487 hb), ⟨(by rw [hg]; exact hM_.size), hbox⟩, below_step hM_ hb⟩)
   rintro ⟨v471, v474, v477, v481, v484, v487, gb495⟩ w1_ ⟨hHeld, h_v471, h_v474, h_v477, h_v481, h_v484, h_v487, ⟨hl_gb495, hb_gb495⟩, hM_⟩
   refine norm_ (a' := ?_) ?_ ?_
   rotate_left
   ·
    simp only [putAll, Act.put, List.setIfInBounds_toArray, List.set_cons_zero, List.set_cons_succ]
    rfl
   refine one_ (i := 12) (N := some 10) (bt_ 16383 17) rfl rfl (one_of HT_.out (by kernel_rfl)) (by decide) (fun K hK => ?_)
   refine box_step ?hg (N := 10) ?hd (cs := #[.slice none 0 0, .slice none 0 0]) (t := 31) ?hr ?_; (case hd => rfl); (case hg => rfl); (case hr => first | (go_simp; done) | (go_simp; rfl))
   intro gb494 hg w2_ hbox hb
   refine hK.out _ _ (mm_held4 hHeld hb) (fun hHeld => ?_)
   clear hK K
   refine norm_ (a' := ?_) ?_ ?_
   rotate_left
   ·
    show Act.put _ (some 10) _ = _
    simp only [Act.put, List.setIfInBounds_toArray, List.set_cons_zero, List.set_cons_succ, i64_w, i32_w]
    rfl
   exact norm_ nm_ (hJ411 (v471, v474, v477, v481, v484, v487, gb494, gb495) _ ⟨hHeld, (Kd.R_below h_v471 hb), (Kd.S_below h_v474 hb), (Kd.R_below h_v477 hb), (Kd.R_below h_v481 hb), (Kd.R_below h_v484 hb), (Kd.S_below h_v487 hb), ⟨(by rw [hg]; exact hM_.size), hbox⟩, ⟨hl_gb495, blk_below hb_gb495 hb⟩, below_step hM_ hb⟩)
  rintro ⟨v471, v474, v477, v481, v484, v487, gb494⟩ w1_ ⟨hHeld, h_v471, h_v474, h_v477, h_v481, h_v484, h_v487, ⟨hl_gb494, hb_gb494⟩, hM_⟩
  refine norm_ (a' := ?_) ?_ ?_
  rotate_left
  ·
   simp only [putAll, Act.put, List.setIfInBounds_toArray, List.set_cons_zero, List.set_cons_succ]
   rfl
  refine one_ (i := 13) (N := some 11) (bt_ 16383 17) rfl rfl (one_of HT_.out (by kernel_rfl)) (by decide) (fun K hK => ?_)
  refine box_step ?hg (N := 11) ?hd (cs := #[.int .i64 0, .int .i64 0, .int .i64 0, .int .i64 0]) (t := 74) ?hr ?_; (case hd => rfl); (case hg => rfl); (case hr => first | (go_simp; done) | (go_simp; rfl))
  intro gb495 hg w2_ hbox hb
  refine hK.out _ _ (mm_held4 hHeld hb) (fun hHeld => ?_)
  clear hK K
  refine norm_ (a' := ?_) ?_ ?_
  rotate_left
  ·
   show Act.put _ (some 11) _ = _
   simp only [Act.put, List.setIfInBounds_toArray, List.set_cons_zero, List.set_cons_succ, i64_w, i32_w]
   rfl
  exact norm_ nm_ (hJ411 (v471, v474, v477, v481, v484, v487, gb494, gb495) _ ⟨hHeld, (Kd.R_below h_v471 hb), (Kd.S_below h_v474 hb), (Kd.R_below h_v477 hb), (Kd.R_below h_v481 hb), (Kd.R_below h_v484 hb), (Kd.S_below h_v487 hb), ⟨hl_gb494, blk_below hb_gb494 hb⟩, ⟨(by rw [hg]; exact hM_.size), hbox⟩, below_step hM_ hb⟩)
 rintro ⟨v471, v474, v477, v481, v484, v487, gb494, gb495⟩ w55 ⟨hHeld, h_v471, h_v474, h_v477, h_v481, h_v484, h_v487, ⟨hl_gb494, hb_gb494⟩, ⟨hl_gb495, hb_gb495⟩, hM_⟩
 have n0_ : Aside0 (Kd.R k95 95 w55 w.heap.size (fun k_ => some k_ ≠ (v484 : Value).ownBlock) v471 t470) := ⟨Kd.R_lower (Kd.R_mono (ok' := fun k_ => some k_ ≠ (v484 : Value).ownBlock) (Kd.R_apart' (Kd.R_apart' (h_v471) (Kd.R_typed h_v477) (by decide)) (Kd.R_typed h_v481) (by decide)) (fun k_ hk_ => by (try simp only [and_assoc, true_and, and_true] at hk_); simp only [hk_, ne_eq, not_false_eq_true, and_self, true_and, and_true])) (below_size HB.out)⟩
 have n1_ : Aside0 (Kd.S k119 119 w55 w.heap.size (fun k_ => some k_ ≠ (v471 : Value).ownBlock ∧ some k_ ≠ (v477 : Value).ownBlock ∧ some k_ ≠ (v481 : Value).ownBlock ∧ some k_ ≠ (v484 : Value).ownBlock ∧ some k_ ≠ (v487 : Value).ownBlock ∧ k_ ≠ gb465 ∧ k_ ≠ gb466 ∧ k_ ≠ gb494 ∧ k_ ≠ gb495) v474 t473) := ⟨Kd.S_lower (Kd.S_mono (ok' := fun k_ => some k_ ≠ (v471 : Value).ownBlock ∧ some k_ ≠ (v477 : Value).ownBlock ∧ some k_ ≠ (v481 : Value).ownBlock ∧ some k_ ≠ (v484 : Value).ownBlock ∧ some k_ ≠ (v487 : Value).ownBlock ∧ k_ ≠ gb465 ∧ k_ ≠ gb466 ∧ k_ ≠ gb494 ∧ k_ ≠ gb495) (Kd.S_types (Kd.S_types (Kd.S_types (Kd.S_types (Kd.S_apart' (Kd.S_apart' (h_v474) (Kd.R_typed h_v471) (by decide)) (Kd.R_typed h_v484) (by decide)) (blk_below BK465.out hM_) (by decide)) (blk_below BK466.out hM_) (by decide)) hb_gb494 (by decide)) hb_gb495 (by decide)) (fun k_ hk_ => by (try simp only [and_assoc, true_and, and_true] at hk_); simp only [hk_, ne_eq, not_false_eq_true, and_self, true_and, and_true])) (below_size HB.out)⟩
 have n2_ : Aside0 (Kd.R k122 122 w55 w.heap.size (fun _ => True) v477 t476) := ⟨Kd.R_lower (Kd.R_mono (ok' := fun _ => True) (Kd.R_apart' (Kd.R_apart' (Kd.R_apart' (h_v477) (Kd.R_typed h_v471) (by decide)) (Kd.R_typed h_v481) (by decide)) (Kd.R_typed h_v484) (by decide)) (fun _ _ => trivial)) (below_size HB.out)⟩
 have n3_ : Aside0 (Kd.R (Kd.int .i64) 3 w55 w.heap.size (fun _ => True) v481 t480) := ⟨Kd.R_lower (Kd.R_mono (ok' := fun _ => True) (Kd.R_apart' (Kd.R_apart' (Kd.R_apart' (h_v481) (Kd.R_typed h_v471) (by decide)) (Kd.R_typed h_v477) (by decide)) (Kd.R_typed h_v484) (by decide)) (fun _ _ => trivial)) (below_size HB.out)⟩
 have n4_ : Aside0 (Kd.R k95 95 w55 w.heap.size (fun k_ => some k_ ≠ (v471 : Value).ownBlock) v484 t483) := ⟨Kd.R_lower (Kd.R_mono (ok' := fun k_ => some k_ ≠ (v471 : Value).ownBlock) (Kd.R_apart' (Kd.R_apart' (h_v484) (Kd.R_typed h_v477) (by decide)) (Kd.R_typed h_v481) (by decide)) (fun k_ hk_ => by (try simp only [and_assoc, true_and, and_true] at hk_); simp only [hk_, ne_eq, not_false_eq_true, and_self, true_and, and_true])) (below_size HB.out)⟩
 have n5_ : Aside0 (Kd.S k119 119 w55 w.heap.size (fun k_ => some k_ ≠ (v471 : Value).ownBlock ∧ some k_ ≠ (v474 : Value).ownBlock ∧ some k_ ≠ (v477 : Value).ownBlock ∧ some k_ ≠ (v481 : Value).ownBlock ∧ some k_ ≠ (v484 : Value).ownBlock ∧ k_ ≠ gb465 ∧ k_ ≠ gb466 ∧ k_ ≠ gb494 ∧ k_ ≠ gb495) v487 t486) := ⟨Kd.S_lower (Kd.S_mono (ok' := fun k_ => some k_ ≠ (v471 : Value).ownBlock ∧ some k_ ≠ (v474 : Value).ownBlock ∧ some k_ ≠ (v477 : Value).ownBlock ∧ some k_ ≠ (v481 : Value).ownBlock ∧ some k_ ≠ (v484 : Value).ownBlock ∧ k_ ≠ gb465 ∧ k_ ≠ gb466 ∧ k_ ≠ gb494 ∧ k_ ≠ gb495) (Kd.S_types (Kd.S_types (Kd.S_types (Kd.S_types (Kd.S_apart' (Kd.S_apart' (h_v487) (Kd.R_typed h_v471) (by decide)) (Kd.R_typed h_v484) (by decide)) (blk_below BK465.out hM_) (by decide)) (blk_below BK466.out hM_) (by decide)) hb_gb494 (by decide)) hb_gb495 (by decide)) (fun k_ hk_ => by (try simp only [and_assoc, true_and, and_true] at hk_); simp only [hk_, ne_eq, not_false_eq_true, and_self, true_and, and_true])) (below_size HB.out)⟩
 have n6_ : Aside0 (w55.heap[gb465]? = some (.cells #[.slice A0_0 l0_0.length c0_0, .slice A0_1 l0_1.length c0_1] 25 (0, 0))) := ⟨(blk_below BK465.out hM_)⟩
 have n7_ : Aside0 (w55.heap[gb466]? = some (.cells #[.int .i64 a3_0, .slice A3_1 l3_1.length c3_1] 41 (0, 0))) := ⟨(blk_below BK466.out hM_)⟩
 have n8_ : Aside0 (w55.heap[gb494]? = some (.cells #[.slice none 0 0, .slice none 0 0] 31 (0, 0))) := ⟨hb_gb494⟩
 have n9_ : Aside0 (w55.heap[gb495]? = some (.cells #[.int .i64 0, .int .i64 0, .int .i64 0, .int .i64 0] 74 (0, 0))) := ⟨hb_gb495⟩
 have n10_ : Aside0 (w.heap.size ≤ gb494) := ⟨Nat.le_trans (below_size HB.out) hl_gb494⟩
 have n11_ : Aside0 (w.heap.size ≤ gb494) := ⟨Nat.le_trans (below_size HB.out) hl_gb494⟩
 have n12_ : Aside0 (gb465 ≠ gb494) := ⟨Nat.ne_of_lt (Nat.lt_of_lt_of_le (blk_lt BK465.out) hl_gb494)⟩
 have n13_ : Aside0 (gb494 ≠ gb465) := ⟨Nat.ne_of_gt (Nat.lt_of_lt_of_le (blk_lt BK465.out) hl_gb494)⟩
 have n14_ : Aside0 (gb466 ≠ gb494) := ⟨Nat.ne_of_lt (Nat.lt_of_lt_of_le (blk_lt BK466.out) hl_gb494)⟩
 have n15_ : Aside0 (gb494 ≠ gb466) := ⟨Nat.ne_of_gt (Nat.lt_of_lt_of_le (blk_lt BK466.out) hl_gb494)⟩
 have n16_ : Aside0 (gb495 ≠ gb494) := ⟨mm_nb hb_gb495 hb_gb494 (by decide)⟩
 have n17_ : Aside0 (gb494 ≠ gb495) := ⟨mm_nb hb_gb494 hb_gb495 (by decide)⟩
 have n18_ : Aside0 (w.heap.size ≤ gb495) := ⟨Nat.le_trans (below_size HB.out) hl_gb495⟩
 have n19_ : Aside0 (w.heap.size ≤ gb495) := ⟨Nat.le_trans (below_size HB.out) hl_gb495⟩
 have n20_ : Aside0 (gb465 ≠ gb495) := ⟨Nat.ne_of_lt (Nat.lt_of_lt_of_le (blk_lt BK465.out) hl_gb495)⟩
 have n21_ : Aside0 (gb495 ≠ gb465) := ⟨Nat.ne_of_gt (Nat.lt_of_lt_of_le (blk_lt BK465.out) hl_gb495)⟩
 have n22_ : Aside0 (gb466 ≠ gb495) := ⟨Nat.ne_of_lt (Nat.lt_of_lt_of_le (blk_lt BK466.out) hl_gb495)⟩
 have n23_ : Aside0 (gb495 ≠ gb466) := ⟨Nat.ne_of_gt (Nat.lt_of_lt_of_le (blk_lt BK466.out) hl_gb495)⟩
 have n24_ : Aside0 (Below w.heap.size w w55) := ⟨below_step HB.out hM_⟩
 clear BK465 BK466 HB h_v471 h_v474 h_v477 h_v481 h_v484 h_v487 hl_gb494 hb_gb494 hl_gb495 hb_gb495 hM_
 have HO472 := n0_
 have HO475 := n1_
 have HO478 := n2_
 have HO482 := n3_
 have HO485 := n4_
 have HO488 := n5_
 have BK465 := n6_
 have BK466 := n7_
 have BK494 := n8_
 have BK495 := n9_
 have GW494 := n10_
 have GE494 := n11_
 have NB465_494 := n12_
 have NB494_465 := n13_
 have NB466_494 := n14_
 have NB494_466 := n15_
 have NB495_494 := n16_
 have NB494_495 := n17_
 have GW495 := n18_
 have GE495 := n19_
 have NB465_495 := n20_
 have NB495_465 := n21_
 have NB466_495 := n22_
 have NB495_466 := n23_
 have HB := n24_
 clear n0_ n1_ n2_ n3_ n4_ n5_ n6_ n7_ n8_ n9_ n10_ n11_ n12_ n13_ n14_ n15_ n16_ n17_ n18_ n19_ n20_ n21_ n22_ n23_ n24_
 obtain ⟨Ao56, co56, eo56⟩ := Kd.R_slice HO485.out
 (first | subst eo56 | (injection eo56 with f1_ f2_ f3_; have f4_ := f1_.symm; have f5_ := f3_.symm; clear f1_ f2_ f3_; subst f4_; subst f5_))
 obtain ⟨Ao58, co58, eo58⟩ := Kd.S_slice HO488.out
 (first | subst eo58 | (injection eo58 with f1_ f2_ f3_; have f4_ := f1_.symm; have f5_ := f3_.symm; clear f1_ f2_ f3_; subst f4_; subst f5_))
 refine norm_ (a' := ?_) ?_ ?_
 rotate_left
 ·
  simp only [putAll, Act.put, List.setIfInBounds_toArray, List.set_cons_zero, List.set_cons_succ]
  rfl
 refine one_ (i := 14) (N := none) (bt_ 32767 17) rfl rfl (one_of HT_.out (by kernel_rfl)) (by decide) (fun K hK => ?_)
 have hs57 : w55.cell? ⟨gb494, 0, none⟩ = some (.slice none 0 0) := (blk_cell BK494.out 0).trans rfl
 have hfs57 := blk_frozen BK494.out 0
 have hns57_0 := NB465_494.out
 have hns57_1 := NB466_494.out
 have hns57_3 := NB495_494.out
 have hms57_0 := NB494_465.out
 have hms57_1 := NB494_466.out
 have hms57_3 := NB494_495.out
 have hs59 : w55.cell? ⟨gb494, 1, none⟩ = some (.slice none 0 0) := (blk_cell BK494.out 1).trans rfl
 have hfs59 := blk_frozen BK494.out 1
 have hns59_0 := NB465_494.out
 have hns59_1 := NB466_494.out
 have hns59_3 := NB495_494.out
 have hms59_0 := NB494_465.out
 have hms59_1 := NB494_466.out
 have hms59_3 := NB494_495.out
 refine skip_ (w1 := ?_) (by rfl) rfl ?_ ?_
 rotate_left
 ·
  go_simp
  rfl
 refine hK.out _ _ ⟨((cell_far (p := ⟨gb494, _, none⟩) NB465_494.out _).trans (((cell_far (p := ⟨gb494, _, none⟩) NB465_494.out _).trans (hHeld.1)))), ((cell_far (p := ⟨gb494, _, none⟩) NB465_494.out _).trans (((cell_far (p := ⟨gb494, _, none⟩) NB465_494.out _).trans (hHeld.2.1)))), ((cell_far (p := ⟨gb494, _, none⟩) NB466_494.out _).trans (((cell_far (p := ⟨gb494, _, none⟩) NB466_494.out _).trans (hHeld.2.2.1)))), ((cell_far (p := ⟨gb494, _, none⟩) NB466_494.out _).trans (((cell_far (p := ⟨gb494, _, none⟩) NB466_494.out _).trans (hHeld.2.2.2))))⟩ (fun hHeld => ?_)
 clear hK K
 refine one_ (i := 15) (N := none) (bt_ 65535 17) rfl rfl (one_of HT_.out (by kernel_rfl)) (by decide) (fun K hK => ?_)
 have hs60 : w55.cell? ⟨gb495, 0, none⟩ = some (.int .i64 0) := (blk_cell BK495.out 0).trans rfl
 have hfs60 := blk_frozen BK495.out 0
 have hns60_0 := NB465_495.out
 have hns60_1 := NB466_495.out
 have hns60_2 := NB494_495.out
 have hms60_0 := NB495_465.out
 have hms60_1 := NB495_466.out
 have hms60_2 := NB495_494.out
 have hs61 : w55.cell? ⟨gb495, 1, none⟩ = some (.int .i64 0) := (blk_cell BK495.out 1).trans rfl
 have hfs61 := blk_frozen BK495.out 1
 have hns61_0 := NB465_495.out
 have hns61_1 := NB466_495.out
 have hns61_2 := NB494_495.out
 have hms61_0 := NB495_465.out
 have hms61_1 := NB495_466.out
 have hms61_2 := NB495_494.out
 have hs62 : w55.cell? ⟨gb495, 2, none⟩ = some (.int .i64 0) := (blk_cell BK495.out 2).trans rfl
 have hfs62 := blk_frozen BK495.out 2
 have hns62_0 := NB465_495.out
 have hns62_1 := NB466_495.out
 have hns62_2 := NB494_495.out
 have hms62_0 := NB495_465.out
 have hms62_1 := NB495_466.out
 have hms62_2 := NB495_494.out
 have hs63 : w55.cell? ⟨gb495, 3, none⟩ = some (.int .i64 0) := (blk_cell BK495.out 3).trans rfl
 have hfs63 := blk_frozen BK495.out 3
 have hns63_0 := NB465_495.out
 have hns63_1 := NB466_495.out
 have hns63_2 := NB494_495.out
 have hms63_0 := NB495_465.out
 have hms63_1 := NB495_466.out
 have hms63_2 := NB495_494.out
 refine skip_ (w1 := ?_) (by rfl) rfl ?_ ?_
 rotate_left
 ·
  go_simp
  rfl
 refine hK.out _ _ ⟨((cell_far (p := ⟨gb495, _, none⟩) NB465_495.out _).trans (((cell_far (p := ⟨gb495, _, none⟩) NB465_495.out _).trans (((cell_far (p := ⟨gb495, _, none⟩) NB465_495.out _).trans (((cell_far (p := ⟨gb495, _, none⟩) NB465_495.out _).trans (hHeld.1)))))))), ((cell_far (p := ⟨gb495, _, none⟩) NB465_495.out _).trans (((cell_far (p := ⟨gb495, _, none⟩) NB465_495.out _).trans (((cell_far (p := ⟨gb495, _, none⟩) NB465_495.out _).trans (((cell_far (p := ⟨gb495, _, none⟩) NB465_495.out _).trans (hHeld.2.1)))))))), ((cell_far (p := ⟨gb495, _, none⟩) NB466_495.out _).trans (((cell_far (p := ⟨gb495, _, none⟩) NB466_495.out _).trans (((cell_far (p := ⟨gb495, _, none⟩) NB466_495.out _).trans (((cell_far (p := ⟨gb495, _, none⟩) NB466_495.out _).trans (hHeld.2.2.1)))))))), ((cell_far (p := ⟨gb495, _, none⟩) NB466_495.out _).trans (((cell_far (p := ⟨gb495, _, none⟩) NB466_495.out _).trans (((cell_far (p := ⟨gb495, _, none⟩) NB466_495.out _).trans (((cell_far (p := ⟨gb495, _, none⟩) NB466_495.out _).trans (hHeld.2.2.2))))))))⟩ (fun hHeld => ?_)
 clear hK K
 refine pu_ 16 12 (bt_ 131071 17) ?_
 refine done_ (done_of HT_.out (by kernel_rfl)) ?_
 have hnb64 := NB465_494.out
 have hnc64 := NB494_465.out
 have hnb65 := NB465_495.out
 have hnc65 := NB495_465.out
 obtain ⟨hcz66_0, hcz66_1, hfz66_0, hfz66_1⟩ := cz2_ BK465
 go_upto_region 16 with (first | ((with_reducible refine gate_callee (f := 11) rfl ?_); refine goesL_ (some 53) rfl rfl Try.func11 (by kernel_rfl) rfl #[.agg #[.slice A0_0 l0_0.length c0_0, .slice A0_1 l0_1.length c0_1]] rfl al_ ?_; (with_reducible refine (laws_toMem.calls k _ _ l0_0 _ _ l0_1 t496 t499 _ ?side1 ?side2 ?side3 ?side4 A32.out).mono ?_); (case side1 => exact Kd.C_below HR0_0.out (hb_ HB)); (case side2 => exact HC0_0.out); (case side3 => exact Kd.C_below HR0_1.out (hb_ HB)); (case side4 => exact HC0_1.out); rintro e w67 ⟨v497, v500, rfl, ho0, ho1, hb⟩; refine ⟨_, rfl, ?_⟩; obtain ⟨nn1_, hnn1_⟩ := mm_mile hb; have HO498 := A_ (Kd.R_lower (Kd.R_new' (Kd.R_new' ho0 (Kd.R_lt (by (with_reducible repeat (first | apply Kd.R_alloc | apply Kd.R_drewN | apply Kd.R_drew)); exact (Kd.R_mono (Kd.R_mono (Kd.R_far (p := ⟨gb495, 3, none⟩) (Kd.R_far (p := ⟨gb495, 2, none⟩) (Kd.R_far (p := ⟨gb495, 1, none⟩) (Kd.R_far (p := ⟨gb495, 0, none⟩) (Kd.R_far (p := ⟨gb494, 1, none⟩) (Kd.R_far (p := ⟨gb494, 0, none⟩) (Kd.R_types (Kd.R_types HO472.out BK494.out (by decide)) BK495.out (by decide)) (fun _ hk => hk.1.2) (.slice Ao56 t483.length co56)) (fun _ hk => hk.1.2) (.slice Ao58 t486.length co58)) (fun _ hk => hk.2) (.int .i64 t489)) (fun _ hk => hk.2) (.int .i64 t490)) (fun _ hk => hk.2) (.int .i64 t491)) (fun _ hk => hk.2) (.int .i64 t492)) (fun _ h_ => h_.1)) (fun _ h_ => h_.1))))) (Kd.R_lt (by (with_reducible repeat (first | apply Kd.R_alloc | apply Kd.R_drewN | apply Kd.R_drew)); exact (Kd.R_mono (Kd.R_mono (Kd.R_far (p := ⟨gb495, 3, none⟩) (Kd.R_far (p := ⟨gb495, 2, none⟩) (Kd.R_far (p := ⟨gb495, 1, none⟩) (Kd.R_far (p := ⟨gb495, 0, none⟩) (Kd.R_far (p := ⟨gb494, 1, none⟩) (Kd.R_far (p := ⟨gb494, 0, none⟩) (Kd.R_types (Kd.R_types HO485.out BK494.out (by decide)) BK495.out (by decide)) (fun _ hk => hk.1.2) (.slice Ao56 t483.length co56)) (fun _ hk => hk.1.2) (.slice Ao58 t486.length co58)) (fun _ hk => hk.2) (.int .i64 t489)) (fun _ hk => hk.2) (.int .i64 t490)) (fun _ hk => hk.2) (.int .i64 t491)) (fun _ hk => hk.2) (.int .i64 t492)) (fun _ h_ => h_.1)) (fun _ h_ => h_.1))))) (below_size (hb_ HB))); have HO501 := A_ (Kd.S_lower (Kd.S_mono (ok' := fun k_ => some k_ ≠ (v497 : Value).ownBlock ∧ some k_ ≠ (v471 : Value).ownBlock ∧ some k_ ≠ (v474 : Value).ownBlock ∧ some k_ ≠ (v477 : Value).ownBlock ∧ some k_ ≠ (v481 : Value).ownBlock ∧ some k_ ≠ (.slice Ao56 t483.length co56 : Value).ownBlock ∧ nn1_ ≤ k_ ∧ k_ ≠ gb465 ∧ k_ ≠ gb466 ∧ k_ ≠ gb494 ∧ k_ ≠ gb495) ((Kd.S_bound (Kd.S_apart' ho1 (Kd.R_typed ho0) (by decide)))) (fun k_ hk_ => ⟨hk_.1.2, (Kd.fresh' (Kd.R_lt (by (with_reducible repeat (first | apply Kd.R_alloc | apply Kd.R_drewN | apply Kd.R_drew)); exact (Kd.R_mono (Kd.R_mono (Kd.R_far (p := ⟨gb495, 3, none⟩) (Kd.R_far (p := ⟨gb495, 2, none⟩) (Kd.R_far (p := ⟨gb495, 1, none⟩) (Kd.R_far (p := ⟨gb495, 0, none⟩) (Kd.R_far (p := ⟨gb494, 1, none⟩) (Kd.R_far (p := ⟨gb494, 0, none⟩) (Kd.R_types (Kd.R_types HO472.out BK494.out (by decide)) BK495.out (by decide)) (fun _ hk => hk.1.2) (.slice Ao56 t483.length co56)) (fun _ hk => hk.1.2) (.slice Ao58 t486.length co58)) (fun _ hk => hk.2) (.int .i64 t489)) (fun _ hk => hk.2) (.int .i64 t490)) (fun _ hk => hk.2) (.int .i64 t491)) (fun _ hk => hk.2) (.int .i64 t492)) (fun _ h_ => h_.1)) (fun _ h_ => h_.1)))) k_ hk_.2.1), (Kd.fresh' (Kd.S_lt (by (with_reducible repeat (first | apply Kd.S_alloc | apply Kd.S_drewN | apply Kd.S_drew)); exact (Kd.S_mono (Kd.S_mono (Kd.S_far (p := ⟨gb495, 3, none⟩) (Kd.S_far (p := ⟨gb495, 2, none⟩) (Kd.S_far (p := ⟨gb495, 1, none⟩) (Kd.S_far (p := ⟨gb495, 0, none⟩) (Kd.S_far (p := ⟨gb494, 1, none⟩) (Kd.S_far (p := ⟨gb494, 0, none⟩) (Kd.S_mono (Kd.S_mono HO475.out (fun k_ hk => (⟨hk, hk.2.2.2.2.2.2.2.1⟩ : _ ∧ k_ ≠ gb494))) (fun k_ hk => (⟨hk, hk.1.2.2.2.2.2.2.2.2⟩ : _ ∧ k_ ≠ gb495))) (fun _ hk => hk.1.2) (.slice Ao56 t483.length co56)) (fun _ hk => hk.1.2) (.slice Ao58 t486.length co58)) (fun _ hk => hk.2) (.int .i64 t489)) (fun _ hk => hk.2) (.int .i64 t490)) (fun _ hk => hk.2) (.int .i64 t491)) (fun _ hk => hk.2) (.int .i64 t492)) (fun _ h_ => h_.1)) (fun _ h_ => h_.1)))) k_ hk_.2.1), (Kd.fresh' (Kd.R_lt (by (with_reducible repeat (first | apply Kd.R_alloc | apply Kd.R_drewN | apply Kd.R_drew)); exact (Kd.R_mono (Kd.R_mono (Kd.R_far (p := ⟨gb495, 3, none⟩) (Kd.R_far (p := ⟨gb495, 2, none⟩) (Kd.R_far (p := ⟨gb495, 1, none⟩) (Kd.R_far (p := ⟨gb495, 0, none⟩) (Kd.R_far (p := ⟨gb494, 1, none⟩) (Kd.R_far (p := ⟨gb494, 0, none⟩) (Kd.R_types (Kd.R_types HO478.out BK494.out (by decide)) BK495.out (by decide)) (fun _ hk => hk.1.2) (.slice Ao56 t483.length co56)) (fun _ hk => hk.1.2) (.slice Ao58 t486.length co58)) (fun _ hk => hk.2) (.int .i64 t489)) (fun _ hk => hk.2) (.int .i64 t490)) (fun _ hk => hk.2) (.int .i64 t491)) (fun _ hk => hk.2) (.int .i64 t492)) (fun _ h_ => h_.1)) (fun _ h_ => h_.1)))) k_ hk_.2.1), (Kd.fresh' (Kd.R_lt (by (with_reducible repeat (first | apply Kd.R_alloc | apply Kd.R_drewN | apply Kd.R_drew)); exact (Kd.R_mono (Kd.R_mono (Kd.R_far (p := ⟨gb495, 3, none⟩) (Kd.R_far (p := ⟨gb495, 2, none⟩) (Kd.R_far (p := ⟨gb495, 1, none⟩) (Kd.R_far (p := ⟨gb495, 0, none⟩) (Kd.R_far (p := ⟨gb494, 1, none⟩) (Kd.R_far (p := ⟨gb494, 0, none⟩) (Kd.R_types (Kd.R_types HO482.out BK494.out (by decide)) BK495.out (by decide)) (fun _ hk => hk.1.2) (.slice Ao56 t483.length co56)) (fun _ hk => hk.1.2) (.slice Ao58 t486.length co58)) (fun _ hk => hk.2) (.int .i64 t489)) (fun _ hk => hk.2) (.int .i64 t490)) (fun _ hk => hk.2) (.int .i64 t491)) (fun _ hk => hk.2) (.int .i64 t492)) (fun _ h_ => h_.1)) (fun _ h_ => h_.1)))) k_ hk_.2.1), (Kd.fresh' (Kd.R_lt (by (with_reducible repeat (first | apply Kd.R_alloc | apply Kd.R_drewN | apply Kd.R_drew)); exact (Kd.R_mono (Kd.R_mono (Kd.R_far (p := ⟨gb495, 3, none⟩) (Kd.R_far (p := ⟨gb495, 2, none⟩) (Kd.R_far (p := ⟨gb495, 1, none⟩) (Kd.R_far (p := ⟨gb495, 0, none⟩) (Kd.R_far (p := ⟨gb494, 1, none⟩) (Kd.R_far (p := ⟨gb494, 0, none⟩) (Kd.R_types (Kd.R_types HO485.out BK494.out (by decide)) BK495.out (by decide)) (fun _ hk => hk.1.2) (.slice Ao56 t483.length co56)) (fun _ hk => hk.1.2) (.slice Ao58 t486.length co58)) (fun _ hk => hk.2) (.int .i64 t489)) (fun _ hk => hk.2) (.int .i64 t490)) (fun _ hk => hk.2) (.int .i64 t491)) (fun _ hk => hk.2) (.int .i64 t492)) (fun _ h_ => h_.1)) (fun _ h_ => h_.1)))) k_ hk_.2.1), (Nat.le_trans (Nat.le_of_eq hnn1_) hk_.2.1), (Kd.freshB (g := gb465) (o := .cells #[.slice A0_0 l0_0.length c0_0, .slice A0_1 l0_1.length c0_1] 25 (0, 0)) (bk_ BK465) k_ hk_.2.1), (Kd.freshB (g := gb466) (o := .cells #[.int .i64 a3_0, .slice A3_1 l3_1.length c3_1] 41 (0, 0)) (bk_ BK466) k_ hk_.2.1), (Kd.freshB (g := gb494) (o := .cells #[.slice Ao56 t483.length co56, .slice Ao58 t486.length co58] 31 (0, 0)) (bp_ BK494) k_ hk_.2.1), (Kd.freshB (g := gb495) (o := .cells #[.int .i64 t489, .int .i64 t490, .int .i64 t491, .int .i64 t492] 74 (0, 0)) (bp_ BK495) k_ hk_.2.1)⟩)) (below_size (hb_ HB))); replace HO472 := A_ (Kd.R_elder' (by (with_reducible repeat (first | apply Kd.R_alloc | apply Kd.R_drewN | apply Kd.R_drew)); exact (Kd.R_mono (Kd.R_mono (Kd.R_far (p := ⟨gb495, 3, none⟩) (Kd.R_far (p := ⟨gb495, 2, none⟩) (Kd.R_far (p := ⟨gb495, 1, none⟩) (Kd.R_far (p := ⟨gb495, 0, none⟩) (Kd.R_far (p := ⟨gb494, 1, none⟩) (Kd.R_far (p := ⟨gb494, 0, none⟩) (Kd.R_types (Kd.R_types HO472.out BK494.out (by decide)) BK495.out (by decide)) (fun _ hk => hk.1.2) (.slice Ao56 t483.length co56)) (fun _ hk => hk.1.2) (.slice Ao58 t486.length co58)) (fun _ hk => hk.2) (.int .i64 t489)) (fun _ hk => hk.2) (.int .i64 t490)) (fun _ hk => hk.2) (.int .i64 t491)) (fun _ hk => hk.2) (.int .i64 t492)) (fun _ h_ => h_.1)) (fun _ h_ => h_.1))) (Kd.R_base ho0) hb); replace HO475 := A_ (mm_lt hnn1_ (Kd.S_told (Kd.S_old (by (with_reducible repeat (first | apply Kd.S_alloc | apply Kd.S_drewN | apply Kd.S_drew)); exact (Kd.S_mono (Kd.S_mono (Kd.S_far (p := ⟨gb495, 3, none⟩) (Kd.S_far (p := ⟨gb495, 2, none⟩) (Kd.S_far (p := ⟨gb495, 1, none⟩) (Kd.S_far (p := ⟨gb495, 0, none⟩) (Kd.S_far (p := ⟨gb494, 1, none⟩) (Kd.S_far (p := ⟨gb494, 0, none⟩) (Kd.S_mono (Kd.S_mono HO475.out (fun k_ hk => (⟨hk, hk.2.2.2.2.2.2.2.1⟩ : _ ∧ k_ ≠ gb494))) (fun k_ hk => (⟨hk, hk.1.2.2.2.2.2.2.2.2⟩ : _ ∧ k_ ≠ gb495))) (fun _ hk => hk.1.2) (.slice Ao56 t483.length co56)) (fun _ hk => hk.1.2) (.slice Ao58 t486.length co58)) (fun _ hk => hk.2) (.int .i64 t489)) (fun _ hk => hk.2) (.int .i64 t490)) (fun _ hk => hk.2) (.int .i64 t491)) (fun _ hk => hk.2) (.int .i64 t492)) (fun _ h_ => h_.1)) (fun _ h_ => h_.1))) hb) (Kd.R_base ho0))); replace HO478 := A_ (Kd.R_below (by (with_reducible repeat (first | apply Kd.R_alloc | apply Kd.R_drewN | apply Kd.R_drew)); exact (Kd.R_mono (Kd.R_mono (Kd.R_far (p := ⟨gb495, 3, none⟩) (Kd.R_far (p := ⟨gb495, 2, none⟩) (Kd.R_far (p := ⟨gb495, 1, none⟩) (Kd.R_far (p := ⟨gb495, 0, none⟩) (Kd.R_far (p := ⟨gb494, 1, none⟩) (Kd.R_far (p := ⟨gb494, 0, none⟩) (Kd.R_types (Kd.R_types HO478.out BK494.out (by decide)) BK495.out (by decide)) (fun _ hk => hk.1.2) (.slice Ao56 t483.length co56)) (fun _ hk => hk.1.2) (.slice Ao58 t486.length co58)) (fun _ hk => hk.2) (.int .i64 t489)) (fun _ hk => hk.2) (.int .i64 t490)) (fun _ hk => hk.2) (.int .i64 t491)) (fun _ hk => hk.2) (.int .i64 t492)) (fun _ h_ => h_.1)) (fun _ h_ => h_.1))) hb); replace HO482 := A_ (Kd.R_below (by (with_reducible repeat (first | apply Kd.R_alloc | apply Kd.R_drewN | apply Kd.R_drew)); exact (Kd.R_mono (Kd.R_mono (Kd.R_far (p := ⟨gb495, 3, none⟩) (Kd.R_far (p := ⟨gb495, 2, none⟩) (Kd.R_far (p := ⟨gb495, 1, none⟩) (Kd.R_far (p := ⟨gb495, 0, none⟩) (Kd.R_far (p := ⟨gb494, 1, none⟩) (Kd.R_far (p := ⟨gb494, 0, none⟩) (Kd.R_types (Kd.R_types HO482.out BK494.out (by decide)) BK495.out (by decide)) (fun _ hk => hk.1.2) (.slice Ao56 t483.length co56)) (fun _ hk => hk.1.2) (.slice Ao58 t486.length co58)) (fun _ hk => hk.2) (.int .i64 t489)) (fun _ hk => hk.2) (.int .i64 t490)) (fun _ hk => hk.2) (.int .i64 t491)) (fun _ hk => hk.2) (.int .i64 t492)) (fun _ h_ => h_.1)) (fun _ h_ => h_.1))) hb); replace HO485 := A_ (Kd.R_elder' (by (with_reducible repeat (first | apply Kd.R_alloc | apply Kd.R_drewN | apply Kd.R_drew)); exact (Kd.R_mono (Kd.R_mono (Kd.R_far (p := ⟨gb495, 3, none⟩) (Kd.R_far (p := ⟨gb495, 2, none⟩) (Kd.R_far (p := ⟨gb495, 1, none⟩) (Kd.R_far (p := ⟨gb495, 0, none⟩) (Kd.R_far (p := ⟨gb494, 1, none⟩) (Kd.R_far (p := ⟨gb494, 0, none⟩) (Kd.R_types (Kd.R_types HO485.out BK494.out (by decide)) BK495.out (by decide)) (fun _ hk => hk.1.2) (.slice Ao56 t483.length co56)) (fun _ hk => hk.1.2) (.slice Ao58 t486.length co58)) (fun _ hk => hk.2) (.int .i64 t489)) (fun _ hk => hk.2) (.int .i64 t490)) (fun _ hk => hk.2) (.int .i64 t491)) (fun _ hk => hk.2) (.int .i64 t492)) (fun _ h_ => h_.1)) (fun _ h_ => h_.1))) (Kd.R_base ho0) hb); replace HO488 := A_ (mm_lt hnn1_ (Kd.S_told (Kd.S_old (by (with_reducible repeat (first | apply Kd.S_alloc | apply Kd.S_drewN | apply Kd.S_drew)); exact (Kd.S_mono (Kd.S_mono (Kd.S_far (p := ⟨gb495, 3, none⟩) (Kd.S_far (p := ⟨gb495, 2, none⟩) (Kd.S_far (p := ⟨gb495, 1, none⟩) (Kd.S_far (p := ⟨gb495, 0, none⟩) (Kd.S_far (p := ⟨gb494, 1, none⟩) (Kd.S_far (p := ⟨gb494, 0, none⟩) (Kd.S_mono (Kd.S_mono HO488.out (fun k_ hk => (⟨hk, hk.2.2.2.2.2.2.2.1⟩ : _ ∧ k_ ≠ gb494))) (fun k_ hk => (⟨hk, hk.1.2.2.2.2.2.2.2.2⟩ : _ ∧ k_ ≠ gb495))) (fun _ hk => hk.1.2) (.slice Ao56 t483.length co56)) (fun _ hk => hk.1.2) (.slice Ao58 t486.length co58)) (fun _ hk => hk.2) (.int .i64 t489)) (fun _ hk => hk.2) (.int .i64 t490)) (fun _ hk => hk.2) (.int .i64 t491)) (fun _ hk => hk.2) (.int .i64 t492)) (fun _ h_ => h_.1)) (fun _ h_ => h_.1))) hb) (Kd.R_base ho0))); replace BK465 := bb_ BK465 hb; replace BK466 := bb_ BK466 hb; replace BK494 := bq_ (o' := .cells #[.slice Ao56 t483.length co56, .slice Ao58 t486.length co58] 31 (0, 0)) BK494 hb; replace BK495 := bq_ (o' := .cells #[.int .i64 t489, .int .i64 t490, .int .i64 t491, .int .i64 t492] 74 (0, 0)) BK495 hb; replace HB := hs_ HB hb; (try clear hnn1_); (try clear hb); (try clear hb2); (try clear hk); (try clear hi); (try clear ho0); (try clear ho1)) | ((with_reducible refine gate_dst (N := 13) rfl ?_); refine bx_ HB rfl (N := 13) rfl (cs := #[.slice none 0 0, .slice none 0 0]) (t := 31) hr_ ?_; clear HB; intro gb502 w68 hg hb BK502 GW502 HB; have NB465_502 := ng_ BK465 hg; have NB502_465 := ns_ (ng_ BK465 hg); have NB466_502 := ng_ BK466 hg; have NB502_466 := ns_ (ng_ BK466 hg); have NB494_502 := ng_ BK494 hg; have NB502_494 := ns_ (ng_ BK494 hg); have NB495_502 := ng_ BK495 hg; have NB502_495 := ns_ (ng_ BK495 hg); replace HO472 := A_ (Kd.R_below (rb_ HO472.out) hb); replace HO475 := A_ (Kd.S_below (Kd.S_elderB (sb_ HO475.out) gb502 (Nat.le_of_eq hg.symm)) hb); replace HO478 := A_ (Kd.R_below (rb_ HO478.out) hb); replace HO482 := A_ (Kd.R_below (rb_ HO482.out) hb); replace HO485 := A_ (Kd.R_below (rb_ HO485.out) hb); replace HO488 := A_ (Kd.S_below (Kd.S_elderB (sb_ HO488.out) gb502 (Nat.le_of_eq hg.symm)) hb); replace HO498 := A_ (Kd.R_below (rb_ HO498.out) hb); replace HO501 := A_ (Kd.S_below (Kd.S_elderB (sb_ HO501.out) gb502 (Nat.le_of_eq hg.symm)) hb); replace BK465 := bb_ BK465 hb; replace BK466 := bb_ BK466 hb; replace BK494 := bb_ BK494 hb; replace BK495 := bb_ BK495 hb; clear hb hg; obtain ⟨Ao69, co69, eo69⟩ := Kd.R_slice HO498.out; subst eo69; have hnb70 := NB502_465.out; have hnc70 := NB465_502.out; have hnb71 := NB502_466.out; have hnc71 := NB466_502.out; have hnb72 := NB502_494.out; have hnc72 := NB494_502.out; have hnb73 := NB502_495.out; have hnc73 := NB495_502.out; obtain ⟨hcz74_0, hcz74_1, hfz74_0, hfz74_1⟩ := cz2_ BK502; obtain ⟨Ao75, co75, eo75⟩ := Kd.S_slice HO501.out; subst eo75) | ((with_reducible refine gate_callee (f := 44) rfl ?_); refine goesL_ (some 55) rfl rfl Try.func44 (by kernel_rfl) rfl #[.slice A2 l2.length c2] rfl al_ ?_; (with_reducible refine (laws_toEntryS.calls k _ _ l2 t503 _ ?side1 ?side2 A33.out).mono ?_); (case side1 => exact Kd.C_below HR2.out (hb_ HB)); (case side2 => exact HC2.out); rintro e w76 ⟨v504, rfl, ho0, hb⟩; refine ⟨_, rfl, ?_⟩; have HO505 := A_ (Kd.R_lower (Kd.R_new' ho0 (Kd.R_lt (by (with_reducible repeat (first | apply Kd.R_alloc | apply Kd.R_drewN | apply Kd.R_drew)); exact (Kd.R_mono (Kd.R_far (p := ⟨gb502, 1, none⟩) (Kd.R_far (p := ⟨gb502, 0, none⟩) (Kd.R_types HO478.out BK502.out (by decide)) (fun _ hk => hk.2) (.slice Ao69 t496.length co69)) (fun _ hk => hk.2) (.slice Ao75 t499.length co75)) (fun _ h_ => h_.1))))) (below_size (hb_ HB))); replace HO472 := A_ (Kd.R_below (by (with_reducible repeat (first | apply Kd.R_alloc | apply Kd.R_drewN | apply Kd.R_drew)); exact (Kd.R_mono (Kd.R_far (p := ⟨gb502, 1, none⟩) (Kd.R_far (p := ⟨gb502, 0, none⟩) (Kd.R_types HO472.out BK502.out (by decide)) (fun _ hk => hk.2) (.slice Ao69 t496.length co69)) (fun _ hk => hk.2) (.slice Ao75 t499.length co75)) (fun _ h_ => h_.1))) hb); replace HO475 := A_ (Kd.S_elder' (by (with_reducible repeat (first | apply Kd.S_alloc | apply Kd.S_drewN | apply Kd.S_drew)); exact (Kd.S_mono (Kd.S_far (p := ⟨gb502, 1, none⟩) (Kd.S_far (p := ⟨gb502, 0, none⟩) (Kd.S_mono HO475.out (fun k_ hk => (⟨hk, hk.2⟩ : _ ∧ k_ ≠ gb502))) (fun _ hk => hk.2) (.slice Ao69 t496.length co69)) (fun _ hk => hk.2) (.slice Ao75 t499.length co75)) (fun _ h_ => h_.1))) (Kd.R_base ho0) hb); replace HO478 := A_ (Kd.R_elder' (by (with_reducible repeat (first | apply Kd.R_alloc | apply Kd.R_drewN | apply Kd.R_drew)); exact (Kd.R_mono (Kd.R_far (p := ⟨gb502, 1, none⟩) (Kd.R_far (p := ⟨gb502, 0, none⟩) (Kd.R_types HO478.out BK502.out (by decide)) (fun _ hk => hk.2) (.slice Ao69 t496.length co69)) (fun _ hk => hk.2) (.slice Ao75 t499.length co75)) (fun _ h_ => h_.1))) (Kd.R_base ho0) hb); replace HO482 := A_ (Kd.R_below (by (with_reducible repeat (first | apply Kd.R_alloc | apply Kd.R_drewN | apply Kd.R_drew)); exact (Kd.R_mono (Kd.R_far (p := ⟨gb502, 1, none⟩) (Kd.R_far (p := ⟨gb502, 0, none⟩) (Kd.R_types HO482.out BK502.out (by decide)) (fun _ hk => hk.2) (.slice Ao69 t496.length co69)) (fun _ hk => hk.2) (.slice Ao75 t499.length co75)) (fun _ h_ => h_.1))) hb); replace HO485 := A_ (Kd.R_below (by (with_reducible repeat (first | apply Kd.R_alloc | apply Kd.R_drewN | apply Kd.R_drew)); exact (Kd.R_mono (Kd.R_far (p := ⟨gb502, 1, none⟩) (Kd.R_far (p := ⟨gb502, 0, none⟩) (Kd.R_types HO485.out BK502.out (by decide)) (fun _ hk => hk.2) (.slice Ao69 t496.length co69)) (fun _ hk => hk.2) (.slice Ao75 t499.length co75)) (fun _ h_ => h_.1))) hb); replace HO488 := A_ (Kd.S_elder' (by (with_reducible repeat (first | apply Kd.S_alloc | apply Kd.S_drewN | apply Kd.S_drew)); exact (Kd.S_mono (Kd.S_far (p := ⟨gb502, 1, none⟩) (Kd.S_far (p := ⟨gb502, 0, none⟩) (Kd.S_mono HO488.out (fun k_ hk => (⟨hk, hk.2⟩ : _ ∧ k_ ≠ gb502))) (fun _ hk => hk.2) (.slice Ao69 t496.length co69)) (fun _ hk => hk.2) (.slice Ao75 t499.length co75)) (fun _ h_ => h_.1))) (Kd.R_base ho0) hb); replace HO498 := A_ (Kd.R_below (by (with_reducible repeat (first | apply Kd.R_alloc | apply Kd.R_drewN | apply Kd.R_drew)); exact (Kd.R_mono (Kd.R_far (p := ⟨gb502, 1, none⟩) (Kd.R_far (p := ⟨gb502, 0, none⟩) (Kd.R_types HO498.out BK502.out (by decide)) (fun _ hk => hk.2) (.slice Ao69 t496.length co69)) (fun _ hk => hk.2) (.slice Ao75 t499.length co75)) (fun _ h_ => h_.1))) hb); replace HO501 := A_ (Kd.S_elder' (by (with_reducible repeat (first | apply Kd.S_alloc | apply Kd.S_drewN | apply Kd.S_drew)); exact (Kd.S_mono (Kd.S_far (p := ⟨gb502, 1, none⟩) (Kd.S_far (p := ⟨gb502, 0, none⟩) (Kd.S_mono HO501.out (fun k_ hk => (⟨hk, hk.2⟩ : _ ∧ k_ ≠ gb502))) (fun _ hk => hk.2) (.slice Ao69 t496.length co69)) (fun _ hk => hk.2) (.slice Ao75 t499.length co75)) (fun _ h_ => h_.1))) (Kd.R_base ho0) hb); replace BK465 := bb_ BK465 hb; replace BK466 := bb_ BK466 hb; replace BK494 := bb_ BK494 hb; replace BK495 := bb_ BK495 hb; replace BK502 := bq_ (o' := .cells #[.slice Ao69 t496.length co69, .slice Ao75 t499.length co75] 31 (0, 0)) BK502 hb; replace HB := hs_ HB hb; (try clear hb); (try clear hb2); (try clear hk); (try clear hi); (try clear ho0); have hnb77 := NB466_494.out; have hnc77 := NB494_466.out; have hnb78 := NB466_495.out; have hnc78 := NB495_466.out; obtain ⟨hcz79_0, hcz79_1, hfz79_0, hfz79_1⟩ := cz2_ BK466) | ((with_reducible refine gate_callee (f := 19) rfl ?_); refine goesL_ (some 57) rfl rfl Try.func19 (by kernel_rfl) rfl #[.agg #[.int .i64 a3_0, .slice A3_1 l3_1.length c3_1]] rfl al_ ?_; (with_reducible refine (laws_toRes.calls k a3_0 _ _ l3_1 t506 t507 _ ?side1 ?side2 A34.out).mono ?_); (case side1 => exact cb_ (Kd.C_below HR3_1.out HB.out)); (case side2 => exact HC3_1.out); rintro e w80 ⟨v508, rfl, ho0, hb⟩; refine ⟨_, rfl, ?_⟩; have HO509 := A_ (Kd.R_lower (Kd.R_new' ho0 (Kd.R_lt (rb_ HO482.out))) (below_size (hb_ HB))); replace HO472 := A_ (Kd.R_below (rb_ HO472.out) hb); replace HO475 := A_ (Kd.S_elder' (sb_ HO475.out) (Kd.R_base ho0) hb); replace HO478 := A_ (Kd.R_below (rb_ HO478.out) hb); replace HO482 := A_ (Kd.R_elder' (rb_ HO482.out) (Kd.R_base ho0) hb); replace HO485 := A_ (Kd.R_below (rb_ HO485.out) hb); replace HO488 := A_ (Kd.S_elder' (sb_ HO488.out) (Kd.R_base ho0) hb); replace HO498 := A_ (Kd.R_below (rb_ HO498.out) hb); replace HO501 := A_ (Kd.S_elder' (sb_ HO501.out) (Kd.R_base ho0) hb); replace HO505 := A_ (Kd.R_below (rb_ HO505.out) hb); replace BK465 := bb_ BK465 hb; replace BK466 := bb_ BK466 hb; replace BK494 := bb_ BK494 hb; replace BK495 := bb_ BK495 hb; replace BK502 := bb_ BK502 hb; replace HB := hs_ HB hb; (try clear hb); (try clear hb2); (try clear hk); (try clear hi); (try clear ho0)) | ((with_reducible refine gate_dst (N := 15) rfl ?_); refine bx_ HB rfl (N := 15) rfl (cs := #[.int .i64 0, .slice none 0 0]) (t := 49) hr_ ?_; clear HB; intro gb510 w81 hg hb BK510 GW510 HB; have NB465_510 := ng_ BK465 hg; have NB510_465 := ns_ (ng_ BK465 hg); have NB466_510 := ng_ BK466 hg; have NB510_466 := ns_ (ng_ BK466 hg); have NB494_510 := ng_ BK494 hg; have NB510_494 := ns_ (ng_ BK494 hg); have NB495_510 := ng_ BK495 hg; have NB510_495 := ns_ (ng_ BK495 hg); have NB502_510 := ng_ BK502 hg; have NB510_502 := ns_ (ng_ BK502 hg); replace HO472 := A_ (Kd.R_below (rb_ HO472.out) hb); replace HO475 := A_ (Kd.S_below (Kd.S_elderB (sb_ HO475.out) gb510 (Nat.le_of_eq hg.symm)) hb); replace HO478 := A_ (Kd.R_below (rb_ HO478.out) hb); replace HO482 := A_ (Kd.R_below (rb_ HO482.out) hb); replace HO485 := A_ (Kd.R_below (rb_ HO485.out) hb); replace HO488 := A_ (Kd.S_below (Kd.S_elderB (sb_ HO488.out) gb510 (Nat.le_of_eq hg.symm)) hb); replace HO498 := A_ (Kd.R_below (rb_ HO498.out) hb); replace HO501 := A_ (Kd.S_below (Kd.S_elderB (sb_ HO501.out) gb510 (Nat.le_of_eq hg.symm)) hb); replace HO505 := A_ (Kd.R_below (rb_ HO505.out) hb); replace HO509 := A_ (Kd.R_below (rb_ HO509.out) hb); replace BK465 := bb_ BK465 hb; replace BK466 := bb_ BK466 hb; replace BK494 := bb_ BK494 hb; replace BK495 := bb_ BK495 hb; replace BK502 := bb_ BK502 hb; clear hb hg; have hnb82 := NB510_465.out; have hnc82 := NB465_510.out; have hnb83 := NB510_466.out; have hnc83 := NB466_510.out; have hnb84 := NB510_494.out; have hnc84 := NB494_510.out; have hnb85 := NB510_495.out; have hnc85 := NB495_510.out; have hnb86 := NB510_502.out; have hnc86 := NB502_510.out; obtain ⟨hcz87_0, hcz87_1, hfz87_0, hfz87_1⟩ := cz2_ BK510; obtain ⟨Ao88, co88, eo88⟩ := Kd.R_slice HO509.out; subst eo88; obtain ⟨hcz89_0, hcz89_1, hfz89_0, hfz89_1⟩ := cz2_ BK502; obtain ⟨Ao90, co90, eo90⟩ := Kd.R_slice HO505.out; subst eo90) | ((with_reducible refine gate_callee (f := 45) rfl ?_); refine goesL_ (some 63) rfl rfl Try.func45 (by kernel_rfl) rfl #[.agg #[.slice Ao69 t496.length co69, .slice Ao75 t499.length co75], .int .i64 a1, .slice Ao90 t503.length co90, .agg #[.int .i64 t506, .slice Ao88 t507.length co88]] rfl al_ ?_; (with_reducible refine (impl_Begin.calls k _ _ t496 _ _ t499 a1 _ _ t503 t506 _ _ t507 t511 t514 t517 t518 t519 t520 t521 _ ?side1 ?side2 ?side3 ?side4 ?side5 ?side6 ?side7 ?side8 A35.out).mono ?_); (case side1 => refine (Kd.R_reads' (e := 95) (base := w.heap.size) (ok := fun k_ => ((True ∧ some k_ ≠ (v471 : Value).ownBlock) ∧ some k_ ≠ (.slice Ao56 t483.length co56 : Value).ownBlock)) (n := t496.length) (c := co69) ?_).2.2; exact (by (with_reducible repeat (first | apply Kd.R_alloc | apply Kd.R_drewN | apply Kd.R_drew)); exact (Kd.R_mono (Kd.R_far (p := ⟨gb510, 1, none⟩) (Kd.R_far (p := ⟨gb510, 0, none⟩) (Kd.R_types HO498.out BK510.out (by decide)) (fun _ hk => hk.2) (.int .i64 t506)) (fun _ hk => hk.2) (.slice Ao88 t507.length co88)) (fun _ h_ => h_.1)))); (case side2 => exact (Kd.R_reads' HO498.out).2.1); (case side3 => refine (Kd.S_reads' (e := 119) (base := w.heap.size) (ok := fun k_ => (((((some k_ ≠ (.slice Ao69 t496.length co69 : Value).ownBlock ∧ (some k_ ≠ (v471 : Value).ownBlock ∧ (some k_ ≠ (v474 : Value).ownBlock ∧ (some k_ ≠ (v477 : Value).ownBlock ∧ (some k_ ≠ (v481 : Value).ownBlock ∧ (some k_ ≠ (.slice Ao56 t483.length co56 : Value).ownBlock ∧ (nn1_ ≤ k_ ∧ (k_ ≠ gb465 ∧ (k_ ≠ gb466 ∧ (k_ ≠ gb494 ∧ k_ ≠ gb495)))))))))) ∧ k_ ≠ gb502) ∧ some k_ ≠ (.slice Ao90 t503.length co90 : Value).ownBlock) ∧ some k_ ≠ (.slice Ao88 t507.length co88 : Value).ownBlock) ∧ k_ ≠ gb510)) (n := t499.length) (c := co75) ?_).2.2; exact (by (with_reducible repeat (first | apply Kd.S_alloc | apply Kd.S_drewN | apply Kd.S_drew)); exact (Kd.S_mono (Kd.S_far (p := ⟨gb510, 1, none⟩) (Kd.S_far (p := ⟨gb510, 0, none⟩) (Kd.S_mono HO501.out (fun k_ hk => (⟨hk, hk.2⟩ : _ ∧ k_ ≠ gb510))) (fun _ hk => hk.2) (.int .i64 t506)) (fun _ hk => hk.2) (.slice Ao88 t507.length co88)) (fun _ h_ => h_.1)))); (case side4 => exact (Kd.S_reads' HO501.out).2.1); (case side5 => refine (Kd.R_reads' (e := 122) (base := w.heap.size) (ok := fun k_ => (True ∧ some k_ ≠ (v477 : Value).ownBlock)) (n := t503.length) (c := co90) ?_).2.2; exact (by (with_reducible repeat (first | apply Kd.R_alloc | apply Kd.R_drewN | apply Kd.R_drew)); exact (Kd.R_mono (Kd.R_far (p := ⟨gb510, 1, none⟩) (Kd.R_far (p := ⟨gb510, 0, none⟩) (Kd.R_types HO505.out BK510.out (by decide)) (fun _ hk => hk.2) (.int .i64 t506)) (fun _ hk => hk.2) (.slice Ao88 t507.length co88)) (fun _ h_ => h_.1)))); (case side6 => exact (Kd.R_reads' HO505.out).2.1); (case side7 => refine (Kd.R_reads' (e := 3) (base := w.heap.size) (ok := fun k_ => (True ∧ some k_ ≠ (v481 : Value).ownBlock)) (n := t507.length) (c := co88) ?_).2.2; exact (by (with_reducible repeat (first | apply Kd.R_alloc | apply Kd.R_drewN | apply Kd.R_drew)); exact (Kd.R_mono (Kd.R_far (p := ⟨gb510, 1, none⟩) (Kd.R_far (p := ⟨gb510, 0, none⟩) (Kd.R_types HO509.out BK510.out (by decide)) (fun _ hk => hk.2) (.int .i64 t506)) (fun _ hk => hk.2) (.slice Ao88 t507.length co88)) (fun _ h_ => h_.1)))); (case side8 => exact (Kd.R_reads' HO509.out).2.1); rintro e w91 ⟨v512, v515, rfl, ho0, ho1, hb⟩; refine ⟨_, rfl, ?_⟩; obtain ⟨nn2_, hnn2_⟩ := mm_mile hb; have HO513 := A_ (Kd.R_lower (Kd.R_new' (Kd.R_new' (Kd.R_new' (Kd.R_mono (ok' := fun k_ => True) ho0 (fun _ hk_ => trivial)) (Kd.R_lt (by (with_reducible repeat (first | apply Kd.R_alloc | apply Kd.R_drewN | apply Kd.R_drew)); exact (Kd.R_mono (Kd.R_far (p := ⟨gb510, 1, none⟩) (Kd.R_far (p := ⟨gb510, 0, none⟩) (Kd.R_types HO472.out BK510.out (by decide)) (fun _ hk => hk.2) (.int .i64 t506)) (fun _ hk => hk.2) (.slice Ao88 t507.length co88)) (fun _ h_ => h_.1))))) (Kd.R_lt (by (with_reducible repeat (first | apply Kd.R_alloc | apply Kd.R_drewN | apply Kd.R_drew)); exact (Kd.R_mono (Kd.R_far (p := ⟨gb510, 1, none⟩) (Kd.R_far (p := ⟨gb510, 0, none⟩) (Kd.R_types HO485.out BK510.out (by decide)) (fun _ hk => hk.2) (.int .i64 t506)) (fun _ hk => hk.2) (.slice Ao88 t507.length co88)) (fun _ h_ => h_.1))))) (Kd.R_lt (by (with_reducible repeat (first | apply Kd.R_alloc | apply Kd.R_drewN | apply Kd.R_drew)); exact (Kd.R_mono (Kd.R_far (p := ⟨gb510, 1, none⟩) (Kd.R_far (p := ⟨gb510, 0, none⟩) (Kd.R_types HO498.out BK510.out (by decide)) (fun _ hk => hk.2) (.int .i64 t506)) (fun _ hk => hk.2) (.slice Ao88 t507.length co88)) (fun _ h_ => h_.1))))) (below_size (hb_ HB))); have HO516 := A_ (Kd.S_lower (Kd.S_mono (ok' := fun k_ => some k_ ≠ (v512 : Value).ownBlock ∧ some k_ ≠ (v471 : Value).ownBlock ∧ some k_ ≠ (v474 : Value).ownBlock ∧ some k_ ≠ (v477 : Value).ownBlock ∧ some k_ ≠ (v481 : Value).ownBlock ∧ some k_ ≠ (.slice Ao56 t483.length co56 : Value).ownBlock ∧ nn2_ ≤ k_ ∧ some k_ ≠ (.slice Ao69 t496.length co69 : Value).ownBlock ∧ nn2_ ≤ k_ ∧ some k_ ≠ (.slice Ao90 t503.length co90 : Value).ownBlock ∧ some k_ ≠ (.slice Ao88 t507.length co88 : Value).ownBlock ∧ k_ ≠ gb465 ∧ k_ ≠ gb466 ∧ k_ ≠ gb494 ∧ k_ ≠ gb495 ∧ k_ ≠ gb502 ∧ k_ ≠ gb510) ho1 (fun k_ hk_ => ⟨hk_.2, (Kd.fresh' (Kd.R_lt (by (with_reducible repeat (first | apply Kd.R_alloc | apply Kd.R_drewN | apply Kd.R_drew)); exact (Kd.R_mono (Kd.R_far (p := ⟨gb510, 1, none⟩) (Kd.R_far (p := ⟨gb510, 0, none⟩) (Kd.R_types HO472.out BK510.out (by decide)) (fun _ hk => hk.2) (.int .i64 t506)) (fun _ hk => hk.2) (.slice Ao88 t507.length co88)) (fun _ h_ => h_.1)))) k_ hk_.1), (Kd.fresh' (Kd.S_lt (by (with_reducible repeat (first | apply Kd.S_alloc | apply Kd.S_drewN | apply Kd.S_drew)); exact (Kd.S_mono (Kd.S_far (p := ⟨gb510, 1, none⟩) (Kd.S_far (p := ⟨gb510, 0, none⟩) (Kd.S_mono HO475.out (fun k_ hk => (⟨hk, hk.2⟩ : _ ∧ k_ ≠ gb510))) (fun _ hk => hk.2) (.int .i64 t506)) (fun _ hk => hk.2) (.slice Ao88 t507.length co88)) (fun _ h_ => h_.1)))) k_ hk_.1), (Kd.fresh' (Kd.R_lt (by (with_reducible repeat (first | apply Kd.R_alloc | apply Kd.R_drewN | apply Kd.R_drew)); exact (Kd.R_mono (Kd.R_far (p := ⟨gb510, 1, none⟩) (Kd.R_far (p := ⟨gb510, 0, none⟩) (Kd.R_types HO478.out BK510.out (by decide)) (fun _ hk => hk.2) (.int .i64 t506)) (fun _ hk => hk.2) (.slice Ao88 t507.length co88)) (fun _ h_ => h_.1)))) k_ hk_.1), (Kd.fresh' (Kd.R_lt (by (with_reducible repeat (first | apply Kd.R_alloc | apply Kd.R_drewN | apply Kd.R_drew)); exact (Kd.R_mono (Kd.R_far (p := ⟨gb510, 1, none⟩) (Kd.R_far (p := ⟨gb510, 0, none⟩) (Kd.R_types HO482.out BK510.out (by decide)) (fun _ hk => hk.2) (.int .i64 t506)) (fun _ hk => hk.2) (.slice Ao88 t507.length co88)) (fun _ h_ => h_.1)))) k_ hk_.1), (Kd.fresh' (Kd.R_lt (by (with_reducible repeat (first | apply Kd.R_alloc | apply Kd.R_drewN | apply Kd.R_drew)); exact (Kd.R_mono (Kd.R_far (p := ⟨gb510, 1, none⟩) (Kd.R_far (p := ⟨gb510, 0, none⟩) (Kd.R_types HO485.out BK510.out (by decide)) (fun _ hk => hk.2) (.int .i64 t506)) (fun _ hk => hk.2) (.slice Ao88 t507.length co88)) (fun _ h_ => h_.1)))) k_ hk_.1), (Nat.le_trans (Nat.le_of_eq hnn2_) hk_.1), (Kd.fresh' (Kd.R_lt (by (with_reducible repeat (first | apply Kd.R_alloc | apply Kd.R_drewN | apply Kd.R_drew)); exact (Kd.R_mono (Kd.R_far (p := ⟨gb510, 1, none⟩) (Kd.R_far (p := ⟨gb510, 0, none⟩) (Kd.R_types HO498.out BK510.out (by decide)) (fun _ hk => hk.2) (.int .i64 t506)) (fun _ hk => hk.2) (.slice Ao88 t507.length co88)) (fun _ h_ => h_.1)))) k_ hk_.1), (Nat.le_trans (Nat.le_of_eq hnn2_) hk_.1), (Kd.fresh' (Kd.R_lt (by (with_reducible repeat (first | apply Kd.R_alloc | apply Kd.R_drewN | apply Kd.R_drew)); exact (Kd.R_mono (Kd.R_far (p := ⟨gb510, 1, none⟩) (Kd.R_far (p := ⟨gb510, 0, none⟩) (Kd.R_types HO505.out BK510.out (by decide)) (fun _ hk => hk.2) (.int .i64 t506)) (fun _ hk => hk.2) (.slice Ao88 t507.length co88)) (fun _ h_ => h_.1)))) k_ hk_.1), (Kd.fresh' (Kd.R_lt (by (with_reducible repeat (first | apply Kd.R_alloc | apply Kd.R_drewN | apply Kd.R_drew)); exact (Kd.R_mono (Kd.R_far (p := ⟨gb510, 1, none⟩) (Kd.R_far (p := ⟨gb510, 0, none⟩) (Kd.R_types HO509.out BK510.out (by decide)) (fun _ hk => hk.2) (.int .i64 t506)) (fun _ hk => hk.2) (.slice Ao88 t507.length co88)) (fun _ h_ => h_.1)))) k_ hk_.1), (Kd.freshB (g := gb465) (o := .cells #[.slice A0_0 l0_0.length c0_0, .slice A0_1 l0_1.length c0_1] 25 (0, 0)) (bk_ BK465) k_ hk_.1), (Kd.freshB (g := gb466) (o := .cells #[.int .i64 a3_0, .slice A3_1 l3_1.length c3_1] 41 (0, 0)) (bk_ BK466) k_ hk_.1), (Kd.freshB (g := gb494) (o := .cells #[.slice Ao56 t483.length co56, .slice Ao58 t486.length co58] 31 (0, 0)) (bk_ BK494) k_ hk_.1), (Kd.freshB (g := gb495) (o := .cells #[.int .i64 t489, .int .i64 t490, .int .i64 t491, .int .i64 t492] 74 (0, 0)) (bk_ BK495) k_ hk_.1), (Kd.freshB (g := gb502) (o := .cells #[.slice Ao69 t496.length co69, .slice Ao75 t499.length co75] 31 (0, 0)) (bk_ BK502) k_ hk_.1), (Kd.freshB (g := gb510) (o := .cells #[.int .i64 t506, .slice Ao88 t507.length co88] 49 (0, 0)) (bp_ BK510) k_ hk_.1)⟩)) (below_size (hb_ HB))); replace HO472 := A_ (Kd.R_elder' (by (with_reducible repeat (first | apply Kd.R_alloc | apply Kd.R_drewN | apply Kd.R_drew)); exact (Kd.R_mono (Kd.R_far (p := ⟨gb510, 1, none⟩) (Kd.R_far (p := ⟨gb510, 0, none⟩) (Kd.R_types HO472.out BK510.out (by decide)) (fun _ hk => hk.2) (.int .i64 t506)) (fun _ hk => hk.2) (.slice Ao88 t507.length co88)) (fun _ h_ => h_.1))) (Kd.R_base ho0) hb); replace HO475 := A_ (mm_lt hnn2_ (Kd.S_told (Kd.S_old (by (with_reducible repeat (first | apply Kd.S_alloc | apply Kd.S_drewN | apply Kd.S_drew)); exact (Kd.S_mono (Kd.S_far (p := ⟨gb510, 1, none⟩) (Kd.S_far (p := ⟨gb510, 0, none⟩) (Kd.S_mono HO475.out (fun k_ hk => (⟨hk, hk.2⟩ : _ ∧ k_ ≠ gb510))) (fun _ hk => hk.2) (.int .i64 t506)) (fun _ hk => hk.2) (.slice Ao88 t507.length co88)) (fun _ h_ => h_.1))) hb) (Kd.R_base ho0))); replace HO478 := A_ (Kd.R_below (by (with_reducible repeat (first | apply Kd.R_alloc | apply Kd.R_drewN | apply Kd.R_drew)); exact (Kd.R_mono (Kd.R_far (p := ⟨gb510, 1, none⟩) (Kd.R_far (p := ⟨gb510, 0, none⟩) (Kd.R_types HO478.out BK510.out (by decide)) (fun _ hk => hk.2) (.int .i64 t506)) (fun _ hk => hk.2) (.slice Ao88 t507.length co88)) (fun _ h_ => h_.1))) hb); replace HO482 := A_ (Kd.R_below (by (with_reducible repeat (first | apply Kd.R_alloc | apply Kd.R_drewN | apply Kd.R_drew)); exact (Kd.R_mono (Kd.R_far (p := ⟨gb510, 1, none⟩) (Kd.R_far (p := ⟨gb510, 0, none⟩) (Kd.R_types HO482.out BK510.out (by decide)) (fun _ hk => hk.2) (.int .i64 t506)) (fun _ hk => hk.2) (.slice Ao88 t507.length co88)) (fun _ h_ => h_.1))) hb); replace HO485 := A_ (Kd.R_elder' (by (with_reducible repeat (first | apply Kd.R_alloc | apply Kd.R_drewN | apply Kd.R_drew)); exact (Kd.R_mono (Kd.R_far (p := ⟨gb510, 1, none⟩) (Kd.R_far (p := ⟨gb510, 0, none⟩) (Kd.R_types HO485.out BK510.out (by decide)) (fun _ hk => hk.2) (.int .i64 t506)) (fun _ hk => hk.2) (.slice Ao88 t507.length co88)) (fun _ h_ => h_.1))) (Kd.R_base ho0) hb); replace HO488 := A_ (mm_lt hnn2_ (Kd.S_told (Kd.S_old (by (with_reducible repeat (first | apply Kd.S_alloc | apply Kd.S_drewN | apply Kd.S_drew)); exact (Kd.S_mono (Kd.S_far (p := ⟨gb510, 1, none⟩) (Kd.S_far (p := ⟨gb510, 0, none⟩) (Kd.S_mono HO488.out (fun k_ hk => (⟨hk, hk.2⟩ : _ ∧ k_ ≠ gb510))) (fun _ hk => hk.2) (.int .i64 t506)) (fun _ hk => hk.2) (.slice Ao88 t507.length co88)) (fun _ h_ => h_.1))) hb) (Kd.R_base ho0))); replace HO498 := A_ (Kd.R_elder' (by (with_reducible repeat (first | apply Kd.R_alloc | apply Kd.R_drewN | apply Kd.R_drew)); exact (Kd.R_mono (Kd.R_far (p := ⟨gb510, 1, none⟩) (Kd.R_far (p := ⟨gb510, 0, none⟩) (Kd.R_types HO498.out BK510.out (by decide)) (fun _ hk => hk.2) (.int .i64 t506)) (fun _ hk => hk.2) (.slice Ao88 t507.length co88)) (fun _ h_ => h_.1))) (Kd.R_base ho0) hb); replace HO501 := A_ (mm_lt hnn2_ (Kd.S_told (Kd.S_old (by (with_reducible repeat (first | apply Kd.S_alloc | apply Kd.S_drewN | apply Kd.S_drew)); exact (Kd.S_mono (Kd.S_far (p := ⟨gb510, 1, none⟩) (Kd.S_far (p := ⟨gb510, 0, none⟩) (Kd.S_mono HO501.out (fun k_ hk => (⟨hk, hk.2⟩ : _ ∧ k_ ≠ gb510))) (fun _ hk => hk.2) (.int .i64 t506)) (fun _ hk => hk.2) (.slice Ao88 t507.length co88)) (fun _ h_ => h_.1))) hb) (Kd.R_base ho0))); replace HO505 := A_ (Kd.R_below (by (with_reducible repeat (first | apply Kd.R_alloc | apply Kd.R_drewN | apply Kd.R_drew)); exact (Kd.R_mono (Kd.R_far (p := ⟨gb510, 1, none⟩) (Kd.R_far (p := ⟨gb510, 0, none⟩) (Kd.R_types HO505.out BK510.out (by decide)) (fun _ hk => hk.2) (.int .i64 t506)) (fun _ hk => hk.2) (.slice Ao88 t507.length co88)) (fun _ h_ => h_.1))) hb); replace HO509 := A_ (Kd.R_below (by (with_reducible repeat (first | apply Kd.R_alloc | apply Kd.R_drewN | apply Kd.R_drew)); exact (Kd.R_mono (Kd.R_far (p := ⟨gb510, 1, none⟩) (Kd.R_far (p := ⟨gb510, 0, none⟩) (Kd.R_types HO509.out BK510.out (by decide)) (fun _ hk => hk.2) (.int .i64 t506)) (fun _ hk => hk.2) (.slice Ao88 t507.length co88)) (fun _ h_ => h_.1))) hb); replace BK465 := bb_ BK465 hb; replace BK466 := bb_ BK466 hb; replace BK494 := bb_ BK494 hb; replace BK495 := bb_ BK495 hb; replace BK502 := bb_ BK502 hb; replace BK510 := bq_ (o' := .cells #[.int .i64 t506, .slice Ao88 t507.length co88] 49 (0, 0)) BK510 hb; replace HB := hs_ HB hb; (try clear hnn2_); (try clear hb); (try clear hb2); (try clear hk); (try clear hi); (try clear ho0); (try clear ho1)) | ((with_reducible refine gate_dst (N := 16) rfl ?_); refine bx_ HB rfl (N := 16) rfl (cs := #[.slice none 0 0, .slice none 0 0]) (t := 31) hr_ ?_; clear HB; intro gb522 w92 hg hb BK522 GW522 HB; have NB465_522 := ng_ BK465 hg; have NB522_465 := ns_ (ng_ BK465 hg); have NB466_522 := ng_ BK466 hg; have NB522_466 := ns_ (ng_ BK466 hg); have NB494_522 := ng_ BK494 hg; have NB522_494 := ns_ (ng_ BK494 hg); have NB495_522 := ng_ BK495 hg; have NB522_495 := ns_ (ng_ BK495 hg); have NB502_522 := ng_ BK502 hg; have NB522_502 := ns_ (ng_ BK502 hg); have NB510_522 := ng_ BK510 hg; have NB522_510 := ns_ (ng_ BK510 hg); replace HO472 := A_ (Kd.R_below (rb_ HO472.out) hb); replace HO475 := A_ (Kd.S_below (Kd.S_elderB (sb_ HO475.out) gb522 (Nat.le_of_eq hg.symm)) hb); replace HO478 := A_ (Kd.R_below (rb_ HO478.out) hb); replace HO482 := A_ (Kd.R_below (rb_ HO482.out) hb); replace HO485 := A_ (Kd.R_below (rb_ HO485.out) hb); replace HO488 := A_ (Kd.S_below (Kd.S_elderB (sb_ HO488.out) gb522 (Nat.le_of_eq hg.symm)) hb); replace HO498 := A_ (Kd.R_below (rb_ HO498.out) hb); replace HO501 := A_ (Kd.S_below (Kd.S_elderB (sb_ HO501.out) gb522 (Nat.le_of_eq hg.symm)) hb); replace HO505 := A_ (Kd.R_below (rb_ HO505.out) hb); replace HO509 := A_ (Kd.R_below (rb_ HO509.out) hb); replace HO513 := A_ (Kd.R_below (rb_ HO513.out) hb); replace HO516 := A_ (Kd.S_below (Kd.S_elderB (sb_ HO516.out) gb522 (Nat.le_of_eq hg.symm)) hb); replace BK465 := bb_ BK465 hb; replace BK466 := bb_ BK466 hb; replace BK494 := bb_ BK494 hb; replace BK495 := bb_ BK495 hb; replace BK502 := bb_ BK502 hb; replace BK510 := bb_ BK510 hb; clear hb hg) | ((with_reducible refine gate_dst (N := 17) rfl ?_); refine bx_ HB rfl (N := 17) rfl (cs := #[.int .i64 0, .int .i64 0, .int .i64 0, .int .i64 0]) (t := 74) hr_ ?_; clear HB; intro gb523 w93 hg hb BK523 GW523 HB; have NB465_523 := ng_ BK465 hg; have NB523_465 := ns_ (ng_ BK465 hg); have NB466_523 := ng_ BK466 hg; have NB523_466 := ns_ (ng_ BK466 hg); have NB494_523 := ng_ BK494 hg; have NB523_494 := ns_ (ng_ BK494 hg); have NB495_523 := ng_ BK495 hg; have NB523_495 := ns_ (ng_ BK495 hg); have NB502_523 := ng_ BK502 hg; have NB523_502 := ns_ (ng_ BK502 hg); have NB510_523 := ng_ BK510 hg; have NB523_510 := ns_ (ng_ BK510 hg); have NB522_523 := ng_ BK522 hg; have NB523_522 := ns_ (ng_ BK522 hg); replace HO472 := A_ (Kd.R_below (rb_ HO472.out) hb); replace HO475 := A_ (Kd.S_below (Kd.S_elderB (sb_ HO475.out) gb523 (Nat.le_of_eq hg.symm)) hb); replace HO478 := A_ (Kd.R_below (rb_ HO478.out) hb); replace HO482 := A_ (Kd.R_below (rb_ HO482.out) hb); replace HO485 := A_ (Kd.R_below (rb_ HO485.out) hb); replace HO488 := A_ (Kd.S_below (Kd.S_elderB (sb_ HO488.out) gb523 (Nat.le_of_eq hg.symm)) hb); replace HO498 := A_ (Kd.R_below (rb_ HO498.out) hb); replace HO501 := A_ (Kd.S_below (Kd.S_elderB (sb_ HO501.out) gb523 (Nat.le_of_eq hg.symm)) hb); replace HO505 := A_ (Kd.R_below (rb_ HO505.out) hb); replace HO509 := A_ (Kd.R_below (rb_ HO509.out) hb); replace HO513 := A_ (Kd.R_below (rb_ HO513.out) hb); replace HO516 := A_ (Kd.S_below (Kd.S_elderB (sb_ HO516.out) gb523 (Nat.le_of_eq hg.symm)) hb); replace BK465 := bb_ BK465 hb; replace BK466 := bb_ BK466 hb; replace BK494 := bb_ BK494 hb; replace BK495 := bb_ BK495 hb; replace BK502 := bb_ BK502 hb; replace BK510 := bb_ BK510 hb; replace BK522 := bb_ BK522 hb; clear hb hg; obtain ⟨Ao94, co94, eo94⟩ := Kd.R_slice HO513.out; subst eo94; have hnb95 := NB522_465.out; have hnc95 := NB465_522.out; have hnb96 := NB522_466.out; have hnc96 := NB466_522.out; have hnb97 := NB522_494.out; have hnc97 := NB494_522.out; have hnb98 := NB522_495.out; have hnc98 := NB495_522.out; have hnb99 := NB522_502.out; have hnc99 := NB502_522.out; have hnb100 := NB522_510.out; have hnc100 := NB510_522.out; have hnb101 := NB522_523.out; have hnc101 := NB523_522.out; obtain ⟨hcz102_0, hcz102_1, hfz102_0, hfz102_1⟩ := cz2_ BK522; obtain ⟨Ao103, co103, eo103⟩ := Kd.S_slice HO516.out; subst eo103; have hnb104 := NB523_465.out; have hnc104 := NB465_523.out; have hnb105 := NB523_466.out; have hnc105 := NB466_523.out; have hnb106 := NB523_494.out; have hnc106 := NB494_523.out; have hnb107 := NB523_495.out; have hnc107 := NB495_523.out; have hnb108 := NB523_502.out; have hnc108 := NB502_523.out; have hnb109 := NB523_510.out; have hnc109 := NB510_523.out; obtain ⟨hcz110_0, hcz110_1, hcz110_2, hcz110_3, hfz110_0, hfz110_1, hfz110_2, hfz110_3⟩ := cz4_ BK523))
 (try simp only [Act.put, List.setIfInBounds_toArray, List.set_cons_zero, List.set_cons_succ])
 go_cut [81] (fun v81 wc => ∃ (kq : Nat) (x81_35 : Bool), v81 = .bool x81_35 ∧ Aside0 (laws_FnExactBegin.j0 kq a1 l2 t493 t503 t521 x81_35 l0_0 l0_1 a3_0 l3_1 t483 t486 t489 t490 t491 t492 t496 t499 t506 t507 t511 t514 t517 t518 t519 t520 = some r) ∧ Aside0 (kq ≤ k) ∧ Aside0 (Kd.R k122 122 wc w.heap.size (fun _ => True) (.slice Ao90 t503.length co90) t503) ∧ Aside0 (Kd.R k95 95 wc w.heap.size (fun k_ => some k_ ≠ ((.slice Ao69 t496.length co69) : Value).ownBlock ∧ some k_ ≠ ((.slice Ao94 t511.length co94) : Value).ownBlock) (.slice Ao56 t483.length co56) t483) ∧ Aside0 (Kd.S k119 119 wc w.heap.size (fun k_ => some k_ ≠ ((.slice Ao90 t503.length co90) : Value).ownBlock ∧ some k_ ≠ ((.slice Ao56 t483.length co56) : Value).ownBlock ∧ some k_ ≠ ((.slice Ao69 t496.length co69) : Value).ownBlock ∧ k_ < nn1_ ∧ some k_ ≠ ((.slice Ao88 t507.length co88) : Value).ownBlock ∧ some k_ ≠ ((.slice Ao94 t511.length co94) : Value).ownBlock ∧ k_ < nn2_ ∧ k_ ≠ gb465 ∧ k_ ≠ gb466 ∧ k_ ≠ gb494 ∧ k_ ≠ gb495 ∧ k_ ≠ gb502 ∧ k_ ≠ gb510 ∧ k_ ≠ gb522 ∧ k_ ≠ gb523) (.slice Ao58 t486.length co58) t486) ∧ Aside0 (Kd.R k95 95 wc w.heap.size (fun k_ => some k_ ≠ ((.slice Ao56 t483.length co56) : Value).ownBlock ∧ some k_ ≠ ((.slice Ao94 t511.length co94) : Value).ownBlock) (.slice Ao69 t496.length co69) t496) ∧ Aside0 (Kd.S k119 119 wc w.heap.size (fun k_ => some k_ ≠ ((.slice Ao90 t503.length co90) : Value).ownBlock ∧ some k_ ≠ ((.slice Ao56 t483.length co56) : Value).ownBlock ∧ nn1_ ≤ k_ ∧ some k_ ≠ ((.slice Ao69 t496.length co69) : Value).ownBlock ∧ some k_ ≠ ((.slice Ao88 t507.length co88) : Value).ownBlock ∧ some k_ ≠ ((.slice Ao94 t511.length co94) : Value).ownBlock ∧ k_ < nn2_ ∧ k_ ≠ gb465 ∧ k_ ≠ gb466 ∧ k_ ≠ gb494 ∧ k_ ≠ gb495 ∧ k_ ≠ gb502 ∧ k_ ≠ gb510 ∧ k_ ≠ gb522 ∧ k_ ≠ gb523) (.slice Ao75 t499.length co75) t499) ∧ Aside0 (Kd.R (Kd.int .i64) 3 wc w.heap.size (fun _ => True) (.slice Ao88 t507.length co88) t507) ∧ Aside0 (Kd.R k95 95 wc w.heap.size (fun k_ => some k_ ≠ ((.slice Ao56 t483.length co56) : Value).ownBlock ∧ some k_ ≠ ((.slice Ao69 t496.length co69) : Value).ownBlock) (.slice Ao94 t511.length co94) t511) ∧ Aside0 (Kd.S k119 119 wc w.heap.size (fun k_ => some k_ ≠ ((.slice Ao90 t503.length co90) : Value).ownBlock ∧ some k_ ≠ ((.slice Ao56 t483.length co56) : Value).ownBlock ∧ nn2_ ≤ k_ ∧ some k_ ≠ ((.slice Ao69 t496.length co69) : Value).ownBlock ∧ nn2_ ≤ k_ ∧ some k_ ≠ ((.slice Ao88 t507.length co88) : Value).ownBlock ∧ some k_ ≠ ((.slice Ao94 t511.length co94) : Value).ownBlock ∧ k_ ≠ gb465 ∧ k_ ≠ gb466 ∧ k_ ≠ gb494 ∧ k_ ≠ gb495 ∧ k_ ≠ gb502 ∧ k_ ≠ gb510 ∧ k_ ≠ gb522 ∧ k_ ≠ gb523) (.slice Ao103 t514.length co103) t514) ∧ Aside0 (wc.heap[gb465]? = some (.cells #[(.slice A0_0 l0_0.length c0_0), (.slice A0_1 l0_1.length c0_1)] 25 (0, 0))) ∧ Aside0 (wc.heap[gb466]? = some (.cells #[.int .i64 a3_0, (.slice A3_1 l3_1.length c3_1)] 41 (0, 0))) ∧ Aside0 (wc.heap[gb494]? = some (.cells #[(.slice Ao56 t483.length co56), (.slice Ao58 t486.length co58)] 31 (0, 0))) ∧ Aside0 (wc.heap[gb495]? = some (.cells #[.int .i64 t489, .int .i64 t490, .int .i64 t491, .int .i64 t492] 74 (0, 0))) ∧ Aside0 (wc.heap[gb502]? = some (.cells #[(.slice Ao69 t496.length co69), (.slice Ao75 t499.length co75)] 31 (0, 0))) ∧ Aside0 (wc.heap[gb510]? = some (.cells #[.int .i64 t506, (.slice Ao88 t507.length co88)] 49 (0, 0))) ∧ Aside0 (wc.heap[gb522]? = some (.cells #[(.slice Ao94 t511.length co94), (.slice Ao103 t514.length co103)] 31 (0, 0))) ∧ Aside0 (wc.heap[gb523]? = some (.cells #[.int .i64 t517, .int .i64 t518, .int .i64 t519, .int .i64 t520] 74 (0, 0))) ∧ Aside0 (Below w.heap.size w wc))
 case first =>
  have H := HC36.out
  clear HC36
  replace H := bs_ H
  obtain ⟨t524, A111, H⟩ := H
  by_cases c112 : t524 = true
  · exact z1_
  obtain rfl := Bool.eq_false_iff.mpr c112
  have H1 : (laws_FnExactBegin.j0 k a1 l2 t493 t503 t521 true l0_0 l0_1 a3_0 l3_1 t483 t486 t489 t490 t491 t492 t496 t499 t506 t507 t511 t514 t517 t518 t519 t520) = some r := by rw [if_neg (show ¬ (false = true) by decide)] at H; exact H
  exact absurd H1 (laws_FnExactBegin.j0_dead _ _ _ _ _ _ _ _ _ _ _ _ _ _ _ _ _ _ _ _ _ _ _ _ _ _ _)
 case rest =>
  clear HC36
  try clear c2
  try clear c112
  try clear c114
  obtain ⟨kq, x81_35, rfl, HA, HJ35, HO_14, HO_495000, HO_495001, HO_503000, HO_503001, HO_511001, HO_523000, HO_523001, BK465, BK466, BK494, BK495, BK502, BK510, BK522, BK523, HB⟩ := hcut
  cases kq with
  | zero => exact absurd HA.out (by simp [laws_FnExactBegin.j0])
  | succ kj35 =>
   have H := HA.out
   clear HA
   simp only [laws_FnExactBegin.j0] at H
   by_cases c187 : x81_35 = true
   ·
    subst c187
    replace H := it_ H
    exact absurd H (by simp)
   obtain rfl := Bool.eq_false_iff.mpr c187
   replace H := iF_ H
   replace H := bs_ H
   obtain ⟨⟨t526, t529⟩, A188, H⟩ := H
   dsimp only at H
   replace H := bs_ H
   obtain ⟨t532, A189, H⟩ := H
   by_cases c190 : t532 = true
   ·
    subst c190
    replace H := it_ H
    replace H := bs_ H
    obtain ⟨t533, A191, H⟩ := H
    replace H := bs_ H
    obtain ⟨t536, A192, H⟩ := H
    by_cases c193 : t536 = true
    ·
     subst c193
     replace H := it_ H
     replace H := bs_ H
     obtain ⟨⟨t537, t538⟩, A194, H⟩ := H
     dsimp only at H
     replace H := bs_ H
     obtain ⟨t541, A195, H⟩ := H
     by_cases c196 : t541 = true
     ·
      subst c196
      replace H := it_ H
      replace H := bs_ H
      obtain ⟨⟨t542, t543, t499n⟩, A197, H⟩ := H
      dsimp only at H
      replace H := bs_ H
      obtain ⟨⟨t544, t545⟩, A198, H⟩ := H
      dsimp only at H
      replace H := bs_ H
      obtain ⟨⟨t546, t547⟩, A199, H⟩ := H
      dsimp only at H
      have HC200 := A_ H
      clear H
      try go_wp2
      replace HO_14 := A_ (Kd.R_drew HO_14.out)
      replace HO_495000 := A_ (Kd.R_drew HO_495000.out)
      replace HO_495001 := A_ (Kd.S_drew HO_495001.out)
      replace HO_503000 := A_ (Kd.R_drew HO_503000.out)
      replace HO_503001 := A_ (Kd.S_drew HO_503001.out)
      replace HO_511001 := A_ (Kd.R_drew HO_511001.out)
      replace HO_523000 := A_ (Kd.R_drew HO_523000.out)
      replace HO_523001 := A_ (Kd.S_drew HO_523001.out)
      replace BK465 := A_ (blk_drew BK465.out)
      replace BK466 := A_ (blk_drew BK466.out)
      replace BK494 := A_ (blk_drew BK494.out)
      replace BK495 := A_ (blk_drew BK495.out)
      replace BK502 := A_ (blk_drew BK502.out)
      replace BK510 := A_ (blk_drew BK510.out)
      replace BK522 := A_ (blk_drew BK522.out)
      replace BK523 := A_ (blk_drew BK523.out)
      replace HB := A_ (below_drew1 HB.out)
      refine start_ (n := 5) (S := fun w' => w'.cell? ⟨gb502, 0, none⟩ = some (.slice Ao69 t496.length co69) ∧ w'.cell? ⟨gb502, 1, none⟩ = some (.slice Ao75 t499.length co75) ∧ w'.cell? ⟨gb465, 0, none⟩ = some (.slice A0_0 l0_0.length c0_0) ∧ w'.cell? ⟨gb465, 1, none⟩ = some (.slice A0_1 l0_1.length c0_1)) (ds := []) (bt_ 0 5) (by kernel_rfl) rfl rfl ⟨(blk_cell BK502.out 0).trans rfl, (blk_cell BK502.out 1).trans rfl, (blk_cell BK465.out 0).trans rfl, (blk_cell BK465.out 1).trans rfl⟩ (fun hHeld => ?_)
      generalize wc.drew = w201 at HO_14 HO_495000 HO_495001 HO_503000 HO_503001 HO_511001 HO_523000 HO_523001 BK465 BK466 BK494 BK495 BK502 BK510 BK522 BK523 HB hHeld ⊢
      refine take_ (i := 0) (N := some 82) (v := ?_) (a' := ?_) (bt_ 1 5) rfl rfl (by kernel_rfl) (fun _ _ _ h => h) (Or.inl ⟨by rfl, ?_⟩) hHeld ?_ ?_
      rotate_left
      ·
       rintro w' ⟨s0, s1, s2, s3⟩
       go_simp
       with_reducible rfl
      rotate_left
      ·
       simp only [Act.put, List.setIfInBounds_toArray, List.set_cons_zero, List.set_cons_succ, i64_w, i32_w]
       rfl
      refine take_ (i := 1) (N := some 83) (v := ?_) (a' := ?_) (bt_ 3 5) rfl rfl (by kernel_rfl) (fun _ _ _ h => h) (Or.inl ⟨by rfl, ?_⟩) hHeld ?_ ?_
      rotate_left
      ·
       rintro w' ⟨s0, s1, s2, s3⟩
       go_simp
       with_reducible rfl
      rotate_left
      ·
       simp only [Act.put, List.setIfInBounds_toArray, List.set_cons_zero, List.set_cons_succ, i64_w, i32_w]
       rfl
      refine one_ (i := 2) (N := some 84) (bt_ 7 5) rfl rfl (by kernel_rfl) (by decide) (fun K hK => ?_)
      refine goes_ Try.func11 (by kernel_rfl) rfl #[.agg #[.slice A0_0 l0_0.length c0_0, .slice A0_1 l0_1.length c0_1]] (by rfl) rfl rfl al_ ?_
      with_reducible refine (laws_toMem.calls kj35 _ _ l0_0 _ _ l0_1 t526 t529 _ ?side1 ?side2 ?side3 ?side4 A188.out).mono ?_
      (case side1 => exact cb_ (Kd.C_below HR0_0.out HB.out))
      (case side2 => exact HC0_0.out)
      (case side3 => exact cb_ (Kd.C_below HR0_1.out HB.out))
      (case side4 => exact HC0_1.out)
      rintro e w202 ⟨v527, v530, rfl, ho0, ho1, hb⟩
      refine ⟨_, rfl, ?_⟩
      have HO528 := A_ (Kd.R_lower (Kd.R_new' (Kd.R_new' (Kd.R_new' ho0 (Kd.R_lt (rb_ HO_495000.out))) (Kd.R_lt (rb_ HO_503000.out))) (Kd.R_lt (rb_ HO_523000.out))) (below_size (hb_ HB)))
      have HO531 := A_ (Kd.S_lower (Kd.S_mono (ok' := fun k_ => some k_ ≠ (v527 : Value).ownBlock ∧ some k_ ≠ (.slice Ao90 t503.length co90 : Value).ownBlock ∧ some k_ ≠ (.slice Ao56 t483.length co56 : Value).ownBlock ∧ some k_ ≠ (.slice Ao58 t486.length co58 : Value).ownBlock ∧ some k_ ≠ (.slice Ao69 t496.length co69 : Value).ownBlock ∧ some k_ ≠ (.slice Ao75 t499.length co75 : Value).ownBlock ∧ some k_ ≠ (.slice Ao88 t507.length co88 : Value).ownBlock ∧ some k_ ≠ (.slice Ao94 t511.length co94 : Value).ownBlock ∧ some k_ ≠ (.slice Ao103 t514.length co103 : Value).ownBlock ∧ k_ ≠ gb465 ∧ k_ ≠ gb466 ∧ k_ ≠ gb494 ∧ k_ ≠ gb495 ∧ k_ ≠ gb502 ∧ k_ ≠ gb510 ∧ k_ ≠ gb522 ∧ k_ ≠ gb523) ((Kd.S_bound (Kd.S_apart' ho1 (Kd.R_typed ho0) (by decide)))) (fun k_ hk_ => ⟨hk_.1.2, (Kd.fresh' (Kd.R_lt (rb_ HO_14.out)) k_ hk_.2.1), (Kd.fresh' (Kd.R_lt (rb_ HO_495000.out)) k_ hk_.2.1), (Kd.fresh' (Kd.S_lt (sb_ HO_495001.out)) k_ hk_.2.1), (Kd.fresh' (Kd.R_lt (rb_ HO_503000.out)) k_ hk_.2.1), (Kd.fresh' (Kd.S_lt (sb_ HO_503001.out)) k_ hk_.2.1), (Kd.fresh' (Kd.R_lt (rb_ HO_511001.out)) k_ hk_.2.1), (Kd.fresh' (Kd.R_lt (rb_ HO_523000.out)) k_ hk_.2.1), (Kd.fresh' (Kd.S_lt (sb_ HO_523001.out)) k_ hk_.2.1), (Kd.freshB (g := gb465) (o := .cells #[.slice A0_0 l0_0.length c0_0, .slice A0_1 l0_1.length c0_1] 25 (0, 0)) (bk_ BK465) k_ hk_.2.1), (Kd.freshB (g := gb466) (o := .cells #[.int .i64 a3_0, .slice A3_1 l3_1.length c3_1] 41 (0, 0)) (bk_ BK466) k_ hk_.2.1), (Kd.freshB (g := gb494) (o := .cells #[.slice Ao56 t483.length co56, .slice Ao58 t486.length co58] 31 (0, 0)) (bk_ BK494) k_ hk_.2.1), (Kd.freshB (g := gb495) (o := .cells #[.int .i64 t489, .int .i64 t490, .int .i64 t491, .int .i64 t492] 74 (0, 0)) (bk_ BK495) k_ hk_.2.1), (Kd.freshB (g := gb502) (o := .cells #[.slice Ao69 t496.length co69, .slice Ao75 t499.length co75] 31 (0, 0)) (bk_ BK502) k_ hk_.2.1), (Kd.freshB (g := gb510) (o := .cells #[.int .i64 t506, .slice Ao88 t507.length co88] 49 (0, 0)) (bk_ BK510) k_ hk_.2.1), (Kd.freshB (g := gb522) (o := .cells #[.slice Ao94 t511.length co94, .slice Ao103 t514.length co103] 31 (0, 0)) (bk_ BK522) k_ hk_.2.1), (Kd.freshB (g := gb523) (o := .cells #[.int .i64 t517, .int .i64 t518, .int .i64 t519, .int .i64 t520] 74 (0, 0)) (bk_ BK523) k_ hk_.2.1)⟩)) (below_size (hb_ HB)))
      replace HO_14 := A_ (Kd.R_below (rb_ HO_14.out) hb)
      replace HO_495000 := A_ (Kd.R_elder' (rb_ HO_495000.out) (Kd.R_base ho0) hb)
      replace HO_495001 := A_ (Kd.S_mono (Kd.S_told (Kd.S_told (Kd.S_old (sb_ HO_495001.out) hb) (Kd.R_base ho0)) (Kd.S_base ho1)) (fun _ h_ => h_.1))
      replace HO_503000 := A_ (Kd.R_elder' (rb_ HO_503000.out) (Kd.R_base ho0) hb)
      replace HO_503001 := A_ (Kd.S_mono (Kd.S_told (Kd.S_told (Kd.S_old (sb_ HO_503001.out) hb) (Kd.R_base ho0)) (Kd.S_base ho1)) (fun _ h_ => h_.1))
      replace HO_511001 := A_ (Kd.R_below (rb_ HO_511001.out) hb)
      replace HO_523000 := A_ (Kd.R_elder' (rb_ HO_523000.out) (Kd.R_base ho0) hb)
      replace HO_523001 := A_ (Kd.S_mono (Kd.S_told (Kd.S_told (Kd.S_old (sb_ HO_523001.out) hb) (Kd.R_base ho0)) (Kd.S_base ho1)) (fun _ h_ => h_.1))
      replace BK465 := bb_ BK465 hb
      replace BK466 := bb_ BK466 hb
      replace BK494 := bb_ BK494 hb
      replace BK495 := bb_ BK495 hb
      replace BK502 := bb_ BK502 hb
      replace BK510 := bb_ BK510 hb
      replace BK522 := bb_ BK522 hb
      replace BK523 := bb_ BK523 hb
      replace HB := hs_ HB hb
      (try clear hb)
      (try clear hb2)
      (try clear hk)
      (try clear hi)
      (try clear ho0)
      (try clear ho1)
      obtain ⟨Ao203, co203, eo203⟩ := Kd.R_slice HO528.out
      (first | subst eo203 | (injection eo203 with f1_ f2_ f3_; have f4_ := f1_.symm; have f5_ := f3_.symm; clear f1_ f2_ f3_; subst f4_; subst f5_))
      obtain ⟨Ao204, co204, eo204⟩ := Kd.S_slice HO531.out
      (first | subst eo204 | (injection eo204 with f1_ f2_ f3_; have f4_ := f1_.symm; have f5_ := f3_.symm; clear f1_ f2_ f3_; subst f4_; subst f5_))
      refine hK.out _ _ ⟨(blk_cell BK502.out 0).trans rfl, (blk_cell BK502.out 1).trans rfl, (blk_cell BK465.out 0).trans rfl, (blk_cell BK465.out 1).trans rfl⟩ (fun hHeld => ?_)
      clear hK K
      refine norm_ (a' := ?_) ?_ ?_
      rotate_left
      ·
       show Act.put _ (some 84) _ = _
       simp only [Act.put, List.setIfInBounds_toArray, List.set_cons_zero, List.set_cons_succ, i64_w, i32_w]
       rfl
      refine one_ (i := 3) (N := some 85) (bt_ 15 5) rfl rfl (by kernel_rfl) (by decide) (fun K hK => ?_)
      refine goes_ Try.func13 (by kernel_rfl) rfl #[.agg #[.slice Ao69 t496.length co69, .slice Ao75 t499.length co75], .agg #[.slice Ao203 t526.length co203, .slice Ao204 t529.length co204]] (by rfl) rfl rfl al_ ?_
      with_reducible refine (laws_eqMem.calls kj35 _ _ t496 _ _ t499 _ _ t526 _ _ t529 true _ ?side1 ?side2 ?side3 ?side4 ?side5 ?side6 ?side7 ?side8 A189.out).mono ?_
      (case side1 => repeat (first | exact (Kd.R_reads' HO_503000.out).2.2 | (with_reducible refine Kd.C_alloc ?_ _) | (with_reducible refine Kd.C_drewN ?_ _) | (with_reducible refine Kd.C_drew ?_)))
      (case side2 => exact (Kd.R_reads' HO_503000.out).2.1)
      (case side3 => repeat (first | exact (Kd.S_reads' HO_503001.out).2.2 | (with_reducible refine Kd.C_alloc ?_ _) | (with_reducible refine Kd.C_drewN ?_ _) | (with_reducible refine Kd.C_drew ?_)))
      (case side4 => exact (Kd.S_reads' HO_503001.out).2.1)
      (case side5 => repeat (first | exact (Kd.R_reads' HO528.out).2.2 | (with_reducible refine Kd.C_alloc ?_ _) | (with_reducible refine Kd.C_drewN ?_ _) | (with_reducible refine Kd.C_drew ?_)))
      (case side6 => exact (Kd.R_reads' HO528.out).2.1)
      (case side7 => repeat (first | exact (Kd.S_reads' HO531.out).2.2 | (with_reducible refine Kd.C_alloc ?_ _) | (with_reducible refine Kd.C_drewN ?_ _) | (with_reducible refine Kd.C_drew ?_)))
      (case side8 => exact (Kd.S_reads' HO531.out).2.1)
      rintro e w205 ⟨rfl, hb⟩
      refine ⟨_, rfl, ?_⟩
      replace HO_14 := A_ (Kd.R_below (rb_ HO_14.out) hb)
      replace HO_495000 := A_ (Kd.R_below (rb_ HO_495000.out) hb)
      replace HO_495001 := A_ (Kd.S_below (sb_ HO_495001.out) hb)
      replace HO_503000 := A_ (Kd.R_below (rb_ HO_503000.out) hb)
      replace HO_503001 := A_ (Kd.S_below (sb_ HO_503001.out) hb)
      replace HO_511001 := A_ (Kd.R_below (rb_ HO_511001.out) hb)
      replace HO_523000 := A_ (Kd.R_below (rb_ HO_523000.out) hb)
      replace HO_523001 := A_ (Kd.S_below (sb_ HO_523001.out) hb)
      replace HO528 := A_ (Kd.R_below (rb_ HO528.out) hb)
      replace HO531 := A_ (Kd.S_below (sb_ HO531.out) hb)
      replace BK465 := bb_ BK465 hb
      replace BK466 := bb_ BK466 hb
      replace BK494 := bb_ BK494 hb
      replace BK495 := bb_ BK495 hb
      replace BK502 := bb_ BK502 hb
      replace BK510 := bb_ BK510 hb
      replace BK522 := bb_ BK522 hb
      replace BK523 := bb_ BK523 hb
      replace HB := hs_ HB hb
      (try clear hb)
      (try clear hb2)
      (try clear hk)
      (try clear hi)
      refine hK.out _ _ ⟨(blk_cell BK502.out 0).trans rfl, (blk_cell BK502.out 1).trans rfl, (blk_cell BK465.out 0).trans rfl, (blk_cell BK465.out 1).trans rfl⟩ (fun hHeld => ?_)
      clear hK K
      refine norm_ (a' := ?_) ?_ ?_
      rotate_left
      ·
       show Act.put _ (some 85) _ = _
       simp only [Act.put, List.setIfInBounds_toArray, List.set_cons_zero, List.set_cons_succ, i64_w, i32_w]
       rfl
      refine pure_ (i := 4) (N := some 86) (v := ?_) (a' := ?_) (bt_ 31 5) rfl rfl (by kernel_rfl) (fun _ _ _ h => h) (Or.inl ⟨by rfl, ?_⟩) ?_ ?_
      rotate_left
      ·
       intro w'
       go_simp
       with_reducible rfl
      rotate_left
      ·
       simp only [Act.put, List.setIfInBounds_toArray, List.set_cons_zero, List.set_cons_succ, i64_w, i32_w]
       rfl
      refine done_ (by kernel_rfl) ?_
      try go_wp2_with (first | ((with_reducible refine gate_callee (f := 44) rfl ?_); refine goesL_ (some 89) rfl rfl Try.func44 (by kernel_rfl) rfl #[.slice A2 l2.length c2] rfl al_ ?_; (with_reducible refine (laws_toEntryS.calls kj35 _ _ l2 t533 _ ?side1 ?side2 A191.out).mono ?_); (case side1 => exact cb_ (Kd.C_below HR2.out HB.out)); (case side2 => exact HC2.out); rintro e w206 ⟨v534, rfl, ho0, hb⟩; refine ⟨_, rfl, ?_⟩; have HO535 := A_ (Kd.R_lower (Kd.R_new' ho0 (Kd.R_lt (rb_ HO_14.out))) (below_size (hb_ HB))); replace HO_14 := A_ (Kd.R_elder' (rb_ HO_14.out) (Kd.R_base ho0) hb); replace HO_495000 := A_ (Kd.R_below (rb_ HO_495000.out) hb); replace HO_495001 := A_ (Kd.S_elder' (sb_ HO_495001.out) (Kd.R_base ho0) hb); replace HO_503000 := A_ (Kd.R_below (rb_ HO_503000.out) hb); replace HO_503001 := A_ (Kd.S_elder' (sb_ HO_503001.out) (Kd.R_base ho0) hb); replace HO_511001 := A_ (Kd.R_below (rb_ HO_511001.out) hb); replace HO_523000 := A_ (Kd.R_below (rb_ HO_523000.out) hb); replace HO_523001 := A_ (Kd.S_elder' (sb_ HO_523001.out) (Kd.R_base ho0) hb); replace HO528 := A_ (Kd.R_below (rb_ HO528.out) hb); replace HO531 := A_ (Kd.S_elder' (sb_ HO531.out) (Kd.R_base ho0) hb); replace BK465 := bb_ BK465 hb; replace BK466 := bb_ BK466 hb; replace BK494 := bb_ BK494 hb; replace BK495 := bb_ BK495 hb; replace BK502 := bb_ BK502 hb; replace BK510 := bb_ BK510 hb; replace BK522 := bb_ BK522 hb; replace BK523 := bb_ BK523 hb; replace HB := hs_ HB hb; (try clear hb); (try clear hb2); (try clear hk); (try clear hi); (try clear ho0); obtain ⟨Ao207, co207, eo207⟩ := Kd.R_slice HO535.out; subst eo207) | ((with_reducible refine gate_callee (f := 47) rfl ?_); refine goesL_ (some 90) rfl rfl Try.func47 (by kernel_rfl) rfl #[.slice Ao90 t503.length co90, .slice Ao207 t533.length co207] rfl al_ ?_; (with_reducible refine (laws_eqEntryS.calls kj35 _ _ t503 _ _ t533 true _ ?side1 ?side2 ?side3 ?side4 A192.out).mono ?_); (case side1 => repeat (first | exact (Kd.R_reads' HO_14.out).2.2 | (with_reducible refine Kd.C_alloc ?_ _) | (with_reducible refine Kd.C_drewN ?_ _) | (with_reducible refine Kd.C_drew ?_))); (case side2 => exact (Kd.R_reads' HO_14.out).2.1); (case side3 => repeat (first | exact (Kd.R_reads' HO535.out).2.2 | (with_reducible refine Kd.C_alloc ?_ _) | (with_reducible refine Kd.C_drewN ?_ _) | (with_reducible refine Kd.C_drew ?_))); (case side4 => exact (Kd.R_reads' HO535.out).2.1); rintro e w208 ⟨rfl, hb⟩; refine ⟨_, rfl, ?_⟩; replace HO_14 := A_ (Kd.R_below (rb_ HO_14.out) hb); replace HO_495000 := A_ (Kd.R_below (rb_ HO_495000.out) hb); replace HO_495001 := A_ (Kd.S_below (sb_ HO_495001.out) hb); replace HO_503000 := A_ (Kd.R_below (rb_ HO_503000.out) hb); replace HO_503001 := A_ (Kd.S_below (sb_ HO_503001.out) hb); replace HO_511001 := A_ (Kd.R_below (rb_ HO_511001.out) hb); replace HO_523000 := A_ (Kd.R_below (rb_ HO_523000.out) hb); replace HO_523001 := A_ (Kd.S_below (sb_ HO_523001.out) hb); replace HO528 := A_ (Kd.R_below (rb_ HO528.out) hb); replace HO531 := A_ (Kd.S_below (sb_ HO531.out) hb); replace HO535 := A_ (Kd.R_below (rb_ HO535.out) hb); replace BK465 := bb_ BK465 hb; replace BK466 := bb_ BK466 hb; replace BK494 := bb_ BK494 hb; replace BK495 := bb_ BK495 hb; replace BK502 := bb_ BK502 hb; replace BK510 := bb_ BK510 hb; replace BK522 := bb_ BK522 hb; replace BK523 := bb_ BK523 hb; replace HB := hs_ HB hb; (try clear hb); (try clear hb2); (try clear hk); (try clear hi)))
      replace HO_14 := A_ (Kd.R_drew HO_14.out)
      replace HO_495000 := A_ (Kd.R_drew HO_495000.out)
      replace HO_495001 := A_ (Kd.S_drew HO_495001.out)
      replace HO_503000 := A_ (Kd.R_drew HO_503000.out)
      replace HO_503001 := A_ (Kd.S_drew HO_503001.out)
      replace HO_511001 := A_ (Kd.R_drew HO_511001.out)
      replace HO_523000 := A_ (Kd.R_drew HO_523000.out)
      replace HO_523001 := A_ (Kd.S_drew HO_523001.out)
      replace HO528 := A_ (Kd.R_drew HO528.out)
      replace HO531 := A_ (Kd.S_drew HO531.out)
      replace HO535 := A_ (Kd.R_drew HO535.out)
      replace BK465 := A_ (blk_drew BK465.out)
      replace BK466 := A_ (blk_drew BK466.out)
      replace BK494 := A_ (blk_drew BK494.out)
      replace BK495 := A_ (blk_drew BK495.out)
      replace BK502 := A_ (blk_drew BK502.out)
      replace BK510 := A_ (blk_drew BK510.out)
      replace BK522 := A_ (blk_drew BK522.out)
      replace BK523 := A_ (blk_drew BK523.out)
      replace HB := A_ (below_drew1 HB.out)
      refine start_ (n := 5) (S := fun w' => w'.cell? ⟨gb510, 0, none⟩ = some (.int .i64 t506) ∧ w'.cell? ⟨gb510, 1, none⟩ = some (.slice Ao88 t507.length co88) ∧ w'.cell? ⟨gb466, 0, none⟩ = some (.int .i64 a3_0) ∧ w'.cell? ⟨gb466, 1, none⟩ = some (.slice A3_1 l3_1.length c3_1)) (ds := []) (bt_ 0 5) (by kernel_rfl) rfl rfl ⟨(blk_cell BK510.out 0).trans rfl, (blk_cell BK510.out 1).trans rfl, (blk_cell BK466.out 0).trans rfl, (blk_cell BK466.out 1).trans rfl⟩ (fun hHeld => ?_)
      generalize w208.drew = w209 at HO_14 HO_495000 HO_495001 HO_503000 HO_503001 HO_511001 HO_523000 HO_523001 HO528 HO531 HO535 BK465 BK466 BK494 BK495 BK502 BK510 BK522 BK523 HB hHeld ⊢
      refine take_ (i := 0) (N := some 92) (v := ?_) (a' := ?_) (bt_ 1 5) rfl rfl (by kernel_rfl) (fun _ _ _ h => h) (Or.inl ⟨by rfl, ?_⟩) hHeld ?_ ?_
      rotate_left
      ·
       rintro w' ⟨s0, s1, s2, s3⟩
       go_simp
       with_reducible rfl
      rotate_left
      ·
       simp only [Act.put, List.setIfInBounds_toArray, List.set_cons_zero, List.set_cons_succ, i64_w, i32_w]
       rfl
      refine take_ (i := 1) (N := some 93) (v := ?_) (a' := ?_) (bt_ 3 5) rfl rfl (by kernel_rfl) (fun _ _ _ h => h) (Or.inl ⟨by rfl, ?_⟩) hHeld ?_ ?_
      rotate_left
      ·
       rintro w' ⟨s0, s1, s2, s3⟩
       go_simp
       with_reducible rfl
      rotate_left
      ·
       simp only [Act.put, List.setIfInBounds_toArray, List.set_cons_zero, List.set_cons_succ, i64_w, i32_w]
       rfl
      refine one_ (i := 2) (N := some 94) (bt_ 7 5) rfl rfl (by kernel_rfl) (by decide) (fun K hK => ?_)
      refine goes_ Try.func19 (by kernel_rfl) rfl #[.agg #[.int .i64 a3_0, .slice A3_1 l3_1.length c3_1]] (by rfl) rfl rfl al_ ?_
      with_reducible refine (laws_toRes.calls kj35 a3_0 _ _ l3_1 t537 t538 _ ?side1 ?side2 A194.out).mono ?_
      (case side1 => exact cb_ (Kd.C_below HR3_1.out HB.out))
      (case side2 => exact HC3_1.out)
      rintro e w210 ⟨v539, rfl, ho0, hb⟩
      refine ⟨_, rfl, ?_⟩
      have HO540 := A_ (Kd.R_lower (Kd.R_new' ho0 (Kd.R_lt (rb_ HO_511001.out))) (below_size (hb_ HB)))
      replace HO_14 := A_ (Kd.R_below (rb_ HO_14.out) hb)
      replace HO_495000 := A_ (Kd.R_below (rb_ HO_495000.out) hb)
      replace HO_495001 := A_ (Kd.S_elder' (sb_ HO_495001.out) (Kd.R_base ho0) hb)
      replace HO_503000 := A_ (Kd.R_below (rb_ HO_503000.out) hb)
      replace HO_503001 := A_ (Kd.S_elder' (sb_ HO_503001.out) (Kd.R_base ho0) hb)
      replace HO_511001 := A_ (Kd.R_elder' (rb_ HO_511001.out) (Kd.R_base ho0) hb)
      replace HO_523000 := A_ (Kd.R_below (rb_ HO_523000.out) hb)
      replace HO_523001 := A_ (Kd.S_elder' (sb_ HO_523001.out) (Kd.R_base ho0) hb)
      replace HO528 := A_ (Kd.R_below (rb_ HO528.out) hb)
      replace HO531 := A_ (Kd.S_elder' (sb_ HO531.out) (Kd.R_base ho0) hb)
      replace HO535 := A_ (Kd.R_below (rb_ HO535.out) hb)
      replace BK465 := bb_ BK465 hb
      replace BK466 := bb_ BK466 hb
      replace BK494 := bb_ BK494 hb
      replace BK495 := bb_ BK495 hb
      replace BK502 := bb_ BK502 hb
      replace BK510 := bb_ BK510 hb
      replace BK522 := bb_ BK522 hb
      replace BK523 := bb_ BK523 hb
      replace HB := hs_ HB hb
      (try clear hb)
      (try clear hb2)
      (try clear hk)
      (try clear hi)
      (try clear ho0)
      obtain ⟨Ao211, co211, eo211⟩ := Kd.R_slice HO540.out
      (first | subst eo211 | (injection eo211 with f1_ f2_ f3_; have f4_ := f1_.symm; have f5_ := f3_.symm; clear f1_ f2_ f3_; subst f4_; subst f5_))
      refine hK.out _ _ ⟨(blk_cell BK510.out 0).trans rfl, (blk_cell BK510.out 1).trans rfl, (blk_cell BK466.out 0).trans rfl, (blk_cell BK466.out 1).trans rfl⟩ (fun hHeld => ?_)
      clear hK K
      refine norm_ (a' := ?_) ?_ ?_
      rotate_left
      ·
       show Act.put _ (some 94) _ = _
       simp only [Act.put, List.setIfInBounds_toArray, List.set_cons_zero, List.set_cons_succ, i64_w, i32_w]
       rfl
      refine one_ (i := 3) (N := some 95) (bt_ 15 5) rfl rfl (by kernel_rfl) (by decide) (fun K hK => ?_)
      refine goes_ Try.func22 (by kernel_rfl) rfl #[.agg #[.int .i64 t506, .slice Ao88 t507.length co88], .agg #[.int .i64 t537, .slice Ao211 t538.length co211]] (by rfl) rfl rfl al_ ?_
      with_reducible refine (laws_eqRes.calls kj35 t506 _ _ t507 t537 _ _ t538 true _ ?side1 ?side2 ?side3 ?side4 A195.out).mono ?_
      (case side1 => repeat (first | exact (Kd.R_reads' HO_511001.out).2.2 | (with_reducible refine Kd.C_alloc ?_ _) | (with_reducible refine Kd.C_drewN ?_ _) | (with_reducible refine Kd.C_drew ?_)))
      (case side2 => exact (Kd.R_reads' HO_511001.out).2.1)
      (case side3 => repeat (first | exact (Kd.R_reads' HO540.out).2.2 | (with_reducible refine Kd.C_alloc ?_ _) | (with_reducible refine Kd.C_drewN ?_ _) | (with_reducible refine Kd.C_drew ?_)))
      (case side4 => exact (Kd.R_reads' HO540.out).2.1)
      rintro e w212 ⟨rfl, hb⟩
      refine ⟨_, rfl, ?_⟩
      replace HO_14 := A_ (Kd.R_below (rb_ HO_14.out) hb)
      replace HO_495000 := A_ (Kd.R_below (rb_ HO_495000.out) hb)
      replace HO_495001 := A_ (Kd.S_below (sb_ HO_495001.out) hb)
      replace HO_503000 := A_ (Kd.R_below (rb_ HO_503000.out) hb)
      replace HO_503001 := A_ (Kd.S_below (sb_ HO_503001.out) hb)
      replace HO_511001 := A_ (Kd.R_below (rb_ HO_511001.out) hb)
      replace HO_523000 := A_ (Kd.R_below (rb_ HO_523000.out) hb)
      replace HO_523001 := A_ (Kd.S_below (sb_ HO_523001.out) hb)
      replace HO528 := A_ (Kd.R_below (rb_ HO528.out) hb)
      replace HO531 := A_ (Kd.S_below (sb_ HO531.out) hb)
      replace HO535 := A_ (Kd.R_below (rb_ HO535.out) hb)
      replace HO540 := A_ (Kd.R_below (rb_ HO540.out) hb)
      replace BK465 := bb_ BK465 hb
      replace BK466 := bb_ BK466 hb
      replace BK494 := bb_ BK494 hb
      replace BK495 := bb_ BK495 hb
      replace BK502 := bb_ BK502 hb
      replace BK510 := bb_ BK510 hb
      replace BK522 := bb_ BK522 hb
      replace BK523 := bb_ BK523 hb
      replace HB := hs_ HB hb
      (try clear hb)
      (try clear hb2)
      (try clear hk)
      (try clear hi)
      refine hK.out _ _ ⟨(blk_cell BK510.out 0).trans rfl, (blk_cell BK510.out 1).trans rfl, (blk_cell BK466.out 0).trans rfl, (blk_cell BK466.out 1).trans rfl⟩ (fun hHeld => ?_)
      clear hK K
      refine norm_ (a' := ?_) ?_ ?_
      rotate_left
      ·
       show Act.put _ (some 95) _ = _
       simp only [Act.put, List.setIfInBounds_toArray, List.set_cons_zero, List.set_cons_succ, i64_w, i32_w]
       rfl
      refine pure_ (i := 4) (N := some 96) (v := ?_) (a' := ?_) (bt_ 31 5) rfl rfl (by kernel_rfl) (fun _ _ _ h => h) (Or.inl ⟨by rfl, ?_⟩) ?_ ?_
      rotate_left
      ·
       intro w'
       go_simp
       with_reducible rfl
      rotate_left
      ·
       simp only [Act.put, List.setIfInBounds_toArray, List.set_cons_zero, List.set_cons_succ, i64_w, i32_w]
       rfl
      refine done_ (by kernel_rfl) ?_
      have hnb213 := NB502_465.out
      have hnc213 := NB465_502.out
      have hnb214 := NB502_466.out
      have hnc214 := NB466_502.out
      have hnb215 := NB502_494.out
      have hnc215 := NB494_502.out
      have hnb216 := NB502_495.out
      have hnc216 := NB495_502.out
      have hnb217 := NB502_510.out
      have hnc217 := NB510_502.out
      have hnb218 := NB502_522.out
      have hnc218 := NB522_502.out
      have hnb219 := NB502_523.out
      have hnc219 := NB523_502.out
      obtain ⟨hcz220_0, hcz220_1, hfz220_0, hfz220_1⟩ := cz2_ BK502
      go_upto_region 28 with (first | ((with_reducible refine gate_callee (f := 40) rfl ?_); refine goesL_ (some 99) rfl rfl Try.func40 (by kernel_rfl) rfl #[.agg #[.slice Ao69 t496.length co69, .slice Ao75 t499.length co75], .int .i64 1] rfl al_ ?_; obtain ⟨PS_, hPS_, hT_, hI_⟩ := mm_foot HO_503001.out; (with_reducible refine (laws_markMem.own kj35 (fun k_ => some k_ = (.slice Ao69 t496.length co69 : Value).ownBlock) PS_ (.slice Ao69 t496.length co69) (.slice Ao75 t499.length co75) t496 t499 1 t542 t543 t499n w _ ?side1 ?side2 ?side3 ?side4 A197.out).mono ?_); (case side1 => repeat (first | (with_reducible first | exact HB.out | apply below_alloc | apply pw_below_drewN | apply below_drew1 | refine below_set ?_ GW465.out | refine below_set ?_ GW466.out | refine below_set ?_ GE494.out | refine below_set ?_ GE495.out | refine below_set ?_ GW502.out | refine below_set ?_ GW510.out | refine below_set ?_ GW522.out | refine below_set ?_ GW523.out) | exact HB.out)); (case side2 => exact Kd.R_tight rfl HO_503000.out); (case side3 => exact hPS_); (case side4 => exact mm_off (Kd.R_typed HO_503000.out) hT_ (by decide)); rintro e w221 ⟨rfl, hy0, hy1, hb, hkp⟩; refine ⟨_, rfl, ?_⟩; have n0_ := A_ (Kd.R_mono (ok' := fun k_ => some k_ ≠ (.slice Ao207 t533.length co207 : Value).ownBlock) (mm_Rc rfl ((Kd.R_apart' HO_14.out (Kd.R_typed HO_503000.out) (by decide))) hkp (fun k_ hk_ hs_ => (hk_.2) hs_) (fun k_ e_ h1_ => by have h2_ := hI_ k_ h1_; simp only [e_, ne_eq, not_true_eq_false, and_false, false_and] at h2_)) (fun k_ hk_ => hk_.1.1.2)); have n1_ := A_ (Kd.R_mono (ok' := fun k_ => some k_ ≠ (.slice Ao69 t496.length co69 : Value).ownBlock ∧ some k_ ≠ (.slice Ao94 t511.length co94 : Value).ownBlock ∧ some k_ ≠ (.slice Ao203 t526.length co203 : Value).ownBlock) (mm_Rb (HO_495000.out) hkp (fun k_ hk_ hs_ => (hk_.1.1) hs_) hT_ (by decide)) (fun k_ hk_ => ⟨hk_.1.1.1, hk_.1.1.2, hk_.1.2⟩)); have n2_ := A_ (Kd.S_mono (ok' := fun k_ => some k_ ≠ (.slice Ao90 t503.length co90 : Value).ownBlock ∧ some k_ ≠ (.slice Ao56 t483.length co56 : Value).ownBlock ∧ some k_ ≠ (.slice Ao69 t496.length co69 : Value).ownBlock ∧ k_ < nn1_ ∧ some k_ ≠ (.slice Ao88 t507.length co88 : Value).ownBlock ∧ some k_ ≠ (.slice Ao94 t511.length co94 : Value).ownBlock ∧ k_ < nn2_ ∧ some k_ ≠ (.slice Ao203 t526.length co203 : Value).ownBlock ∧ some k_ ≠ (.slice Ao204 t529.length co204 : Value).ownBlock ∧ some k_ ≠ (.slice Ao207 t533.length co207 : Value).ownBlock ∧ some k_ ≠ (.slice Ao211 t538.length co211 : Value).ownBlock ∧ k_ ≠ gb465 ∧ k_ ≠ gb466 ∧ k_ ≠ gb494 ∧ k_ ≠ gb495 ∧ k_ ≠ gb502 ∧ k_ ≠ gb510 ∧ k_ ≠ gb522 ∧ k_ ≠ gb523) (mm_Sb (HO_495001.out) hkp (fun k_ hk_ hs_ => (hk_.1.1.1.1.2.2.1) hs_) (fun k_ hk_ h1_ => by have h2_ := hI_ k_ h1_; clear hI_; (try simp only [and_assoc] at hk_); (try simp only [and_assoc] at h2_); omega)) (fun k_ hk_ => ⟨hk_.1.1.1.1.1.1, hk_.1.1.1.1.1.2.1, hk_.1.1.1.1.1.2.2.1, hk_.1.1.1.1.1.2.2.2.1, hk_.1.1.1.1.1.2.2.2.2.1, hk_.1.1.1.1.1.2.2.2.2.2.1, hk_.1.1.1.1.1.2.2.2.2.2.2.1, hk_.1.1.1.1.2, hk_.1.1.1.2, hk_.1.1.2, hk_.1.2, hk_.1.1.1.1.1.2.2.2.2.2.2.2.1, hk_.1.1.1.1.1.2.2.2.2.2.2.2.2.1, hk_.1.1.1.1.1.2.2.2.2.2.2.2.2.2.1, hk_.1.1.1.1.1.2.2.2.2.2.2.2.2.2.2.1, hk_.1.1.1.1.1.2.2.2.2.2.2.2.2.2.2.2.1, hk_.1.1.1.1.1.2.2.2.2.2.2.2.2.2.2.2.2.1, hk_.1.1.1.1.1.2.2.2.2.2.2.2.2.2.2.2.2.2.1, hk_.1.1.1.1.1.2.2.2.2.2.2.2.2.2.2.2.2.2.2⟩)); have n3_ := A_ (Kd.R_reok rfl hy0 (fun k_ e_ => HO_503000.out.1 k_ e_)); have n4_ := A_ (Kd.S_mono (ok' := fun k_ => some k_ ≠ (.slice Ao90 t503.length co90 : Value).ownBlock ∧ some k_ ≠ (.slice Ao56 t483.length co56 : Value).ownBlock ∧ nn1_ ≤ k_ ∧ some k_ ≠ (.slice Ao69 t496.length co69 : Value).ownBlock ∧ some k_ ≠ (.slice Ao88 t507.length co88 : Value).ownBlock ∧ some k_ ≠ (.slice Ao94 t511.length co94 : Value).ownBlock ∧ k_ < nn2_ ∧ some k_ ≠ (.slice Ao203 t526.length co203 : Value).ownBlock ∧ some k_ ≠ (.slice Ao204 t529.length co204 : Value).ownBlock ∧ some k_ ≠ (.slice Ao207 t533.length co207 : Value).ownBlock ∧ some k_ ≠ (.slice Ao211 t538.length co211 : Value).ownBlock ∧ k_ ≠ gb465 ∧ k_ ≠ gb466 ∧ k_ ≠ gb494 ∧ k_ ≠ gb495 ∧ k_ ≠ gb502 ∧ k_ ≠ gb510 ∧ k_ ≠ gb522 ∧ k_ ≠ gb523) (mm_Sk hy1 hI_) (fun k_ hk_ => ⟨hk_.1.1.1.1.1.1, hk_.1.1.1.1.1.2.1, hk_.1.1.1.1.1.2.2.1, hk_.1.1.1.1.1.2.2.2.1, hk_.1.1.1.1.1.2.2.2.2.1, hk_.1.1.1.1.1.2.2.2.2.2.1, hk_.1.1.1.1.1.2.2.2.2.2.2.1, hk_.1.1.1.1.2, hk_.1.1.1.2, hk_.1.1.2, hk_.1.2, hk_.1.1.1.1.1.2.2.2.2.2.2.2.1, hk_.1.1.1.1.1.2.2.2.2.2.2.2.2.1, hk_.1.1.1.1.1.2.2.2.2.2.2.2.2.2.1, hk_.1.1.1.1.1.2.2.2.2.2.2.2.2.2.2.1, hk_.1.1.1.1.1.2.2.2.2.2.2.2.2.2.2.2.1, hk_.1.1.1.1.1.2.2.2.2.2.2.2.2.2.2.2.2.1, hk_.1.1.1.1.1.2.2.2.2.2.2.2.2.2.2.2.2.2.1, hk_.1.1.1.1.1.2.2.2.2.2.2.2.2.2.2.2.2.2.2⟩)); have n5_ := A_ (Kd.R_mono (ok' := fun k_ => some k_ ≠ (.slice Ao211 t538.length co211 : Value).ownBlock) (mm_Rc rfl ((Kd.R_apart' HO_511001.out (Kd.R_typed HO_503000.out) (by decide))) hkp (fun k_ hk_ hs_ => (hk_.2) hs_) (fun k_ e_ h1_ => by have h2_ := hI_ k_ h1_; simp only [e_, ne_eq, not_true_eq_false, and_false, false_and] at h2_)) (fun k_ hk_ => hk_.1.1.2)); have n6_ := A_ (Kd.R_mono (ok' := fun k_ => some k_ ≠ (.slice Ao56 t483.length co56 : Value).ownBlock ∧ some k_ ≠ (.slice Ao69 t496.length co69 : Value).ownBlock ∧ some k_ ≠ (.slice Ao203 t526.length co203 : Value).ownBlock) (mm_Rb (HO_523000.out) hkp (fun k_ hk_ hs_ => (hk_.1.2) hs_) hT_ (by decide)) (fun k_ hk_ => ⟨hk_.1.1.1, hk_.1.1.2, hk_.1.2⟩)); have n7_ := A_ (Kd.S_mono (ok' := fun k_ => some k_ ≠ (.slice Ao90 t503.length co90 : Value).ownBlock ∧ some k_ ≠ (.slice Ao56 t483.length co56 : Value).ownBlock ∧ nn2_ ≤ k_ ∧ some k_ ≠ (.slice Ao69 t496.length co69 : Value).ownBlock ∧ nn2_ ≤ k_ ∧ some k_ ≠ (.slice Ao88 t507.length co88 : Value).ownBlock ∧ some k_ ≠ (.slice Ao94 t511.length co94 : Value).ownBlock ∧ some k_ ≠ (.slice Ao203 t526.length co203 : Value).ownBlock ∧ some k_ ≠ (.slice Ao204 t529.length co204 : Value).ownBlock ∧ some k_ ≠ (.slice Ao207 t533.length co207 : Value).ownBlock ∧ some k_ ≠ (.slice Ao211 t538.length co211 : Value).ownBlock ∧ k_ ≠ gb465 ∧ k_ ≠ gb466 ∧ k_ ≠ gb494 ∧ k_ ≠ gb495 ∧ k_ ≠ gb502 ∧ k_ ≠ gb510 ∧ k_ ≠ gb522 ∧ k_ ≠ gb523) (mm_Sb (HO_523001.out) hkp (fun k_ hk_ hs_ => (hk_.1.1.1.1.2.2.2.1) hs_) (fun k_ hk_ h1_ => by have h2_ := hI_ k_ h1_; clear hI_; (try simp only [and_assoc] at hk_); (try simp only [and_assoc] at h2_); omega)) (fun k_ hk_ => ⟨hk_.1.1.1.1.1.1, hk_.1.1.1.1.1.2.1, hk_.1.1.1.1.1.2.2.1, hk_.1.1.1.1.1.2.2.2.1, hk_.1.1.1.1.1.2.2.2.2.1, hk_.1.1.1.1.1.2.2.2.2.2.1, hk_.1.1.1.1.1.2.2.2.2.2.2.1, hk_.1.1.1.1.2, hk_.1.1.1.2, hk_.1.1.2, hk_.1.2, hk_.1.1.1.1.1.2.2.2.2.2.2.2.1, hk_.1.1.1.1.1.2.2.2.2.2.2.2.2.1, hk_.1.1.1.1.1.2.2.2.2.2.2.2.2.2.1, hk_.1.1.1.1.1.2.2.2.2.2.2.2.2.2.2.1, hk_.1.1.1.1.1.2.2.2.2.2.2.2.2.2.2.2.1, hk_.1.1.1.1.1.2.2.2.2.2.2.2.2.2.2.2.2.1, hk_.1.1.1.1.1.2.2.2.2.2.2.2.2.2.2.2.2.2.1, hk_.1.1.1.1.1.2.2.2.2.2.2.2.2.2.2.2.2.2.2⟩)); have n8_ := A_ (mm_blk (bk_ BK465) hkp (fun hs_ => (fun e_ => (Kd.R_ne HO_503000.out BK465.out (by decide)) e_) hs_) hT_ (by decide)); have n9_ := A_ (mm_blk (bk_ BK466) hkp (fun hs_ => (fun e_ => (Kd.R_ne HO_503000.out BK466.out (by decide)) e_) hs_) hT_ (by decide)); have n10_ := A_ (mm_blk (bk_ BK494) hkp (fun hs_ => (fun e_ => (Kd.R_ne HO_503000.out BK494.out (by decide)) e_) hs_) hT_ (by decide)); have n11_ := A_ (mm_blk (bk_ BK495) hkp (fun hs_ => (fun e_ => (Kd.R_ne HO_503000.out BK495.out (by decide)) e_) hs_) hT_ (by decide)); have n12_ := A_ (mm_blk (bk_ BK502) hkp (fun hs_ => (fun e_ => (Kd.R_ne HO_503000.out BK502.out (by decide)) e_) hs_) hT_ (by decide)); have n13_ := A_ (mm_blk (bk_ BK510) hkp (fun hs_ => (fun e_ => (Kd.R_ne HO_503000.out BK510.out (by decide)) e_) hs_) hT_ (by decide)); have n14_ := A_ (mm_blk (bk_ BK522) hkp (fun hs_ => (fun e_ => (Kd.R_ne HO_503000.out BK522.out (by decide)) e_) hs_) hT_ (by decide)); have n15_ := A_ (mm_blk (bk_ BK523) hkp (fun hs_ => (fun e_ => (Kd.R_ne HO_503000.out BK523.out (by decide)) e_) hs_) hT_ (by decide)); have n16_ := A_ (Kd.R_mono (ok' := fun k_ => some k_ ≠ (.slice Ao56 t483.length co56 : Value).ownBlock ∧ some k_ ≠ (.slice Ao69 t496.length co69 : Value).ownBlock ∧ some k_ ≠ (.slice Ao94 t511.length co94 : Value).ownBlock) (mm_Rc rfl (HO528.out) hkp (fun k_ hk_ hs_ => (hk_.1.2) hs_) (fun k_ e_ h1_ => by have h2_ := hI_ k_ h1_; simp only [e_, ne_eq, not_true_eq_false, and_false, false_and] at h2_)) (fun k_ hk_ => ⟨hk_.1.1.1.2, hk_.1.1.2, hk_.1.2⟩)); have n17_ := A_ (Kd.S_nil k119 119 w221 w.heap.size (fun k_ => some k_ ≠ (.slice Ao90 t503.length co90 : Value).ownBlock ∧ some k_ ≠ (.slice Ao56 t483.length co56 : Value).ownBlock ∧ some k_ ≠ (.slice Ao58 t486.length co58 : Value).ownBlock ∧ some k_ ≠ (.slice Ao69 t496.length co69 : Value).ownBlock ∧ some k_ ≠ (.slice Ao75 t499.length co75 : Value).ownBlock ∧ some k_ ≠ (.slice Ao88 t507.length co88 : Value).ownBlock ∧ some k_ ≠ (.slice Ao94 t511.length co94 : Value).ownBlock ∧ some k_ ≠ (.slice Ao103 t514.length co103 : Value).ownBlock ∧ some k_ ≠ (.slice Ao203 t526.length co203 : Value).ownBlock ∧ some k_ ≠ (.slice Ao207 t533.length co207 : Value).ownBlock ∧ some k_ ≠ (.slice Ao211 t538.length co211 : Value).ownBlock ∧ k_ ≠ gb465 ∧ k_ ≠ gb466 ∧ k_ ≠ gb494 ∧ k_ ≠ gb495 ∧ k_ ≠ gb502 ∧ k_ ≠ gb510 ∧ k_ ≠ gb522 ∧ k_ ≠ gb523)); have n18_ := A_ (Kd.R_mono (ok' := fun k_ => some k_ ≠ (.slice Ao90 t503.length co90 : Value).ownBlock) (mm_Rc rfl ((Kd.R_apart' HO535.out (Kd.R_typed HO_503000.out) (by decide))) hkp (fun k_ hk_ hs_ => (hk_.2) hs_) (fun k_ e_ h1_ => by have h2_ := hI_ k_ h1_; simp only [e_, ne_eq, not_true_eq_false, and_false, false_and] at h2_)) (fun k_ hk_ => hk_.1.1.2)); have n19_ := A_ (Kd.R_mono (ok' := fun k_ => some k_ ≠ (.slice Ao88 t507.length co88 : Value).ownBlock) (mm_Rc rfl ((Kd.R_apart' HO540.out (Kd.R_typed HO_503000.out) (by decide))) hkp (fun k_ hk_ hs_ => (hk_.2) hs_) (fun k_ e_ h1_ => by have h2_ := hI_ k_ h1_; simp only [e_, ne_eq, not_true_eq_false, and_false, false_and] at h2_)) (fun k_ hk_ => hk_.1.1.2)); have n20_ := A_ hb; have hln_ := (Kd.S_reads' hy1).1; clear HO_14; clear HO_495000; clear HO_495001; clear HO_503000; clear HO_503001; clear HO_511001; clear HO_523000; clear HO_523001; clear BK465; clear BK466; clear BK494; clear BK495; clear BK502; clear BK510; clear BK522; clear BK523; clear HO528; clear HO531; clear HO535; clear HO540; clear HB; have HO_14 := n0_; have HO_495000 := n1_; have HO_495001 := n2_; have HO_503000 := n3_; have HO_503001 := n4_; have HO_511001 := n5_; have HO_523000 := n6_; have HO_523001 := n7_; have BK465 := n8_; have BK466 := n9_; have BK494 := n10_; have BK495 := n11_; have BK502 := n12_; have BK510 := n13_; have BK522 := n14_; have BK523 := n15_; have HO528 := n16_; have HO531 := n17_; have HO535 := n18_; have HO540 := n19_; have HB := n20_; clear n0_ n1_ n2_ n3_ n4_ n5_ n6_ n7_ n8_ n9_ n10_ n11_ n12_ n13_ n14_ n15_ n16_ n17_ n18_ n19_ n20_; (try clear hb); (try clear hkp); (try clear hln_); (try clear hy0); (try clear hy1); (try clear hPS_); (try clear hT_); (try clear hI_)) | ((with_reducible refine gate_callee (f := 48) rfl ?_); refine goesL_ (some 102) rfl rfl Try.func48 (by kernel_rfl) rfl #[.slice Ao90 t503.length co90, .int .i64 t542] rfl al_ ?_; (with_reducible refine (laws_markEntryS.calls kj35 (fun k_ => some k_ = (.slice Ao90 t503.length co90 : Value).ownBlock) (.slice Ao90 t503.length co90) t503 t542 t544 t545 w _ ?side1 ?side2 A198.out).mono ?_); (case side1 => repeat (first | (with_reducible first | exact HB.out | apply below_alloc | apply pw_below_drewN | apply below_drew1 | refine below_set ?_ GW465.out | refine below_set ?_ GW466.out | refine below_set ?_ GE494.out | refine below_set ?_ GE495.out | refine below_set ?_ GW502.out | refine below_set ?_ GW510.out | refine below_set ?_ GW522.out | refine below_set ?_ GW523.out) | exact HB.out)); (case side2 => exact Kd.R_tight rfl HO_14.out); rintro e w222 ⟨rfl, hy0, hb, hkp⟩; refine ⟨_, rfl, ?_⟩; have n0_ := A_ (Kd.R_reok rfl hy0 (fun k_ e_ => HO_14.out.1 k_ e_)); have n1_ := A_ (Kd.R_mono (ok' := fun k_ => some k_ ≠ (.slice Ao69 t496.length co69 : Value).ownBlock ∧ some k_ ≠ (.slice Ao94 t511.length co94 : Value).ownBlock ∧ some k_ ≠ (.slice Ao203 t526.length co203 : Value).ownBlock) (Kd.R_keptB ((Kd.R_apart' HO_495000.out (Kd.R_typed HO_14.out) (by decide))) hkp (fun k_ hk_ hs_ => (hk_.2) hs_)) (fun k_ hk_ => ⟨hk_.1.1.1, hk_.1.1.2.1, hk_.1.1.2.2⟩)); have n2_ := A_ (Kd.S_mono (ok' := fun k_ => some k_ ≠ (.slice Ao90 t503.length co90 : Value).ownBlock ∧ some k_ ≠ (.slice Ao56 t483.length co56 : Value).ownBlock ∧ some k_ ≠ (.slice Ao69 t496.length co69 : Value).ownBlock ∧ k_ < nn1_ ∧ some k_ ≠ (.slice Ao88 t507.length co88 : Value).ownBlock ∧ some k_ ≠ (.slice Ao94 t511.length co94 : Value).ownBlock ∧ k_ < nn2_ ∧ some k_ ≠ (.slice Ao203 t526.length co203 : Value).ownBlock ∧ some k_ ≠ (.slice Ao204 t529.length co204 : Value).ownBlock ∧ some k_ ≠ (.slice Ao207 t533.length co207 : Value).ownBlock ∧ some k_ ≠ (.slice Ao211 t538.length co211 : Value).ownBlock ∧ k_ ≠ gb465 ∧ k_ ≠ gb466 ∧ k_ ≠ gb494 ∧ k_ ≠ gb495 ∧ k_ ≠ gb502 ∧ k_ ≠ gb510 ∧ k_ ≠ gb522 ∧ k_ ≠ gb523) (Kd.S_keptB (HO_495001.out) hkp (fun k_ hk_ hs_ => (hk_.1) hs_)) (fun k_ hk_ => ⟨hk_.1.1, hk_.1.2.1, hk_.1.2.2.1, hk_.1.2.2.2.1, hk_.1.2.2.2.2.1, hk_.1.2.2.2.2.2.1, hk_.1.2.2.2.2.2.2.1, hk_.1.2.2.2.2.2.2.2.1, hk_.1.2.2.2.2.2.2.2.2.1, hk_.1.2.2.2.2.2.2.2.2.2.1, hk_.1.2.2.2.2.2.2.2.2.2.2.1, hk_.1.2.2.2.2.2.2.2.2.2.2.2.1, hk_.1.2.2.2.2.2.2.2.2.2.2.2.2.1, hk_.1.2.2.2.2.2.2.2.2.2.2.2.2.2.1, hk_.1.2.2.2.2.2.2.2.2.2.2.2.2.2.2.1, hk_.1.2.2.2.2.2.2.2.2.2.2.2.2.2.2.2.1, hk_.1.2.2.2.2.2.2.2.2.2.2.2.2.2.2.2.2.1, hk_.1.2.2.2.2.2.2.2.2.2.2.2.2.2.2.2.2.2.1, hk_.1.2.2.2.2.2.2.2.2.2.2.2.2.2.2.2.2.2.2⟩)); have n3_ := A_ (Kd.R_mono (ok' := fun k_ => some k_ ≠ (.slice Ao56 t483.length co56 : Value).ownBlock ∧ some k_ ≠ (.slice Ao94 t511.length co94 : Value).ownBlock ∧ some k_ ≠ (.slice Ao203 t526.length co203 : Value).ownBlock) (Kd.R_keptB ((Kd.R_apart' HO_503000.out (Kd.R_typed HO_14.out) (by decide))) hkp (fun k_ hk_ hs_ => (hk_.2) hs_)) (fun k_ hk_ => ⟨hk_.1.1.1.1, hk_.1.1.1.2, hk_.1.1.2⟩)); have n4_ := A_ (Kd.S_mono (ok' := fun k_ => some k_ ≠ (.slice Ao90 t503.length co90 : Value).ownBlock ∧ some k_ ≠ (.slice Ao56 t483.length co56 : Value).ownBlock ∧ nn1_ ≤ k_ ∧ some k_ ≠ (.slice Ao69 t496.length co69 : Value).ownBlock ∧ some k_ ≠ (.slice Ao88 t507.length co88 : Value).ownBlock ∧ some k_ ≠ (.slice Ao94 t511.length co94 : Value).ownBlock ∧ k_ < nn2_ ∧ some k_ ≠ (.slice Ao203 t526.length co203 : Value).ownBlock ∧ some k_ ≠ (.slice Ao204 t529.length co204 : Value).ownBlock ∧ some k_ ≠ (.slice Ao207 t533.length co207 : Value).ownBlock ∧ some k_ ≠ (.slice Ao211 t538.length co211 : Value).ownBlock ∧ k_ ≠ gb465 ∧ k_ ≠ gb466 ∧ k_ ≠ gb494 ∧ k_ ≠ gb495 ∧ k_ ≠ gb502 ∧ k_ ≠ gb510 ∧ k_ ≠ gb522 ∧ k_ ≠ gb523) (Kd.S_keptB (HO_503001.out) hkp (fun k_ hk_ hs_ => (hk_.1) hs_)) (fun k_ hk_ => ⟨hk_.1.1, hk_.1.2.1, hk_.1.2.2.1, hk_.1.2.2.2.1, hk_.1.2.2.2.2.1, hk_.1.2.2.2.2.2.1, hk_.1.2.2.2.2.2.2.1, hk_.1.2.2.2.2.2.2.2.1, hk_.1.2.2.2.2.2.2.2.2.1, hk_.1.2.2.2.2.2.2.2.2.2.1, hk_.1.2.2.2.2.2.2.2.2.2.2.1, hk_.1.2.2.2.2.2.2.2.2.2.2.2.1, hk_.1.2.2.2.2.2.2.2.2.2.2.2.2.1, hk_.1.2.2.2.2.2.2.2.2.2.2.2.2.2.1, hk_.1.2.2.2.2.2.2.2.2.2.2.2.2.2.2.1, hk_.1.2.2.2.2.2.2.2.2.2.2.2.2.2.2.2.1, hk_.1.2.2.2.2.2.2.2.2.2.2.2.2.2.2.2.2.1, hk_.1.2.2.2.2.2.2.2.2.2.2.2.2.2.2.2.2.2.1, hk_.1.2.2.2.2.2.2.2.2.2.2.2.2.2.2.2.2.2.2⟩)); have n5_ := A_ (Kd.R_mono (ok' := fun k_ => some k_ ≠ (.slice Ao211 t538.length co211 : Value).ownBlock) (Kd.R_keptB ((Kd.R_apart' HO_511001.out (Kd.R_typed HO_14.out) (by decide))) hkp (fun k_ hk_ hs_ => (hk_.2) hs_)) (fun k_ hk_ => hk_.1.1)); have n6_ := A_ (Kd.R_mono (ok' := fun k_ => some k_ ≠ (.slice Ao56 t483.length co56 : Value).ownBlock ∧ some k_ ≠ (.slice Ao69 t496.length co69 : Value).ownBlock ∧ some k_ ≠ (.slice Ao203 t526.length co203 : Value).ownBlock) (Kd.R_keptB ((Kd.R_apart' HO_523000.out (Kd.R_typed HO_14.out) (by decide))) hkp (fun k_ hk_ hs_ => (hk_.2) hs_)) (fun k_ hk_ => ⟨hk_.1.1.1, hk_.1.1.2.1, hk_.1.1.2.2⟩)); have n7_ := A_ (Kd.S_mono (ok' := fun k_ => some k_ ≠ (.slice Ao90 t503.length co90 : Value).ownBlock ∧ some k_ ≠ (.slice Ao56 t483.length co56 : Value).ownBlock ∧ nn2_ ≤ k_ ∧ some k_ ≠ (.slice Ao69 t496.length co69 : Value).ownBlock ∧ nn2_ ≤ k_ ∧ some k_ ≠ (.slice Ao88 t507.length co88 : Value).ownBlock ∧ some k_ ≠ (.slice Ao94 t511.length co94 : Value).ownBlock ∧ some k_ ≠ (.slice Ao203 t526.length co203 : Value).ownBlock ∧ some k_ ≠ (.slice Ao204 t529.length co204 : Value).ownBlock ∧ some k_ ≠ (.slice Ao207 t533.length co207 : Value).ownBlock ∧ some k_ ≠ (.slice Ao211 t538.length co211 : Value).ownBlock ∧ k_ ≠ gb465 ∧ k_ ≠ gb466 ∧ k_ ≠ gb494 ∧ k_ ≠ gb495 ∧ k_ ≠ gb502 ∧ k_ ≠ gb510 ∧ k_ ≠ gb522 ∧ k_ ≠ gb523) (Kd.S_keptB (HO_523001.out) hkp (fun k_ hk_ hs_ => (hk_.1) hs_)) (fun k_ hk_ => ⟨hk_.1.1, hk_.1.2.1, hk_.1.2.2.1, hk_.1.2.2.2.1, hk_.1.2.2.2.2.1, hk_.1.2.2.2.2.2.1, hk_.1.2.2.2.2.2.2.1, hk_.1.2.2.2.2.2.2.2.1, hk_.1.2.2.2.2.2.2.2.2.1, hk_.1.2.2.2.2.2.2.2.2.2.1, hk_.1.2.2.2.2.2.2.2.2.2.2.1, hk_.1.2.2.2.2.2.2.2.2.2.2.2.1, hk_.1.2.2.2.2.2.2.2.2.2.2.2.2.1, hk_.1.2.2.2.2.2.2.2.2.2.2.2.2.2.1, hk_.1.2.2.2.2.2.2.2.2.2.2.2.2.2.2.1, hk_.1.2.2.2.2.2.2.2.2.2.2.2.2.2.2.2.1, hk_.1.2.2.2.2.2.2.2.2.2.2.2.2.2.2.2.2.1, hk_.1.2.2.2.2.2.2.2.2.2.2.2.2.2.2.2.2.2.1, hk_.1.2.2.2.2.2.2.2.2.2.2.2.2.2.2.2.2.2.2⟩)); have n8_ := A_ (blk_kept (bk_ BK465) hkp (fun hs_ => (fun e_ => (Kd.R_ne HO_14.out BK465.out (by decide)) e_) hs_)); have n9_ := A_ (blk_kept (bk_ BK466) hkp (fun hs_ => (fun e_ => (Kd.R_ne HO_14.out BK466.out (by decide)) e_) hs_)); have n10_ := A_ (blk_kept (bk_ BK494) hkp (fun hs_ => (fun e_ => (Kd.R_ne HO_14.out BK494.out (by decide)) e_) hs_)); have n11_ := A_ (blk_kept (bk_ BK495) hkp (fun hs_ => (fun e_ => (Kd.R_ne HO_14.out BK495.out (by decide)) e_) hs_)); have n12_ := A_ (blk_kept (bk_ BK502) hkp (fun hs_ => (fun e_ => (Kd.R_ne HO_14.out BK502.out (by decide)) e_) hs_)); have n13_ := A_ (blk_kept (bk_ BK510) hkp (fun hs_ => (fun e_ => (Kd.R_ne HO_14.out BK510.out (by decide)) e_) hs_)); have n14_ := A_ (blk_kept (bk_ BK522) hkp (fun hs_ => (fun e_ => (Kd.R_ne HO_14.out BK522.out (by decide)) e_) hs_)); have n15_ := A_ (blk_kept (bk_ BK523) hkp (fun hs_ => (fun e_ => (Kd.R_ne HO_14.out BK523.out (by decide)) e_) hs_)); have n16_ := A_ (Kd.R_mono (ok' := fun k_ => some k_ ≠ (.slice Ao56 t483.length co56 : Value).ownBlock ∧ some k_ ≠ (.slice Ao69 t496.length co69 : Value).ownBlock ∧ some k_ ≠ (.slice Ao94 t511.length co94 : Value).ownBlock) (Kd.R_keptB ((Kd.R_apart' HO528.out (Kd.R_typed HO_14.out) (by decide))) hkp (fun k_ hk_ hs_ => (hk_.2) hs_)) (fun k_ hk_ => ⟨hk_.1.1.1, hk_.1.1.2.1, hk_.1.1.2.2⟩)); have n17_ := A_ (Kd.S_mono (ok' := fun k_ => some k_ ≠ (.slice Ao90 t503.length co90 : Value).ownBlock ∧ some k_ ≠ (.slice Ao56 t483.length co56 : Value).ownBlock ∧ some k_ ≠ (.slice Ao58 t486.length co58 : Value).ownBlock ∧ some k_ ≠ (.slice Ao69 t496.length co69 : Value).ownBlock ∧ some k_ ≠ (.slice Ao75 t499.length co75 : Value).ownBlock ∧ some k_ ≠ (.slice Ao88 t507.length co88 : Value).ownBlock ∧ some k_ ≠ (.slice Ao94 t511.length co94 : Value).ownBlock ∧ some k_ ≠ (.slice Ao103 t514.length co103 : Value).ownBlock ∧ some k_ ≠ (.slice Ao203 t526.length co203 : Value).ownBlock ∧ some k_ ≠ (.slice Ao207 t533.length co207 : Value).ownBlock ∧ some k_ ≠ (.slice Ao211 t538.length co211 : Value).ownBlock ∧ k_ ≠ gb465 ∧ k_ ≠ gb466 ∧ k_ ≠ gb494 ∧ k_ ≠ gb495 ∧ k_ ≠ gb502 ∧ k_ ≠ gb510 ∧ k_ ≠ gb522 ∧ k_ ≠ gb523) (Kd.S_keptB (HO531.out) hkp (fun k_ hk_ hs_ => (hk_.1) hs_)) (fun k_ hk_ => ⟨hk_.1.1, hk_.1.2.1, hk_.1.2.2.1, hk_.1.2.2.2.1, hk_.1.2.2.2.2.1, hk_.1.2.2.2.2.2.1, hk_.1.2.2.2.2.2.2.1, hk_.1.2.2.2.2.2.2.2.1, hk_.1.2.2.2.2.2.2.2.2.1, hk_.1.2.2.2.2.2.2.2.2.2.1, hk_.1.2.2.2.2.2.2.2.2.2.2.1, hk_.1.2.2.2.2.2.2.2.2.2.2.2.1, hk_.1.2.2.2.2.2.2.2.2.2.2.2.2.1, hk_.1.2.2.2.2.2.2.2.2.2.2.2.2.2.1, hk_.1.2.2.2.2.2.2.2.2.2.2.2.2.2.2.1, hk_.1.2.2.2.2.2.2.2.2.2.2.2.2.2.2.2.1, hk_.1.2.2.2.2.2.2.2.2.2.2.2.2.2.2.2.2.1, hk_.1.2.2.2.2.2.2.2.2.2.2.2.2.2.2.2.2.2.1, hk_.1.2.2.2.2.2.2.2.2.2.2.2.2.2.2.2.2.2.2⟩)); have n18_ := A_ (Kd.R_mono (ok' := fun k_ => some k_ ≠ (.slice Ao90 t503.length co90 : Value).ownBlock) (Kd.R_keptB (HO535.out) hkp (fun k_ hk_ hs_ => (hk_) hs_)) (fun k_ hk_ => hk_.1)); have n19_ := A_ (Kd.R_mono (ok' := fun k_ => some k_ ≠ (.slice Ao88 t507.length co88 : Value).ownBlock) (Kd.R_keptB ((Kd.R_apart' HO540.out (Kd.R_typed HO_14.out) (by decide))) hkp (fun k_ hk_ hs_ => (hk_.2) hs_)) (fun k_ hk_ => hk_.1.1)); have n20_ := A_ hb; clear HO_14; clear HO_495000; clear HO_495001; clear HO_503000; clear HO_503001; clear HO_511001; clear HO_523000; clear HO_523001; clear BK465; clear BK466; clear BK494; clear BK495; clear BK502; clear BK510; clear BK522; clear BK523; clear HO528; clear HO531; clear HO535; clear HO540; clear HB; have HO_14 := n0_; have HO_495000 := n1_; have HO_495001 := n2_; have HO_503000 := n3_; have HO_503001 := n4_; have HO_511001 := n5_; have HO_523000 := n6_; have HO_523001 := n7_; have BK465 := n8_; have BK466 := n9_; have BK494 := n10_; have BK495 := n11_; have BK502 := n12_; have BK510 := n13_; have BK522 := n14_; have BK523 := n15_; have HO528 := n16_; have HO531 := n17_; have HO535 := n18_; have HO540 := n19_; have HB := n20_; clear n0_ n1_ n2_ n3_ n4_ n5_ n6_ n7_ n8_ n9_ n10_ n11_ n12_ n13_ n14_ n15_ n16_ n17_ n18_ n19_ n20_; (try clear hb); (try clear hkp); (try clear hy0); have hnb223 := NB510_465.out; have hnc223 := NB465_510.out; have hnb224 := NB510_466.out; have hnc224 := NB466_510.out; have hnb225 := NB510_494.out; have hnc225 := NB494_510.out; have hnb226 := NB510_495.out; have hnc226 := NB495_510.out; have hnb227 := NB510_522.out; have hnc227 := NB522_510.out; have hnb228 := NB510_523.out; have hnc228 := NB523_510.out; obtain ⟨hcz229_0, hcz229_1, hfz229_0, hfz229_1⟩ := cz2_ BK510) | ((with_reducible refine gate_callee (f := 24) rfl ?_); refine goesL_ (some 105) rfl rfl Try.func24 (by kernel_rfl) rfl #[.agg #[.int .i64 t506, .slice Ao88 t507.length co88], .int .i64 t544] rfl al_ ?_; (with_reducible refine (laws_markRes.calls kj35 t506 (fun k_ => some k_ = (.slice Ao88 t507.length co88 : Value).ownBlock) (.slice Ao88 t507.length co88) t507 t544 t546 t547 w _ ?side1 ?side2 A199.out).mono ?_); (case side1 => repeat (first | (with_reducible first | exact HB.out | apply below_alloc | apply pw_below_drewN | apply below_drew1 | refine below_set ?_ GW465.out | refine below_set ?_ GW466.out | refine below_set ?_ GE494.out | refine below_set ?_ GE495.out | refine below_set ?_ GW502.out | refine below_set ?_ GW510.out | refine below_set ?_ GW522.out | refine below_set ?_ GW523.out) | exact HB.out)); (case side2 => exact Kd.R_tight rfl HO_511001.out); rintro e w230 ⟨rfl, hy0, hb, hkp⟩; refine ⟨_, rfl, ?_⟩; have n0_ := A_ (Kd.R_mono (ok' := fun k_ => some k_ ≠ (.slice Ao207 t533.length co207 : Value).ownBlock) (Kd.R_keptB ((Kd.R_apart' HO_14.out (Kd.R_typed HO_511001.out) (by decide))) hkp (fun k_ hk_ hs_ => (hk_.2) hs_)) (fun k_ hk_ => hk_.1.1)); have n1_ := A_ (Kd.R_mono (ok' := fun k_ => some k_ ≠ (.slice Ao69 t496.length co69 : Value).ownBlock ∧ some k_ ≠ (.slice Ao94 t511.length co94 : Value).ownBlock ∧ some k_ ≠ (.slice Ao203 t526.length co203 : Value).ownBlock) (Kd.R_keptB ((Kd.R_apart' HO_495000.out (Kd.R_typed HO_511001.out) (by decide))) hkp (fun k_ hk_ hs_ => (hk_.2) hs_)) (fun k_ hk_ => ⟨hk_.1.1.1, hk_.1.1.2.1, hk_.1.1.2.2⟩)); have n2_ := A_ (Kd.S_mono (ok' := fun k_ => some k_ ≠ (.slice Ao90 t503.length co90 : Value).ownBlock ∧ some k_ ≠ (.slice Ao56 t483.length co56 : Value).ownBlock ∧ some k_ ≠ (.slice Ao69 t496.length co69 : Value).ownBlock ∧ k_ < nn1_ ∧ some k_ ≠ (.slice Ao88 t507.length co88 : Value).ownBlock ∧ some k_ ≠ (.slice Ao94 t511.length co94 : Value).ownBlock ∧ k_ < nn2_ ∧ some k_ ≠ (.slice Ao203 t526.length co203 : Value).ownBlock ∧ some k_ ≠ (.slice Ao204 t529.length co204 : Value).ownBlock ∧ some k_ ≠ (.slice Ao207 t533.length co207 : Value).ownBlock ∧ some k_ ≠ (.slice Ao211 t538.length co211 : Value).ownBlock ∧ k_ ≠ gb465 ∧ k_ ≠ gb466 ∧ k_ ≠ gb494 ∧ k_ ≠ gb495 ∧ k_ ≠ gb502 ∧ k_ ≠ gb510 ∧ k_ ≠ gb522 ∧ k_ ≠ gb523) (Kd.S_keptB (HO_495001.out) hkp (fun k_ hk_ hs_ => (hk_.2.2.2.2.1) hs_)) (fun k_ hk_ => ⟨hk_.1.1, hk_.1.2.1, hk_.1.2.2.1, hk_.1.2.2.2.1, hk_.1.2.2.2.2.1, hk_.1.2.2.2.2.2.1, hk_.1.2.2.2.2.2.2.1, hk_.1.2.2.2.2.2.2.2.1, hk_.1.2.2.2.2.2.2.2.2.1, hk_.1.2.2.2.2.2.2.2.2.2.1, hk_.1.2.2.2.2.2.2.2.2.2.2.1, hk_.1.2.2.2.2.2.2.2.2.2.2.2.1, hk_.1.2.2.2.2.2.2.2.2.2.2.2.2.1, hk_.1.2.2.2.2.2.2.2.2.2.2.2.2.2.1, hk_.1.2.2.2.2.2.2.2.2.2.2.2.2.2.2.1, hk_.1.2.2.2.2.2.2.2.2.2.2.2.2.2.2.2.1, hk_.1.2.2.2.2.2.2.2.2.2.2.2.2.2.2.2.2.1, hk_.1.2.2.2.2.2.2.2.2.2.2.2.2.2.2.2.2.2.1, hk_.1.2.2.2.2.2.2.2.2.2.2.2.2.2.2.2.2.2.2⟩)); have n3_ := A_ (Kd.R_mono (ok' := fun k_ => some k_ ≠ (.slice Ao56 t483.length co56 : Value).ownBlock ∧ some k_ ≠ (.slice Ao94 t511.length co94 : Value).ownBlock ∧ some k_ ≠ (.slice Ao203 t526.length co203 : Value).ownBlock) (Kd.R_keptB ((Kd.R_apart' HO_503000.out (Kd.R_typed HO_511001.out) (by decide))) hkp (fun k_ hk_ hs_ => (hk_.2) hs_)) (fun k_ hk_ => ⟨hk_.1.1.1, hk_.1.1.2.1, hk_.1.1.2.2⟩)); have n4_ := A_ (Kd.S_mono (ok' := fun k_ => some k_ ≠ (.slice Ao90 t503.length co90 : Value).ownBlock ∧ some k_ ≠ (.slice Ao56 t483.length co56 : Value).ownBlock ∧ nn1_ ≤ k_ ∧ some k_ ≠ (.slice Ao69 t496.length co69 : Value).ownBlock ∧ some k_ ≠ (.slice Ao88 t507.length co88 : Value).ownBlock ∧ some k_ ≠ (.slice Ao94 t511.length co94 : Value).ownBlock ∧ k_ < nn2_ ∧ some k_ ≠ (.slice Ao203 t526.length co203 : Value).ownBlock ∧ some k_ ≠ (.slice Ao204 t529.length co204 : Value).ownBlock ∧ some k_ ≠ (.slice Ao207 t533.length co207 : Value).ownBlock ∧ some k_ ≠ (.slice Ao211 t538.length co211 : Value).ownBlock ∧ k_ ≠ gb465 ∧ k_ ≠ gb466 ∧ k_ ≠ gb494 ∧ k_ ≠ gb495 ∧ k_ ≠ gb502 ∧ k_ ≠ gb510 ∧ k_ ≠ gb522 ∧ k_ ≠ gb523) (Kd.S_keptB (HO_503001.out) hkp (fun k_ hk_ hs_ => (hk_.2.2.2.2.1) hs_)) (fun k_ hk_ => ⟨hk_.1.1, hk_.1.2.1, hk_.1.2.2.1, hk_.1.2.2.2.1, hk_.1.2.2.2.2.1, hk_.1.2.2.2.2.2.1, hk_.1.2.2.2.2.2.2.1, hk_.1.2.2.2.2.2.2.2.1, hk_.1.2.2.2.2.2.2.2.2.1, hk_.1.2.2.2.2.2.2.2.2.2.1, hk_.1.2.2.2.2.2.2.2.2.2.2.1, hk_.1.2.2.2.2.2.2.2.2.2.2.2.1, hk_.1.2.2.2.2.2.2.2.2.2.2.2.2.1, hk_.1.2.2.2.2.2.2.2.2.2.2.2.2.2.1, hk_.1.2.2.2.2.2.2.2.2.2.2.2.2.2.2.1, hk_.1.2.2.2.2.2.2.2.2.2.2.2.2.2.2.2.1, hk_.1.2.2.2.2.2.2.2.2.2.2.2.2.2.2.2.2.1, hk_.1.2.2.2.2.2.2.2.2.2.2.2.2.2.2.2.2.2.1, hk_.1.2.2.2.2.2.2.2.2.2.2.2.2.2.2.2.2.2.2⟩)); have n5_ := A_ (Kd.R_reok rfl hy0 (fun k_ e_ => HO_511001.out.1 k_ e_)); have n6_ := A_ (Kd.R_mono (ok' := fun k_ => some k_ ≠ (.slice Ao56 t483.length co56 : Value).ownBlock ∧ some k_ ≠ (.slice Ao69 t496.length co69 : Value).ownBlock ∧ some k_ ≠ (.slice Ao203 t526.length co203 : Value).ownBlock) (Kd.R_keptB ((Kd.R_apart' HO_523000.out (Kd.R_typed HO_511001.out) (by decide))) hkp (fun k_ hk_ hs_ => (hk_.2) hs_)) (fun k_ hk_ => ⟨hk_.1.1.1, hk_.1.1.2.1, hk_.1.1.2.2⟩)); have n7_ := A_ (Kd.S_mono (ok' := fun k_ => some k_ ≠ (.slice Ao90 t503.length co90 : Value).ownBlock ∧ some k_ ≠ (.slice Ao56 t483.length co56 : Value).ownBlock ∧ nn2_ ≤ k_ ∧ some k_ ≠ (.slice Ao69 t496.length co69 : Value).ownBlock ∧ nn2_ ≤ k_ ∧ some k_ ≠ (.slice Ao88 t507.length co88 : Value).ownBlock ∧ some k_ ≠ (.slice Ao94 t511.length co94 : Value).ownBlock ∧ some k_ ≠ (.slice Ao203 t526.length co203 : Value).ownBlock ∧ some k_ ≠ (.slice Ao204 t529.length co204 : Value).ownBlock ∧ some k_ ≠ (.slice Ao207 t533.length co207 : Value).ownBlock ∧ some k_ ≠ (.slice Ao211 t538.length co211 : Value).ownBlock ∧ k_ ≠ gb465 ∧ k_ ≠ gb466 ∧ k_ ≠ gb494 ∧ k_ ≠ gb495 ∧ k_ ≠ gb502 ∧ k_ ≠ gb510 ∧ k_ ≠ gb522 ∧ k_ ≠ gb523) (Kd.S_keptB (HO_523001.out) hkp (fun k_ hk_ hs_ => (hk_.2.2.2.2.2.1) hs_)) (fun k_ hk_ => ⟨hk_.1.1, hk_.1.2.1, hk_.1.2.2.1, hk_.1.2.2.2.1, hk_.1.2.2.2.2.1, hk_.1.2.2.2.2.2.1, hk_.1.2.2.2.2.2.2.1, hk_.1.2.2.2.2.2.2.2.1, hk_.1.2.2.2.2.2.2.2.2.1, hk_.1.2.2.2.2.2.2.2.2.2.1, hk_.1.2.2.2.2.2.2.2.2.2.2.1, hk_.1.2.2.2.2.2.2.2.2.2.2.2.1, hk_.1.2.2.2.2.2.2.2.2.2.2.2.2.1, hk_.1.2.2.2.2.2.2.2.2.2.2.2.2.2.1, hk_.1.2.2.2.2.2.2.2.2.2.2.2.2.2.2.1, hk_.1.2.2.2.2.2.2.2.2.2.2.2.2.2.2.2.1, hk_.1.2.2.2.2.2.2.2.2.2.2.2.2.2.2.2.2.1, hk_.1.2.2.2.2.2.2.2.2.2.2.2.2.2.2.2.2.2.1, hk_.1.2.2.2.2.2.2.2.2.2.2.2.2.2.2.2.2.2.2⟩)); have n8_ := A_ (blk_kept (bk_ BK465) hkp (fun hs_ => (fun e_ => (Kd.R_ne HO_511001.out BK465.out (by decide)) e_) hs_)); have n9_ := A_ (blk_kept (bk_ BK466) hkp (fun hs_ => (fun e_ => (Kd.R_ne HO_511001.out BK466.out (by decide)) e_) hs_)); have n10_ := A_ (blk_kept (bk_ BK494) hkp (fun hs_ => (fun e_ => (Kd.R_ne HO_511001.out BK494.out (by decide)) e_) hs_)); have n11_ := A_ (blk_kept (bk_ BK495) hkp (fun hs_ => (fun e_ => (Kd.R_ne HO_511001.out BK495.out (by decide)) e_) hs_)); have n12_ := A_ (blk_kept (bk_ BK502) hkp (fun hs_ => (fun e_ => (Kd.R_ne HO_511001.out BK502.out (by decide)) e_) hs_)); have n13_ := A_ (blk_kept (bk_ BK510) hkp (fun hs_ => (fun e_ => (Kd.R_ne HO_511001.out BK510.out (by decide)) e_) hs_)); have n14_ := A_ (blk_kept (bk_ BK522) hkp (fun hs_ => (fun e_ => (Kd.R_ne HO_511001.out BK522.out (by decide)) e_) hs_)); have n15_ := A_ (blk_kept (bk_ BK523) hkp (fun hs_ => (fun e_ => (Kd.R_ne HO_511001.out BK523.out (by decide)) e_) hs_)); have n16_ := A_ (Kd.R_mono (ok' := fun k_ => some k_ ≠ (.slice Ao56 t483.length co56 : Value).ownBlock ∧ some k_ ≠ (.slice Ao69 t496.length co69 : Value).ownBlock ∧ some k_ ≠ (.slice Ao94 t511.length co94 : Value).ownBlock) (Kd.R_keptB ((Kd.R_apart' HO528.out (Kd.R_typed HO_511001.out) (by decide))) hkp (fun k_ hk_ hs_ => (hk_.2) hs_)) (fun k_ hk_ => ⟨hk_.1.1.1, hk_.1.1.2.1, hk_.1.1.2.2⟩)); have n17_ := A_ (Kd.S_mono (ok' := fun k_ => some k_ ≠ (.slice Ao90 t503.length co90 : Value).ownBlock ∧ some k_ ≠ (.slice Ao56 t483.length co56 : Value).ownBlock ∧ some k_ ≠ (.slice Ao58 t486.length co58 : Value).ownBlock ∧ some k_ ≠ (.slice Ao69 t496.length co69 : Value).ownBlock ∧ some k_ ≠ (.slice Ao75 t499.length co75 : Value).ownBlock ∧ some k_ ≠ (.slice Ao88 t507.length co88 : Value).ownBlock ∧ some k_ ≠ (.slice Ao94 t511.length co94 : Value).ownBlock ∧ some k_ ≠ (.slice Ao103 t514.length co103 : Value).ownBlock ∧ some k_ ≠ (.slice Ao203 t526.length co203 : Value).ownBlock ∧ some k_ ≠ (.slice Ao207 t533.length co207 : Value).ownBlock ∧ some k_ ≠ (.slice Ao211 t538.length co211 : Value).ownBlock ∧ k_ ≠ gb465 ∧ k_ ≠ gb466 ∧ k_ ≠ gb494 ∧ k_ ≠ gb495 ∧ k_ ≠ gb502 ∧ k_ ≠ gb510 ∧ k_ ≠ gb522 ∧ k_ ≠ gb523) (Kd.S_keptB (HO531.out) hkp (fun k_ hk_ hs_ => (hk_.2.2.2.2.2.1) hs_)) (fun k_ hk_ => ⟨hk_.1.1, hk_.1.2.1, hk_.1.2.2.1, hk_.1.2.2.2.1, hk_.1.2.2.2.2.1, hk_.1.2.2.2.2.2.1, hk_.1.2.2.2.2.2.2.1, hk_.1.2.2.2.2.2.2.2.1, hk_.1.2.2.2.2.2.2.2.2.1, hk_.1.2.2.2.2.2.2.2.2.2.1, hk_.1.2.2.2.2.2.2.2.2.2.2.1, hk_.1.2.2.2.2.2.2.2.2.2.2.2.1, hk_.1.2.2.2.2.2.2.2.2.2.2.2.2.1, hk_.1.2.2.2.2.2.2.2.2.2.2.2.2.2.1, hk_.1.2.2.2.2.2.2.2.2.2.2.2.2.2.2.1, hk_.1.2.2.2.2.2.2.2.2.2.2.2.2.2.2.2.1, hk_.1.2.2.2.2.2.2.2.2.2.2.2.2.2.2.2.2.1, hk_.1.2.2.2.2.2.2.2.2.2.2.2.2.2.2.2.2.2.1, hk_.1.2.2.2.2.2.2.2.2.2.2.2.2.2.2.2.2.2.2⟩)); have n18_ := A_ (Kd.R_mono (ok' := fun k_ => some k_ ≠ (.slice Ao90 t503.length co90 : Value).ownBlock) (Kd.R_keptB ((Kd.R_apart' HO535.out (Kd.R_typed HO_511001.out) (by decide))) hkp (fun k_ hk_ hs_ => (hk_.2) hs_)) (fun k_ hk_ => hk_.1.1)); have n19_ := A_ (Kd.R_mono (ok' := fun k_ => some k_ ≠ (.slice Ao88 t507.length co88 : Value).ownBlock) (Kd.R_keptB (HO540.out) hkp (fun k_ hk_ hs_ => (hk_) hs_)) (fun k_ hk_ => hk_.1)); have n20_ := A_ hb; clear HO_14; clear HO_495000; clear HO_495001; clear HO_503000; clear HO_503001; clear HO_511001; clear HO_523000; clear HO_523001; clear BK465; clear BK466; clear BK494; clear BK495; clear BK502; clear BK510; clear BK522; clear BK523; clear HO528; clear HO531; clear HO535; clear HO540; clear HB; have HO_14 := n0_; have HO_495000 := n1_; have HO_495001 := n2_; have HO_503000 := n3_; have HO_503001 := n4_; have HO_511001 := n5_; have HO_523000 := n6_; have HO_523001 := n7_; have BK465 := n8_; have BK466 := n9_; have BK494 := n10_; have BK495 := n11_; have BK502 := n12_; have BK510 := n13_; have BK522 := n14_; have BK523 := n15_; have HO528 := n16_; have HO531 := n17_; have HO535 := n18_; have HO540 := n19_; have HB := n20_; clear n0_ n1_ n2_ n3_ n4_ n5_ n6_ n7_ n8_ n9_ n10_ n11_ n12_ n13_ n14_ n15_ n16_ n17_ n18_ n19_ n20_; (try clear hb); (try clear hkp); (try clear hy0)))
      (try simp only [Act.put, List.setIfInBounds_toArray, List.set_cons_zero, List.set_cons_succ])
      go_cut [124] (fun v124 wc => ∃ (kq : Nat) (x124_199 : Bool), v124 = .bool x124_199 ∧ Aside0 (laws_FnExactBegin.j1 kq a1 l2 t493 x124_199 l0_0 l0_1 a3_0 l3_1 t483 t486 t489 t490 t491 t492 t511 t514 = some r) ∧ Aside0 (kq ≤ kj35) ∧ Aside0 (Kd.R k95 95 wc w.heap.size (fun k_ => some k_ ≠ ((.slice Ao94 t511.length co94) : Value).ownBlock) (.slice Ao56 t483.length co56) t483) ∧ Aside0 (Kd.S k119 119 wc w.heap.size (fun k_ => some k_ ≠ ((.slice Ao56 t483.length co56) : Value).ownBlock ∧ some k_ ≠ ((.slice Ao94 t511.length co94) : Value).ownBlock ∧ k_ < nn2_ ∧ k_ ≠ gb465 ∧ k_ ≠ gb466 ∧ k_ ≠ gb494 ∧ k_ ≠ gb495 ∧ k_ ≠ gb522) (.slice Ao58 t486.length co58) t486) ∧ Aside0 (Kd.R k95 95 wc w.heap.size (fun k_ => some k_ ≠ ((.slice Ao56 t483.length co56) : Value).ownBlock) (.slice Ao94 t511.length co94) t511) ∧ Aside0 (Kd.S k119 119 wc w.heap.size (fun k_ => some k_ ≠ ((.slice Ao56 t483.length co56) : Value).ownBlock ∧ nn2_ ≤ k_ ∧ some k_ ≠ ((.slice Ao94 t511.length co94) : Value).ownBlock ∧ k_ ≠ gb465 ∧ k_ ≠ gb466 ∧ k_ ≠ gb494 ∧ k_ ≠ gb495 ∧ k_ ≠ gb522) (.slice Ao103 t514.length co103) t514) ∧ Aside0 (wc.heap[gb465]? = some (.cells #[(.slice A0_0 l0_0.length c0_0), (.slice A0_1 l0_1.length c0_1)] 25 (0, 0))) ∧ Aside0 (wc.heap[gb466]? = some (.cells #[.int .i64 a3_0, (.slice A3_1 l3_1.length c3_1)] 41 (0, 0))) ∧ Aside0 (wc.heap[gb494]? = some (.cells #[(.slice Ao56 t483.length co56), (.slice Ao58 t486.length co58)] 31 (0, 0))) ∧ Aside0 (wc.heap[gb495]? = some (.cells #[.int .i64 t489, .int .i64 t490, .int .i64 t491, .int .i64 t492] 74 (0, 0))) ∧ Aside0 (wc.heap[gb522]? = some (.cells #[(.slice Ao94 t511.length co94), (.slice Ao103 t514.length co103)] 31 (0, 0))) ∧ Aside0 (Below w.heap.size w wc))
      case first =>
       have H := HC200.out
       clear HC200
       replace H := ic_ H
       rcases H with ⟨c231b0, H⟩ | ⟨c231b0, H⟩
       ·
        (first | rw [c231b0] | (simp only [i64_w, i32_w]; rw [c231b0]) | skip)
        replace H' := A_ H; clear H
        go_wp2
        go_meet
        case rel => exact ⟨_, (true), rt_, H', ⟨by have := HJ35.out; first | omega | exact Nat.le_refl _⟩, ⟨by (with_reducible repeat (first | apply Kd.R_alloc | apply Kd.R_drewN | apply Kd.R_drew)); exact Kd.R_mono HO_495000.out (fun _ hk => hk.2.1)⟩, ⟨by (with_reducible repeat (first | apply Kd.S_alloc | apply Kd.S_drewN | apply Kd.S_drew)); exact Kd.S_mono HO_495001.out (fun _ hk => ⟨hk.2.1, ⟨hk.2.2.2.2.2.1, ⟨hk.2.2.2.2.2.2.1, ⟨hk.2.2.2.2.2.2.2.2.2.2.2.1, ⟨hk.2.2.2.2.2.2.2.2.2.2.2.2.1, ⟨hk.2.2.2.2.2.2.2.2.2.2.2.2.2.1, ⟨hk.2.2.2.2.2.2.2.2.2.2.2.2.2.2.1, hk.2.2.2.2.2.2.2.2.2.2.2.2.2.2.2.2.2.1⟩⟩⟩⟩⟩⟩⟩)⟩, ⟨by (with_reducible repeat (first | apply Kd.R_alloc | apply Kd.R_drewN | apply Kd.R_drew)); exact Kd.R_mono HO_523000.out (fun _ hk => hk.1)⟩, ⟨by (with_reducible repeat (first | apply Kd.S_alloc | apply Kd.S_drewN | apply Kd.S_drew)); exact Kd.S_mono HO_523001.out (fun _ hk => ⟨hk.2.1, ⟨hk.2.2.1, ⟨hk.2.2.2.2.2.2.1, ⟨hk.2.2.2.2.2.2.2.2.2.2.2.1, ⟨hk.2.2.2.2.2.2.2.2.2.2.2.2.1, ⟨hk.2.2.2.2.2.2.2.2.2.2.2.2.2.1, ⟨hk.2.2.2.2.2.2.2.2.2.2.2.2.2.2.1, hk.2.2.2.2.2.2.2.2.2.2.2.2.2.2.2.2.2.1⟩⟩⟩⟩⟩⟩⟩)⟩, ⟨bk_ BK465⟩, ⟨bk_ BK466⟩, ⟨bk_ BK494⟩, ⟨bk_ BK495⟩, ⟨bk_ BK522⟩, ⟨hb_ HB⟩⟩
       (first | rw [c231b0] | (simp only [i64_w, i32_w]; rw [c231b0]) | skip)
       replace H := bs_ H
       obtain ⟨t548, A232, H⟩ := H
       by_cases c233 : t548 = true
       ·
        subst c233
        replace H := it_ H
        replace H := bs_ H
        obtain ⟨t549, A234, H⟩ := H
        by_cases c235 : t549 = true
        ·
         subst c235
         replace H := it_ H
         replace H' := A_ H; clear H
         have hnb236 := NB522_465.out
         have hnc236 := NB465_522.out
         have hnb237 := NB522_466.out
         have hnc237 := NB466_522.out
         have hnb238 := NB522_494.out
         have hnc238 := NB494_522.out
         have hnb239 := NB522_495.out
         have hnc239 := NB495_522.out
         have hnb240 := NB522_502.out
         have hnc240 := NB502_522.out
         have hnb241 := NB522_510.out
         have hnc241 := NB510_522.out
         have hnb242 := NB522_523.out
         have hnc242 := NB523_522.out
         obtain ⟨hcz243_0, hcz243_1, hfz243_0, hfz243_1⟩ := cz2_ BK522
         have hnb244 := NB494_465.out
         have hnc244 := NB465_494.out
         have hnb245 := NB494_466.out
         have hnc245 := NB466_494.out
         have hnb246 := NB494_495.out
         have hnc246 := NB495_494.out
         have hnb247 := NB494_502.out
         have hnc247 := NB502_494.out
         have hnb248 := NB494_510.out
         have hnc248 := NB510_494.out
         have hnb249 := NB494_523.out
         have hnc249 := NB523_494.out
         obtain ⟨hcz250_0, hcz250_1, hfz250_0, hfz250_1⟩ := cz2_ BK494
         go_wp2_with (first | (go_at_call 13; (with_reducible refine (laws_eqMem.calls kj35 _ _ t511 _ _ t514 _ _ t483 _ _ t486 true _ ?side1 ?side2 ?side3 ?side4 ?side5 ?side6 ?side7 ?side8 A232.out).mono ?_); (case side1 => repeat (first | exact (Kd.R_reads' HO_523000.out).2.2 | (with_reducible refine Kd.C_alloc ?_ _) | (with_reducible refine Kd.C_drewN ?_ _) | (with_reducible refine Kd.C_drew ?_))); (case side2 => exact (Kd.R_reads' HO_523000.out).2.1); (case side3 => repeat (first | exact (Kd.S_reads' HO_523001.out).2.2 | (with_reducible refine Kd.C_alloc ?_ _) | (with_reducible refine Kd.C_drewN ?_ _) | (with_reducible refine Kd.C_drew ?_))); (case side4 => exact (Kd.S_reads' HO_523001.out).2.1); (case side5 => repeat (first | exact (Kd.R_reads' HO_495000.out).2.2 | (with_reducible refine Kd.C_alloc ?_ _) | (with_reducible refine Kd.C_drewN ?_ _) | (with_reducible refine Kd.C_drew ?_))); (case side6 => exact (Kd.R_reads' HO_495000.out).2.1); (case side7 => repeat (first | exact (Kd.S_reads' HO_495001.out).2.2 | (with_reducible refine Kd.C_alloc ?_ _) | (with_reducible refine Kd.C_drewN ?_ _) | (with_reducible refine Kd.C_drew ?_))); (case side8 => exact (Kd.S_reads' HO_495001.out).2.1); rintro e w251 ⟨rfl, hb⟩; replace HO_14 := A_ (Kd.R_below (rb_ HO_14.out) hb); replace HO_495000 := A_ (Kd.R_below (rb_ HO_495000.out) hb); replace HO_495001 := A_ (Kd.S_below (sb_ HO_495001.out) hb); replace HO_503000 := A_ (Kd.R_below (rb_ HO_503000.out) hb); replace HO_503001 := A_ (Kd.S_below (sb_ HO_503001.out) hb); replace HO_511001 := A_ (Kd.R_below (rb_ HO_511001.out) hb); replace HO_523000 := A_ (Kd.R_below (rb_ HO_523000.out) hb); replace HO_523001 := A_ (Kd.S_below (sb_ HO_523001.out) hb); replace HO528 := A_ (Kd.R_below (rb_ HO528.out) hb); replace HO531 := A_ (Kd.S_below (sb_ HO531.out) hb); replace HO535 := A_ (Kd.R_below (rb_ HO535.out) hb); replace HO540 := A_ (Kd.R_below (rb_ HO540.out) hb); replace BK465 := bb_ BK465 hb; replace BK466 := bb_ BK466 hb; replace BK494 := bb_ BK494 hb; replace BK495 := bb_ BK495 hb; replace BK502 := bb_ BK502 hb; replace BK510 := bb_ BK510 hb; replace BK522 := bb_ BK522 hb; replace BK523 := bb_ BK523 hb; replace HB := hs_ HB hb; (try clear hb); (try clear hb2); (try clear hk); (try clear hi); have hnb252 := NB523_465.out; have hnc252 := NB465_523.out; have hnb253 := NB523_466.out; have hnc253 := NB466_523.out; have hnb254 := NB523_495.out; have hnc254 := NB495_523.out; have hnb255 := NB523_502.out; have hnc255 := NB502_523.out; have hnb256 := NB523_510.out; have hnc256 := NB510_523.out; obtain ⟨hcz257_0, hcz257_1, hcz257_2, hcz257_3, hfz257_0, hfz257_1, hfz257_2, hfz257_3⟩ := cz4_ BK523; have hnb258 := NB495_465.out; have hnc258 := NB465_495.out; have hnb259 := NB495_466.out; have hnc259 := NB466_495.out; have hnb260 := NB495_502.out; have hnc260 := NB502_495.out; have hnb261 := NB495_510.out; have hnc261 := NB510_495.out; obtain ⟨hcz262_0, hcz262_1, hcz262_2, hcz262_3, hfz262_0, hfz262_1, hfz262_2, hfz262_3⟩ := cz4_ BK495) | (go_at_call 46; (with_reducible refine (laws_eqHelp.calls t517 t518 t519 t520 t489 t490 t491 t492 true _ A234.out).mono ?_); rintro e w263 ⟨rfl, hb⟩; replace HO_14 := A_ (Kd.R_below (rb_ HO_14.out) hb); replace HO_495000 := A_ (Kd.R_below (rb_ HO_495000.out) hb); replace HO_495001 := A_ (Kd.S_below (sb_ HO_495001.out) hb); replace HO_503000 := A_ (Kd.R_below (rb_ HO_503000.out) hb); replace HO_503001 := A_ (Kd.S_below (sb_ HO_503001.out) hb); replace HO_511001 := A_ (Kd.R_below (rb_ HO_511001.out) hb); replace HO_523000 := A_ (Kd.R_below (rb_ HO_523000.out) hb); replace HO_523001 := A_ (Kd.S_below (sb_ HO_523001.out) hb); replace HO528 := A_ (Kd.R_below (rb_ HO528.out) hb); replace HO531 := A_ (Kd.S_below (sb_ HO531.out) hb); replace HO535 := A_ (Kd.R_below (rb_ HO535.out) hb); replace HO540 := A_ (Kd.R_below (rb_ HO540.out) hb); replace BK465 := bb_ BK465 hb; replace BK466 := bb_ BK466 hb; replace BK494 := bb_ BK494 hb; replace BK495 := bb_ BK495 hb; replace BK502 := bb_ BK502 hb; replace BK510 := bb_ BK510 hb; replace BK522 := bb_ BK522 hb; replace BK523 := bb_ BK523 hb; replace HB := hs_ HB hb; (try clear hb); (try clear hb2); (try clear hk); (try clear hi)))
         go_meet
         case rel => exact ⟨_, ((t521 != t493)), rt_, H', ⟨by have := HJ35.out; first | omega | exact Nat.le_refl _⟩, ⟨by (with_reducible repeat (first | apply Kd.R_alloc | apply Kd.R_drewN | apply Kd.R_drew)); exact Kd.R_mono HO_495000.out (fun _ hk => hk.2.1)⟩, ⟨by (with_reducible repeat (first | apply Kd.S_alloc | apply Kd.S_drewN | apply Kd.S_drew)); exact Kd.S_mono HO_495001.out (fun _ hk => ⟨hk.2.1, ⟨hk.2.2.2.2.2.1, ⟨hk.2.2.2.2.2.2.1, ⟨hk.2.2.2.2.2.2.2.2.2.2.2.1, ⟨hk.2.2.2.2.2.2.2.2.2.2.2.2.1, ⟨hk.2.2.2.2.2.2.2.2.2.2.2.2.2.1, ⟨hk.2.2.2.2.2.2.2.2.2.2.2.2.2.2.1, hk.2.2.2.2.2.2.2.2.2.2.2.2.2.2.2.2.2.1⟩⟩⟩⟩⟩⟩⟩)⟩, ⟨by (with_reducible repeat (first | apply Kd.R_alloc | apply Kd.R_drewN | apply Kd.R_drew)); exact Kd.R_mono HO_523000.out (fun _ hk => hk.1)⟩, ⟨by (with_reducible repeat (first | apply Kd.S_alloc | apply Kd.S_drewN | apply Kd.S_drew)); exact Kd.S_mono HO_523001.out (fun _ hk => ⟨hk.2.1, ⟨hk.2.2.1, ⟨hk.2.2.2.2.2.2.1, ⟨hk.2.2.2.2.2.2.2.2.2.2.2.1, ⟨hk.2.2.2.2.2.2.2.2.2.2.2.2.1, ⟨hk.2.2.2.2.2.2.2.2.2.2.2.2.2.1, ⟨hk.2.2.2.2.2.2.2.2.2.2.2.2.2.2.1, hk.2.2.2.2.2.2.2.2.2.2.2.2.2.2.2.2.2.1⟩⟩⟩⟩⟩⟩⟩)⟩, ⟨bk_ BK465⟩, ⟨bk_ BK466⟩, ⟨bk_ BK494⟩, ⟨bk_ BK495⟩, ⟨bk_ BK522⟩, ⟨hb_ HB⟩⟩
        obtain rfl := Bool.eq_false_iff.mpr c235
        have H1 : (laws_FnExactBegin.j1 kj35 a1 l2 t493 true l0_0 l0_1 a3_0 l3_1 t483 t486 t489 t490 t491 t492 t511 t514) = some r := by rw [if_neg (show ¬ (false = true) by decide)] at H; exact H
        exact absurd H1 (laws_FnExactBegin.j1_dead _ _ _ _ _ _ _ _ _ _ _ _ _ _ _ _ _)
       obtain rfl := Bool.eq_false_iff.mpr c233
       have H1 : (laws_FnExactBegin.j1 kj35 a1 l2 t493 true l0_0 l0_1 a3_0 l3_1 t483 t486 t489 t490 t491 t492 t511 t514) = some r := by rw [if_neg (show ¬ (false = true) by decide)] at H; exact H
       exact absurd H1 (laws_FnExactBegin.j1_dead _ _ _ _ _ _ _ _ _ _ _ _ _ _ _ _ _)
      case rest =>
       clear HC200
       try clear c2
       try clear c231b0
       try clear c233
       try clear c235
       obtain ⟨kq, x124_199, rfl, HA, HJ199, HO_495000, HO_495001, HO_523000, HO_523001, BK465, BK466, BK494, BK495, BK522, HB⟩ := hcut
       cases kq with
       | zero => exact absurd HA.out (by simp [laws_FnExactBegin.j1])
       | succ kj199 =>
        have H := HA.out
        clear HA
        simp only [laws_FnExactBegin.j1] at H
        by_cases c308 : x124_199 = true
        ·
         subst c308
         replace H := it_ H
         exact absurd H (by simp)
        obtain rfl := Bool.eq_false_iff.mpr c308
        replace H := iF_ H
        replace H := bs_ H
        obtain ⟨⟨t550, t551, t514n⟩, A309, H⟩ := H
        dsimp only at H
        replace H := bs_ H
        obtain ⟨t552, A310, H⟩ := H
        by_cases c311 : t552 < 0
        ·
         rw [if_pos c311] at H
         exact absurd H (by simp)
        rw [if_neg c311] at H
        have c311b0 : decide (t552 < 0) = false := decide_eq_false c311
        clear c311
        replace H := iy_ H
        obtain ⟨c312b0, c312b1, H⟩ := H
        replace H := bs_ H
        obtain ⟨⟨t553, t556⟩, A313, H⟩ := H
        dsimp only at H
        replace H := bs_ H
        obtain ⟨t559, A314, H⟩ := H
        replace H := bs_ H
        obtain ⟨⟨t562, t563⟩, A315, H⟩ := H
        dsimp only at H
        replace H := bs_ H
        obtain ⟨⟨t566, t569, t572, t573, t574, t575, t576⟩, A316, H⟩ := H
        dsimp only at H
        have HC317 := A_ H
        clear H
        have hnb318 := NB522_465.out
        have hnc318 := NB465_522.out
        have hnb319 := NB522_466.out
        have hnc319 := NB466_522.out
        have hnb320 := NB522_494.out
        have hnc320 := NB494_522.out
        have hnb321 := NB522_495.out
        have hnc321 := NB495_522.out
        obtain ⟨hcz322_0, hcz322_1, hfz322_0, hfz322_1⟩ := cz2_ BK522
        try go_wp2_with (first | ((with_reducible refine gate_callee (f := 40) rfl ?_); refine goesL_ (some 127) rfl rfl Try.func40 (by kernel_rfl) rfl #[.agg #[.slice Ao94 t511.length co94, .slice Ao103 t514.length co103], .int .i64 1] rfl al_ ?_; obtain ⟨PS_, hPS_, hT_, hI_⟩ := mm_foot HO_523001.out; (with_reducible refine (laws_markMem.own kj199 (fun k_ => some k_ = (.slice Ao94 t511.length co94 : Value).ownBlock) PS_ (.slice Ao94 t511.length co94) (.slice Ao103 t514.length co103) t511 t514 1 t550 t551 t514n w _ ?side1 ?side2 ?side3 ?side4 A309.out).mono ?_); (case side1 => repeat (first | (with_reducible first | exact HB.out | apply below_alloc | apply pw_below_drewN | apply below_drew1 | refine below_set ?_ GW465.out | refine below_set ?_ GW466.out | refine below_set ?_ GE494.out | refine below_set ?_ GE495.out | refine below_set ?_ GW522.out) | exact HB.out)); (case side2 => exact Kd.R_tight rfl HO_523000.out); (case side3 => exact hPS_); (case side4 => exact mm_off (Kd.R_typed HO_523000.out) hT_ (by decide)); rintro e w323 ⟨rfl, hy0, hy1, hb, hkp⟩; refine ⟨_, rfl, ?_⟩; have n0_ := A_ (Kd.R_mono (ok' := fun k_ => some k_ ≠ (.slice Ao94 t511.length co94 : Value).ownBlock) (mm_Rb (HO_495000.out) hkp (fun k_ hk_ hs_ => (hk_) hs_) hT_ (by decide)) (fun k_ hk_ => hk_.1)); have n1_ := A_ (Kd.S_mono (ok' := fun k_ => some k_ ≠ (.slice Ao56 t483.length co56 : Value).ownBlock ∧ some k_ ≠ (.slice Ao94 t511.length co94 : Value).ownBlock ∧ k_ < nn2_ ∧ k_ ≠ gb465 ∧ k_ ≠ gb466 ∧ k_ ≠ gb494 ∧ k_ ≠ gb495 ∧ k_ ≠ gb522) (mm_Sb (HO_495001.out) hkp (fun k_ hk_ hs_ => (hk_.2.1) hs_) (fun k_ hk_ h1_ => by have h2_ := hI_ k_ h1_; clear hI_; (try simp only [and_assoc] at hk_); (try simp only [and_assoc] at h2_); omega)) (fun k_ hk_ => ⟨hk_.1.1, hk_.1.2.1, hk_.1.2.2.1, hk_.1.2.2.2.1, hk_.1.2.2.2.2.1, hk_.1.2.2.2.2.2.1, hk_.1.2.2.2.2.2.2.1, hk_.1.2.2.2.2.2.2.2⟩)); have n2_ := A_ (Kd.R_reok rfl hy0 (fun k_ e_ => HO_523000.out.1 k_ e_)); have n3_ := A_ (Kd.S_mono (ok' := fun k_ => some k_ ≠ (.slice Ao56 t483.length co56 : Value).ownBlock ∧ nn2_ ≤ k_ ∧ some k_ ≠ (.slice Ao94 t511.length co94 : Value).ownBlock ∧ k_ ≠ gb465 ∧ k_ ≠ gb466 ∧ k_ ≠ gb494 ∧ k_ ≠ gb495 ∧ k_ ≠ gb522) (mm_Sk hy1 hI_) (fun k_ hk_ => ⟨hk_.1.1, hk_.1.2.1, hk_.1.2.2.1, hk_.1.2.2.2.1, hk_.1.2.2.2.2.1, hk_.1.2.2.2.2.2.1, hk_.1.2.2.2.2.2.2.1, hk_.1.2.2.2.2.2.2.2⟩)); have n4_ := A_ (mm_blk (bk_ BK465) hkp (fun hs_ => (fun e_ => (Kd.R_ne HO_523000.out BK465.out (by decide)) e_) hs_) hT_ (by decide)); have n5_ := A_ (mm_blk (bk_ BK466) hkp (fun hs_ => (fun e_ => (Kd.R_ne HO_523000.out BK466.out (by decide)) e_) hs_) hT_ (by decide)); have n6_ := A_ (mm_blk (bk_ BK494) hkp (fun hs_ => (fun e_ => (Kd.R_ne HO_523000.out BK494.out (by decide)) e_) hs_) hT_ (by decide)); have n7_ := A_ (mm_blk (bk_ BK495) hkp (fun hs_ => (fun e_ => (Kd.R_ne HO_523000.out BK495.out (by decide)) e_) hs_) hT_ (by decide)); have n8_ := A_ (mm_blk (bk_ BK522) hkp (fun hs_ => (fun e_ => (Kd.R_ne HO_523000.out BK522.out (by decide)) e_) hs_) hT_ (by decide)); have n9_ := A_ hb; have hln_ := (Kd.S_reads' hy1).1; clear HO_495000; clear HO_495001; clear HO_523000; clear HO_523001; clear BK465; clear BK466; clear BK494; clear BK495; clear BK522; clear HB; have HO_495000 := n0_; have HO_495001 := n1_; have HO_523000 := n2_; have HO_523001 := A_ (mm_len n3_.out hln_); have BK465 := n4_; have BK466 := n5_; have BK494 := n6_; have BK495 := n7_; have BK522 := A_ (mm_len2 n8_.out hln_); have HB := n9_; clear n0_ n1_ n2_ n3_ n4_ n5_ n6_ n7_ n8_ n9_; (try clear hb); (try clear hkp); (try clear hln_); (try clear hy0); (try clear hy1); (try clear hPS_); (try clear hT_); (try clear hI_); obtain ⟨hcz324_0, hcz324_1, hfz324_0, hfz324_1⟩ := cz2_ BK522) | ((with_reducible refine gate_callee (f := 41) rfl ?_); refine goesL_ (some 130) rfl rfl Try.func41 (by kernel_rfl) rfl #[.agg #[.slice Ao94 t551.length co94, .slice Ao103 t514n.length co103], .int .i64 1] rfl (by (try simp only [List.map_toArray, List.map_cons, List.map_nil]); first | done | (rw [show t551.length = t511.length from (Kd.R_reads' HO_523000.out).1.symm] <;> rfl) | rfl | (simp only [List.length_drop, List.length_take]; rfl)) ?_; (with_reducible refine (laws_heldMem.calls kj199 _ _ t551 _ _ t514n 1 t552 _ ?side1 ?side2 ?side3 ?side4 A310.out).mono ?_); (case side1 => repeat (first | exact (Kd.R_reads' HO_523000.out).2.2 | (with_reducible refine Kd.C_alloc ?_ _) | (with_reducible refine Kd.C_drewN ?_ _) | (with_reducible refine Kd.C_drew ?_))); (case side2 => rw [show t551.length = t511.length from (Kd.R_reads' HO_523000.out).1.symm]; exact (Kd.R_reads' HO_523000.out).2.1); (case side3 => repeat (first | exact (Kd.S_reads' HO_523001.out).2.2 | (with_reducible refine Kd.C_alloc ?_ _) | (with_reducible refine Kd.C_drewN ?_ _) | (with_reducible refine Kd.C_drew ?_))); (case side4 => exact (Kd.S_reads' HO_523001.out).2.1); rintro e w325 ⟨rfl, hb⟩; refine ⟨_, rfl, ?_⟩; replace HO_495000 := A_ (Kd.R_below (rb_ HO_495000.out) hb); replace HO_495001 := A_ (Kd.S_below (sb_ HO_495001.out) hb); replace HO_523000 := A_ (Kd.R_below (rb_ HO_523000.out) hb); replace HO_523001 := A_ (Kd.S_below (sb_ HO_523001.out) hb); replace BK465 := bb_ BK465 hb; replace BK466 := bb_ BK466 hb; replace BK494 := bb_ BK494 hb; replace BK495 := bb_ BK495 hb; replace BK522 := bb_ BK522 hb; replace HB := hs_ HB hb; (try clear hb); (try clear hb2); (try clear hk); (try clear hi)))
        replace HO_495000 := A_ (Kd.R_drew HO_495000.out)
        replace HO_495001 := A_ (Kd.S_drew HO_495001.out)
        replace HO_523000 := A_ (Kd.R_drew HO_523000.out)
        replace HO_523001 := A_ (Kd.S_drew HO_523001.out)
        replace BK465 := A_ (blk_drew BK465.out)
        replace BK466 := A_ (blk_drew BK466.out)
        replace BK494 := A_ (blk_drew BK494.out)
        replace BK495 := A_ (blk_drew BK495.out)
        replace BK522 := A_ (blk_drew BK522.out)
        replace HB := A_ (below_drew1 HB.out)
        refine start_ (n := 17) (S := fun w' => w'.cell? ⟨gb465, 0, none⟩ = some (.slice A0_0 l0_0.length c0_0) ∧ w'.cell? ⟨gb465, 1, none⟩ = some (.slice A0_1 l0_1.length c0_1) ∧ w'.cell? ⟨gb466, 0, none⟩ = some (.int .i64 a3_0) ∧ w'.cell? ⟨gb466, 1, none⟩ = some (.slice A3_1 l3_1.length c3_1)) (ds := []) (bt_ 0 17) (by kernel_rfl) rfl rfl ⟨(blk_cell BK465.out 0).trans rfl, (blk_cell BK465.out 1).trans rfl, (blk_cell BK466.out 0).trans rfl, (blk_cell BK466.out 1).trans rfl⟩ (fun hHeld => ?_); refine with_tabW laws_FnExactBegin.tab38 laws_FnExactBegin.bits38 (fun HT_ HW_ => ?_)
        generalize w325.drew = w326 at HO_495000 HO_495001 HO_523000 HO_523001 BK465 BK466 BK494 BK495 BK522 HB hHeld ⊢
        refine pu_ 2 139 (bt_ 4 17) ?_
        refine pu_ 3 140 (bt_ 12 17) ?_
        refine tk4_ 0 137 (bt_ 13 17) hHeld ?_
        refine tk4_ 5 142 (bt_ 45 17) hHeld ?_
        refine join_ (σ := Value × Value × Value × Value × Value × Value × Nat × Nat) 3 (bt_ 16383 17) (fun s_ => [(138, .agg #[s_.1, s_.2.1]), (141, s_.2.2.1), (143, .agg #[.int .i64 t562, s_.2.2.2.1]), (144, .tuple #[.agg #[s_.2.2.2.2.1, s_.2.2.2.2.2.1], .agg #[.int .i64 t572, .int .i64 t573, .int .i64 t574, .int .i64 t575], .bool t576]), (22, .pointer (some ⟨s_.2.2.2.2.2.2.1, 0, none⟩)), (23, .pointer (some ⟨s_.2.2.2.2.2.2.2, 0, none⟩)), (136, .tuple #[.agg #[s_.2.2.2.2.1, s_.2.2.2.2.2.1], .agg #[.int .i64 t572, .int .i64 t573, .int .i64 t574, .int .i64 t575], .bool t576]), (145, .agg #[s_.2.2.2.2.1, s_.2.2.2.2.2.1]), (146, .agg #[.int .i64 t572, .int .i64 t573, .int .i64 t574, .int .i64 t575]), (147, .bool t576)]) (fun s_ w' => (w'.cell? ⟨gb465, 0, none⟩ = some (.slice A0_0 l0_0.length c0_0) ∧ w'.cell? ⟨gb465, 1, none⟩ = some (.slice A0_1 l0_1.length c0_1) ∧ w'.cell? ⟨gb466, 0, none⟩ = some (.int .i64 a3_0) ∧ w'.cell? ⟨gb466, 1, none⟩ = some (.slice A3_1 l3_1.length c3_1)) ∧ (Kd.R k95 95 w' w326.heap.size (fun k_ => some k_ ≠ (s_.2.2.2.2.1 : Value).ownBlock) s_.1 t553) ∧ (Kd.S k119 119 w' w326.heap.size (fun k_ => some k_ ≠ (s_.2.2.1 : Value).ownBlock ∧ some k_ ≠ (s_.2.2.2.1 : Value).ownBlock ∧ some k_ ≠ (s_.2.2.2.2.2.1 : Value).ownBlock) s_.2.1 t556) ∧ (Kd.R k122 122 w' w326.heap.size (fun _ => True) s_.2.2.1 t559) ∧ (Kd.R (Kd.int .i64) 3 w' w326.heap.size (fun _ => True) s_.2.2.2.1 t563) ∧ (Kd.R k95 95 w' w326.heap.size (fun k_ => some k_ ≠ (s_.1 : Value).ownBlock) s_.2.2.2.2.1 t566) ∧ (Kd.S k119 119 w' w326.heap.size (fun k_ => some k_ ≠ (s_.2.1 : Value).ownBlock ∧ some k_ ≠ (s_.2.2.1 : Value).ownBlock ∧ some k_ ≠ (s_.2.2.2.1 : Value).ownBlock) s_.2.2.2.2.2.1 t569) ∧ (w326.heap.size ≤ s_.2.2.2.2.2.2.1 ∧ w'.heap[s_.2.2.2.2.2.2.1]? = some (.cells #[.slice none 0 0, .slice none 0 0] 31 (0, 0))) ∧ (w326.heap.size ≤ s_.2.2.2.2.2.2.2 ∧ w'.heap[s_.2.2.2.2.2.2.2]? = some (.cells #[.int .i64 0, .int .i64 0, .int .i64 0, .int .i64 0] 74 (0, 0))) ∧ (Below w326.heap.size w326 w')) ?_ ?_
        rotate_left
        ·
         intro hJ411
         refine join_ (σ := Value × Value × Value × Value × Value × Value × Nat) 4 (bt_ 8191 17) (fun s_ => [(138, .agg #[s_.1, s_.2.1]), (141, s_.2.2.1), (143, .agg #[.int .i64 t562, s_.2.2.2.1]), (144, .tuple #[.agg #[s_.2.2.2.2.1, s_.2.2.2.2.2.1], .agg #[.int .i64 t572, .int .i64 t573, .int .i64 t574, .int .i64 t575], .bool t576]), (22, .pointer (some ⟨s_.2.2.2.2.2.2, 0, none⟩)), (136, .tuple #[.agg #[s_.2.2.2.2.1, s_.2.2.2.2.2.1], .agg #[.int .i64 t572, .int .i64 t573, .int .i64 t574, .int .i64 t575], .bool t576]), (145, .agg #[s_.2.2.2.2.1, s_.2.2.2.2.2.1]), (146, .agg #[.int .i64 t572, .int .i64 t573, .int .i64 t574, .int .i64 t575]), (147, .bool t576)]) (fun s_ w' => (w'.cell? ⟨gb465, 0, none⟩ = some (.slice A0_0 l0_0.length c0_0) ∧ w'.cell? ⟨gb465, 1, none⟩ = some (.slice A0_1 l0_1.length c0_1) ∧ w'.cell? ⟨gb466, 0, none⟩ = some (.int .i64 a3_0) ∧ w'.cell? ⟨gb466, 1, none⟩ = some (.slice A3_1 l3_1.length c3_1)) ∧ (Kd.R k95 95 w' w326.heap.size (fun k_ => some k_ ≠ (s_.2.2.2.2.1 : Value).ownBlock) s_.1 t553) ∧ (Kd.S k119 119 w' w326.heap.size (fun k_ => some k_ ≠ (s_.2.2.1 : Value).ownBlock ∧ some k_ ≠ (s_.2.2.2.1 : Value).ownBlock ∧ some k_ ≠ (s_.2.2.2.2.2.1 : Value).ownBlock) s_.2.1 t556) ∧ (Kd.R k122 122 w' w326.heap.size (fun _ => True) s_.2.2.1 t559) ∧ (Kd.R (Kd.int .i64) 3 w' w326.heap.size (fun _ => True) s_.2.2.2.1 t563) ∧ (Kd.R k95 95 w' w326.heap.size (fun k_ => some k_ ≠ (s_.1 : Value).ownBlock) s_.2.2.2.2.1 t566) ∧ (Kd.S k119 119 w' w326.heap.size (fun k_ => some k_ ≠ (s_.2.1 : Value).ownBlock ∧ some k_ ≠ (s_.2.2.1 : Value).ownBlock ∧ some k_ ≠ (s_.2.2.2.1 : Value).ownBlock) s_.2.2.2.2.2.1 t569) ∧ (w326.heap.size ≤ s_.2.2.2.2.2.2 ∧ w'.heap[s_.2.2.2.2.2.2]? = some (.cells #[.slice none 0 0, .slice none 0 0] 31 (0, 0))) ∧ (Below w326.heap.size w326 w')) ?_ ?_
         rotate_left
         ·
          intro hJ410
          refine join_ (σ := Value × Value × Value × Value × Value × Value × Nat) 4 (bt_ 12287 17) (fun s_ => [(138, .agg #[s_.1, s_.2.1]), (141, s_.2.2.1), (143, .agg #[.int .i64 t562, s_.2.2.2.1]), (144, .tuple #[.agg #[s_.2.2.2.2.1, s_.2.2.2.2.2.1], .agg #[.int .i64 t572, .int .i64 t573, .int .i64 t574, .int .i64 t575], .bool t576]), (23, .pointer (some ⟨s_.2.2.2.2.2.2, 0, none⟩)), (136, .tuple #[.agg #[s_.2.2.2.2.1, s_.2.2.2.2.2.1], .agg #[.int .i64 t572, .int .i64 t573, .int .i64 t574, .int .i64 t575], .bool t576]), (145, .agg #[s_.2.2.2.2.1, s_.2.2.2.2.2.1]), (146, .agg #[.int .i64 t572, .int .i64 t573, .int .i64 t574, .int .i64 t575]), (147, .bool t576)]) (fun s_ w' => (w'.cell? ⟨gb465, 0, none⟩ = some (.slice A0_0 l0_0.length c0_0) ∧ w'.cell? ⟨gb465, 1, none⟩ = some (.slice A0_1 l0_1.length c0_1) ∧ w'.cell? ⟨gb466, 0, none⟩ = some (.int .i64 a3_0) ∧ w'.cell? ⟨gb466, 1, none⟩ = some (.slice A3_1 l3_1.length c3_1)) ∧ (Kd.R k95 95 w' w326.heap.size (fun k_ => some k_ ≠ (s_.2.2.2.2.1 : Value).ownBlock) s_.1 t553) ∧ (Kd.S k119 119 w' w326.heap.size (fun k_ => some k_ ≠ (s_.2.2.1 : Value).ownBlock ∧ some k_ ≠ (s_.2.2.2.1 : Value).ownBlock ∧ some k_ ≠ (s_.2.2.2.2.2.1 : Value).ownBlock) s_.2.1 t556) ∧ (Kd.R k122 122 w' w326.heap.size (fun _ => True) s_.2.2.1 t559) ∧ (Kd.R (Kd.int .i64) 3 w' w326.heap.size (fun _ => True) s_.2.2.2.1 t563) ∧ (Kd.R k95 95 w' w326.heap.size (fun k_ => some k_ ≠ (s_.1 : Value).ownBlock) s_.2.2.2.2.1 t566) ∧ (Kd.S k119 119 w' w326.heap.size (fun k_ => some k_ ≠ (s_.2.1 : Value).ownBlock ∧ some k_ ≠ (s_.2.2.1 : Value).ownBlock ∧ some k_ ≠ (s_.2.2.2.1 : Value).ownBlock) s_.2.2.2.2.2.1 t569) ∧ (w326.heap.size ≤ s_.2.2.2.2.2.2 ∧ w'.heap[s_.2.2.2.2.2.2]? = some (.cells #[.int .i64 0, .int .i64 0, .int .i64 0, .int .i64 0] 74 (0, 0))) ∧ (Below w326.heap.size w326 w')) ?_ ?_
          rotate_left
          ·
           intro hJ401
           refine join_ (σ := Value × Value × Value × Value × Value × Value) 5 (bt_ 4095 17) (fun s_ => [(138, .agg #[s_.1, s_.2.1]), (141, s_.2.2.1), (143, .agg #[.int .i64 t562, s_.2.2.2.1]), (144, .tuple #[.agg #[s_.2.2.2.2.1, s_.2.2.2.2.2], .agg #[.int .i64 t572, .int .i64 t573, .int .i64 t574, .int .i64 t575], .bool t576]), (136, .tuple #[.agg #[s_.2.2.2.2.1, s_.2.2.2.2.2], .agg #[.int .i64 t572, .int .i64 t573, .int .i64 t574, .int .i64 t575], .bool t576]), (145, .agg #[s_.2.2.2.2.1, s_.2.2.2.2.2]), (146, .agg #[.int .i64 t572, .int .i64 t573, .int .i64 t574, .int .i64 t575]), (147, .bool t576)]) (fun s_ w' => (w'.cell? ⟨gb465, 0, none⟩ = some (.slice A0_0 l0_0.length c0_0) ∧ w'.cell? ⟨gb465, 1, none⟩ = some (.slice A0_1 l0_1.length c0_1) ∧ w'.cell? ⟨gb466, 0, none⟩ = some (.int .i64 a3_0) ∧ w'.cell? ⟨gb466, 1, none⟩ = some (.slice A3_1 l3_1.length c3_1)) ∧ (Kd.R k95 95 w' w326.heap.size (fun k_ => some k_ ≠ (s_.2.2.2.2.1 : Value).ownBlock) s_.1 t553) ∧ (Kd.S k119 119 w' w326.heap.size (fun k_ => some k_ ≠ (s_.2.2.1 : Value).ownBlock ∧ some k_ ≠ (s_.2.2.2.1 : Value).ownBlock ∧ some k_ ≠ (s_.2.2.2.2.2 : Value).ownBlock) s_.2.1 t556) ∧ (Kd.R k122 122 w' w326.heap.size (fun _ => True) s_.2.2.1 t559) ∧ (Kd.R (Kd.int .i64) 3 w' w326.heap.size (fun _ => True) s_.2.2.2.1 t563) ∧ (Kd.R k95 95 w' w326.heap.size (fun k_ => some k_ ≠ (s_.1 : Value).ownBlock) s_.2.2.2.2.1 t566) ∧ (Kd.S k119 119 w' w326.heap.size (fun k_ => some k_ ≠ (s_.2.1 : Value).ownBlock ∧ some k_ ≠ (s_.2.2.1 : Value).ownBlock ∧ some k_ ≠ (s_.2.2.2.1 : Value).ownBlock) s_.2.2.2.2.2 t569) ∧ (Below w326.heap.size w326 w')) ?_ ?_
           rotate_left
           ·
            intro hJ400
            refine join_ (σ := Value × Value × Value × Value × Nat × Nat) 8 (bt_ 12415 17) (fun s_ => [(138, .agg #[s_.1, s_.2.1]), (141, s_.2.2.1), (143, .agg #[.int .i64 t562, s_.2.2.2.1]), (22, .pointer (some ⟨s_.2.2.2.2.1, 0, none⟩)), (23, .pointer (some ⟨s_.2.2.2.2.2, 0, none⟩))]) (fun s_ w' => (w'.cell? ⟨gb465, 0, none⟩ = some (.slice A0_0 l0_0.length c0_0) ∧ w'.cell? ⟨gb465, 1, none⟩ = some (.slice A0_1 l0_1.length c0_1) ∧ w'.cell? ⟨gb466, 0, none⟩ = some (.int .i64 a3_0) ∧ w'.cell? ⟨gb466, 1, none⟩ = some (.slice A3_1 l3_1.length c3_1)) ∧ (Kd.R k95 95 w' w326.heap.size (fun _ => True) s_.1 t553) ∧ (Kd.S k119 119 w' w326.heap.size (fun k_ => some k_ ≠ (s_.2.2.1 : Value).ownBlock ∧ some k_ ≠ (s_.2.2.2.1 : Value).ownBlock) s_.2.1 t556) ∧ (Kd.R k122 122 w' w326.heap.size (fun _ => True) s_.2.2.1 t559) ∧ (Kd.R (Kd.int .i64) 3 w' w326.heap.size (fun _ => True) s_.2.2.2.1 t563) ∧ (w326.heap.size ≤ s_.2.2.2.2.1 ∧ w'.heap[s_.2.2.2.2.1]? = some (.cells #[.slice none 0 0, .slice none 0 0] 31 (0, 0))) ∧ (w326.heap.size ≤ s_.2.2.2.2.2 ∧ w'.heap[s_.2.2.2.2.2]? = some (.cells #[.int .i64 0, .int .i64 0, .int .i64 0, .int .i64 0] 74 (0, 0))) ∧ (Below w326.heap.size w326 w')) ?_ ?_
            rotate_left
            ·
             intro hJ311
             refine join_ (σ := Value × Value × Value × Value × Nat) 9 (bt_ 4223 17) (fun s_ => [(138, .agg #[s_.1, s_.2.1]), (141, s_.2.2.1), (143, .agg #[.int .i64 t562, s_.2.2.2.1]), (22, .pointer (some ⟨s_.2.2.2.2, 0, none⟩))]) (fun s_ w' => (w'.cell? ⟨gb465, 0, none⟩ = some (.slice A0_0 l0_0.length c0_0) ∧ w'.cell? ⟨gb465, 1, none⟩ = some (.slice A0_1 l0_1.length c0_1) ∧ w'.cell? ⟨gb466, 0, none⟩ = some (.int .i64 a3_0) ∧ w'.cell? ⟨gb466, 1, none⟩ = some (.slice A3_1 l3_1.length c3_1)) ∧ (Kd.R k95 95 w' w326.heap.size (fun _ => True) s_.1 t553) ∧ (Kd.S k119 119 w' w326.heap.size (fun k_ => some k_ ≠ (s_.2.2.1 : Value).ownBlock ∧ some k_ ≠ (s_.2.2.2.1 : Value).ownBlock) s_.2.1 t556) ∧ (Kd.R k122 122 w' w326.heap.size (fun _ => True) s_.2.2.1 t559) ∧ (Kd.R (Kd.int .i64) 3 w' w326.heap.size (fun _ => True) s_.2.2.2.1 t563) ∧ (w326.heap.size ≤ s_.2.2.2.2 ∧ w'.heap[s_.2.2.2.2]? = some (.cells #[.slice none 0 0, .slice none 0 0] 31 (0, 0))) ∧ (Below w326.heap.size w326 w')) ?_ ?_
             rotate_left
             ·
              intro hJ310
              refine join_ (σ := Value × Value × Value × Value × Nat) 9 (bt_ 8319 17) (fun s_ => [(138, .agg #[s_.1, s_.2.1]), (141, s_.2.2.1), (143, .agg #[.int .i64 t562, s_.2.2.2.1]), (23, .pointer (some ⟨s_.2.2.2.2, 0, none⟩))]) (fun s_ w' => (w'.cell? ⟨gb465, 0, none⟩ = some (.slice A0_0 l0_0.length c0_0) ∧ w'.cell? ⟨gb465, 1, none⟩ = some (.slice A0_1 l0_1.length c0_1) ∧ w'.cell? ⟨gb466, 0, none⟩ = some (.int .i64 a3_0) ∧ w'.cell? ⟨gb466, 1, none⟩ = some (.slice A3_1 l3_1.length c3_1)) ∧ (Kd.R k95 95 w' w326.heap.size (fun _ => True) s_.1 t553) ∧ (Kd.S k119 119 w' w326.heap.size (fun k_ => some k_ ≠ (s_.2.2.1 : Value).ownBlock ∧ some k_ ≠ (s_.2.2.2.1 : Value).ownBlock) s_.2.1 t556) ∧ (Kd.R k122 122 w' w326.heap.size (fun _ => True) s_.2.2.1 t559) ∧ (Kd.R (Kd.int .i64) 3 w' w326.heap.size (fun _ => True) s_.2.2.2.1 t563) ∧ (w326.heap.size ≤ s_.2.2.2.2 ∧ w'.heap[s_.2.2.2.2]? = some (.cells #[.int .i64 0, .int .i64 0, .int .i64 0, .int .i64 0] 74 (0, 0))) ∧ (Below w326.heap.size w326 w')) ?_ ?_
              rotate_left
              ·
               intro hJ301
               refine join_ (σ := Value × Value × Value × Value) 10 (bt_ 127 17) (fun s_ => [(138, .agg #[s_.1, s_.2.1]), (141, s_.2.2.1), (143, .agg #[.int .i64 t562, s_.2.2.2])]) (fun s_ w' => (w'.cell? ⟨gb465, 0, none⟩ = some (.slice A0_0 l0_0.length c0_0) ∧ w'.cell? ⟨gb465, 1, none⟩ = some (.slice A0_1 l0_1.length c0_1) ∧ w'.cell? ⟨gb466, 0, none⟩ = some (.int .i64 a3_0) ∧ w'.cell? ⟨gb466, 1, none⟩ = some (.slice A3_1 l3_1.length c3_1)) ∧ (Kd.R k95 95 w' w326.heap.size (fun _ => True) s_.1 t553) ∧ (Kd.S k119 119 w' w326.heap.size (fun k_ => some k_ ≠ (s_.2.2.1 : Value).ownBlock ∧ some k_ ≠ (s_.2.2.2 : Value).ownBlock) s_.2.1 t556) ∧ (Kd.R k122 122 w' w326.heap.size (fun _ => True) s_.2.2.1 t559) ∧ (Kd.R (Kd.int .i64) 3 w' w326.heap.size (fun _ => True) s_.2.2.2 t563) ∧ (Below w326.heap.size w326 w')) ?_ ?_
               rotate_left
               ·
                intro hJ300
                refine join_ (σ := Value × Value × Value × Nat × Nat) 9 (bt_ 12351 17) (fun s_ => [(138, .agg #[s_.1, s_.2.1]), (141, s_.2.2.1), (22, .pointer (some ⟨s_.2.2.2.1, 0, none⟩)), (23, .pointer (some ⟨s_.2.2.2.2, 0, none⟩))]) (fun s_ w' => (w'.cell? ⟨gb465, 0, none⟩ = some (.slice A0_0 l0_0.length c0_0) ∧ w'.cell? ⟨gb465, 1, none⟩ = some (.slice A0_1 l0_1.length c0_1) ∧ w'.cell? ⟨gb466, 0, none⟩ = some (.int .i64 a3_0) ∧ w'.cell? ⟨gb466, 1, none⟩ = some (.slice A3_1 l3_1.length c3_1)) ∧ (Kd.R k95 95 w' w326.heap.size (fun _ => True) s_.1 t553) ∧ (Kd.S k119 119 w' w326.heap.size (fun k_ => some k_ ≠ (s_.2.2.1 : Value).ownBlock) s_.2.1 t556) ∧ (Kd.R k122 122 w' w326.heap.size (fun _ => True) s_.2.2.1 t559) ∧ (w326.heap.size ≤ s_.2.2.2.1 ∧ w'.heap[s_.2.2.2.1]? = some (.cells #[.slice none 0 0, .slice none 0 0] 31 (0, 0))) ∧ (w326.heap.size ≤ s_.2.2.2.2 ∧ w'.heap[s_.2.2.2.2]? = some (.cells #[.int .i64 0, .int .i64 0, .int .i64 0, .int .i64 0] 74 (0, 0))) ∧ (Below w326.heap.size w326 w')) ?_ ?_
                rotate_left
                ·
                 intro hJ211
                 refine join_ (σ := Value × Value × Value × Nat) 10 (bt_ 4159 17) (fun s_ => [(138, .agg #[s_.1, s_.2.1]), (141, s_.2.2.1), (22, .pointer (some ⟨s_.2.2.2, 0, none⟩))]) (fun s_ w' => (w'.cell? ⟨gb465, 0, none⟩ = some (.slice A0_0 l0_0.length c0_0) ∧ w'.cell? ⟨gb465, 1, none⟩ = some (.slice A0_1 l0_1.length c0_1) ∧ w'.cell? ⟨gb466, 0, none⟩ = some (.int .i64 a3_0) ∧ w'.cell? ⟨gb466, 1, none⟩ = some (.slice A3_1 l3_1.length c3_1)) ∧ (Kd.R k95 95 w' w326.heap.size (fun _ => True) s_.1 t553) ∧ (Kd.S k119 119 w' w326.heap.size (fun k_ => some k_ ≠ (s_.2.2.1 : Value).ownBlock) s_.2.1 t556) ∧ (Kd.R k122 122 w' w326.heap.size (fun _ => True) s_.2.2.1 t559) ∧ (w326.heap.size ≤ s_.2.2.2 ∧ w'.heap[s_.2.2.2]? = some (.cells #[.slice none 0 0, .slice none 0 0] 31 (0, 0))) ∧ (Below w326.heap.size w326 w')) ?_ ?_
                 rotate_left
                 ·
                  intro hJ210
                  refine join_ (σ := Value × Value × Value × Nat) 10 (bt_ 8255 17) (fun s_ => [(138, .agg #[s_.1, s_.2.1]), (141, s_.2.2.1), (23, .pointer (some ⟨s_.2.2.2, 0, none⟩))]) (fun s_ w' => (w'.cell? ⟨gb465, 0, none⟩ = some (.slice A0_0 l0_0.length c0_0) ∧ w'.cell? ⟨gb465, 1, none⟩ = some (.slice A0_1 l0_1.length c0_1) ∧ w'.cell? ⟨gb466, 0, none⟩ = some (.int .i64 a3_0) ∧ w'.cell? ⟨gb466, 1, none⟩ = some (.slice A3_1 l3_1.length c3_1)) ∧ (Kd.R k95 95 w' w326.heap.size (fun _ => True) s_.1 t553) ∧ (Kd.S k119 119 w' w326.heap.size (fun k_ => some k_ ≠ (s_.2.2.1 : Value).ownBlock) s_.2.1 t556) ∧ (Kd.R k122 122 w' w326.heap.size (fun _ => True) s_.2.2.1 t559) ∧ (w326.heap.size ≤ s_.2.2.2 ∧ w'.heap[s_.2.2.2]? = some (.cells #[.int .i64 0, .int .i64 0, .int .i64 0, .int .i64 0] 74 (0, 0))) ∧ (Below w326.heap.size w326 w')) ?_ ?_
                  rotate_left
                  ·
                   intro hJ201
                   refine join_ (σ := Value × Value × Value) 11 (bt_ 63 17) (fun s_ => [(138, .agg #[s_.1, s_.2.1]), (141, s_.2.2)]) (fun s_ w' => (w'.cell? ⟨gb465, 0, none⟩ = some (.slice A0_0 l0_0.length c0_0) ∧ w'.cell? ⟨gb465, 1, none⟩ = some (.slice A0_1 l0_1.length c0_1) ∧ w'.cell? ⟨gb466, 0, none⟩ = some (.int .i64 a3_0) ∧ w'.cell? ⟨gb466, 1, none⟩ = some (.slice A3_1 l3_1.length c3_1)) ∧ (Kd.R k95 95 w' w326.heap.size (fun _ => True) s_.1 t553) ∧ (Kd.S k119 119 w' w326.heap.size (fun k_ => some k_ ≠ (s_.2.2 : Value).ownBlock) s_.2.1 t556) ∧ (Kd.R k122 122 w' w326.heap.size (fun _ => True) s_.2.2 t559) ∧ (Below w326.heap.size w326 w')) ?_ ?_
                   rotate_left
                   · exact z2_
                   rintro ⟨v554, v557, v560⟩ w1_ ⟨hHeld, h_v554, h_v557, h_v560, hM_⟩
                   refine norm_ (a' := ?_) ?_ ?_
                   rotate_left
                   ·
                    simp only [putAll, Act.put, List.setIfInBounds_toArray, List.set_cons_zero, List.set_cons_succ]
                    rfl
                   refine three_ (i := 6) (j := 12) (k := 13) (Ni := some 143) (Nj := some 22) (Nk := some 23) (bt_ 127 17) (bt_ 4159 17) (bt_ 8255 17) rfl rfl rfl rfl rfl rfl (three_of HT_.out (by kernel_rfl)) (by decide) (by decide) (by decide) (fun K hK => ?_) (fun K hK => ?_) (fun K hK => ?_)
                   ·
                    skip
                    refine goes_ Try.func19 (by kernel_rfl) rfl #[.agg #[.int .i64 a3_0, .slice A3_1 l3_1.length c3_1]] (by rfl) rfl rfl al_ ?_
                    with_reducible refine (laws_toRes.calls kj199 a3_0 _ _ l3_1 t562 t563 _ ?side1 ?side2 A315.out).mono ?_
                    (case side1 => exact Kd.C_below HR3_1.out (below_step HB.out hM_))
                    (case side2 => exact HC3_1.out)
                    rintro e w2_ ⟨v564, rfl, ho0, hb⟩
                    refine ⟨_, rfl, ?_⟩
                    refine hK.out _ _ (mm_held4 hHeld hb) (fun hHeld => ?_)
                    clear hK K
                    refine norm_ (a' := ?_) ?_ ?_
                    rotate_left
                    ·
                     show Act.put _ (some 143) _ = _
                     simp only [Act.put, List.setIfInBounds_toArray, List.set_cons_zero, List.set_cons_succ, i64_w, i32_w]
                     rfl
                    exact norm_ nm_ (hJ300 (v554, v557, v560, v564) _ ⟨hHeld, (Kd.R_below h_v554 hb), (Kd.S_mono (Kd.S_elder' h_v557 (Kd.R_base ho0) hb) (fun _ h_ => by simp only [and_assoc] at h_; exact h_)), (Kd.R_below h_v560 hb), (Kd.R_mono (Kd.R_lower (ho0) hM_.size) (fun _ _ => trivial)), below_step hM_ hb⟩)
                   ·
                    skip
                    refine box_step ?hg (N := 22) ?hd (cs := #[.slice none 0 0, .slice none 0 0]) (t := 31) ?hr ?_; (case hd => rfl); (case hg => rfl); (case hr => first | (go_simp; done) | (go_simp; rfl))
                    intro gb577 hg w2_ hbox hb
                    refine hK.out _ _ (mm_held4 hHeld hb) (fun hHeld => ?_)
                    clear hK K
                    refine norm_ (a' := ?_) ?_ ?_
                    rotate_left
                    ·
                     show Act.put _ (some 22) _ = _
                     simp only [Act.put, List.setIfInBounds_toArray, List.set_cons_zero, List.set_cons_succ, i64_w, i32_w]
                     rfl
                    exact norm_ nm_ (hJ210 (v554, v557, v560, gb577) _ ⟨hHeld, (Kd.R_below h_v554 hb), (Kd.S_below h_v557 hb), (Kd.R_below h_v560 hb), ⟨(by rw [hg]; exact hM_.size), hbox⟩, below_step hM_ hb⟩)
                   skip
                   refine box_step ?hg (N := 23) ?hd (cs := #[.int .i64 0, .int .i64 0, .int .i64 0, .int .i64 0]) (t := 74) ?hr ?_; (case hd => rfl); (case hg => rfl); (case hr => first | (go_simp; done) | (go_simp; rfl))
                   intro gb578 hg w2_ hbox hb
                   refine hK.out _ _ (mm_held4 hHeld hb) (fun hHeld => ?_)
                   clear hK K
                   refine norm_ (a' := ?_) ?_ ?_
                   rotate_left
                   ·
                    show Act.put _ (some 23) _ = _
                    simp only [Act.put, List.setIfInBounds_toArray, List.set_cons_zero, List.set_cons_succ, i64_w, i32_w]
                    rfl
                   exact norm_ nm_ (hJ201 (v554, v557, v560, gb578) _ ⟨hHeld, (Kd.R_below h_v554 hb), (Kd.S_below h_v557 hb), (Kd.R_below h_v560 hb), ⟨(by rw [hg]; exact hM_.size), hbox⟩, below_step hM_ hb⟩)
                  rintro ⟨v554, v557, v560, gb578⟩ w1_ ⟨hHeld, h_v554, h_v557, h_v560, ⟨hl_gb578, hb_gb578⟩, hM_⟩
                  refine norm_ (a' := ?_) ?_ ?_
                  rotate_left
                  ·
                   simp only [putAll, Act.put, List.setIfInBounds_toArray, List.set_cons_zero, List.set_cons_succ]
                   rfl
                  refine two_ (i := 6) (j := 12) (Ni := some 143) (Nj := some 22) (bt_ 8319 17) (bt_ 12351 17) rfl rfl rfl rfl (two_of HT_.out (by kernel_rfl)) (by decide) (by decide) (fun K hK => ?_) (fun K hK => ?_)
                  ·
                   skip
                   refine goes_ Try.func19 (by kernel_rfl) rfl #[.agg #[.int .i64 a3_0, .slice A3_1 l3_1.length c3_1]] (by rfl) rfl rfl al_ ?_
                   with_reducible refine (laws_toRes.calls kj199 a3_0 _ _ l3_1 t562 t563 _ ?side1 ?side2 A315.out).mono ?_
                   (case side1 => exact Kd.C_below HR3_1.out (below_step HB.out hM_))
                   (case side2 => exact HC3_1.out)
                   rintro e w2_ ⟨v564, rfl, ho0, hb⟩
                   refine ⟨_, rfl, ?_⟩
                   refine hK.out _ _ (mm_held4 hHeld hb) (fun hHeld => ?_)
                   clear hK K
                   refine norm_ (a' := ?_) ?_ ?_
                   rotate_left
                   ·
                    show Act.put _ (some 143) _ = _
                    simp only [Act.put, List.setIfInBounds_toArray, List.set_cons_zero, List.set_cons_succ, i64_w, i32_w]
                    rfl
                   exact norm_ nm_ (hJ301 (v554, v557, v560, v564, gb578) _ ⟨hHeld, (Kd.R_below h_v554 hb), (Kd.S_mono (Kd.S_elder' h_v557 (Kd.R_base ho0) hb) (fun _ h_ => by simp only [and_assoc] at h_; exact h_)), (Kd.R_below h_v560 hb), (Kd.R_mono (Kd.R_lower (ho0) hM_.size) (fun _ _ => trivial)), ⟨hl_gb578, blk_below hb_gb578 hb⟩, below_step hM_ hb⟩)
                  skip
                  refine box_step ?hg (N := 22) ?hd (cs := #[.slice none 0 0, .slice none 0 0]) (t := 31) ?hr ?_; (case hd => rfl); (case hg => rfl); (case hr => first | (go_simp; done) | (go_simp; rfl))
                  intro gb577 hg w2_ hbox hb
                  refine hK.out _ _ (mm_held4 hHeld hb) (fun hHeld => ?_)
                  clear hK K
                  refine norm_ (a' := ?_) ?_ ?_
                  rotate_left
                  ·
                   show Act.put _ (some 22) _ = _
                   simp only [Act.put, List.setIfInBounds_toArray, List.set_cons_zero, List.set_cons_succ, i64_w, i32_w]
                   rfl
                  exact norm_ nm_ (hJ211 (v554, v557, v560, gb577, gb578) _ ⟨hHeld, (Kd.R_below h_v554 hb), (Kd.S_below h_v557 hb), (Kd.R_below h_v560 hb), ⟨(by rw [hg]; exact hM_.size), hbox⟩, ⟨hl_gb578, blk_below hb_gb578 hb⟩, below_step hM_ hb⟩)
                 rintro ⟨v554, v557, v560, gb577⟩ w1_ ⟨hHeld, h_v554, h_v557, h_v560, ⟨hl_gb577, hb_gb577⟩, hM_⟩
                 refine norm_ (a' := ?_) ?_ ?_
                 rotate_left
                 ·
                  simp only [putAll, Act.put, List.setIfInBounds_toArray, List.set_cons_zero, List.set_cons_succ]
                  rfl
                 refine two_ (i := 6) (j := 13) (Ni := some 143) (Nj := some 23) (bt_ 4223 17) (bt_ 12351 17) rfl rfl rfl rfl (two_of HT_.out (by kernel_rfl)) (by decide) (by decide) (fun K hK => ?_) (fun K hK => ?_)
                 ·
                  skip
                  refine goes_ Try.func19 (by kernel_rfl) rfl #[.agg #[.int .i64 a3_0, .slice A3_1 l3_1.length c3_1]] (by rfl) rfl rfl al_ ?_
                  with_reducible refine (laws_toRes.calls kj199 a3_0 _ _ l3_1 t562 t563 _ ?side1 ?side2 A315.out).mono ?_
                  (case side1 => exact Kd.C_below HR3_1.out (below_step HB.out hM_))
                  (case side2 => exact HC3_1.out)
                  rintro e w2_ ⟨v564, rfl, ho0, hb⟩
                  refine ⟨_, rfl, ?_⟩
                  refine hK.out _ _ (mm_held4 hHeld hb) (fun hHeld => ?_)
                  clear hK K
                  refine norm_ (a' := ?_) ?_ ?_
                  rotate_left
                  ·
                   show Act.put _ (some 143) _ = _
                   simp only [Act.put, List.setIfInBounds_toArray, List.set_cons_zero, List.set_cons_succ, i64_w, i32_w]
                   rfl
                  exact norm_ nm_ (hJ310 (v554, v557, v560, v564, gb577) _ ⟨hHeld, (Kd.R_below h_v554 hb), (Kd.S_mono (Kd.S_elder' h_v557 (Kd.R_base ho0) hb) (fun _ h_ => by simp only [and_assoc] at h_; exact h_)), (Kd.R_below h_v560 hb), (Kd.R_mono (Kd.R_lower (ho0) hM_.size) (fun _ _ => trivial)), ⟨hl_gb577, blk_below hb_gb577 hb⟩, below_step hM_ hb⟩)
                 skip
                 refine box_step ?hg (N := 23) ?hd (cs := #[.int .i64 0, .int .i64 0, .int .i64 0, .int .i64 0]) (t := 74) ?hr ?_; (case hd => rfl); (case hg => rfl); (case hr => first | (go_simp; done) | (go_simp; rfl))
                 intro gb578 hg w2_ hbox hb
                 refine hK.out _ _ (mm_held4 hHeld hb) (fun hHeld => ?_)
                 clear hK K
                 refine norm_ (a' := ?_) ?_ ?_
                 rotate_left
                 ·
                  show Act.put _ (some 23) _ = _
                  simp only [Act.put, List.setIfInBounds_toArray, List.set_cons_zero, List.set_cons_succ, i64_w, i32_w]
                  rfl
                 exact norm_ nm_ (hJ211 (v554, v557, v560, gb577, gb578) _ ⟨hHeld, (Kd.R_below h_v554 hb), (Kd.S_below h_v557 hb), (Kd.R_below h_v560 hb), ⟨hl_gb577, blk_below hb_gb577 hb⟩, ⟨(by rw [hg]; exact hM_.size), hbox⟩, below_step hM_ hb⟩)
                rintro ⟨v554, v557, v560, gb577, gb578⟩ w1_ ⟨hHeld, h_v554, h_v557, h_v560, ⟨hl_gb577, hb_gb577⟩, ⟨hl_gb578, hb_gb578⟩, hM_⟩
                refine norm_ (a' := ?_) ?_ ?_
                rotate_left
                ·
                 simp only [putAll, Act.put, List.setIfInBounds_toArray, List.set_cons_zero, List.set_cons_succ]
                 rfl
                refine one_ (i := 6) (N := some 143) (bt_ 12415 17) rfl rfl (one_of HT_.out (by kernel_rfl)) (by decide) (fun K hK => ?_)
                refine goes_ Try.func19 (by kernel_rfl) rfl #[.agg #[.int .i64 a3_0, .slice A3_1 l3_1.length c3_1]] (by rfl) rfl rfl al_ ?_
                with_reducible refine (laws_toRes.calls kj199 a3_0 _ _ l3_1 t562 t563 _ ?side1 ?side2 A315.out).mono ?_
                (case side1 => exact Kd.C_below HR3_1.out (below_step HB.out hM_))
                (case side2 => exact HC3_1.out)
                rintro e w2_ ⟨v564, rfl, ho0, hb⟩
                refine ⟨_, rfl, ?_⟩
                refine hK.out _ _ (mm_held4 hHeld hb) (fun hHeld => ?_)
                clear hK K
                refine norm_ (a' := ?_) ?_ ?_
                rotate_left
                ·
                 show Act.put _ (some 143) _ = _
                 simp only [Act.put, List.setIfInBounds_toArray, List.set_cons_zero, List.set_cons_succ, i64_w, i32_w]
                 rfl
                exact norm_ nm_ (hJ311 (v554, v557, v560, v564, gb577, gb578) _ ⟨hHeld, (Kd.R_below h_v554 hb), (Kd.S_mono (Kd.S_elder' h_v557 (Kd.R_base ho0) hb) (fun _ h_ => by simp only [and_assoc] at h_; exact h_)), (Kd.R_below h_v560 hb), (Kd.R_mono (Kd.R_lower (ho0) hM_.size) (fun _ _ => trivial)), ⟨hl_gb577, blk_below hb_gb577 hb⟩, ⟨hl_gb578, blk_below hb_gb578 hb⟩, below_step hM_ hb⟩)
               rintro ⟨v554, v557, v560, v564⟩ w1_ ⟨hHeld, h_v554, h_v557, h_v560, h_v564, hM_⟩
               refine norm_ (a' := ?_) ?_ ?_
               rotate_left
               ·
                simp only [putAll, Act.put, List.setIfInBounds_toArray, List.set_cons_zero, List.set_cons_succ]
                rfl
               refine three_ (i := 7) (j := 12) (k := 13) (Ni := some 144) (Nj := some 22) (Nk := some 23) (bt_ 255 17) (bt_ 4223 17) (bt_ 8319 17) rfl rfl rfl rfl rfl rfl (three_of HT_.out (by kernel_rfl)) (by decide) (by decide) (by decide) (fun K hK => ?_) (fun K hK => ?_) (fun K hK => ?_)
               ·
                skip
                obtain ⟨Az0, cz0, ez0⟩ := Kd.R_slice h_v554
                subst ez0
                obtain ⟨Az1, cz1, ez1⟩ := Kd.S_slice h_v557
                subst ez1
                obtain ⟨Az2, cz2, ez2⟩ := Kd.R_slice h_v560
                subst ez2
                obtain ⟨Az3, cz3, ez3⟩ := Kd.R_slice h_v564
                subst ez3
                refine goes_ Try.func45 (by kernel_rfl) rfl #[.agg #[.slice Az0 t553.length cz0, .slice Az1 t556.length cz1], .int .i64 a1, .slice Az2 t559.length cz2, .agg #[.int .i64 t562, .slice Az3 t563.length cz3]] (by rfl) rfl rfl al_ ?_
                with_reducible refine (impl_Begin.calls kj199 _ _ t553 _ _ t556 a1 _ _ t559 t562 _ _ t563 t566 t569 t572 t573 t574 t575 t576 _ ?side1 ?side2 ?side3 ?side4 ?side5 ?side6 ?side7 ?side8 A316.out).mono ?_
                (case side1 => exact (Kd.R_reads' h_v554).2.2)
                (case side2 => exact (Kd.R_reads' h_v554).2.1)
                (case side3 => exact (Kd.S_reads' h_v557).2.2)
                (case side4 => exact (Kd.S_reads' h_v557).2.1)
                (case side5 => exact (Kd.R_reads' h_v560).2.2)
                (case side6 => exact (Kd.R_reads' h_v560).2.1)
                (case side7 => exact (Kd.R_reads' h_v564).2.2)
                (case side8 => exact (Kd.R_reads' h_v564).2.1)
                rintro e w2_ ⟨v567, v570, rfl, ho0, ho1, hb⟩
                refine ⟨_, rfl, ?_⟩
                refine hK.out _ _ (mm_held4 hHeld hb) (fun hHeld => ?_)
                clear hK K
                refine norm_ (a' := ?_) ?_ ?_
                rotate_left
                ·
                 show Act.put _ (some 144) _ = _
                 simp only [Act.put, List.setIfInBounds_toArray, List.set_cons_zero, List.set_cons_succ, i64_w, i32_w]
                 rfl
                refine pu_ 8 136 (bt_ 511 17) ?_
                refine pu_ 9 145 (bt_ 1023 17) ?_
                refine pu_ 10 146 (bt_ 2047 17) ?_
                refine pu_ 11 147 (bt_ 4095 17) ?_
                exact norm_ nm_ (hJ400 ((.slice Az0 t553.length cz0), (.slice Az1 t556.length cz1), (.slice Az2 t559.length cz2), (.slice Az3 t563.length cz3), v567, v570) _ ⟨hHeld, (Kd.R_mono (Kd.R_elder' h_v554 (Kd.R_base ho0) hb) (fun _ h_ => h_.2)), (Kd.S_mono (Kd.S_elder' h_v557 (Kd.S_base ho1) hb) (fun _ h_ => by simp only [and_assoc] at h_; exact h_)), (Kd.R_below h_v560 hb), (Kd.R_below h_v564 hb), (Kd.R_mono (Kd.R_lower (Kd.R_new' (Kd.R_mono (ok' := fun _ => True) ho0 (fun _ _ => trivial)) (Kd.R_lt h_v554)) hM_.size) (fun _ h_ => h_.2)), (Kd.S_mono (Kd.S_lower (Kd.S_new' (Kd.S_new' (Kd.S_new' (Kd.S_mono (ok' := fun _ => True) ho1 (fun _ _ => trivial)) (Kd.S_lt h_v557)) (Kd.R_lt h_v560)) (Kd.R_lt h_v564)) hM_.size) (fun _ h_ => ⟨h_.1.1.2, h_.1.2, h_.2⟩)), below_step hM_ hb⟩)
               ·
                skip
                refine box_step ?hg (N := 22) ?hd (cs := #[.slice none 0 0, .slice none 0 0]) (t := 31) ?hr ?_; (case hd => rfl); (case hg => rfl); (case hr => first | (go_simp; done) | (go_simp; rfl))
                intro gb577 hg w2_ hbox hb
                refine hK.out _ _ (mm_held4 hHeld hb) (fun hHeld => ?_)
                clear hK K
                refine norm_ (a' := ?_) ?_ ?_
                rotate_left
                ·
                 show Act.put _ (some 22) _ = _
                 simp only [Act.put, List.setIfInBounds_toArray, List.set_cons_zero, List.set_cons_succ, i64_w, i32_w]
                 rfl
                exact norm_ nm_ (hJ310 (v554, v557, v560, v564, gb577) _ ⟨hHeld, (Kd.R_below h_v554 hb), (Kd.S_below h_v557 hb), (Kd.R_below h_v560 hb), (Kd.R_below h_v564 hb), ⟨(by rw [hg]; exact hM_.size), hbox⟩, below_step hM_ hb⟩)
               skip
               refine box_step ?hg (N := 23) ?hd (cs := #[.int .i64 0, .int .i64 0, .int .i64 0, .int .i64 0]) (t := 74) ?hr ?_; (case hd => rfl); (case hg => rfl); (case hr => first | (go_simp; done) | (go_simp; rfl))
               intro gb578 hg w2_ hbox hb
               refine hK.out _ _ (mm_held4 hHeld hb) (fun hHeld => ?_)
               clear hK K
               refine norm_ (a' := ?_) ?_ ?_
               rotate_left
               ·
                show Act.put _ (some 23) _ = _
                simp only [Act.put, List.setIfInBounds_toArray, List.set_cons_zero, List.set_cons_succ, i64_w, i32_w]
                rfl
               exact norm_ nm_ (hJ301 (v554, v557, v560, v564, gb578) _ ⟨hHeld, (Kd.R_below h_v554 hb), (Kd.S_below h_v557 hb), (Kd.R_below h_v560 hb), (Kd.R_below h_v564 hb), ⟨(by rw [hg]; exact hM_.size), hbox⟩, below_step hM_ hb⟩)
              rintro ⟨v554, v557, v560, v564, gb578⟩ w1_ ⟨hHeld, h_v554, h_v557, h_v560, h_v564, ⟨hl_gb578, hb_gb578⟩, hM_⟩
              refine norm_ (a' := ?_) ?_ ?_
              rotate_left
              ·
               simp only [putAll, Act.put, List.setIfInBounds_toArray, List.set_cons_zero, List.set_cons_succ]
               rfl
              refine two_ (i := 7) (j := 12) (Ni := some 144) (Nj := some 22) (bt_ 8447 17) (bt_ 12415 17) rfl rfl rfl rfl (two_of HT_.out (by kernel_rfl)) (by decide) (by decide) (fun K hK => ?_) (fun K hK => ?_)
              ·
               skip
               obtain ⟨Az0, cz0, ez0⟩ := Kd.R_slice h_v554
               subst ez0
               obtain ⟨Az1, cz1, ez1⟩ := Kd.S_slice h_v557
               subst ez1
               obtain ⟨Az2, cz2, ez2⟩ := Kd.R_slice h_v560
               subst ez2
               obtain ⟨Az3, cz3, ez3⟩ := Kd.R_slice h_v564
               subst ez3
               refine goes_ Try.func45 (by kernel_rfl) rfl #[.agg #[.slice Az0 t553.length cz0, .slice Az1 t556.length cz1], .int .i64 a1, .slice Az2 t559.length cz2, .agg #[.int .i64 t562, .slice Az3 t563.length cz3]] (by rfl) rfl rfl al_ ?_
               with_reducible refine (impl_Begin.calls kj199 _ _ t553 _ _ t556 a1 _ _ t559 t562 _ _ t563 t566 t569 t572 t573 t574 t575 t576 _ ?side1 ?side2 ?side3 ?side4 ?side5 ?side6 ?side7 ?side8 A316.out).mono ?_
               (case side1 => exact (Kd.R_reads' h_v554).2.2)
               (case side2 => exact (Kd.R_reads' h_v554).2.1)
               (case side3 => exact (Kd.S_reads' h_v557).2.2)
               (case side4 => exact (Kd.S_reads' h_v557).2.1)
               (case side5 => exact (Kd.R_reads' h_v560).2.2)
               (case side6 => exact (Kd.R_reads' h_v560).2.1)
               (case side7 => exact (Kd.R_reads' h_v564).2.2)
               (case side8 => exact (Kd.R_reads' h_v564).2.1)
               rintro e w2_ ⟨v567, v570, rfl, ho0, ho1, hb⟩
               refine ⟨_, rfl, ?_⟩
               refine hK.out _ _ (mm_held4 hHeld hb) (fun hHeld => ?_)
               clear hK K
               refine norm_ (a' := ?_) ?_ ?_
               rotate_left
               ·
                show Act.put _ (some 144) _ = _
                simp only [Act.put, List.setIfInBounds_toArray, List.set_cons_zero, List.set_cons_succ, i64_w, i32_w]
                rfl
               refine pu_ 8 136 (bt_ 8703 17) ?_
               refine pu_ 9 145 (bt_ 9215 17) ?_
               refine pu_ 10 146 (bt_ 10239 17) ?_
               refine pu_ 11 147 (bt_ 12287 17) ?_
               exact norm_ nm_ (hJ401 ((.slice Az0 t553.length cz0), (.slice Az1 t556.length cz1), (.slice Az2 t559.length cz2), (.slice Az3 t563.length cz3), v567, v570, gb578) _ ⟨hHeld, (Kd.R_mono (Kd.R_elder' h_v554 (Kd.R_base ho0) hb) (fun _ h_ => h_.2)), (Kd.S_mono (Kd.S_elder' h_v557 (Kd.S_base ho1) hb) (fun _ h_ => by simp only [and_assoc] at h_; exact h_)), (Kd.R_below h_v560 hb), (Kd.R_below h_v564 hb), (Kd.R_mono (Kd.R_lower (Kd.R_new' (Kd.R_mono (ok' := fun _ => True) ho0 (fun _ _ => trivial)) (Kd.R_lt h_v554)) hM_.size) (fun _ h_ => h_.2)), (Kd.S_mono (Kd.S_lower (Kd.S_new' (Kd.S_new' (Kd.S_new' (Kd.S_mono (ok' := fun _ => True) ho1 (fun _ _ => trivial)) (Kd.S_lt h_v557)) (Kd.R_lt h_v560)) (Kd.R_lt h_v564)) hM_.size) (fun _ h_ => ⟨h_.1.1.2, h_.1.2, h_.2⟩)), ⟨hl_gb578, blk_below hb_gb578 hb⟩, below_step hM_ hb⟩)
              skip
              refine box_step ?hg (N := 22) ?hd (cs := #[.slice none 0 0, .slice none 0 0]) (t := 31) ?hr ?_; (case hd => rfl); (case hg => rfl); (case hr => first | (go_simp; done) | (go_simp; rfl))
              intro gb577 hg w2_ hbox hb
              refine hK.out _ _ (mm_held4 hHeld hb) (fun hHeld => ?_)
              clear hK K
              refine norm_ (a' := ?_) ?_ ?_
              rotate_left
              ·
               show Act.put _ (some 22) _ = _
               simp only [Act.put, List.setIfInBounds_toArray, List.set_cons_zero, List.set_cons_succ, i64_w, i32_w]
               rfl
              exact norm_ nm_ (hJ311 (v554, v557, v560, v564, gb577, gb578) _ ⟨hHeld, (Kd.R_below h_v554 hb), (Kd.S_below h_v557 hb), (Kd.R_below h_v560 hb), (Kd.R_below h_v564 hb), ⟨(by rw [hg]; exact hM_.size), hbox⟩, ⟨hl_gb578, blk_below hb_gb578 hb⟩, below_step hM_ hb⟩)
             rintro ⟨v554, v557, v560, v564, gb577⟩ w1_ ⟨hHeld, h_v554, h_v557, h_v560, h_v564, ⟨hl_gb577, hb_gb577⟩, hM_⟩
             refine norm_ (a' := ?_) ?_ ?_
             rotate_left
             ·
              simp only [putAll, Act.put, List.setIfInBounds_toArray, List.set_cons_zero, List.set_cons_succ]
              rfl
             refine two_ (i := 7) (j := 13) (Ni := some 144) (Nj := some 23) (bt_ 4351 17) (bt_ 12415 17) rfl rfl rfl rfl (two_of HT_.out (by kernel_rfl)) (by decide) (by decide) (fun K hK => ?_) (fun K hK => ?_)
             ·
              skip
              obtain ⟨Az0, cz0, ez0⟩ := Kd.R_slice h_v554
              subst ez0
              obtain ⟨Az1, cz1, ez1⟩ := Kd.S_slice h_v557
              subst ez1
              obtain ⟨Az2, cz2, ez2⟩ := Kd.R_slice h_v560
              subst ez2
              obtain ⟨Az3, cz3, ez3⟩ := Kd.R_slice h_v564
              subst ez3
              refine goes_ Try.func45 (by kernel_rfl) rfl #[.agg #[.slice Az0 t553.length cz0, .slice Az1 t556.length cz1], .int .i64 a1, .slice Az2 t559.length cz2, .agg #[.int .i64 t562, .slice Az3 t563.length cz3]] (by rfl) rfl rfl al_ ?_
              with_reducible refine (impl_Begin.calls kj199 _ _ t553 _ _ t556 a1 _ _ t559 t562 _ _ t563 t566 t569 t572 t573 t574 t575 t576 _ ?side1 ?side2 ?side3 ?side4 ?side5 ?side6 ?side7 ?side8 A316.out).mono ?_
              (case side1 => exact (Kd.R_reads' h_v554).2.2)
              (case side2 => exact (Kd.R_reads' h_v554).2.1)
              (case side3 => exact (Kd.S_reads' h_v557).2.2)
              (case side4 => exact (Kd.S_reads' h_v557).2.1)
              (case side5 => exact (Kd.R_reads' h_v560).2.2)
              (case side6 => exact (Kd.R_reads' h_v560).2.1)
              (case side7 => exact (Kd.R_reads' h_v564).2.2)
              (case side8 => exact (Kd.R_reads' h_v564).2.1)
              rintro e w2_ ⟨v567, v570, rfl, ho0, ho1, hb⟩
              refine ⟨_, rfl, ?_⟩
              refine hK.out _ _ (mm_held4 hHeld hb) (fun hHeld => ?_)
              clear hK K
              refine norm_ (a' := ?_) ?_ ?_
              rotate_left
              ·
               show Act.put _ (some 144) _ = _
               simp only [Act.put, List.setIfInBounds_toArray, List.set_cons_zero, List.set_cons_succ, i64_w, i32_w]
               rfl
              refine pu_ 8 136 (bt_ 4607 17) ?_
              refine pu_ 9 145 (bt_ 5119 17) ?_
              refine pu_ 10 146 (bt_ 6143 17) ?_
              refine pu_ 11 147 (bt_ 8191 17) ?_
              exact norm_ nm_ (hJ410 ((.slice Az0 t553.length cz0), (.slice Az1 t556.length cz1), (.slice Az2 t559.length cz2), (.slice Az3 t563.length cz3), v567, v570, gb577) _ ⟨hHeld, (Kd.R_mono (Kd.R_elder' h_v554 (Kd.R_base ho0) hb) (fun _ h_ => h_.2)), (Kd.S_mono (Kd.S_elder' h_v557 (Kd.S_base ho1) hb) (fun _ h_ => by simp only [and_assoc] at h_; exact h_)), (Kd.R_below h_v560 hb), (Kd.R_below h_v564 hb), (Kd.R_mono (Kd.R_lower (Kd.R_new' (Kd.R_mono (ok' := fun _ => True) ho0 (fun _ _ => trivial)) (Kd.R_lt h_v554)) hM_.size) (fun _ h_ => h_.2)), (Kd.S_mono (Kd.S_lower (Kd.S_new' (Kd.S_new' (Kd.S_new' (Kd.S_mono (ok' := fun _ => True) ho1 (fun _ _ => trivial)) (Kd.S_lt h_v557)) (Kd.R_lt h_v560)) (Kd.R_lt h_v564)) hM_.size) (fun _ h_ => ⟨h_.1.1.2, h_.1.2, h_.2⟩)), ⟨hl_gb577, blk_below hb_gb577 hb⟩, below_step hM_ hb⟩)
             skip
             refine box_step ?hg (N := 23) ?hd (cs := #[.int .i64 0, .int .i64 0, .int .i64 0, .int .i64 0]) (t := 74) ?hr ?_; (case hd => rfl); (case hg => rfl); (case hr => first | (go_simp; done) | (go_simp; rfl))
             intro gb578 hg w2_ hbox hb
             refine hK.out _ _ (mm_held4 hHeld hb) (fun hHeld => ?_)
             clear hK K
             refine norm_ (a' := ?_) ?_ ?_
             rotate_left
             ·
              show Act.put _ (some 23) _ = _
              simp only [Act.put, List.setIfInBounds_toArray, List.set_cons_zero, List.set_cons_succ, i64_w, i32_w]
              rfl
             exact norm_ nm_ (hJ311 (v554, v557, v560, v564, gb577, gb578) _ ⟨hHeld, (Kd.R_below h_v554 hb), (Kd.S_below h_v557 hb), (Kd.R_below h_v560 hb), (Kd.R_below h_v564 hb), ⟨hl_gb577, blk_below hb_gb577 hb⟩, ⟨(by rw [hg]; exact hM_.size), hbox⟩, below_step hM_ hb⟩)
            rintro ⟨v554, v557, v560, v564, gb577, gb578⟩ w1_ ⟨hHeld, h_v554, h_v557, h_v560, h_v564, ⟨hl_gb577, hb_gb577⟩, ⟨hl_gb578, hb_gb578⟩, hM_⟩
            refine norm_ (a' := ?_) ?_ ?_
            rotate_left
            ·
             simp only [putAll, Act.put, List.setIfInBounds_toArray, List.set_cons_zero, List.set_cons_succ]
             rfl
            refine one_ (i := 7) (N := some 144) (bt_ 12543 17) rfl rfl (one_of HT_.out (by kernel_rfl)) (by decide) (fun K hK => ?_)
            obtain ⟨Az0, cz0, ez0⟩ := Kd.R_slice h_v554
            subst ez0
            obtain ⟨Az1, cz1, ez1⟩ := Kd.S_slice h_v557
            subst ez1
            obtain ⟨Az2, cz2, ez2⟩ := Kd.R_slice h_v560
            subst ez2
            obtain ⟨Az3, cz3, ez3⟩ := Kd.R_slice h_v564
            subst ez3
            refine goes_ Try.func45 (by kernel_rfl) rfl #[.agg #[.slice Az0 t553.length cz0, .slice Az1 t556.length cz1], .int .i64 a1, .slice Az2 t559.length cz2, .agg #[.int .i64 t562, .slice Az3 t563.length cz3]] (by rfl) rfl rfl al_ ?_
            with_reducible refine (impl_Begin.calls kj199 _ _ t553 _ _ t556 a1 _ _ t559 t562 _ _ t563 t566 t569 t572 t573 t574 t575 t576 _ ?side1 ?side2 ?side3 ?side4 ?side5 ?side6 ?side7 ?side8 A316.out).mono ?_
            (case side1 => exact (Kd.R_reads' h_v554).2.2)
            (case side2 => exact (Kd.R_reads' h_v554).2.1)
            (case side3 => exact (Kd.S_reads' h_v557).2.2)
            (case side4 => exact (Kd.S_reads' h_v557).2.1)
            (case side5 => exact (Kd.R_reads' h_v560).2.2)
            (case side6 => exact (Kd.R_reads' h_v560).2.1)
            (case side7 => exact (Kd.R_reads' h_v564).2.2)
            (case side8 => exact (Kd.R_reads' h_v564).2.1)
            rintro e w2_ ⟨v567, v570, rfl, ho0, ho1, hb⟩
            refine ⟨_, rfl, ?_⟩
            refine hK.out _ _ (mm_held4 hHeld hb) (fun hHeld => ?_)
            clear hK K
            refine norm_ (a' := ?_) ?_ ?_
            rotate_left
            ·
             show Act.put _ (some 144) _ = _
             simp only [Act.put, List.setIfInBounds_toArray, List.set_cons_zero, List.set_cons_succ, i64_w, i32_w]
             rfl
            refine pu_ 8 136 (bt_ 12799 17) ?_
            refine pu_ 9 145 (bt_ 13311 17) ?_
            refine pu_ 10 146 (bt_ 14335 17) ?_
            refine pu_ 11 147 (bt_ 16383 17) ?_
            exact norm_ nm_ (hJ411 ((.slice Az0 t553.length cz0), (.slice Az1 t556.length cz1), (.slice Az2 t559.length cz2), (.slice Az3 t563.length cz3), v567, v570, gb577, gb578) _ ⟨hHeld, (Kd.R_mono (Kd.R_elder' h_v554 (Kd.R_base ho0) hb) (fun _ h_ => h_.2)), (Kd.S_mono (Kd.S_elder' h_v557 (Kd.S_base ho1) hb) (fun _ h_ => by simp only [and_assoc] at h_; exact h_)), (Kd.R_below h_v560 hb), (Kd.R_below h_v564 hb), (Kd.R_mono (Kd.R_lower (Kd.R_new' (Kd.R_mono (ok' := fun _ => True) ho0 (fun _ _ => trivial)) (Kd.R_lt h_v554)) hM_.size) (fun _ h_ => h_.2)), (Kd.S_mono (Kd.S_lower (Kd.S_new' (Kd.S_new' (Kd.S_new' (Kd.S_mono (ok' := fun _ => True) ho1 (fun _ _ => trivial)) (Kd.S_lt h_v557)) (Kd.R_lt h_v560)) (Kd.R_lt h_v564)) hM_.size) (fun _ h_ => ⟨h_.1.1.2, h_.1.2, h_.2⟩)), ⟨hl_gb577, blk_below hb_gb577 hb⟩, ⟨hl_gb578, blk_below hb_gb578 hb⟩, below_step hM_ hb⟩)
           rintro ⟨v554, v557, v560, v564, v567, v570⟩ w1_ ⟨hHeld, h_v554, h_v557, h_v560, h_v564, h_v567, h_v570, hM_⟩
           refine norm_ (a' := ?_) ?_ ?_
           rotate_left
           ·
            simp only [putAll, Act.put, List.setIfInBounds_toArray, List.set_cons_zero, List.set_cons_succ]
            rfl
           refine two_ (i := 12) (j := 13) (Ni := some 22) (Nj := some 23) (bt_ 8191 17) (bt_ 12287 17) rfl rfl rfl rfl (two_of HT_.out (by kernel_rfl)) (by decide) (by decide) (fun K hK => ?_) (fun K hK => ?_)
           ·
            skip
            refine box_step ?hg (N := 22) ?hd (cs := #[.slice none 0 0, .slice none 0 0]) (t := 31) ?hr ?_; (case hd => rfl); (case hg => rfl); (case hr => first | (go_simp; done) | (go_simp; rfl))
            intro gb577 hg w2_ hbox hb
            refine hK.out _ _ (mm_held4 hHeld hb) (fun hHeld => ?_)
            clear hK K
            refine norm_ (a' := ?_) ?_ ?_
            rotate_left
            ·
             show Act.put _ (some 22) _ = _
             simp only [Act.put, List.setIfInBounds_toArray, List.set_cons_zero, List.set_cons_succ, i64_w, i32_w]
             rfl
            exact norm_ nm_ (hJ410 (v554, v557, v560, v564, v567, v570, gb577) _ ⟨hHeld, (Kd.R_below h_v554 hb), (Kd.S_below h_v557 hb), (Kd.R_below h_v560 hb), (Kd.R_below h_v564 hb), (Kd.R_below h_v567 hb), (Kd.S_below h_v570 hb), ⟨(by rw [hg]; exact hM_.size), hbox⟩, below_step hM_ hb⟩)
           skip
           refine box_step ?hg (N := 23) ?hd (cs := #[.int .i64 0, .int .i64 0, .int .i64 0, .int .i64 0]) (t := 74) ?hr ?_; (case hd => rfl); (case hg => rfl); (case hr => first | (go_simp; done) | (go_simp; rfl))
           intro gb578 hg w2_ hbox hb
           refine hK.out _ _ (mm_held4 hHeld hb) (fun hHeld => ?_)
           clear hK K
           refine norm_ (a' := ?_) ?_ ?_
           rotate_left
           ·
            show Act.put _ (some 23) _ = _
            simp only [Act.put, List.setIfInBounds_toArray, List.set_cons_zero, List.set_cons_succ, i64_w, i32_w]
            rfl
           exact norm_ nm_ (hJ401 (v554, v557, v560, v564, v567, v570, gb578) _ ⟨hHeld, (Kd.R_below h_v554 hb), (Kd.S_below h_v557 hb), (Kd.R_below h_v560 hb), (Kd.R_below h_v564 hb), (Kd.R_below h_v567 hb), (Kd.S_below h_v570 hb), ⟨(by rw [hg]; exact hM_.size), hbox⟩, below_step hM_ hb⟩)
          rintro ⟨v554, v557, v560, v564, v567, v570, gb578⟩ w1_ ⟨hHeld, h_v554, h_v557, h_v560, h_v564, h_v567, h_v570, ⟨hl_gb578, hb_gb578⟩, hM_⟩
          refine norm_ (a' := ?_) ?_ ?_
          rotate_left
          ·
           simp only [putAll, Act.put, List.setIfInBounds_toArray, List.set_cons_zero, List.set_cons_succ]
           rfl
          refine one_ (i := 12) (N := some 22) (bt_ 16383 17) rfl rfl (one_of HT_.out (by kernel_rfl)) (by decide) (fun K hK => ?_)
          refine box_step ?hg (N := 22) ?hd (cs := #[.slice none 0 0, .slice none 0 0]) (t := 31) ?hr ?_; (case hd => rfl); (case hg => rfl); (case hr => first | (go_simp; done) | (go_simp; rfl))
          intro gb577 hg w2_ hbox hb
          refine hK.out _ _ (mm_held4 hHeld hb) (fun hHeld => ?_)
          clear hK K
          refine norm_ (a' := ?_) ?_ ?_
          rotate_left
          ·
           show Act.put _ (some 22) _ = _
           simp only [Act.put, List.setIfInBounds_toArray, List.set_cons_zero, List.set_cons_succ, i64_w, i32_w]
           rfl
          exact norm_ nm_ (hJ411 (v554, v557, v560, v564, v567, v570, gb577, gb578) _ ⟨hHeld, (Kd.R_below h_v554 hb), (Kd.S_below h_v557 hb), (Kd.R_below h_v560 hb), (Kd.R_below h_v564 hb), (Kd.R_below h_v567 hb), (Kd.S_below h_v570 hb), ⟨(by rw [hg]; exact hM_.size), hbox⟩, ⟨hl_gb578, blk_below hb_gb578 hb⟩, below_step hM_ hb⟩)
         rintro ⟨v554, v557, v560, v564, v567, v570, gb577⟩ w1_ ⟨hHeld, h_v554, h_v557, h_v560, h_v564, h_v567, h_v570, ⟨hl_gb577, hb_gb577⟩, hM_⟩
         refine norm_ (a' := ?_) ?_ ?_
         rotate_left
         ·
          simp only [putAll, Act.put, List.setIfInBounds_toArray, List.set_cons_zero, List.set_cons_succ]
          rfl
         refine one_ (i := 13) (N := some 23) (bt_ 16383 17) rfl rfl (one_of HT_.out (by kernel_rfl)) (by decide) (fun K hK => ?_)
         refine box_step ?hg (N := 23) ?hd (cs := #[.int .i64 0, .int .i64 0, .int .i64 0, .int .i64 0]) (t := 74) ?hr ?_; (case hd => rfl); (case hg => rfl); (case hr => first | (go_simp; done) | (go_simp; rfl))
         intro gb578 hg w2_ hbox hb
         refine hK.out _ _ (mm_held4 hHeld hb) (fun hHeld => ?_)
         clear hK K
         refine norm_ (a' := ?_) ?_ ?_
         rotate_left
         ·
          show Act.put _ (some 23) _ = _
          simp only [Act.put, List.setIfInBounds_toArray, List.set_cons_zero, List.set_cons_succ, i64_w, i32_w]
          rfl
         exact norm_ nm_ (hJ411 (v554, v557, v560, v564, v567, v570, gb577, gb578) _ ⟨hHeld, (Kd.R_below h_v554 hb), (Kd.S_below h_v557 hb), (Kd.R_below h_v560 hb), (Kd.R_below h_v564 hb), (Kd.R_below h_v567 hb), (Kd.S_below h_v570 hb), ⟨hl_gb577, blk_below hb_gb577 hb⟩, ⟨(by rw [hg]; exact hM_.size), hbox⟩, below_step hM_ hb⟩)
        rintro ⟨v554, v557, v560, v564, v567, v570, gb577, gb578⟩ w337 ⟨hHeld, h_v554, h_v557, h_v560, h_v564, h_v567, h_v570, ⟨hl_gb577, hb_gb577⟩, ⟨hl_gb578, hb_gb578⟩, hM_⟩
        have n0_ : Aside0 (Kd.R k95 95 w337 w.heap.size (fun k_ => some k_ ≠ (v567 : Value).ownBlock ∧ some k_ ≠ (.slice Ao56 t483.length co56 : Value).ownBlock ∧ some k_ ≠ (.slice Ao94 t511.length co94 : Value).ownBlock) v554 t553) := ⟨Kd.R_lower (Kd.R_mono (ok' := fun k_ => some k_ ≠ (v567 : Value).ownBlock ∧ some k_ ≠ (.slice Ao56 t483.length co56 : Value).ownBlock ∧ some k_ ≠ (.slice Ao94 t511.length co94 : Value).ownBlock) (Kd.R_apart' (Kd.R_apart' (Kd.R_new' (Kd.R_new' (Kd.R_new' (Kd.R_new' (h_v554) (Kd.R_lt HO_495000.out)) (Kd.S_lt HO_495001.out)) (Kd.R_lt HO_523000.out)) (Kd.S_lt HO_523001.out)) (Kd.R_typed h_v560) (by decide)) (Kd.R_typed h_v564) (by decide)) (fun k_ hk_ => by (try simp only [and_assoc, true_and, and_true] at hk_); simp only [hk_, ne_eq, not_false_eq_true, and_self, true_and, and_true])) (below_size HB.out)⟩
        have n1_ : Aside0 (Kd.S k119 119 w337 w.heap.size (fun k_ => some k_ ≠ (v554 : Value).ownBlock ∧ some k_ ≠ (v560 : Value).ownBlock ∧ some k_ ≠ (v564 : Value).ownBlock ∧ some k_ ≠ (v567 : Value).ownBlock ∧ some k_ ≠ (v570 : Value).ownBlock ∧ some k_ ≠ (.slice Ao56 t483.length co56 : Value).ownBlock ∧ some k_ ≠ (.slice Ao58 t486.length co58 : Value).ownBlock ∧ some k_ ≠ (.slice Ao94 t511.length co94 : Value).ownBlock ∧ some k_ ≠ (.slice Ao103 t514n.length co103 : Value).ownBlock ∧ k_ ≠ gb465 ∧ k_ ≠ gb466 ∧ k_ ≠ gb494 ∧ k_ ≠ gb495 ∧ k_ ≠ gb522 ∧ k_ ≠ gb577 ∧ k_ ≠ gb578) v557 t556) := ⟨Kd.S_lower (Kd.S_mono (ok' := fun k_ => some k_ ≠ (v554 : Value).ownBlock ∧ some k_ ≠ (v560 : Value).ownBlock ∧ some k_ ≠ (v564 : Value).ownBlock ∧ some k_ ≠ (v567 : Value).ownBlock ∧ some k_ ≠ (v570 : Value).ownBlock ∧ some k_ ≠ (.slice Ao56 t483.length co56 : Value).ownBlock ∧ some k_ ≠ (.slice Ao58 t486.length co58 : Value).ownBlock ∧ some k_ ≠ (.slice Ao94 t511.length co94 : Value).ownBlock ∧ some k_ ≠ (.slice Ao103 t514n.length co103 : Value).ownBlock ∧ k_ ≠ gb465 ∧ k_ ≠ gb466 ∧ k_ ≠ gb494 ∧ k_ ≠ gb495 ∧ k_ ≠ gb522 ∧ k_ ≠ gb577 ∧ k_ ≠ gb578) (Kd.S_types (Kd.S_types (Kd.S_types (Kd.S_types (Kd.S_types (Kd.S_types (Kd.S_types (Kd.S_apart' (Kd.S_apart' (Kd.S_new' (Kd.S_new' (Kd.S_new' (Kd.S_new' (h_v557) (Kd.R_lt HO_495000.out)) (Kd.S_lt HO_495001.out)) (Kd.R_lt HO_523000.out)) (Kd.S_lt HO_523001.out)) (Kd.R_typed h_v554) (by decide)) (Kd.R_typed h_v567) (by decide)) (blk_below BK465.out hM_) (by decide)) (blk_below BK466.out hM_) (by decide)) (blk_below BK494.out hM_) (by decide)) (blk_below BK495.out hM_) (by decide)) (blk_below BK522.out hM_) (by decide)) hb_gb577 (by decide)) hb_gb578 (by decide)) (fun k_ hk_ => by (try simp only [and_assoc, true_and, and_true] at hk_); simp only [hk_, ne_eq, not_false_eq_true, and_self, true_and, and_true])) (below_size HB.out)⟩
        have n2_ : Aside0 (Kd.R k122 122 w337 w.heap.size (fun _ => True) v560 t559) := ⟨Kd.R_lower (Kd.R_mono (ok' := fun _ => True) (Kd.R_apart' (Kd.R_apart' (Kd.R_apart' (Kd.R_new' (Kd.R_new' (Kd.R_new' (Kd.R_new' (h_v560) (Kd.R_lt HO_495000.out)) (Kd.S_lt HO_495001.out)) (Kd.R_lt HO_523000.out)) (Kd.S_lt HO_523001.out)) (Kd.R_typed h_v554) (by decide)) (Kd.R_typed h_v564) (by decide)) (Kd.R_typed h_v567) (by decide)) (fun _ _ => trivial)) (below_size HB.out)⟩
        have n3_ : Aside0 (Kd.R (Kd.int .i64) 3 w337 w.heap.size (fun _ => True) v564 t563) := ⟨Kd.R_lower (Kd.R_mono (ok' := fun _ => True) (Kd.R_apart' (Kd.R_apart' (Kd.R_apart' (Kd.R_new' (Kd.R_new' (Kd.R_new' (Kd.R_new' (h_v564) (Kd.R_lt HO_495000.out)) (Kd.S_lt HO_495001.out)) (Kd.R_lt HO_523000.out)) (Kd.S_lt HO_523001.out)) (Kd.R_typed h_v554) (by decide)) (Kd.R_typed h_v560) (by decide)) (Kd.R_typed h_v567) (by decide)) (fun _ _ => trivial)) (below_size HB.out)⟩
        have n4_ : Aside0 (Kd.R k95 95 w337 w.heap.size (fun k_ => some k_ ≠ (v554 : Value).ownBlock ∧ some k_ ≠ (.slice Ao56 t483.length co56 : Value).ownBlock ∧ some k_ ≠ (.slice Ao94 t511.length co94 : Value).ownBlock) v567 t566) := ⟨Kd.R_lower (Kd.R_mono (ok' := fun k_ => some k_ ≠ (v554 : Value).ownBlock ∧ some k_ ≠ (.slice Ao56 t483.length co56 : Value).ownBlock ∧ some k_ ≠ (.slice Ao94 t511.length co94 : Value).ownBlock) (Kd.R_apart' (Kd.R_apart' (Kd.R_new' (Kd.R_new' (Kd.R_new' (Kd.R_new' (h_v567) (Kd.R_lt HO_495000.out)) (Kd.S_lt HO_495001.out)) (Kd.R_lt HO_523000.out)) (Kd.S_lt HO_523001.out)) (Kd.R_typed h_v560) (by decide)) (Kd.R_typed h_v564) (by decide)) (fun k_ hk_ => by (try simp only [and_assoc, true_and, and_true] at hk_); simp only [hk_, ne_eq, not_false_eq_true, and_self, true_and, and_true])) (below_size HB.out)⟩
        have n5_ : Aside0 (Kd.S k119 119 w337 w.heap.size (fun k_ => some k_ ≠ (v554 : Value).ownBlock ∧ some k_ ≠ (v557 : Value).ownBlock ∧ some k_ ≠ (v560 : Value).ownBlock ∧ some k_ ≠ (v564 : Value).ownBlock ∧ some k_ ≠ (v567 : Value).ownBlock ∧ some k_ ≠ (.slice Ao56 t483.length co56 : Value).ownBlock ∧ some k_ ≠ (.slice Ao58 t486.length co58 : Value).ownBlock ∧ some k_ ≠ (.slice Ao94 t511.length co94 : Value).ownBlock ∧ some k_ ≠ (.slice Ao103 t514n.length co103 : Value).ownBlock ∧ k_ ≠ gb465 ∧ k_ ≠ gb466 ∧ k_ ≠ gb494 ∧ k_ ≠ gb495 ∧ k_ ≠ gb522 ∧ k_ ≠ gb577 ∧ k_ ≠ gb578) v570 t569) := ⟨Kd.S_lower (Kd.S_mono (ok' := fun k_ => some k_ ≠ (v554 : Value).ownBlock ∧ some k_ ≠ (v557 : Value).ownBlock ∧ some k_ ≠ (v560 : Value).ownBlock ∧ some k_ ≠ (v564 : Value).ownBlock ∧ some k_ ≠ (v567 : Value).ownBlock ∧ some k_ ≠ (.slice Ao56 t483.length co56 : Value).ownBlock ∧ some k_ ≠ (.slice Ao58 t486.length co58 : Value).ownBlock ∧ some k_ ≠ (.slice Ao94 t511.length co94 : Value).ownBlock ∧ some k_ ≠ (.slice Ao103 t514n.length co103 : Value).ownBlock ∧ k_ ≠ gb465 ∧ k_ ≠ gb466 ∧ k_ ≠ gb494 ∧ k_ ≠ gb495 ∧ k_ ≠ gb522 ∧ k_ ≠ gb577 ∧ k_ ≠ gb578) (Kd.S_types (Kd.S_types (Kd.S_types (Kd.S_types (Kd.S_types (Kd.S_types (Kd.S_types (Kd.S_apart' (Kd.S_apart' (Kd.S_new' (Kd.S_new' (Kd.S_new' (Kd.S_new' (h_v570) (Kd.R_lt HO_495000.out)) (Kd.S_lt HO_495001.out)) (Kd.R_lt HO_523000.out)) (Kd.S_lt HO_523001.out)) (Kd.R_typed h_v554) (by decide)) (Kd.R_typed h_v567) (by decide)) (blk_below BK465.out hM_) (by decide)) (blk_below BK466.out hM_) (by decide)) (blk_below BK494.out hM_) (by decide)) (blk_below BK495.out hM_) (by decide)) (blk_below BK522.out hM_) (by decide)) hb_gb577 (by decide)) hb_gb578 (by decide)) (fun k_ hk_ => by (try simp only [and_assoc, true_and, and_true] at hk_); simp only [hk_, ne_eq, not_false_eq_true, and_self, true_and, and_true])) (below_size HB.out)⟩
        have n6_ : Aside0 (Kd.R k95 95 w337 w.heap.size (fun k_ => some k_ ≠ (v554 : Value).ownBlock ∧ some k_ ≠ (v567 : Value).ownBlock ∧ some k_ ≠ (.slice Ao94 t511.length co94 : Value).ownBlock) (.slice Ao56 t483.length co56) t483) := ⟨Kd.R_mono (ok' := fun k_ => some k_ ≠ (v554 : Value).ownBlock ∧ some k_ ≠ (v567 : Value).ownBlock ∧ some k_ ≠ (.slice Ao94 t511.length co94 : Value).ownBlock) (Kd.R_told (Kd.R_told (Kd.R_told (Kd.R_told (Kd.R_told (Kd.R_told (Kd.R_old HO_495000.out hM_) (Kd.R_base h_v554)) (Kd.S_base h_v557)) (Kd.R_base h_v560)) (Kd.R_base h_v564)) (Kd.R_base h_v567)) (Kd.S_base h_v570)) (fun k_ hk_ => by (try simp only [and_assoc, true_and, and_true] at hk_); simp only [hk_, ne_eq, not_false_eq_true, and_self, true_and, and_true])⟩
        have n7_ : Aside0 (Kd.S k119 119 w337 w.heap.size (fun k_ => some k_ ≠ (v554 : Value).ownBlock ∧ some k_ ≠ (v557 : Value).ownBlock ∧ some k_ ≠ (v560 : Value).ownBlock ∧ some k_ ≠ (v564 : Value).ownBlock ∧ some k_ ≠ (v567 : Value).ownBlock ∧ some k_ ≠ (v570 : Value).ownBlock ∧ some k_ ≠ (.slice Ao56 t483.length co56 : Value).ownBlock ∧ some k_ ≠ (.slice Ao94 t511.length co94 : Value).ownBlock ∧ k_ < nn2_ ∧ k_ ≠ gb465 ∧ k_ ≠ gb466 ∧ k_ ≠ gb494 ∧ k_ ≠ gb495 ∧ k_ ≠ gb522 ∧ k_ ≠ gb577 ∧ k_ ≠ gb578) (.slice Ao58 t486.length co58) t486) := ⟨Kd.S_mono (ok' := fun k_ => some k_ ≠ (v554 : Value).ownBlock ∧ some k_ ≠ (v557 : Value).ownBlock ∧ some k_ ≠ (v560 : Value).ownBlock ∧ some k_ ≠ (v564 : Value).ownBlock ∧ some k_ ≠ (v567 : Value).ownBlock ∧ some k_ ≠ (v570 : Value).ownBlock ∧ some k_ ≠ (.slice Ao56 t483.length co56 : Value).ownBlock ∧ some k_ ≠ (.slice Ao94 t511.length co94 : Value).ownBlock ∧ k_ < nn2_ ∧ k_ ≠ gb465 ∧ k_ ≠ gb466 ∧ k_ ≠ gb494 ∧ k_ ≠ gb495 ∧ k_ ≠ gb522 ∧ k_ ≠ gb577 ∧ k_ ≠ gb578) (Kd.S_types (Kd.S_types (Kd.S_told (Kd.S_told (Kd.S_told (Kd.S_told (Kd.S_told (Kd.S_told (Kd.S_old HO_495001.out hM_) (Kd.R_base h_v554)) (Kd.S_base h_v557)) (Kd.R_base h_v560)) (Kd.R_base h_v564)) (Kd.R_base h_v567)) (Kd.S_base h_v570)) hb_gb577 (by decide)) hb_gb578 (by decide)) (fun k_ hk_ => by (try simp only [and_assoc, true_and, and_true] at hk_); simp only [hk_, ne_eq, not_false_eq_true, and_self, true_and, and_true])⟩
        have n8_ : Aside0 (Kd.R k95 95 w337 w.heap.size (fun k_ => some k_ ≠ (v554 : Value).ownBlock ∧ some k_ ≠ (v567 : Value).ownBlock ∧ some k_ ≠ (.slice Ao56 t483.length co56 : Value).ownBlock) (.slice Ao94 t511.length co94) t551) := ⟨Kd.R_mono (ok' := fun k_ => some k_ ≠ (v554 : Value).ownBlock ∧ some k_ ≠ (v567 : Value).ownBlock ∧ some k_ ≠ (.slice Ao56 t483.length co56 : Value).ownBlock) (Kd.R_told (Kd.R_told (Kd.R_told (Kd.R_told (Kd.R_told (Kd.R_told (Kd.R_old HO_523000.out hM_) (Kd.R_base h_v554)) (Kd.S_base h_v557)) (Kd.R_base h_v560)) (Kd.R_base h_v564)) (Kd.R_base h_v567)) (Kd.S_base h_v570)) (fun k_ hk_ => by (try simp only [and_assoc, true_and, and_true] at hk_); simp only [hk_, ne_eq, not_false_eq_true, and_self, true_and, and_true])⟩
        have n9_ : Aside0 (Kd.S k119 119 w337 w.heap.size (fun k_ => some k_ ≠ (v554 : Value).ownBlock ∧ some k_ ≠ (v557 : Value).ownBlock ∧ some k_ ≠ (v560 : Value).ownBlock ∧ some k_ ≠ (v564 : Value).ownBlock ∧ some k_ ≠ (v567 : Value).ownBlock ∧ some k_ ≠ (v570 : Value).ownBlock ∧ some k_ ≠ (.slice Ao56 t483.length co56 : Value).ownBlock ∧ nn2_ ≤ k_ ∧ some k_ ≠ (.slice Ao94 t511.length co94 : Value).ownBlock ∧ k_ ≠ gb465 ∧ k_ ≠ gb466 ∧ k_ ≠ gb494 ∧ k_ ≠ gb495 ∧ k_ ≠ gb522 ∧ k_ ≠ gb577 ∧ k_ ≠ gb578) (.slice Ao103 t514n.length co103) t514n) := ⟨Kd.S_mono (ok' := fun k_ => some k_ ≠ (v554 : Value).ownBlock ∧ some k_ ≠ (v557 : Value).ownBlock ∧ some k_ ≠ (v560 : Value).ownBlock ∧ some k_ ≠ (v564 : Value).ownBlock ∧ some k_ ≠ (v567 : Value).ownBlock ∧ some k_ ≠ (v570 : Value).ownBlock ∧ some k_ ≠ (.slice Ao56 t483.length co56 : Value).ownBlock ∧ nn2_ ≤ k_ ∧ some k_ ≠ (.slice Ao94 t511.length co94 : Value).ownBlock ∧ k_ ≠ gb465 ∧ k_ ≠ gb466 ∧ k_ ≠ gb494 ∧ k_ ≠ gb495 ∧ k_ ≠ gb522 ∧ k_ ≠ gb577 ∧ k_ ≠ gb578) (Kd.S_types (Kd.S_types (Kd.S_told (Kd.S_told (Kd.S_told (Kd.S_told (Kd.S_told (Kd.S_told (Kd.S_old HO_523001.out hM_) (Kd.R_base h_v554)) (Kd.S_base h_v557)) (Kd.R_base h_v560)) (Kd.R_base h_v564)) (Kd.R_base h_v567)) (Kd.S_base h_v570)) hb_gb577 (by decide)) hb_gb578 (by decide)) (fun k_ hk_ => by (try simp only [and_assoc, true_and, and_true] at hk_); simp only [hk_, ne_eq, not_false_eq_true, and_self, true_and, and_true])⟩
        have n10_ : Aside0 (w337.heap[gb465]? = some (.cells #[.slice A0_0 l0_0.length c0_0, .slice A0_1 l0_1.length c0_1] 25 (0, 0))) := ⟨(blk_below BK465.out hM_)⟩
        have n11_ : Aside0 (w337.heap[gb466]? = some (.cells #[.int .i64 a3_0, .slice A3_1 l3_1.length c3_1] 41 (0, 0))) := ⟨(blk_below BK466.out hM_)⟩
        have n12_ : Aside0 (w337.heap[gb494]? = some (.cells #[.slice Ao56 t483.length co56, .slice Ao58 t486.length co58] 31 (0, 0))) := ⟨(blk_below BK494.out hM_)⟩
        have n13_ : Aside0 (w337.heap[gb495]? = some (.cells #[.int .i64 t489, .int .i64 t490, .int .i64 t491, .int .i64 t492] 74 (0, 0))) := ⟨(blk_below BK495.out hM_)⟩
        have n14_ : Aside0 (w337.heap[gb522]? = some (.cells #[.slice Ao94 t511.length co94, .slice Ao103 t514n.length co103] 31 (0, 0))) := ⟨(blk_below BK522.out hM_)⟩
        have n15_ : Aside0 (w337.heap[gb577]? = some (.cells #[.slice none 0 0, .slice none 0 0] 31 (0, 0))) := ⟨hb_gb577⟩
        have n16_ : Aside0 (w337.heap[gb578]? = some (.cells #[.int .i64 0, .int .i64 0, .int .i64 0, .int .i64 0] 74 (0, 0))) := ⟨hb_gb578⟩
        have n17_ : Aside0 (w.heap.size ≤ gb577) := ⟨Nat.le_trans (below_size HB.out) hl_gb577⟩
        have n18_ : Aside0 (w.heap.size ≤ gb577) := ⟨Nat.le_trans (below_size HB.out) hl_gb577⟩
        have n19_ : Aside0 (gb465 ≠ gb577) := ⟨Nat.ne_of_lt (Nat.lt_of_lt_of_le (blk_lt BK465.out) hl_gb577)⟩
        have n20_ : Aside0 (gb577 ≠ gb465) := ⟨Nat.ne_of_gt (Nat.lt_of_lt_of_le (blk_lt BK465.out) hl_gb577)⟩
        have n21_ : Aside0 (gb466 ≠ gb577) := ⟨Nat.ne_of_lt (Nat.lt_of_lt_of_le (blk_lt BK466.out) hl_gb577)⟩
        have n22_ : Aside0 (gb577 ≠ gb466) := ⟨Nat.ne_of_gt (Nat.lt_of_lt_of_le (blk_lt BK466.out) hl_gb577)⟩
        have n23_ : Aside0 (gb494 ≠ gb577) := ⟨Nat.ne_of_lt (Nat.lt_of_lt_of_le (blk_lt BK494.out) hl_gb577)⟩
        have n24_ : Aside0 (gb577 ≠ gb494) := ⟨Nat.ne_of_gt (Nat.lt_of_lt_of_le (blk_lt BK494.out) hl_gb577)⟩
        have n25_ : Aside0 (gb495 ≠ gb577) := ⟨Nat.ne_of_lt (Nat.lt_of_lt_of_le (blk_lt BK495.out) hl_gb577)⟩
        have n26_ : Aside0 (gb577 ≠ gb495) := ⟨Nat.ne_of_gt (Nat.lt_of_lt_of_le (blk_lt BK495.out) hl_gb577)⟩
        have n27_ : Aside0 (gb522 ≠ gb577) := ⟨Nat.ne_of_lt (Nat.lt_of_lt_of_le (blk_lt BK522.out) hl_gb577)⟩
        have n28_ : Aside0 (gb577 ≠ gb522) := ⟨Nat.ne_of_gt (Nat.lt_of_lt_of_le (blk_lt BK522.out) hl_gb577)⟩
        have n29_ : Aside0 (gb578 ≠ gb577) := ⟨mm_nb hb_gb578 hb_gb577 (by decide)⟩
        have n30_ : Aside0 (gb577 ≠ gb578) := ⟨mm_nb hb_gb577 hb_gb578 (by decide)⟩
        have n31_ : Aside0 (w.heap.size ≤ gb578) := ⟨Nat.le_trans (below_size HB.out) hl_gb578⟩
        have n32_ : Aside0 (w.heap.size ≤ gb578) := ⟨Nat.le_trans (below_size HB.out) hl_gb578⟩
        have n33_ : Aside0 (gb465 ≠ gb578) := ⟨Nat.ne_of_lt (Nat.lt_of_lt_of_le (blk_lt BK465.out) hl_gb578)⟩
        have n34_ : Aside0 (gb578 ≠ gb465) := ⟨Nat.ne_of_gt (Nat.lt_of_lt_of_le (blk_lt BK465.out) hl_gb578)⟩
        have n35_ : Aside0 (gb466 ≠ gb578) := ⟨Nat.ne_of_lt (Nat.lt_of_lt_of_le (blk_lt BK466.out) hl_gb578)⟩
        have n36_ : Aside0 (gb578 ≠ gb466) := ⟨Nat.ne_of_gt (Nat.lt_of_lt_of_le (blk_lt BK466.out) hl_gb578)⟩
        have n37_ : Aside0 (gb494 ≠ gb578) := ⟨Nat.ne_of_lt (Nat.lt_of_lt_of_le (blk_lt BK494.out) hl_gb578)⟩
        have n38_ : Aside0 (gb578 ≠ gb494) := ⟨Nat.ne_of_gt (Nat.lt_of_lt_of_le (blk_lt BK494.out) hl_gb578)⟩
        have n39_ : Aside0 (gb495 ≠ gb578) := ⟨Nat.ne_of_lt (Nat.lt_of_lt_of_le (blk_lt BK495.out) hl_gb578)⟩
        have n40_ : Aside0 (gb578 ≠ gb495) := ⟨Nat.ne_of_gt (Nat.lt_of_lt_of_le (blk_lt BK495.out) hl_gb578)⟩
        have n41_ : Aside0 (gb522 ≠ gb578) := ⟨Nat.ne_of_lt (Nat.lt_of_lt_of_le (blk_lt BK522.out) hl_gb578)⟩
        have n42_ : Aside0 (gb578 ≠ gb522) := ⟨Nat.ne_of_gt (Nat.lt_of_lt_of_le (blk_lt BK522.out) hl_gb578)⟩
        have n43_ : Aside0 (Below w.heap.size w w337) := ⟨below_step HB.out hM_⟩
        clear HO_495000 HO_495001 HO_523000 HO_523001 BK465 BK466 BK494 BK495 BK522 HB h_v554 h_v557 h_v560 h_v564 h_v567 h_v570 hl_gb577 hb_gb577 hl_gb578 hb_gb578 hM_
        have HO555 := n0_
        have HO558 := n1_
        have HO561 := n2_
        have HO565 := n3_
        have HO568 := n4_
        have HO571 := n5_
        have HO_495000 := n6_
        have HO_495001 := n7_
        have HO_523000 := n8_
        have HO_523001 := n9_
        have BK465 := n10_
        have BK466 := n11_
        have BK494 := n12_
        have BK495 := n13_
        have BK522 := n14_
        have BK577 := n15_
        have BK578 := n16_
        have GW577 := n17_
        have GE577 := n18_
        have NB465_577 := n19_
        have NB577_465 := n20_
        have NB466_577 := n21_
        have NB577_466 := n22_
        have NB494_577 := n23_
        have NB577_494 := n24_
        have NB495_577 := n25_
        have NB577_495 := n26_
        have NB522_577 := n27_
        have NB577_522 := n28_
        have NB578_577 := n29_
        have NB577_578 := n30_
        have GW578 := n31_
        have GE578 := n32_
        have NB465_578 := n33_
        have NB578_465 := n34_
        have NB466_578 := n35_
        have NB578_466 := n36_
        have NB494_578 := n37_
        have NB578_494 := n38_
        have NB495_578 := n39_
        have NB578_495 := n40_
        have NB522_578 := n41_
        have NB578_522 := n42_
        have HB := n43_
        clear n0_ n1_ n2_ n3_ n4_ n5_ n6_ n7_ n8_ n9_ n10_ n11_ n12_ n13_ n14_ n15_ n16_ n17_ n18_ n19_ n20_ n21_ n22_ n23_ n24_ n25_ n26_ n27_ n28_ n29_ n30_ n31_ n32_ n33_ n34_ n35_ n36_ n37_ n38_ n39_ n40_ n41_ n42_ n43_
        obtain ⟨Ao338, co338, eo338⟩ := Kd.R_slice HO568.out
        (first | subst eo338 | (injection eo338 with f1_ f2_ f3_; have f4_ := f1_.symm; have f5_ := f3_.symm; clear f1_ f2_ f3_; subst f4_; subst f5_))
        obtain ⟨Ao340, co340, eo340⟩ := Kd.S_slice HO571.out
        (first | subst eo340 | (injection eo340 with f1_ f2_ f3_; have f4_ := f1_.symm; have f5_ := f3_.symm; clear f1_ f2_ f3_; subst f4_; subst f5_))
        refine norm_ (a' := ?_) ?_ ?_
        rotate_left
        ·
         simp only [putAll, Act.put, List.setIfInBounds_toArray, List.set_cons_zero, List.set_cons_succ]
         rfl
        refine one_ (i := 14) (N := none) (bt_ 32767 17) rfl rfl (one_of HT_.out (by kernel_rfl)) (by decide) (fun K hK => ?_)
        have hs339 : w337.cell? ⟨gb577, 0, none⟩ = some (.slice none 0 0) := (blk_cell BK577.out 0).trans rfl
        have hfs339 := blk_frozen BK577.out 0
        have hns339_0 := NB465_577.out
        have hns339_1 := NB466_577.out
        have hns339_2 := NB494_577.out
        have hns339_3 := NB495_577.out
        have hns339_4 := NB522_577.out
        have hns339_6 := NB578_577.out
        have hms339_0 := NB577_465.out
        have hms339_1 := NB577_466.out
        have hms339_2 := NB577_494.out
        have hms339_3 := NB577_495.out
        have hms339_4 := NB577_522.out
        have hms339_6 := NB577_578.out
        have hs341 : w337.cell? ⟨gb577, 1, none⟩ = some (.slice none 0 0) := (blk_cell BK577.out 1).trans rfl
        have hfs341 := blk_frozen BK577.out 1
        have hns341_0 := NB465_577.out
        have hns341_1 := NB466_577.out
        have hns341_2 := NB494_577.out
        have hns341_3 := NB495_577.out
        have hns341_4 := NB522_577.out
        have hns341_6 := NB578_577.out
        have hms341_0 := NB577_465.out
        have hms341_1 := NB577_466.out
        have hms341_2 := NB577_494.out
        have hms341_3 := NB577_495.out
        have hms341_4 := NB577_522.out
        have hms341_6 := NB577_578.out
        refine skip_ (w1 := ?_) (by rfl) rfl ?_ ?_
        rotate_left
        ·
         go_simp
         rfl
        refine hK.out _ _ ⟨((cell_far (p := ⟨gb577, _, none⟩) NB465_577.out _).trans (((cell_far (p := ⟨gb577, _, none⟩) NB465_577.out _).trans (hHeld.1)))), ((cell_far (p := ⟨gb577, _, none⟩) NB465_577.out _).trans (((cell_far (p := ⟨gb577, _, none⟩) NB465_577.out _).trans (hHeld.2.1)))), ((cell_far (p := ⟨gb577, _, none⟩) NB466_577.out _).trans (((cell_far (p := ⟨gb577, _, none⟩) NB466_577.out _).trans (hHeld.2.2.1)))), ((cell_far (p := ⟨gb577, _, none⟩) NB466_577.out _).trans (((cell_far (p := ⟨gb577, _, none⟩) NB466_577.out _).trans (hHeld.2.2.2))))⟩ (fun hHeld => ?_)
        clear hK K
        refine one_ (i := 15) (N := none) (bt_ 65535 17) rfl rfl (one_of HT_.out (by kernel_rfl)) (by decide) (fun K hK => ?_)
        have hs342 : w337.cell? ⟨gb578, 0, none⟩ = some (.int .i64 0) := (blk_cell BK578.out 0).trans rfl
        have hfs342 := blk_frozen BK578.out 0
        have hns342_0 := NB465_578.out
        have hns342_1 := NB466_578.out
        have hns342_2 := NB494_578.out
        have hns342_3 := NB495_578.out
        have hns342_4 := NB522_578.out
        have hns342_5 := NB577_578.out
        have hms342_0 := NB578_465.out
        have hms342_1 := NB578_466.out
        have hms342_2 := NB578_494.out
        have hms342_3 := NB578_495.out
        have hms342_4 := NB578_522.out
        have hms342_5 := NB578_577.out
        have hs343 : w337.cell? ⟨gb578, 1, none⟩ = some (.int .i64 0) := (blk_cell BK578.out 1).trans rfl
        have hfs343 := blk_frozen BK578.out 1
        have hns343_0 := NB465_578.out
        have hns343_1 := NB466_578.out
        have hns343_2 := NB494_578.out
        have hns343_3 := NB495_578.out
        have hns343_4 := NB522_578.out
        have hns343_5 := NB577_578.out
        have hms343_0 := NB578_465.out
        have hms343_1 := NB578_466.out
        have hms343_2 := NB578_494.out
        have hms343_3 := NB578_495.out
        have hms343_4 := NB578_522.out
        have hms343_5 := NB578_577.out
        have hs344 : w337.cell? ⟨gb578, 2, none⟩ = some (.int .i64 0) := (blk_cell BK578.out 2).trans rfl
        have hfs344 := blk_frozen BK578.out 2
        have hns344_0 := NB465_578.out
        have hns344_1 := NB466_578.out
        have hns344_2 := NB494_578.out
        have hns344_3 := NB495_578.out
        have hns344_4 := NB522_578.out
        have hns344_5 := NB577_578.out
        have hms344_0 := NB578_465.out
        have hms344_1 := NB578_466.out
        have hms344_2 := NB578_494.out
        have hms344_3 := NB578_495.out
        have hms344_4 := NB578_522.out
        have hms344_5 := NB578_577.out
        have hs345 : w337.cell? ⟨gb578, 3, none⟩ = some (.int .i64 0) := (blk_cell BK578.out 3).trans rfl
        have hfs345 := blk_frozen BK578.out 3
        have hns345_0 := NB465_578.out
        have hns345_1 := NB466_578.out
        have hns345_2 := NB494_578.out
        have hns345_3 := NB495_578.out
        have hns345_4 := NB522_578.out
        have hns345_5 := NB577_578.out
        have hms345_0 := NB578_465.out
        have hms345_1 := NB578_466.out
        have hms345_2 := NB578_494.out
        have hms345_3 := NB578_495.out
        have hms345_4 := NB578_522.out
        have hms345_5 := NB578_577.out
        refine skip_ (w1 := ?_) (by rfl) rfl ?_ ?_
        rotate_left
        ·
         go_simp
         rfl
        refine hK.out _ _ ⟨((cell_far (p := ⟨gb578, _, none⟩) NB465_578.out _).trans (((cell_far (p := ⟨gb578, _, none⟩) NB465_578.out _).trans (((cell_far (p := ⟨gb578, _, none⟩) NB465_578.out _).trans (((cell_far (p := ⟨gb578, _, none⟩) NB465_578.out _).trans (hHeld.1)))))))), ((cell_far (p := ⟨gb578, _, none⟩) NB465_578.out _).trans (((cell_far (p := ⟨gb578, _, none⟩) NB465_578.out _).trans (((cell_far (p := ⟨gb578, _, none⟩) NB465_578.out _).trans (((cell_far (p := ⟨gb578, _, none⟩) NB465_578.out _).trans (hHeld.2.1)))))))), ((cell_far (p := ⟨gb578, _, none⟩) NB466_578.out _).trans (((cell_far (p := ⟨gb578, _, none⟩) NB466_578.out _).trans (((cell_far (p := ⟨gb578, _, none⟩) NB466_578.out _).trans (((cell_far (p := ⟨gb578, _, none⟩) NB466_578.out _).trans (hHeld.2.2.1)))))))), ((cell_far (p := ⟨gb578, _, none⟩) NB466_578.out _).trans (((cell_far (p := ⟨gb578, _, none⟩) NB466_578.out _).trans (((cell_far (p := ⟨gb578, _, none⟩) NB466_578.out _).trans (((cell_far (p := ⟨gb578, _, none⟩) NB466_578.out _).trans (hHeld.2.2.2))))))))⟩ (fun hHeld => ?_)
        clear hK K
        refine pu_ 16 24 (bt_ 131071 17) ?_
        refine done_ (done_of HT_.out (by kernel_rfl)) ?_
        go_upto_region 39 with (fail)
        go_cut [162] (fun v162 wc => ∃ (kq : Nat) (x162_316 : Bool), v162 = .bool x162_316 ∧ Aside0 (laws_FnExactBegin.j2 kq t550 x162_316 t551 t514n = some r) ∧ Aside0 (kq ≤ kj199) ∧ Aside0 (Kd.R k95 95 wc w.heap.size (fun _ => True) (.slice Ao94 t511.length co94) t551) ∧ Aside0 (Kd.S k119 119 wc w.heap.size (fun k_ => some k_ ≠ ((.slice Ao94 t511.length co94) : Value).ownBlock ∧ k_ ≠ gb522) (.slice Ao103 t514n.length co103) t514n) ∧ Aside0 (wc.heap[gb522]? = some (.cells #[(.slice Ao94 t511.length co94), (.slice Ao103 t514n.length co103)] 31 (0, 0))) ∧ Aside0 (Below w.heap.size w wc))
        case first =>
         have H := HC317.out
         clear HC317
         replace H := bs_ H
         obtain ⟨t579, A346, H⟩ := H
         by_cases c347 : t579 = true
         · exact z3_
         obtain rfl := Bool.eq_false_iff.mpr c347
         have H1 : (laws_FnExactBegin.j2 kj199 t550 true t551 t514n) = some r := by rw [if_neg (show ¬ (false = true) by decide)] at H; exact H
         exact absurd H1 (laws_FnExactBegin.j2_dead _ _ _ _ _)
        case rest =>
         clear HC317
         try clear c347
         try clear c349
         obtain ⟨kq, x162_316, rfl, HA, HJ316, HO_523000, HO_523001, BK522, HB⟩ := hcut
         have hl523000_316 := (Kd.R_reads' HO_523000.out).1
         rw [hl523000_316] at HO_523000
         (try simp only [hl523000_316])
         (try simp only [hl523000_316] at BK522)
         (try simp only [hl523000_316] at HO_523001)
         cases kq with
         | zero => exact absurd HA.out (by simp [laws_FnExactBegin.j2])
         | succ kj316 =>
          have H := HA.out
          clear HA
          simp only [laws_FnExactBegin.j2] at H
          by_cases c412 : x162_316 = true
          ·
           subst c412
           replace H := it_ H
           exact absurd H (by simp)
          obtain rfl := Bool.eq_false_iff.mpr c412
          replace H := iF_ H
          replace H := bs_ H
          obtain ⟨t581, A413, H⟩ := H
          by_cases c414 : t581 < 0
          ·
           rw [if_pos c414] at H
           exact absurd H (by simp)
          rw [if_neg c414] at H
          have c414b0 : decide (t581 < 0) = false := decide_eq_false c414
          clear c414
          replace H := iy_ H
          obtain ⟨c415b0, c415b1, H⟩ := H
          obtain rfl := Option.some.inj H
          obtain ⟨hcz416_0, hcz416_1, hfz416_0, hfz416_1⟩ := cz2_ BK522
          go_wp2_with (first | ((with_reducible refine gate_callee (f := 41) rfl ?_); refine goesL_ (some 165) rfl rfl Try.func41 (by kernel_rfl) rfl #[.agg #[.slice Ao94 t551.length co94, .slice Ao103 t514n.length co103], .int .i64 1] rfl al_ ?_; (with_reducible refine (laws_heldMem.calls kj316 _ _ t551 _ _ t514n 1 t581 _ ?side1 ?side2 ?side3 ?side4 A413.out).mono ?_); (case side1 => repeat (first | exact (Kd.R_reads' HO_523000.out).2.2 | (with_reducible refine Kd.C_alloc ?_ _) | (with_reducible refine Kd.C_drewN ?_ _) | (with_reducible refine Kd.C_drew ?_))); (case side2 => exact (Kd.R_reads' HO_523000.out).2.1); (case side3 => repeat (first | exact (Kd.S_reads' HO_523001.out).2.2 | (with_reducible refine Kd.C_alloc ?_ _) | (with_reducible refine Kd.C_drewN ?_ _) | (with_reducible refine Kd.C_drew ?_))); (case side4 => exact (Kd.S_reads' HO_523001.out).2.1); rintro e w417 ⟨rfl, hb⟩; refine ⟨_, rfl, ?_⟩; replace HO_523000 := A_ (Kd.R_below (rb_ HO_523000.out) hb); replace HO_523001 := A_ (Kd.S_below (sb_ HO_523001.out) hb); replace BK522 := bb_ BK522 hb; replace HB := hs_ HB hb; (try clear hb); (try clear hb2); (try clear hk); (try clear hi)))
          go_ret
          exact ⟨rs_, hb_ HB⟩
     obtain rfl := Bool.eq_false_iff.mpr c196
     replace H := iF_ H
     exact absurd H (by simp)
    obtain rfl := Bool.eq_false_iff.mpr c193
    replace H := iF_ H
    exact absurd H (by simp)
   obtain rfl := Bool.eq_false_iff.mpr c190
   replace H := iF_ H
   exact absurd H (by simp)

end Go.Proofs.Ytmkhghbalnadlaa.PFnExactBegin
