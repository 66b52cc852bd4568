/- Contracts of functions of the program: each says that the call does what a plain Lean function tells. Made by programs of this session and of the kit. No condition beyond the hypotheses that each theorem names. -/
import Derived.Test.YtblpbhhomocfbaaPFnExactSwapx0
import Derived.Test.YtblpbhhomocfbaaPFnExactSwapx2
import Derived.Test.YtblpbhhomocfbaaPFnExactSwapx3
import Derived.Test.YtblpbhhomocfbaaPFnExactSwapx4
import Derived.Test.YtblpbhhomocfbaaPFnExactSwapx6
namespace Go.Proofs.Ytblpbhhomocfbaa.PFnExactSwap
open Go.RowKit Go.Proofs.YtblpbhhomocfbaaW.PrintWords Go.Proofs.YtblpbhhomocfbaaW.PrintLast Go.Proofs.YtblpbhhomocfbaaW.PrintMore
attribute [local go_sem] max2_int min2_int max_two min_two max_three min_three max_four min_four   -- for this text's walks alone
set_option linter.unusedVariables false
set_option linter.unusedSimpArgs false

theorem z59_ {p : Prop} (h : p := by (try simp only [List.map_toArray, List.map_cons, List.map_nil]); first | done | (rw [show t356.length = t325.length from (Kd.R_reads' HO_337000.out).1.symm, show t357.length = t330.length from (Kd.R_reads' HO_337003.out).1.symm, show t358.length = t333.length from (Kd.R_reads' HO_337004.out).1.symm] <;> rfl) | rfl | (simp only [List.length_drop, List.length_take]; rfl)) : p := h
theorem z58_ {p : Prop} (h : p := by (with_reducible repeat (first | apply Kd.R_alloc | apply Kd.R_drewN | apply Kd.R_drew)); exact Kd.R_mono HO307.out (fun _ hk => hk.2)) : p := h
theorem z57_ {p : Prop} (h : p := by (with_reducible repeat (first | apply Kd.R_alloc | apply Kd.R_drewN | apply Kd.R_drew)); exact Kd.R_mono HO304.out (fun _ hk => hk.2)) : p := h
theorem z56_ {p : Prop} (h : p := by (with_reducible repeat (first | apply Kd.R_alloc | apply Kd.R_drewN | apply Kd.R_drew)); exact Kd.R_mono HO299.out (fun _ hk => hk.2)) : p := h
theorem z55_ {p : Prop} (h : p := by (with_reducible repeat (first | apply Kd.R_alloc | apply Kd.R_drewN | apply Kd.R_drew)); exact Kd.R_mono HO292.out (fun _ hk => hk.2)) : p := h
theorem z54_ {p : Prop} (h : p := by (with_reducible repeat (first | apply Kd.R_alloc | apply Kd.R_drewN | apply Kd.R_drew)); exact Kd.R_mono HO289.out (fun _ hk => hk.2)) : p := h
theorem z53_ {p : Prop} (h : p := by (with_reducible repeat (first | apply Kd.R_alloc | apply Kd.R_drewN | apply Kd.R_drew)); exact Kd.R_mono HO284.out (fun _ hk => hk.2)) : p := h
theorem z52_ {p : Prop} (h : p := by rw [hg]; exact Nat.ne_of_gt (blk_lt (g := gb320) (o := .cells #[.slice Ao49 t309.length co49, .int .i64 t312, .bool t313, .slice Ao54 t314.length co54, .slice Ao55 t317.length co55] 36 (0, 0)) (bk_ BK320.out))) : p := h
theorem z51_ {p : Prop} (h : p := by rw [hg]; exact Nat.ne_of_lt (blk_lt (g := gb320) (o := .cells #[.slice Ao49 t309.length co49, .int .i64 t312, .bool t313, .slice Ao54 t314.length co54, .slice Ao55 t317.length co55] 36 (0, 0)) (bk_ BK320.out))) : p := h
theorem z50_ {p : Prop} (h : p := by (with_reducible repeat (first | apply Kd.R_alloc | apply Kd.R_drewN | apply Kd.R_drew)); exact Kd.R_mono HO385.out (fun _ hk => ⟨hk.2, ⟨hk.1.1.1.2, ⟨hk.1.1.2, hk.1.2⟩⟩⟩)) : p := h
theorem z49_ {p : Prop} (h : p := by (with_reducible repeat (first | apply Kd.R_alloc | apply Kd.R_drewN | apply Kd.R_drew)); exact Kd.R_mono HO382.out (fun _ hk => ⟨hk.2, ⟨hk.1.1.1.2, ⟨hk.1.1.2, hk.1.2⟩⟩⟩)) : p := h
theorem z48_ {p : Prop} (h : p := by (with_reducible repeat (first | apply Kd.R_alloc | apply Kd.R_drewN | apply Kd.R_drew)); exact Kd.R_mono HO377.out (fun _ hk => ⟨hk.2, ⟨hk.1.1.1.2, ⟨hk.1.1.2, hk.1.2⟩⟩⟩)) : p := h
theorem z47_ {p : Prop} (h : p := by (with_reducible repeat (first | apply Kd.R_alloc | apply Kd.R_drewN | apply Kd.R_drew)); exact Kd.R_mono HO370.out (fun _ hk => ⟨hk.2, ⟨hk.1.1.1.2, ⟨hk.1.1.2, hk.1.2⟩⟩⟩)) : p := h
theorem z46_ {p : Prop} (h : p := by (with_reducible repeat (first | apply Kd.R_alloc | apply Kd.R_drewN | apply Kd.R_drew)); exact Kd.R_mono HO367.out (fun _ hk => ⟨hk.2, ⟨hk.1.1.1.2, ⟨hk.1.1.2, hk.1.2⟩⟩⟩)) : p := h
theorem z45_ {p : Prop} (h : p := by (with_reducible repeat (first | apply Kd.R_alloc | apply Kd.R_drewN | apply Kd.R_drew)); exact Kd.R_mono HO362.out (fun _ hk => ⟨hk.2, ⟨hk.1.1.1.2, ⟨hk.1.1.2, hk.1.2⟩⟩⟩)) : p := h
theorem z44_ {p : Prop} (h : p := by (with_reducible repeat (first | apply Kd.R_alloc | apply Kd.R_drewN | apply Kd.R_drew)); exact Kd.R_mono HO_337004.out (fun _ hk => ⟨hk.1.2, ⟨hk.2, ⟨hk.1.1.1, hk.1.1.2⟩⟩⟩)) : p := h
theorem z43_ {p : Prop} (h : p := by (with_reducible repeat (first | apply Kd.R_alloc | apply Kd.R_drewN | apply Kd.R_drew)); exact Kd.R_mono HO_337003.out (fun _ hk => ⟨hk.1.2, ⟨hk.2, ⟨hk.1.1.1, hk.1.1.2⟩⟩⟩)) : p := h
theorem z42_ {p : Prop} (h : p := by (with_reducible repeat (first | apply Kd.R_alloc | apply Kd.R_drewN | apply Kd.R_drew)); exact Kd.R_mono HO_337000.out (fun _ hk => ⟨hk.1.2, ⟨hk.2, ⟨hk.1.1.1, hk.1.1.2⟩⟩⟩)) : p := h
theorem z41_ {p : Prop} (h : p := by (with_reducible repeat (first | apply Kd.R_alloc | apply Kd.R_drewN | apply Kd.R_drew)); exact Kd.R_mono HO_321004.out (fun _ hk => ⟨hk.1.2, ⟨hk.2, ⟨hk.1.1.1, hk.1.1.2⟩⟩⟩)) : p := h
theorem z40_ {p : Prop} (h : p := by (with_reducible repeat (first | apply Kd.R_alloc | apply Kd.R_drewN | apply Kd.R_drew)); exact Kd.R_mono HO_321003.out (fun _ hk => ⟨hk.1.2, ⟨hk.2, ⟨hk.1.1.1, hk.1.1.2⟩⟩⟩)) : p := h
theorem z39_ {p : Prop} (h : p := by (with_reducible repeat (first | apply Kd.R_alloc | apply Kd.R_drewN | apply Kd.R_drew)); exact Kd.R_mono HO_321000.out (fun _ hk => ⟨hk.1.2, ⟨hk.2, ⟨hk.1.1.1, hk.1.1.2⟩⟩⟩)) : p := h
theorem z38_ {p : Prop} (h : p := by (with_reducible repeat (first | apply Kd.R_alloc | apply Kd.R_drewN | apply Kd.R_drew)); exact Kd.R_mono HO_309004.out (fun _ hk => ⟨hk.1.2, ⟨hk.2, ⟨hk.1.1.1, hk.1.1.2⟩⟩⟩)) : p := h
theorem z37_ {p : Prop} (h : p := by (with_reducible repeat (first | apply Kd.R_alloc | apply Kd.R_drewN | apply Kd.R_drew)); exact Kd.R_mono HO_309003.out (fun _ hk => ⟨hk.1.2, ⟨hk.2, ⟨hk.1.1.1, hk.1.1.2⟩⟩⟩)) : p := h
theorem z36_ {p : Prop} (h : p := by (with_reducible repeat (first | apply Kd.R_alloc | apply Kd.R_drewN | apply Kd.R_drew)); exact Kd.R_mono HO_309000.out (fun _ hk => ⟨hk.1.2, ⟨hk.2, ⟨hk.1.1.1, hk.1.1.2⟩⟩⟩)) : p := h
theorem z35_ {p : Prop} (h : p := by (with_reducible repeat (first | apply Kd.R_alloc | apply Kd.R_drewN | apply Kd.R_drew)); exact (Kd.R_mono (Kd.R_far (p := ⟨gb336, 4, none⟩) (Kd.R_far (p := ⟨gb336, 3, none⟩) (Kd.R_far (p := ⟨gb336, 2, none⟩) (Kd.R_far (p := ⟨gb336, 1, none⟩) (Kd.R_far (p := ⟨gb336, 0, none⟩) (Kd.R_types HO307.out BK336.out (by decide)) (fun _ hk => hk.2) (.slice Ao62 t325.length co62)) (fun _ hk => hk.2) (.int .i64 t328)) (fun _ hk => hk.2) (.bool t329)) (fun _ hk => hk.2) (.slice Ao66 t330.length co66)) (fun _ hk => hk.2) (.slice Ao68 t333.length co68)) (fun _ h_ => h_.1))) : p := h
theorem z34_ {p : Prop} (h : p := by (with_reducible repeat (first | apply Kd.R_alloc | apply Kd.R_drewN | apply Kd.R_drew)); exact (Kd.R_mono (Kd.R_far (p := ⟨gb336, 4, none⟩) (Kd.R_far (p := ⟨gb336, 3, none⟩) (Kd.R_far (p := ⟨gb336, 2, none⟩) (Kd.R_far (p := ⟨gb336, 1, none⟩) (Kd.R_far (p := ⟨gb336, 0, none⟩) (Kd.R_types HO304.out BK336.out (by decide)) (fun _ hk => hk.2) (.slice Ao62 t325.length co62)) (fun _ hk => hk.2) (.int .i64 t328)) (fun _ hk => hk.2) (.bool t329)) (fun _ hk => hk.2) (.slice Ao66 t330.length co66)) (fun _ hk => hk.2) (.slice Ao68 t333.length co68)) (fun _ h_ => h_.1))) : p := h
theorem z33_ {p : Prop} (h : p := by (with_reducible repeat (first | apply Kd.R_alloc | apply Kd.R_drewN | apply Kd.R_drew)); exact (Kd.R_mono (Kd.R_far (p := ⟨gb336, 4, none⟩) (Kd.R_far (p := ⟨gb336, 3, none⟩) (Kd.R_far (p := ⟨gb336, 2, none⟩) (Kd.R_far (p := ⟨gb336, 1, none⟩) (Kd.R_far (p := ⟨gb336, 0, none⟩) (Kd.R_types HO299.out BK336.out (by decide)) (fun _ hk => hk.2) (.slice Ao62 t325.length co62)) (fun _ hk => hk.2) (.int .i64 t328)) (fun _ hk => hk.2) (.bool t329)) (fun _ hk => hk.2) (.slice Ao66 t330.length co66)) (fun _ hk => hk.2) (.slice Ao68 t333.length co68)) (fun _ h_ => h_.1))) : p := h
theorem z32_ {p : Prop} (h : p := by (with_reducible repeat (first | apply Kd.R_alloc | apply Kd.R_drewN | apply Kd.R_drew)); exact (Kd.R_mono (Kd.R_far (p := ⟨gb336, 4, none⟩) (Kd.R_far (p := ⟨gb336, 3, none⟩) (Kd.R_far (p := ⟨gb336, 2, none⟩) (Kd.R_far (p := ⟨gb336, 1, none⟩) (Kd.R_far (p := ⟨gb336, 0, none⟩) (Kd.R_types HO335.out BK336.out (by decide)) (fun _ hk => hk.2) (.slice Ao62 t325.length co62)) (fun _ hk => hk.2) (.int .i64 t328)) (fun _ hk => hk.2) (.bool t329)) (fun _ hk => hk.2) (.slice Ao66 t330.length co66)) (fun _ hk => hk.2) (.slice Ao68 t333.length co68)) (fun _ h_ => h_.1))) : p := h
theorem z31_ {p : Prop} (h : p := by (with_reducible repeat (first | apply Kd.R_alloc | apply Kd.R_drewN | apply Kd.R_drew)); exact (Kd.R_mono (Kd.R_far (p := ⟨gb336, 4, none⟩) (Kd.R_far (p := ⟨gb336, 3, none⟩) (Kd.R_far (p := ⟨gb336, 2, none⟩) (Kd.R_far (p := ⟨gb336, 1, none⟩) (Kd.R_far (p := ⟨gb336, 0, none⟩) (Kd.R_types HO332.out BK336.out (by decide)) (fun _ hk => hk.2) (.slice Ao62 t325.length co62)) (fun _ hk => hk.2) (.int .i64 t328)) (fun _ hk => hk.2) (.bool t329)) (fun _ hk => hk.2) (.slice Ao66 t330.length co66)) (fun _ hk => hk.2) (.slice Ao68 t333.length co68)) (fun _ h_ => h_.1))) : p := h
theorem z30_ {p : Prop} (h : p := by (with_reducible repeat (first | apply Kd.R_alloc | apply Kd.R_drewN | apply Kd.R_drew)); exact (Kd.R_mono (Kd.R_far (p := ⟨gb336, 4, none⟩) (Kd.R_far (p := ⟨gb336, 3, none⟩) (Kd.R_far (p := ⟨gb336, 2, none⟩) (Kd.R_far (p := ⟨gb336, 1, none⟩) (Kd.R_far (p := ⟨gb336, 0, none⟩) (Kd.R_types HO327.out BK336.out (by decide)) (fun _ hk => hk.2) (.slice Ao62 t325.length co62)) (fun _ hk => hk.2) (.int .i64 t328)) (fun _ hk => hk.2) (.bool t329)) (fun _ hk => hk.2) (.slice Ao66 t330.length co66)) (fun _ hk => hk.2) (.slice Ao68 t333.length co68)) (fun _ h_ => h_.1))) : p := h
theorem z29_ {p : Prop} (h : p := by (with_reducible repeat (first | apply Kd.R_alloc | apply Kd.R_drewN | apply Kd.R_drew)); exact (Kd.R_mono (Kd.R_far (p := ⟨gb308, 4, none⟩) (Kd.R_far (p := ⟨gb308, 3, none⟩) (Kd.R_far (p := ⟨gb308, 2, none⟩) (Kd.R_far (p := ⟨gb308, 1, none⟩) (Kd.R_far (p := ⟨gb308, 0, none⟩) (Kd.R_types HO307.out BK308.out (by decide)) (fun _ hk => hk.2) (.slice Ao37 t297.length co37)) (fun _ hk => hk.2) (.int .i64 t300)) (fun _ hk => hk.2) (.bool t301)) (fun _ hk => hk.2) (.slice Ao41 t302.length co41)) (fun _ hk => hk.2) (.slice Ao43 t305.length co43)) (fun _ h_ => h_.1))) : p := h
theorem z28_ {p : Prop} (h : p := by (with_reducible repeat (first | apply Kd.R_alloc | apply Kd.R_drewN | apply Kd.R_drew)); exact (Kd.R_mono (Kd.R_far (p := ⟨gb308, 4, none⟩) (Kd.R_far (p := ⟨gb308, 3, none⟩) (Kd.R_far (p := ⟨gb308, 2, none⟩) (Kd.R_far (p := ⟨gb308, 1, none⟩) (Kd.R_far (p := ⟨gb308, 0, none⟩) (Kd.R_types HO304.out BK308.out (by decide)) (fun _ hk => hk.2) (.slice Ao37 t297.length co37)) (fun _ hk => hk.2) (.int .i64 t300)) (fun _ hk => hk.2) (.bool t301)) (fun _ hk => hk.2) (.slice Ao41 t302.length co41)) (fun _ hk => hk.2) (.slice Ao43 t305.length co43)) (fun _ h_ => h_.1))) : p := h
theorem z27_ {p : Prop} (h : p := by (with_reducible repeat (first | apply Kd.R_alloc | apply Kd.R_drewN | apply Kd.R_drew)); exact (Kd.R_mono (Kd.R_far (p := ⟨gb308, 4, none⟩) (Kd.R_far (p := ⟨gb308, 3, none⟩) (Kd.R_far (p := ⟨gb308, 2, none⟩) (Kd.R_far (p := ⟨gb308, 1, none⟩) (Kd.R_far (p := ⟨gb308, 0, none⟩) (Kd.R_types HO299.out BK308.out (by decide)) (fun _ hk => hk.2) (.slice Ao37 t297.length co37)) (fun _ hk => hk.2) (.int .i64 t300)) (fun _ hk => hk.2) (.bool t301)) (fun _ hk => hk.2) (.slice Ao41 t302.length co41)) (fun _ hk => hk.2) (.slice Ao43 t305.length co43)) (fun _ h_ => h_.1))) : p := h
theorem z26_ {p : Prop} (h : p := by (with_reducible repeat (first | apply Kd.R_alloc | apply Kd.R_drewN | apply Kd.R_drew)); exact (Kd.R_mono (Kd.R_far (p := ⟨gb308, 4, none⟩) (Kd.R_far (p := ⟨gb308, 3, none⟩) (Kd.R_far (p := ⟨gb308, 2, none⟩) (Kd.R_far (p := ⟨gb308, 1, none⟩) (Kd.R_far (p := ⟨gb308, 0, none⟩) (Kd.R_types HO292.out BK308.out (by decide)) (fun _ hk => hk.2) (.slice Ao37 t297.length co37)) (fun _ hk => hk.2) (.int .i64 t300)) (fun _ hk => hk.2) (.bool t301)) (fun _ hk => hk.2) (.slice Ao41 t302.length co41)) (fun _ hk => hk.2) (.slice Ao43 t305.length co43)) (fun _ h_ => h_.1))) : p := h
theorem z25_ {p : Prop} (h : p := by (with_reducible repeat (first | apply Kd.R_alloc | apply Kd.R_drewN | apply Kd.R_drew)); exact (Kd.R_mono (Kd.R_far (p := ⟨gb308, 4, none⟩) (Kd.R_far (p := ⟨gb308, 3, none⟩) (Kd.R_far (p := ⟨gb308, 2, none⟩) (Kd.R_far (p := ⟨gb308, 1, none⟩) (Kd.R_far (p := ⟨gb308, 0, none⟩) (Kd.R_types HO289.out BK308.out (by decide)) (fun _ hk => hk.2) (.slice Ao37 t297.length co37)) (fun _ hk => hk.2) (.int .i64 t300)) (fun _ hk => hk.2) (.bool t301)) (fun _ hk => hk.2) (.slice Ao41 t302.length co41)) (fun _ hk => hk.2) (.slice Ao43 t305.length co43)) (fun _ h_ => h_.1))) : p := h
theorem z24_ {p : Prop} (h : p := by (with_reducible repeat (first | apply Kd.R_alloc | apply Kd.R_drewN | apply Kd.R_drew)); exact (Kd.R_mono (Kd.R_far (p := ⟨gb308, 4, none⟩) (Kd.R_far (p := ⟨gb308, 3, none⟩) (Kd.R_far (p := ⟨gb308, 2, none⟩) (Kd.R_far (p := ⟨gb308, 1, none⟩) (Kd.R_far (p := ⟨gb308, 0, none⟩) (Kd.R_types HO284.out BK308.out (by decide)) (fun _ hk => hk.2) (.slice Ao37 t297.length co37)) (fun _ hk => hk.2) (.int .i64 t300)) (fun _ hk => hk.2) (.bool t301)) (fun _ hk => hk.2) (.slice Ao41 t302.length co41)) (fun _ hk => hk.2) (.slice Ao43 t305.length co43)) (fun _ h_ => h_.1))) : p := h
theorem z23_ {p : Prop} (h : p := by (with_reducible repeat (first | apply Kd.R_alloc | apply Kd.R_drewN | apply Kd.R_drew)); exact (Kd.R_mono (Kd.R_far (p := ⟨gb386, 4, none⟩) (Kd.R_far (p := ⟨gb386, 3, none⟩) (Kd.R_far (p := ⟨gb386, 2, none⟩) (Kd.R_far (p := ⟨gb386, 1, none⟩) (Kd.R_far (p := ⟨gb386, 0, none⟩) (Kd.R_types HO385.out BK386.out (by decide)) (fun _ hk => hk.2) (.slice Ao128 t375.length co128)) (fun _ hk => hk.2) (.int .i64 t378)) (fun _ hk => hk.2) (.bool t379)) (fun _ hk => hk.2) (.slice Ao132 t380.length co132)) (fun _ hk => hk.2) (.slice Ao134 t383.length co134)) (fun _ h_ => h_.1))) : p := h
theorem z22_ {p : Prop} (h : p := by (with_reducible repeat (first | apply Kd.R_alloc | apply Kd.R_drewN | apply Kd.R_drew)); exact (Kd.R_mono (Kd.R_far (p := ⟨gb386, 4, none⟩) (Kd.R_far (p := ⟨gb386, 3, none⟩) (Kd.R_far (p := ⟨gb386, 2, none⟩) (Kd.R_far (p := ⟨gb386, 1, none⟩) (Kd.R_far (p := ⟨gb386, 0, none⟩) (Kd.R_types HO382.out BK386.out (by decide)) (fun _ hk => hk.2) (.slice Ao128 t375.length co128)) (fun _ hk => hk.2) (.int .i64 t378)) (fun _ hk => hk.2) (.bool t379)) (fun _ hk => hk.2) (.slice Ao132 t380.length co132)) (fun _ hk => hk.2) (.slice Ao134 t383.length co134)) (fun _ h_ => h_.1))) : p := h
theorem z21_ {p : Prop} (h : p := by (with_reducible repeat (first | apply Kd.R_alloc | apply Kd.R_drewN | apply Kd.R_drew)); exact (Kd.R_mono (Kd.R_far (p := ⟨gb386, 4, none⟩) (Kd.R_far (p := ⟨gb386, 3, none⟩) (Kd.R_far (p := ⟨gb386, 2, none⟩) (Kd.R_far (p := ⟨gb386, 1, none⟩) (Kd.R_far (p := ⟨gb386, 0, none⟩) (Kd.R_types HO377.out BK386.out (by decide)) (fun _ hk => hk.2) (.slice Ao128 t375.length co128)) (fun _ hk => hk.2) (.int .i64 t378)) (fun _ hk => hk.2) (.bool t379)) (fun _ hk => hk.2) (.slice Ao132 t380.length co132)) (fun _ hk => hk.2) (.slice Ao134 t383.length co134)) (fun _ h_ => h_.1))) : p := h
theorem z20_ {p : Prop} (h : p := by (with_reducible repeat (first | apply Kd.R_alloc | apply Kd.R_drewN | apply Kd.R_drew)); exact (Kd.R_mono (Kd.R_far (p := ⟨gb386, 4, none⟩) (Kd.R_far (p := ⟨gb386, 3, none⟩) (Kd.R_far (p := ⟨gb386, 2, none⟩) (Kd.R_far (p := ⟨gb386, 1, none⟩) (Kd.R_far (p := ⟨gb386, 0, none⟩) (Kd.R_types HO_309004.out BK386.out (by decide)) (fun _ hk => hk.2) (.slice Ao128 t375.length co128)) (fun _ hk => hk.2) (.int .i64 t378)) (fun _ hk => hk.2) (.bool t379)) (fun _ hk => hk.2) (.slice Ao132 t380.length co132)) (fun _ hk => hk.2) (.slice Ao134 t383.length co134)) (fun _ h_ => h_.1))) : p := h
theorem z19_ {p : Prop} (h : p := by (with_reducible repeat (first | apply Kd.R_alloc | apply Kd.R_drewN | apply Kd.R_drew)); exact (Kd.R_mono (Kd.R_far (p := ⟨gb386, 4, none⟩) (Kd.R_far (p := ⟨gb386, 3, none⟩) (Kd.R_far (p := ⟨gb386, 2, none⟩) (Kd.R_far (p := ⟨gb386, 1, none⟩) (Kd.R_far (p := ⟨gb386, 0, none⟩) (Kd.R_types HO_309003.out BK386.out (by decide)) (fun _ hk => hk.2) (.slice Ao128 t375.length co128)) (fun _ hk => hk.2) (.int .i64 t378)) (fun _ hk => hk.2) (.bool t379)) (fun _ hk => hk.2) (.slice Ao132 t380.length co132)) (fun _ hk => hk.2) (.slice Ao134 t383.length co134)) (fun _ h_ => h_.1))) : p := h
theorem z18_ {p : Prop} (h : p := by (with_reducible repeat (first | apply Kd.R_alloc | apply Kd.R_drewN | apply Kd.R_drew)); exact (Kd.R_mono (Kd.R_far (p := ⟨gb386, 4, none⟩) (Kd.R_far (p := ⟨gb386, 3, none⟩) (Kd.R_far (p := ⟨gb386, 2, none⟩) (Kd.R_far (p := ⟨gb386, 1, none⟩) (Kd.R_far (p := ⟨gb386, 0, none⟩) (Kd.R_types HO_309000.out BK386.out (by decide)) (fun _ hk => hk.2) (.slice Ao128 t375.length co128)) (fun _ hk => hk.2) (.int .i64 t378)) (fun _ hk => hk.2) (.bool t379)) (fun _ hk => hk.2) (.slice Ao132 t380.length co132)) (fun _ hk => hk.2) (.slice Ao134 t383.length co134)) (fun _ h_ => h_.1))) : p := h
theorem z17_ {p : Prop} (h : p := by rw [hg]; exact Nat.ne_of_gt (blk_lt (g := gb336) (o := .cells #[.slice Ao62 t325.length co62, .int .i64 t328, .bool t329, .slice Ao66 t330.length co66, .slice Ao68 t333.length co68] 36 (0, 0)) (bk_ BK336.out))) : p := h
theorem z16_ {p : Prop} (h : p := by rw [hg]; exact Nat.ne_of_lt (blk_lt (g := gb336) (o := .cells #[.slice Ao62 t325.length co62, .int .i64 t328, .bool t329, .slice Ao66 t330.length co66, .slice Ao68 t333.length co68] 36 (0, 0)) (bk_ BK336.out))) : p := h
theorem z15_ {p : Prop} (h : p := by rw [hg]; exact Nat.ne_of_gt (blk_lt (g := gb320) (o := .cells #[.slice Ao49 t351.length co49, .int .i64 t312, .bool t313, .slice Ao54 t352.length co54, .slice Ao55 t353.length co55] 36 (0, 0)) (bk_ BK320.out))) : p := h
theorem z14_ {p : Prop} (h : p := by rw [hg]; exact Nat.ne_of_lt (blk_lt (g := gb320) (o := .cells #[.slice Ao49 t351.length co49, .int .i64 t312, .bool t313, .slice Ao54 t352.length co54, .slice Ao55 t353.length co55] 36 (0, 0)) (bk_ BK320.out))) : p := h
theorem z13_ {p : Prop} (h : p := by repeat (first | (with_reducible first | exact HB.out | apply below_alloc | apply pw_below_drewN | apply below_drew1) | exact HB.out)) : p := h
theorem z12_ {p : Prop} (h : p := by repeat (first | (with_reducible first | exact HB.out | apply below_alloc | apply pw_below_drewN | apply below_drew1 | refine below_set ?_ GE279.out) | exact HB.out)) : p := h
theorem z11_ {p : Prop} (h : p := by rw [hg]; exact Nat.ne_of_gt (blk_lt (g := gb308) (o := .cells #[.slice Ao37 t297.length co37, .int .i64 t300, .bool t301, .slice Ao41 t302.length co41, .slice Ao43 t305.length co43] 36 (0, 0)) (bk_ BK308.out))) : p := h
theorem z10_ {p : Prop} (h : p := by rw [hg]; exact Nat.ne_of_lt (blk_lt (g := gb308) (o := .cells #[.slice Ao37 t297.length co37, .int .i64 t300, .bool t301, .slice Ao41 t302.length co41, .slice Ao43 t305.length co43] 36 (0, 0)) (bk_ BK308.out))) : p := h
theorem z9_ {p : Prop} (h : p := by rw [hg]; exact Nat.ne_of_gt (blk_lt (g := gb280) (o := .cells #[.int .i64 a1_0, .int .i64 a1_1, .int .i64 a1_2, .int .i64 a1_3] 65 (0, 0)) (bk_ BK280.out))) : p := h
theorem z8_ {p : Prop} (h : p := by rw [hg]; exact Nat.ne_of_lt (blk_lt (g := gb280) (o := .cells #[.int .i64 a1_0, .int .i64 a1_1, .int .i64 a1_2, .int .i64 a1_3] 65 (0, 0)) (bk_ BK280.out))) : p := h
theorem z7_ {p : Prop} (h : p := by rw [hg]; exact Nat.ne_of_gt (blk_lt (g := gb279) (o := .cells #[.slice A0_0 l0_0.length c0_0, .int .i64 a0_1, .bool a0_2, .slice A0_3 l0_3.length c0_3, .slice A0_4 l0_4.length c0_4] 59 (0, 0)) (bk_ BK279.out))) : p := h
theorem z6_ {p : Prop} (h : p := by rw [hg]; exact Nat.ne_of_lt (blk_lt (g := gb279) (o := .cells #[.slice A0_0 l0_0.length c0_0, .int .i64 a0_1, .bool a0_2, .slice A0_3 l0_3.length c0_3, .slice A0_4 l0_4.length c0_4] 59 (0, 0)) (bk_ BK279.out))) : p := h
theorem z5_ {p : Prop} (h : p := by repeat (first | (with_reducible first | exact HB.out | apply below_alloc | apply pw_below_drewN | apply below_drew1 | refine below_set ?_ GE279.out | refine below_set ?_ GE280.out | refine below_set ?_ GE308.out | refine below_set ?_ GE320.out) | exact HB.out)) : p := h
theorem z4_ {p : Prop} (h : p := by (try simp only [List.map_toArray, List.map_cons, List.map_nil]); first | done | rfl | (simp only [List.length_drop, List.length_take]; rfl)) : p := h
theorem z3_ {p : Prop} (h : p := by repeat (first | (with_reducible first | exact HB.out | apply below_alloc | apply pw_below_drewN | apply below_drew1 | refine below_set ?_ GE279.out | refine below_set ?_ GE280.out) | exact HB.out)) : p := h
theorem z2_ {p : Prop} (h : p := by repeat (first | (with_reducible first | exact HB.out | apply below_alloc | apply pw_below_drewN | apply below_drew1 | refine below_set ?_ GE279.out | refine below_set ?_ GE280.out | refine below_set ?_ GE308.out) | exact HB.out)) : p := h
theorem z1_ {p : Prop} (h : p := by repeat (first | (with_reducible first | exact HB.out | apply below_alloc | apply pw_below_drewN | apply below_drew1 | refine below_set ?_ GE279.out | refine below_set ?_ GE280.out | refine below_set ?_ GE308.out | refine below_set ?_ GE320.out | refine below_set ?_ GE336.out | refine below_set ?_ GE386.out) | exact HB.out)) : p := h
theorem z0_ {p : Prop} (h : p := by repeat (first | (with_reducible first | exact HB.out | apply below_alloc | apply pw_below_drewN | apply below_drew1 | refine below_set ?_ GE279.out | refine below_set ?_ GE280.out | refine below_set ?_ GE308.out | refine below_set ?_ GE320.out | refine below_set ?_ GE336.out) | exact HB.out)) : p := h
theorem cb_ {p q : Prop} (hx : q) (f : q → p := by intro HX_; repeat (first | exact HX_ | (with_reducible refine Kd.C_alloc ?_ _) | (with_reducible refine Kd.C_drewN ?_ _) | (with_reducible refine Kd.C_drew ?_))) : p := f hx
theorem bk_ {p q : Prop} (hx : q) (f : q → p := by intro HX_; (with_reducible repeat (first | refine blk_drewN ?_ _ | refine blk_drew ?_ | refine blk_alloc ?_ _)); exact HX_) : p := f hx
theorem rb_ {p q : Prop} (hx : q) (f : q → p := by intro HX_; (with_reducible repeat (first | apply Kd.R_alloc | apply Kd.R_drewN | apply Kd.R_drew)); exact HX_) : p := f hx

set_option maxRecDepth 1000000 in
theorem half_7 {p : Prop} (h : p := by
 replace c98 := Bool.eq_false_iff.mpr c98
 subst c98
 have H1 : ((laws_markThread.f kj21 t325 t328 t329 t330 t333 1).bind fun bt355 => ((laws_heldThread.f kj21 bt355.2.1 t328 t329 bt355.2.2.1 bt355.2.2.2 1).bind fun t359 => (if t359 < 0 then (none) else (if t359 = bt355.1 then ((laws_toThread.f kj21 l0_0 a0_1 a0_2 l0_3 l0_4).bind fun bt360 => ((laws_toHelp.f a1_0 a1_1 a1_2 a1_3).bind fun bt371 => ((impl_Swap.f bt360.1 bt360.2.1 bt360.2.2.1 bt360.2.2.2.1 bt360.2.2.2.2 bt371.1 bt371.2.1 bt371.2.2.1 bt371.2.2.2).bind fun bt375 => ((laws_eqThread.f kj21 bt375.1 bt375.2.1 bt375.2.2.1 bt375.2.2.2.1 bt375.2.2.2.2 t297 t300 t301 t302 t305).bind fun t387 => (if t387 = true then ((laws_heldThread.f kj21 bt355.2.1 t328 t329 bt355.2.2.1 bt355.2.2.2 1).bind fun t388 => (if t388 < 0 then (none) else (if t388 = bt355.1 then (some true) else (none)))) else (none)))))) else (none))))) = some r := by rw [if_neg (show ¬ (false = true) by decide)] at H; exact H
 clear H
 have H := H1
 clear H1
 replace H := Option.bind_eq_some_iff.mp H
 obtain ⟨⟨t355, t356, t357, t358⟩, A990, H⟩ := H
 replace H : ((laws_heldThread.f kj21 t356 t328 t329 t357 t358 1).bind fun t359 => (if t359 < 0 then (none) else (if t359 = t355 then ((laws_toThread.f kj21 l0_0 a0_1 a0_2 l0_3 l0_4).bind fun bt360 => ((laws_toHelp.f a1_0 a1_1 a1_2 a1_3).bind fun bt371 => ((impl_Swap.f bt360.1 bt360.2.1 bt360.2.2.1 bt360.2.2.2.1 bt360.2.2.2.2 bt371.1 bt371.2.1 bt371.2.2.1 bt371.2.2.2).bind fun bt375 => ((laws_eqThread.f kj21 bt375.1 bt375.2.1 bt375.2.2.1 bt375.2.2.2.1 bt375.2.2.2.2 t297 t300 t301 t302 t305).bind fun t387 => (if t387 = true then ((laws_heldThread.f kj21 t356 t328 t329 t357 t358 1).bind fun t388 => (if t388 < 0 then (none) else (if t388 = t355 then (some true) else (none)))) else (none)))))) else (none)))) = some r := H
 have A99 := Aside0.mk A990
 clear A990
 replace H := Option.bind_eq_some_iff.mp H
 obtain ⟨t359, A1000, H⟩ := H
 replace H : (if t359 < 0 then (none) else (if t359 = t355 then ((laws_toThread.f kj21 l0_0 a0_1 a0_2 l0_3 l0_4).bind fun bt360 => ((laws_toHelp.f a1_0 a1_1 a1_2 a1_3).bind fun bt371 => ((impl_Swap.f bt360.1 bt360.2.1 bt360.2.2.1 bt360.2.2.2.1 bt360.2.2.2.2 bt371.1 bt371.2.1 bt371.2.2.1 bt371.2.2.2).bind fun bt375 => ((laws_eqThread.f kj21 bt375.1 bt375.2.1 bt375.2.2.1 bt375.2.2.2.1 bt375.2.2.2.2 t297 t300 t301 t302 t305).bind fun t387 => (if t387 = true then ((laws_heldThread.f kj21 t356 t328 t329 t357 t358 1).bind fun t388 => (if t388 < 0 then (none) else (if t388 = t355 then (some true) else (none)))) else (none)))))) else (none))) = some r := H
 have A100 := Aside0.mk A1000
 clear A1000
 by_cases c101 : t359 < 0
 ·
  rw [if_pos c101] at H
  exact absurd H (by simp)
 ·
  rw [if_neg c101] at H
  have c101b0 : decide (t359 < 0) = false := decide_eq_false c101
  clear c101
  by_cases c102 : t359 = t355
  ·
   rw [if_pos c102] at H
   have c102b0 : (t359 == t355) = true := beq_iff_eq.mpr c102
   have c102b1 : (t359 != t355) = false := bne_eq_false_iff_eq.mpr c102
   clear c102
   replace H := Option.bind_eq_some_iff.mp H
   obtain ⟨⟨t360, t363, t364, t365, t368⟩, A1030, H⟩ := H
   replace H : ((laws_toHelp.f a1_0 a1_1 a1_2 a1_3).bind fun bt371 => ((impl_Swap.f t360 t363 t364 t365 t368 bt371.1 bt371.2.1 bt371.2.2.1 bt371.2.2.2).bind fun bt375 => ((laws_eqThread.f kj21 bt375.1 bt375.2.1 bt375.2.2.1 bt375.2.2.2.1 bt375.2.2.2.2 t297 t300 t301 t302 t305).bind fun t387 => (if t387 = true then ((laws_heldThread.f kj21 t356 t328 t329 t357 t358 1).bind fun t388 => (if t388 < 0 then (none) else (if t388 = t355 then (some true) else (none)))) else (none))))) = some r := H
   have A103 := Aside0.mk A1030
   clear A1030
   replace H := Option.bind_eq_some_iff.mp H
   obtain ⟨⟨t371, t372, t373, t374⟩, A1040, H⟩ := H
   replace H : ((impl_Swap.f t360 t363 t364 t365 t368 t371 t372 t373 t374).bind fun bt375 => ((laws_eqThread.f kj21 bt375.1 bt375.2.1 bt375.2.2.1 bt375.2.2.2.1 bt375.2.2.2.2 t297 t300 t301 t302 t305).bind fun t387 => (if t387 = true then ((laws_heldThread.f kj21 t356 t328 t329 t357 t358 1).bind fun t388 => (if t388 < 0 then (none) else (if t388 = t355 then (some true) else (none)))) else (none)))) = some r := H
   have A104 := Aside0.mk A1040
   clear A1040
   replace H := Option.bind_eq_some_iff.mp H
   obtain ⟨⟨t375, t378, t379, t380, t383⟩, A1050, H⟩ := H
   replace H : ((laws_eqThread.f kj21 t375 t378 t379 t380 t383 t297 t300 t301 t302 t305).bind fun t387 => (if t387 = true then ((laws_heldThread.f kj21 t356 t328 t329 t357 t358 1).bind fun t388 => (if t388 < 0 then (none) else (if t388 = t355 then (some true) else (none)))) else (none))) = some r := H
   have A105 := Aside0.mk A1050
   clear A1050
   replace H := Option.bind_eq_some_iff.mp H
   obtain ⟨t387, A1060, H⟩ := H
   replace H : (if t387 = true then ((laws_heldThread.f kj21 t356 t328 t329 t357 t358 1).bind fun t388 => (if t388 < 0 then (none) else (if t388 = t355 then (some true) else (none)))) else (none)) = some r := H
   have A106 := Aside0.mk A1060
   clear A1060
   by_cases c107 : t387 = true
   ·
    subst c107
    have H1 : ((laws_heldThread.f kj21 t356 t328 t329 t357 t358 1).bind fun t388 => (if t388 < 0 then (none) else (if t388 = t355 then (some true) else (none)))) = some r := by rw [if_pos rfl] at H; exact H
    clear H
    have H := H1
    clear H1
    replace H := Option.bind_eq_some_iff.mp H
    obtain ⟨t388, A1080, H⟩ := H
    replace H : (if t388 < 0 then (none) else (if t388 = t355 then (some true) else (none))) = some r := H
    have A108 := Aside0.mk A1080
    clear A1080
    by_cases c109 : t388 < 0
    ·
     rw [if_pos c109] at H
     exact absurd H (by simp)
    ·
     rw [if_neg c109] at H
     have c109b0 : decide (t388 < 0) = false := decide_eq_false c109
     clear c109
     by_cases c110 : t388 = t355
     ·
      rw [if_pos c110] at H
      have c110b0 : (t388 == t355) = true := beq_iff_eq.mpr c110
      have c110b1 : (t388 != t355) = false := bne_eq_false_iff_eq.mpr c110
      clear c110
      obtain rfl := Option.some.inj H
      have hnb111 := NB336_279.out
      have hnc111 := NB279_336.out
      have hnb112 := NB336_280.out
      have hnc112 := NB280_336.out
      have hnb113 := NB336_308.out
      have hnc113 := NB308_336.out
      have hnb114 := NB336_320.out
      have hnc114 := NB320_336.out
      have hcz115_0 : wc.cell? ⟨gb336, 0, none⟩ = some (.slice Ao62 t325.length co62) := (blk_cell BK336.out 0).trans rfl
      have hcz115_1 : wc.cell? ⟨gb336, 1, none⟩ = some (.int .i64 t328) := (blk_cell BK336.out 1).trans rfl
      have hcz115_2 : wc.cell? ⟨gb336, 2, none⟩ = some (.bool t329) := (blk_cell BK336.out 2).trans rfl
      have hcz115_3 : wc.cell? ⟨gb336, 3, none⟩ = some (.slice Ao66 t330.length co66) := (blk_cell BK336.out 3).trans rfl
      have hcz115_4 : wc.cell? ⟨gb336, 4, none⟩ = some (.slice Ao68 t333.length co68) := (blk_cell BK336.out 4).trans rfl
      have hfz115_0 := blk_frozen BK336.out 0
      have hfz115_1 := blk_frozen BK336.out 1
      have hfz115_2 := blk_frozen BK336.out 2
      have hfz115_3 := blk_frozen BK336.out 3
      have hfz115_4 := blk_frozen BK336.out 4
      try go_wp2_with (first | ((with_reducible refine gate_callee (f := 27) rfl ?_); refine goesL_ (some 51) rfl rfl Try.func27 (by kernel_rfl) rfl #[.agg #[.slice Ao62 t325.length co62, .int .i64 t328, .bool t329, .slice Ao66 t330.length co66, .slice Ao68 t333.length co68], .int .i64 1] rfl z4_ ?_; (with_reducible refine (laws_markThread.calls kj21 (fun k_ => some k_ = (.slice Ao62 t325.length co62 : Value).ownBlock) (.slice Ao62 t325.length co62) t325 t328 t329 (fun k_ => some k_ = (.slice Ao66 t330.length co66 : Value).ownBlock) (.slice Ao66 t330.length co66) t330 (fun k_ => some k_ = (.slice Ao68 t333.length co68 : Value).ownBlock) (.slice Ao68 t333.length co68) t333 1 t355 t356 t357 t358 w _ ?side1 ?side2 ?side3 ?side4 A99.out).mono ?_); (case side1 => repeat (first | (with_reducible first | exact HB.out | apply below_alloc | apply pw_below_drewN | apply below_drew1 | refine below_set ?_ GE279.out | refine below_set ?_ GE280.out | refine below_set ?_ GE308.out | refine below_set ?_ GE320.out | refine below_set ?_ GE336.out) | exact HB.out)); (case side2 => exact Kd.R_tight rfl HO_337000.out); (case side3 => exact Kd.R_tight rfl HO_337003.out); (case side4 => exact Kd.R_tight rfl HO_337004.out); rintro e w116 ⟨rfl, hy0, hy1, hy2, hb, hkp⟩; refine ⟨_, rfl, ?_⟩; have n0_ := Aside0.mk (Kd.R_mono (ok' := fun k_ => some k_ ≠ (.slice Ao49 t351.length co49 : Value).ownBlock ∧ some k_ ≠ (.slice Ao62 t325.length co62 : Value).ownBlock) (Kd.R_keptB ((Kd.R_apart' (Kd.R_apart' HO_309000.out (Kd.R_typed HO_337003.out) (by decide)) (Kd.R_typed HO_337004.out) (by decide))) hkp (fun k_ hk_ hs_ => Or.elim hs_ (fun e_ => (hk_.1.1.2) e_) (fun e_ => Or.elim e_ (fun e_ => (hk_.1.2) e_) (fun e_ => (hk_.2) e_)))) (fun k_ hk_ => ⟨hk_.1.1.1.1, hk_.1.1.1.2⟩)); have n1_ := Aside0.mk (Kd.R_mono (ok' := fun k_ => some k_ ≠ (.slice Ao54 t352.length co54 : Value).ownBlock ∧ some k_ ≠ (.slice Ao66 t330.length co66 : Value).ownBlock) (Kd.R_keptB ((Kd.R_apart' (Kd.R_apart' HO_309003.out (Kd.R_typed HO_337000.out) (by decide)) (Kd.R_typed HO_337004.out) (by decide))) hkp (fun k_ hk_ hs_ => Or.elim hs_ (fun e_ => (hk_.1.2) e_) (fun e_ => Or.elim e_ (fun e_ => (hk_.1.1.2) e_) (fun e_ => (hk_.2) e_)))) (fun k_ hk_ => ⟨hk_.1.1.1.1, hk_.1.1.1.2⟩)); have n2_ := Aside0.mk (Kd.R_mono (ok' := fun k_ => some k_ ≠ (.slice Ao55 t353.length co55 : Value).ownBlock ∧ some k_ ≠ (.slice Ao68 t333.length co68 : Value).ownBlock) (Kd.R_keptB ((Kd.R_apart' (Kd.R_apart' HO_309004.out (Kd.R_typed HO_337000.out) (by decide)) (Kd.R_typed HO_337003.out) (by decide))) hkp (fun k_ hk_ hs_ => Or.elim hs_ (fun e_ => (hk_.1.2) e_) (fun e_ => Or.elim e_ (fun e_ => (hk_.2) e_) (fun e_ => (hk_.1.1.2) e_)))) (fun k_ hk_ => ⟨hk_.1.1.1.1, hk_.1.1.1.2⟩)); have n3_ := Aside0.mk (Kd.R_mono (ok' := fun k_ => some k_ ≠ (.slice Ao37 t297.length co37 : Value).ownBlock ∧ some k_ ≠ (.slice Ao62 t325.length co62 : Value).ownBlock) (Kd.R_keptB ((Kd.R_apart' (Kd.R_apart' HO_321000.out (Kd.R_typed HO_337003.out) (by decide)) (Kd.R_typed HO_337004.out) (by decide))) hkp (fun k_ hk_ hs_ => Or.elim hs_ (fun e_ => (hk_.1.1.2) e_) (fun e_ => Or.elim e_ (fun e_ => (hk_.1.2) e_) (fun e_ => (hk_.2) e_)))) (fun k_ hk_ => ⟨hk_.1.1.1.1, hk_.1.1.1.2⟩)); have n4_ := Aside0.mk (Kd.R_mono (ok' := fun k_ => some k_ ≠ (.slice Ao41 t302.length co41 : Value).ownBlock ∧ some k_ ≠ (.slice Ao66 t330.length co66 : Value).ownBlock) (Kd.R_keptB ((Kd.R_apart' (Kd.R_apart' HO_321003.out (Kd.R_typed HO_337000.out) (by decide)) (Kd.R_typed HO_337004.out) (by decide))) hkp (fun k_ hk_ hs_ => Or.elim hs_ (fun e_ => (hk_.1.2) e_) (fun e_ => Or.elim e_ (fun e_ => (hk_.1.1.2) e_) (fun e_ => (hk_.2) e_)))) (fun k_ hk_ => ⟨hk_.1.1.1.1, hk_.1.1.1.2⟩)); have n5_ := Aside0.mk (Kd.R_mono (ok' := fun k_ => some k_ ≠ (.slice Ao43 t305.length co43 : Value).ownBlock ∧ some k_ ≠ (.slice Ao68 t333.length co68 : Value).ownBlock) (Kd.R_keptB ((Kd.R_apart' (Kd.R_apart' HO_321004.out (Kd.R_typed HO_337000.out) (by decide)) (Kd.R_typed HO_337003.out) (by decide))) hkp (fun k_ hk_ hs_ => Or.elim hs_ (fun e_ => (hk_.1.2) e_) (fun e_ => Or.elim e_ (fun e_ => (hk_.2) e_) (fun e_ => (hk_.1.1.2) e_)))) (fun k_ hk_ => ⟨hk_.1.1.1.1, hk_.1.1.1.2⟩)); have n6_ := Aside0.mk (Kd.R_reok rfl hy0 (fun k_ e_ => HO_337000.out.1 k_ e_)); have n7_ := Aside0.mk (Kd.R_reok rfl hy1 (fun k_ e_ => HO_337003.out.1 k_ e_)); have n8_ := Aside0.mk (Kd.R_reok rfl hy2 (fun k_ e_ => HO_337004.out.1 k_ e_)); have n9_ := Aside0.mk (blk_kept (bk_ BK279.out) hkp (fun hs_ => Or.elim hs_ (fun e_ => (fun e_ => (Kd.R_ne HO_337000.out BK279.out (by decide)) e_) e_) (fun e_ => Or.elim e_ (fun e_ => (fun e_ => (Kd.R_ne HO_337003.out BK279.out (by decide)) e_) e_) (fun e_ => (fun e_ => (Kd.R_ne HO_337004.out BK279.out (by decide)) e_) e_)))); have n10_ := Aside0.mk (blk_kept (bk_ BK280.out) hkp (fun hs_ => Or.elim hs_ (fun e_ => (fun e_ => (Kd.R_ne HO_337000.out BK280.out (by decide)) e_) e_) (fun e_ => Or.elim e_ (fun e_ => (fun e_ => (Kd.R_ne HO_337003.out BK280.out (by decide)) e_) e_) (fun e_ => (fun e_ => (Kd.R_ne HO_337004.out BK280.out (by decide)) e_) e_)))); have n11_ := Aside0.mk (blk_kept (bk_ BK308.out) hkp (fun hs_ => Or.elim hs_ (fun e_ => (fun e_ => (Kd.R_ne HO_337000.out BK308.out (by decide)) e_) e_) (fun e_ => Or.elim e_ (fun e_ => (fun e_ => (Kd.R_ne HO_337003.out BK308.out (by decide)) e_) e_) (fun e_ => (fun e_ => (Kd.R_ne HO_337004.out BK308.out (by decide)) e_) e_)))); have n12_ := Aside0.mk (blk_kept (bk_ BK320.out) hkp (fun hs_ => Or.elim hs_ (fun e_ => (fun e_ => (Kd.R_ne HO_337000.out BK320.out (by decide)) e_) e_) (fun e_ => Or.elim e_ (fun e_ => (fun e_ => (Kd.R_ne HO_337003.out BK320.out (by decide)) e_) e_) (fun e_ => (fun e_ => (Kd.R_ne HO_337004.out BK320.out (by decide)) e_) e_)))); have n13_ := Aside0.mk (blk_kept (bk_ BK336.out) hkp (fun hs_ => Or.elim hs_ (fun e_ => (fun e_ => (Kd.R_ne HO_337000.out BK336.out (by decide)) e_) e_) (fun e_ => Or.elim e_ (fun e_ => (fun e_ => (Kd.R_ne HO_337003.out BK336.out (by decide)) e_) e_) (fun e_ => (fun e_ => (Kd.R_ne HO_337004.out BK336.out (by decide)) e_) e_)))); have n14_ := Aside0.mk (hb); clear HO_309000 HO_309003 HO_309004 HO_321000 HO_321003 HO_321004 HO_337000 HO_337003 HO_337004 BK279 BK280 BK308 BK320 BK336 HB; have HO_309000 := n0_; have HO_309003 := n1_; have HO_309004 := n2_; have HO_321000 := n3_; have HO_321003 := n4_; have HO_321004 := n5_; have HO_337000 := n6_; have HO_337003 := n7_; have HO_337004 := n8_; have BK279 := n9_; have BK280 := n10_; have BK308 := n11_; have BK320 := n12_; have BK336 := n13_; have HB := n14_; clear n0_ n1_ n2_ n3_ n4_ n5_ n6_ n7_ n8_ n9_ n10_ n11_ n12_ n13_ n14_; (try clear hb); (try clear hkp); (try clear hy0); (try clear hy1); (try clear hy2); have hcz117_0 : w116.cell? ⟨gb336, 0, none⟩ = some (.slice Ao62 t325.length co62) := (blk_cell BK336.out 0).trans rfl; have hcz117_1 : w116.cell? ⟨gb336, 1, none⟩ = some (.int .i64 t328) := (blk_cell BK336.out 1).trans rfl; have hcz117_2 : w116.cell? ⟨gb336, 2, none⟩ = some (.bool t329) := (blk_cell BK336.out 2).trans rfl; have hcz117_3 : w116.cell? ⟨gb336, 3, none⟩ = some (.slice Ao66 t330.length co66) := (blk_cell BK336.out 3).trans rfl; have hcz117_4 : w116.cell? ⟨gb336, 4, none⟩ = some (.slice Ao68 t333.length co68) := (blk_cell BK336.out 4).trans rfl; have hfz117_0 := blk_frozen BK336.out 0; have hfz117_1 := blk_frozen BK336.out 1; have hfz117_2 := blk_frozen BK336.out 2; have hfz117_3 := blk_frozen BK336.out 3; have hfz117_4 := blk_frozen BK336.out 4) | ((with_reducible refine gate_callee (f := 28) rfl ?_); refine goesL_ (some 54) rfl rfl Try.func28 (by kernel_rfl) rfl #[.agg #[.slice Ao62 t356.length co62, .int .i64 t328, .bool t329, .slice Ao66 t357.length co66, .slice Ao68 t358.length co68], .int .i64 1] rfl z59_ ?_; (with_reducible refine (laws_heldThread.calls kj21 _ _ t356 t328 t329 _ _ t357 _ _ t358 1 t359 _ ?side1 ?side2 ?side3 ?side4 ?side5 ?side6 A100.out).mono ?_); (case side1 => repeat (first | exact (Kd.R_reads' HO_337000.out).2.2 | (with_reducible refine Kd.C_alloc ?_ _) | (with_reducible refine Kd.C_drewN ?_ _) | (with_reducible refine Kd.C_drew ?_))); (case side2 => rw [show t356.length = t325.length from (Kd.R_reads' HO_337000.out).1.symm]; exact (Kd.R_reads' HO_337000.out).2.1); (case side3 => repeat (first | exact (Kd.R_reads' HO_337003.out).2.2 | (with_reducible refine Kd.C_alloc ?_ _) | (with_reducible refine Kd.C_drewN ?_ _) | (with_reducible refine Kd.C_drew ?_))); (case side4 => rw [show t357.length = t330.length from (Kd.R_reads' HO_337003.out).1.symm]; exact (Kd.R_reads' HO_337003.out).2.1); (case side5 => repeat (first | exact (Kd.R_reads' HO_337004.out).2.2 | (with_reducible refine Kd.C_alloc ?_ _) | (with_reducible refine Kd.C_drewN ?_ _) | (with_reducible refine Kd.C_drew ?_))); (case side6 => rw [show t358.length = t333.length from (Kd.R_reads' HO_337004.out).1.symm]; exact (Kd.R_reads' HO_337004.out).2.1); rintro e w118 ⟨rfl, hb⟩; refine ⟨_, rfl, ?_⟩; have n0_ := Aside0.mk (Kd.R_below (rb_ HO_309000.out) hb); have n1_ := Aside0.mk (Kd.R_below (rb_ HO_309003.out) hb); have n2_ := Aside0.mk (Kd.R_below (rb_ HO_309004.out) hb); have n3_ := Aside0.mk (Kd.R_below (rb_ HO_321000.out) hb); have n4_ := Aside0.mk (Kd.R_below (rb_ HO_321003.out) hb); have n5_ := Aside0.mk (Kd.R_below (rb_ HO_321004.out) hb); have n6_ := Aside0.mk (Kd.R_below (rb_ HO_337000.out) hb); have n7_ := Aside0.mk (Kd.R_below (rb_ HO_337003.out) hb); have n8_ := Aside0.mk (Kd.R_below (rb_ HO_337004.out) hb); have n9_ := Aside0.mk (blk_below (g := gb279) (o := .cells #[.slice A0_0 l0_0.length c0_0, .int .i64 a0_1, .bool a0_2, .slice A0_3 l0_3.length c0_3, .slice A0_4 l0_4.length c0_4] 59 (0, 0)) (bk_ BK279.out) hb); have n10_ := Aside0.mk (blk_below (g := gb280) (o := .cells #[.int .i64 a1_0, .int .i64 a1_1, .int .i64 a1_2, .int .i64 a1_3] 65 (0, 0)) (bk_ BK280.out) hb); have n11_ := Aside0.mk (blk_below (g := gb308) (o := .cells #[.slice Ao37 t297.length co37, .int .i64 t300, .bool t301, .slice Ao41 t302.length co41, .slice Ao43 t305.length co43] 36 (0, 0)) (bk_ BK308.out) hb); have n12_ := Aside0.mk (blk_below (g := gb320) (o := .cells #[.slice Ao49 t351.length co49, .int .i64 t312, .bool t313, .slice Ao54 t352.length co54, .slice Ao55 t353.length co55] 36 (0, 0)) (bk_ BK320.out) hb); have n13_ := Aside0.mk (blk_below (g := gb336) (o := .cells #[.slice Ao62 t325.length co62, .int .i64 t328, .bool t329, .slice Ao66 t330.length co66, .slice Ao68 t333.length co68] 36 (0, 0)) (bk_ BK336.out) hb); have n14_ := Aside0.mk (below_step z0_ hb); clear HO_309000 HO_309003 HO_309004 HO_321000 HO_321003 HO_321004 HO_337000 HO_337003 HO_337004 BK279 BK280 BK308 BK320 BK336 HB; have HO_309000 := n0_; have HO_309003 := n1_; have HO_309004 := n2_; have HO_321000 := n3_; have HO_321003 := n4_; have HO_321004 := n5_; have HO_337000 := n6_; have HO_337003 := n7_; have HO_337004 := n8_; have BK279 := n9_; have BK280 := n10_; have BK308 := n11_; have BK320 := n12_; have BK336 := n13_; have HB := n14_; clear n0_ n1_ n2_ n3_ n4_ n5_ n6_ n7_ n8_ n9_ n10_ n11_ n12_ n13_ n14_; (try clear hb); (try clear hb2); (try clear hk); (try clear hi)))
      have n0_ := Aside0.mk (Kd.R_drew HO_309000.out)
      have n1_ := Aside0.mk (Kd.R_drew HO_309003.out)
      have n2_ := Aside0.mk (Kd.R_drew HO_309004.out)
      have n3_ := Aside0.mk (Kd.R_drew HO_321000.out)
      have n4_ := Aside0.mk (Kd.R_drew HO_321003.out)
      have n5_ := Aside0.mk (Kd.R_drew HO_321004.out)
      have n6_ := Aside0.mk (Kd.R_drew HO_337000.out)
      have n7_ := Aside0.mk (Kd.R_drew HO_337003.out)
      have n8_ := Aside0.mk (Kd.R_drew HO_337004.out)
      have n9_ := Aside0.mk (blk_drew BK279.out)
      have n10_ := Aside0.mk (blk_drew BK280.out)
      have n11_ := Aside0.mk (blk_drew BK308.out)
      have n12_ := Aside0.mk (blk_drew BK320.out)
      have n13_ := Aside0.mk (blk_drew BK336.out)
      have n14_ := Aside0.mk (below_drew1 HB.out)
      clear HO_309000 HO_309003 HO_309004 HO_321000 HO_321003 HO_321004 HO_337000 HO_337003 HO_337004 BK279 BK280 BK308 BK320 BK336 HB
      have HO_309000 := n0_
      have HO_309003 := n1_
      have HO_309004 := n2_
      have HO_321000 := n3_
      have HO_321003 := n4_
      have HO_321004 := n5_
      have HO_337000 := n6_
      have HO_337003 := n7_
      have HO_337004 := n8_
      have BK279 := n9_
      have BK280 := n10_
      have BK308 := n11_
      have BK320 := n12_
      have BK336 := n13_
      have HB := n14_
      clear n0_ n1_ n2_ n3_ n4_ n5_ n6_ n7_ n8_ n9_ n10_ n11_ n12_ n13_ n14_
      refine start_ (n := 7) (S := fun w' => w'.cell? ⟨gb279, 0, none⟩ = some (.slice A0_0 l0_0.length c0_0) ∧ w'.cell? ⟨gb279, 1, none⟩ = some (.int .i64 a0_1) ∧ w'.cell? ⟨gb279, 2, none⟩ = some (.bool a0_2) ∧ w'.cell? ⟨gb279, 3, none⟩ = some (.slice A0_3 l0_3.length c0_3) ∧ w'.cell? ⟨gb279, 4, none⟩ = some (.slice A0_4 l0_4.length c0_4) ∧ w'.cell? ⟨gb280, 0, none⟩ = some (.int .i64 a1_0) ∧ w'.cell? ⟨gb280, 1, none⟩ = some (.int .i64 a1_1) ∧ w'.cell? ⟨gb280, 2, none⟩ = some (.int .i64 a1_2) ∧ w'.cell? ⟨gb280, 3, none⟩ = some (.int .i64 a1_3)) (ds := []) #[false, false, false, false, false, false, false] (by kernel_rfl) rfl rfl ⟨(blk_cell BK279.out 0).trans rfl, (blk_cell BK279.out 1).trans rfl, (blk_cell BK279.out 2).trans rfl, (blk_cell BK279.out 3).trans rfl, (blk_cell BK279.out 4).trans rfl, (blk_cell BK280.out 0).trans rfl, (blk_cell BK280.out 1).trans rfl, (blk_cell BK280.out 2).trans rfl, (blk_cell BK280.out 3).trans rfl⟩ (fun hHeld => ?_)
      generalize w118.drew = w119 at HO_309000 HO_309003 HO_309004 HO_321000 HO_321003 HO_321004 HO_337000 HO_337003 HO_337004 BK279 BK280 BK308 BK320 BK336 HB hHeld ⊢
      refine take_ (i := 0) (N := some 60) (v := ?_) (a' := ?_) #[true, false, false, false, false, false, false] rfl rfl (by kernel_rfl) (fun _ _ _ h => h) (Or.inl ⟨by rfl, ?_⟩) hHeld ?_ ?_
      rotate_left
      ·
       rintro w' ⟨s0, s1, s2, s3, s4, s5, s6, s7, s8⟩
       go_simp
       with_reducible rfl
      rotate_left
      ·
       simp only [Act.put, List.setIfInBounds_toArray, List.set_cons_zero, List.set_cons_succ, i64_w, i32_w]
       rfl
      refine take_ (i := 2) (N := some 62) (v := ?_) (a' := ?_) #[true, false, true, false, false, false, false] rfl rfl (by kernel_rfl) (fun _ _ _ h => h) (Or.inl ⟨by rfl, ?_⟩) hHeld ?_ ?_
      rotate_left
      ·
       rintro w' ⟨s0, s1, s2, s3, s4, s5, s6, s7, s8⟩
       go_simp
       with_reducible rfl
      rotate_left
      ·
       simp only [Act.put, List.setIfInBounds_toArray, List.set_cons_zero, List.set_cons_succ, i64_w, i32_w]
       rfl
      refine join_ (σ := Value × Value × Value × Value × Value × Value × Nat) 1 #[true, true, true, true, true, true, false] (fun s_ => [(61, .agg #[s_.1, .int .i64 t363, .bool t364, s_.2.1, s_.2.2.1]), (63, .agg #[.int .i64 t371, .int .i64 t372, .int .i64 t373, .int .i64 t374]), (64, .agg #[s_.2.2.2.1, .int .i64 t378, .bool t379, s_.2.2.2.2.1, s_.2.2.2.2.2.1]), (12, .pointer (some ⟨s_.2.2.2.2.2.2, 0, none⟩))]) (fun s_ w' => (w'.cell? ⟨gb279, 0, none⟩ = some (.slice A0_0 l0_0.length c0_0) ∧ w'.cell? ⟨gb279, 1, none⟩ = some (.int .i64 a0_1) ∧ w'.cell? ⟨gb279, 2, none⟩ = some (.bool a0_2) ∧ w'.cell? ⟨gb279, 3, none⟩ = some (.slice A0_3 l0_3.length c0_3) ∧ w'.cell? ⟨gb279, 4, none⟩ = some (.slice A0_4 l0_4.length c0_4) ∧ w'.cell? ⟨gb280, 0, none⟩ = some (.int .i64 a1_0) ∧ w'.cell? ⟨gb280, 1, none⟩ = some (.int .i64 a1_1) ∧ w'.cell? ⟨gb280, 2, none⟩ = some (.int .i64 a1_2) ∧ w'.cell? ⟨gb280, 3, none⟩ = some (.int .i64 a1_3)) ∧ (Kd.R k88 88 w' w.heap.size (fun k_ => some k_ ≠ (s_.2.2.2.1 : Value).ownBlock ∧ some k_ ≠ (.slice Ao37 t297.length co37 : Value).ownBlock ∧ some k_ ≠ (.slice Ao49 t351.length co49 : Value).ownBlock ∧ some k_ ≠ (.slice Ao62 t325.length co62 : Value).ownBlock) s_.1 t360) ∧ (Kd.R k136 136 w' w.heap.size (fun k_ => some k_ ≠ (s_.2.2.2.2.1 : Value).ownBlock ∧ some k_ ≠ (.slice Ao41 t302.length co41 : Value).ownBlock ∧ some k_ ≠ (.slice Ao54 t352.length co54 : Value).ownBlock ∧ some k_ ≠ (.slice Ao66 t330.length co66 : Value).ownBlock) s_.2.1 t365) ∧ (Kd.R k67 67 w' w.heap.size (fun k_ => some k_ ≠ (s_.2.2.2.2.2.1 : Value).ownBlock ∧ some k_ ≠ (.slice Ao43 t305.length co43 : Value).ownBlock ∧ some k_ ≠ (.slice Ao55 t353.length co55 : Value).ownBlock ∧ some k_ ≠ (.slice Ao68 t333.length co68 : Value).ownBlock) s_.2.2.1 t368) ∧ (Kd.R k88 88 w' w.heap.size (fun k_ => some k_ ≠ (s_.1 : Value).ownBlock ∧ some k_ ≠ (.slice Ao37 t297.length co37 : Value).ownBlock ∧ some k_ ≠ (.slice Ao49 t351.length co49 : Value).ownBlock ∧ some k_ ≠ (.slice Ao62 t325.length co62 : Value).ownBlock) s_.2.2.2.1 t375) ∧ (Kd.R k136 136 w' w.heap.size (fun k_ => some k_ ≠ (s_.2.1 : Value).ownBlock ∧ some k_ ≠ (.slice Ao41 t302.length co41 : Value).ownBlock ∧ some k_ ≠ (.slice Ao54 t352.length co54 : Value).ownBlock ∧ some k_ ≠ (.slice Ao66 t330.length co66 : Value).ownBlock) s_.2.2.2.2.1 t380) ∧ (Kd.R k67 67 w' w.heap.size (fun k_ => some k_ ≠ (s_.2.2.1 : Value).ownBlock ∧ some k_ ≠ (.slice Ao43 t305.length co43 : Value).ownBlock ∧ some k_ ≠ (.slice Ao55 t353.length co55 : Value).ownBlock ∧ some k_ ≠ (.slice Ao68 t333.length co68 : Value).ownBlock) s_.2.2.2.2.2.1 t383) ∧ (Kd.R k88 88 w' w.heap.size (fun k_ => some k_ ≠ (s_.1 : Value).ownBlock ∧ some k_ ≠ (s_.2.2.2.1 : Value).ownBlock ∧ some k_ ≠ (.slice Ao49 t351.length co49 : Value).ownBlock ∧ some k_ ≠ (.slice Ao62 t325.length co62 : Value).ownBlock) (.slice Ao37 t297.length co37) t297) ∧ (Kd.R k136 136 w' w.heap.size (fun k_ => some k_ ≠ (s_.2.1 : Value).ownBlock ∧ some k_ ≠ (s_.2.2.2.2.1 : Value).ownBlock ∧ some k_ ≠ (.slice Ao54 t352.length co54 : Value).ownBlock ∧ some k_ ≠ (.slice Ao66 t330.length co66 : Value).ownBlock) (.slice Ao41 t302.length co41) t302) ∧ (Kd.R k67 67 w' w.heap.size (fun k_ => some k_ ≠ (s_.2.2.1 : Value).ownBlock ∧ some k_ ≠ (s_.2.2.2.2.2.1 : Value).ownBlock ∧ some k_ ≠ (.slice Ao55 t353.length co55 : Value).ownBlock ∧ some k_ ≠ (.slice Ao68 t333.length co68 : Value).ownBlock) (.slice Ao43 t305.length co43) t305) ∧ (Kd.R k88 88 w' w.heap.size (fun k_ => some k_ ≠ (s_.1 : Value).ownBlock ∧ some k_ ≠ (s_.2.2.2.1 : Value).ownBlock ∧ some k_ ≠ (.slice Ao37 t297.length co37 : Value).ownBlock ∧ some k_ ≠ (.slice Ao62 t325.length co62 : Value).ownBlock) (.slice Ao49 t351.length co49) t351) ∧ (Kd.R k136 136 w' w.heap.size (fun k_ => some k_ ≠ (s_.2.1 : Value).ownBlock ∧ some k_ ≠ (s_.2.2.2.2.1 : Value).ownBlock ∧ some k_ ≠ (.slice Ao41 t302.length co41 : Value).ownBlock ∧ some k_ ≠ (.slice Ao66 t330.length co66 : Value).ownBlock) (.slice Ao54 t352.length co54) t352) ∧ (Kd.R k67 67 w' w.heap.size (fun k_ => some k_ ≠ (s_.2.2.1 : Value).ownBlock ∧ some k_ ≠ (s_.2.2.2.2.2.1 : Value).ownBlock ∧ some k_ ≠ (.slice Ao43 t305.length co43 : Value).ownBlock ∧ some k_ ≠ (.slice Ao68 t333.length co68 : Value).ownBlock) (.slice Ao55 t353.length co55) t353) ∧ (Kd.R k88 88 w' w.heap.size (fun k_ => some k_ ≠ (s_.1 : Value).ownBlock ∧ some k_ ≠ (s_.2.2.2.1 : Value).ownBlock ∧ some k_ ≠ (.slice Ao37 t297.length co37 : Value).ownBlock ∧ some k_ ≠ (.slice Ao49 t351.length co49 : Value).ownBlock) (.slice Ao62 t325.length co62) t356) ∧ (Kd.R k136 136 w' w.heap.size (fun k_ => some k_ ≠ (s_.2.1 : Value).ownBlock ∧ some k_ ≠ (s_.2.2.2.2.1 : Value).ownBlock ∧ some k_ ≠ (.slice Ao41 t302.length co41 : Value).ownBlock ∧ some k_ ≠ (.slice Ao54 t352.length co54 : Value).ownBlock) (.slice Ao66 t330.length co66) t357) ∧ (Kd.R k67 67 w' w.heap.size (fun k_ => some k_ ≠ (s_.2.2.1 : Value).ownBlock ∧ some k_ ≠ (s_.2.2.2.2.2.1 : Value).ownBlock ∧ some k_ ≠ (.slice Ao43 t305.length co43 : Value).ownBlock ∧ some k_ ≠ (.slice Ao55 t353.length co55 : Value).ownBlock) (.slice Ao68 t333.length co68) t358) ∧ (w'.heap[gb279]? = some (.cells #[.slice A0_0 l0_0.length c0_0, .int .i64 a0_1, .bool a0_2, .slice A0_3 l0_3.length c0_3, .slice A0_4 l0_4.length c0_4] 59 (0, 0))) ∧ (w'.heap[gb280]? = some (.cells #[.int .i64 a1_0, .int .i64 a1_1, .int .i64 a1_2, .int .i64 a1_3] 65 (0, 0))) ∧ (w'.heap[gb308]? = some (.cells #[.slice Ao37 t297.length co37, .int .i64 t300, .bool t301, .slice Ao41 t302.length co41, .slice Ao43 t305.length co43] 36 (0, 0))) ∧ (w'.heap[gb320]? = some (.cells #[.slice Ao49 t351.length co49, .int .i64 t312, .bool t313, .slice Ao54 t352.length co54, .slice Ao55 t353.length co55] 36 (0, 0))) ∧ (w'.heap[gb336]? = some (.cells #[.slice Ao62 t325.length co62, .int .i64 t328, .bool t329, .slice Ao66 t330.length co66, .slice Ao68 t333.length co68] 36 (0, 0))) ∧ (w'.heap[s_.2.2.2.2.2.2]? = some (.cells #[.slice none 0 0, .int .i64 0, .bool false, .slice none 0 0, .slice none 0 0] 36 (0, 0))) ∧ (w.heap.size ≤ s_.2.2.2.2.2.2) ∧ (w.heap.size ≤ s_.2.2.2.2.2.2) ∧ (gb279 ≠ s_.2.2.2.2.2.2) ∧ (s_.2.2.2.2.2.2 ≠ gb279) ∧ (gb280 ≠ s_.2.2.2.2.2.2) ∧ (s_.2.2.2.2.2.2 ≠ gb280) ∧ (gb308 ≠ s_.2.2.2.2.2.2) ∧ (s_.2.2.2.2.2.2 ≠ gb308) ∧ (gb320 ≠ s_.2.2.2.2.2.2) ∧ (s_.2.2.2.2.2.2 ≠ gb320) ∧ (gb336 ≠ s_.2.2.2.2.2.2) ∧ (s_.2.2.2.2.2.2 ≠ gb336) ∧ (Below w.heap.size w w')) ?_ ?_
      rotate_left
      ·
       intro hCont
       refine two_ (i := 1) (j := 5) (Ni := some 61) (Nj := some 12) #[true, true, true, false, false, false, false] #[true, false, true, false, false, true, false] rfl rfl rfl rfl (by kernel_rfl) (by decide) (by decide) (fun K hK => ?_) (fun K hK => ?_)
       ·
        skip
        refine goes_ Try.func39 (by kernel_rfl) rfl #[.agg #[.slice A0_0 l0_0.length c0_0, .int .i64 a0_1, .bool a0_2, .slice A0_3 l0_3.length c0_3, .slice A0_4 l0_4.length c0_4]] (by rfl) rfl rfl z4_ ?_
        with_reducible refine (laws_toThread.calls kj21 _ _ l0_0 a0_1 a0_2 _ _ l0_3 _ _ l0_4 t360 t363 t364 t365 t368 _ ?side1 ?side2 ?side3 ?side4 ?side5 ?side6 A103.out).mono ?_
        (case side1 => exact cb_ (Kd.C_below HR0_0.out HB.out))
        (case side2 => exact HC0_0.out)
        (case side3 => exact cb_ (Kd.C_below HR0_3.out HB.out))
        (case side4 => exact HC0_3.out)
        (case side5 => exact cb_ (Kd.C_below HR0_4.out HB.out))
        (case side6 => exact HC0_4.out)
        rintro e w120 ⟨v361, v366, v369, rfl, ho0, ho1, ho2, hb⟩
        refine ⟨_, rfl, ?_⟩
        have n0_ := Aside0.mk (Kd.R_elder' (rb_ HO_309000.out) (Kd.R_base ho0) hb)
        have n1_ := Aside0.mk (Kd.R_elder' (rb_ HO_309003.out) (Kd.R_base ho1) hb)
        have n2_ := Aside0.mk (Kd.R_elder' (rb_ HO_309004.out) (Kd.R_base ho2) hb)
        have n3_ := Aside0.mk (Kd.R_elder' (rb_ HO_321000.out) (Kd.R_base ho0) hb)
        have n4_ := Aside0.mk (Kd.R_elder' (rb_ HO_321003.out) (Kd.R_base ho1) hb)
        have n5_ := Aside0.mk (Kd.R_elder' (rb_ HO_321004.out) (Kd.R_base ho2) hb)
        have n6_ := Aside0.mk (Kd.R_elder' (rb_ HO_337000.out) (Kd.R_base ho0) hb)
        have n7_ := Aside0.mk (Kd.R_elder' (rb_ HO_337003.out) (Kd.R_base ho1) hb)
        have n8_ := Aside0.mk (Kd.R_elder' (rb_ HO_337004.out) (Kd.R_base ho2) hb)
        have n9_ := Aside0.mk (Kd.R_lower (Kd.R_new' (Kd.R_new' (Kd.R_new' ho0 (Kd.R_lt (rb_ HO_309000.out))) (Kd.R_lt (rb_ HO_321000.out))) (Kd.R_lt (rb_ HO_337000.out))) (below_size z0_))
        have n10_ := Aside0.mk (Kd.R_lower (Kd.R_new' (Kd.R_new' (Kd.R_new' ho1 (Kd.R_lt (rb_ HO_309003.out))) (Kd.R_lt (rb_ HO_321003.out))) (Kd.R_lt (rb_ HO_337003.out))) (below_size z0_))
        have n11_ := Aside0.mk (Kd.R_lower (Kd.R_new' (Kd.R_new' (Kd.R_new' ho2 (Kd.R_lt (rb_ HO_309004.out))) (Kd.R_lt (rb_ HO_321004.out))) (Kd.R_lt (rb_ HO_337004.out))) (below_size z0_))
        have n12_ := Aside0.mk (blk_below (g := gb279) (o := .cells #[.slice A0_0 l0_0.length c0_0, .int .i64 a0_1, .bool a0_2, .slice A0_3 l0_3.length c0_3, .slice A0_4 l0_4.length c0_4] 59 (0, 0)) (bk_ BK279.out) hb)
        have n13_ := Aside0.mk (blk_below (g := gb280) (o := .cells #[.int .i64 a1_0, .int .i64 a1_1, .int .i64 a1_2, .int .i64 a1_3] 65 (0, 0)) (bk_ BK280.out) hb)
        have n14_ := Aside0.mk (blk_below (g := gb308) (o := .cells #[.slice Ao37 t297.length co37, .int .i64 t300, .bool t301, .slice Ao41 t302.length co41, .slice Ao43 t305.length co43] 36 (0, 0)) (bk_ BK308.out) hb)
        have n15_ := Aside0.mk (blk_below (g := gb320) (o := .cells #[.slice Ao49 t351.length co49, .int .i64 t312, .bool t313, .slice Ao54 t352.length co54, .slice Ao55 t353.length co55] 36 (0, 0)) (bk_ BK320.out) hb)
        have n16_ := Aside0.mk (blk_below (g := gb336) (o := .cells #[.slice Ao62 t325.length co62, .int .i64 t328, .bool t329, .slice Ao66 t330.length co66, .slice Ao68 t333.length co68] 36 (0, 0)) (bk_ BK336.out) hb)
        have n17_ := Aside0.mk (below_step z0_ hb)
        clear HO_309000 HO_309003 HO_309004 HO_321000 HO_321003 HO_321004 HO_337000 HO_337003 HO_337004 BK279 BK280 BK308 BK320 BK336 HB
        have HO_309000 := n0_
        have HO_309003 := n1_
        have HO_309004 := n2_
        have HO_321000 := n3_
        have HO_321003 := n4_
        have HO_321004 := n5_
        have HO_337000 := n6_
        have HO_337003 := n7_
        have HO_337004 := n8_
        have HO362 := n9_
        have HO367 := n10_
        have HO370 := n11_
        have BK279 := n12_
        have BK280 := n13_
        have BK308 := n14_
        have BK320 := n15_
        have BK336 := n16_
        have HB := n17_
        clear n0_ n1_ n2_ n3_ n4_ n5_ n6_ n7_ n8_ n9_ n10_ n11_ n12_ n13_ n14_ n15_ n16_ n17_
        (try clear hb)
        (try clear hb2)
        (try clear hk)
        (try clear hi)
        (try clear ho0)
        (try clear ho1)
        (try clear ho2)
        refine hK.out _ _ ⟨(blk_cell BK279.out 0).trans rfl, (blk_cell BK279.out 1).trans rfl, (blk_cell BK279.out 2).trans rfl, (blk_cell BK279.out 3).trans rfl, (blk_cell BK279.out 4).trans rfl, (blk_cell BK280.out 0).trans rfl, (blk_cell BK280.out 1).trans rfl, (blk_cell BK280.out 2).trans rfl, (blk_cell BK280.out 3).trans rfl⟩ (fun hHeld => ?_)
        clear hK K
        refine norm_ (a' := ?_) ?_ ?_
        rotate_left
        ·
         show Act.put _ (some 61) _ = _
         simp only [Act.put, List.setIfInBounds_toArray, List.set_cons_zero, List.set_cons_succ, i64_w, i32_w]
         rfl
        refine two_ (i := 3) (j := 5) (Ni := some 63) (Nj := some 12) #[true, true, true, true, false, false, false] #[true, true, true, false, false, true, false] rfl rfl rfl rfl (by kernel_rfl) (by decide) (by decide) (fun K hK => ?_) (fun K hK => ?_)
        ·
         skip
         refine goes_ Try.func42 (by kernel_rfl) rfl #[.agg #[.int .i64 a1_0, .int .i64 a1_1, .int .i64 a1_2, .int .i64 a1_3]] (by rfl) rfl rfl z4_ ?_
         with_reducible refine (laws_toHelp.calls a1_0 a1_1 a1_2 a1_3 t371 t372 t373 t374 _ A104.out).mono ?_
         rintro e w121 ⟨rfl, hb⟩
         refine ⟨_, rfl, ?_⟩
         have n0_ := Aside0.mk (Kd.R_below (rb_ HO_309000.out) hb)
         have n1_ := Aside0.mk (Kd.R_below (rb_ HO_309003.out) hb)
         have n2_ := Aside0.mk (Kd.R_below (rb_ HO_309004.out) hb)
         have n3_ := Aside0.mk (Kd.R_below (rb_ HO_321000.out) hb)
         have n4_ := Aside0.mk (Kd.R_below (rb_ HO_321003.out) hb)
         have n5_ := Aside0.mk (Kd.R_below (rb_ HO_321004.out) hb)
         have n6_ := Aside0.mk (Kd.R_below (rb_ HO_337000.out) hb)
         have n7_ := Aside0.mk (Kd.R_below (rb_ HO_337003.out) hb)
         have n8_ := Aside0.mk (Kd.R_below (rb_ HO_337004.out) hb)
         have n9_ := Aside0.mk (Kd.R_below (rb_ HO362.out) hb)
         have n10_ := Aside0.mk (Kd.R_below (rb_ HO367.out) hb)
         have n11_ := Aside0.mk (Kd.R_below (rb_ HO370.out) hb)
         have n12_ := Aside0.mk (blk_below (g := gb279) (o := .cells #[.slice A0_0 l0_0.length c0_0, .int .i64 a0_1, .bool a0_2, .slice A0_3 l0_3.length c0_3, .slice A0_4 l0_4.length c0_4] 59 (0, 0)) (bk_ BK279.out) hb)
         have n13_ := Aside0.mk (blk_below (g := gb280) (o := .cells #[.int .i64 a1_0, .int .i64 a1_1, .int .i64 a1_2, .int .i64 a1_3] 65 (0, 0)) (bk_ BK280.out) hb)
         have n14_ := Aside0.mk (blk_below (g := gb308) (o := .cells #[.slice Ao37 t297.length co37, .int .i64 t300, .bool t301, .slice Ao41 t302.length co41, .slice Ao43 t305.length co43] 36 (0, 0)) (bk_ BK308.out) hb)
         have n15_ := Aside0.mk (blk_below (g := gb320) (o := .cells #[.slice Ao49 t351.length co49, .int .i64 t312, .bool t313, .slice Ao54 t352.length co54, .slice Ao55 t353.length co55] 36 (0, 0)) (bk_ BK320.out) hb)
         have n16_ := Aside0.mk (blk_below (g := gb336) (o := .cells #[.slice Ao62 t325.length co62, .int .i64 t328, .bool t329, .slice Ao66 t330.length co66, .slice Ao68 t333.length co68] 36 (0, 0)) (bk_ BK336.out) hb)
         have n17_ := Aside0.mk (below_step z0_ hb)
         clear HO_309000 HO_309003 HO_309004 HO_321000 HO_321003 HO_321004 HO_337000 HO_337003 HO_337004 HO362 HO367 HO370 BK279 BK280 BK308 BK320 BK336 HB
         have HO_309000 := n0_
         have HO_309003 := n1_
         have HO_309004 := n2_
         have HO_321000 := n3_
         have HO_321003 := n4_
         have HO_321004 := n5_
         have HO_337000 := n6_
         have HO_337003 := n7_
         have HO_337004 := n8_
         have HO362 := n9_
         have HO367 := n10_
         have HO370 := n11_
         have BK279 := n12_
         have BK280 := n13_
         have BK308 := n14_
         have BK320 := n15_
         have BK336 := n16_
         have HB := n17_
         clear n0_ n1_ n2_ n3_ n4_ n5_ n6_ n7_ n8_ n9_ n10_ n11_ n12_ n13_ n14_ n15_ n16_ n17_
         (try clear hb)
         (try clear hb2)
         (try clear hk)
         (try clear hi)
         obtain ⟨Ao122, co122, eo122⟩ := Kd.R_slice HO362.out
         (first | subst eo122 | (injection eo122 with f1_ f2_ f3_; have f4_ := f1_.symm; have f5_ := f3_.symm; clear f1_ f2_ f3_; subst f4_; subst f5_))
         obtain ⟨Ao123, co123, eo123⟩ := Kd.R_slice HO367.out
         (first | subst eo123 | (injection eo123 with f1_ f2_ f3_; have f4_ := f1_.symm; have f5_ := f3_.symm; clear f1_ f2_ f3_; subst f4_; subst f5_))
         obtain ⟨Ao124, co124, eo124⟩ := Kd.R_slice HO370.out
         (first | subst eo124 | (injection eo124 with f1_ f2_ f3_; have f4_ := f1_.symm; have f5_ := f3_.symm; clear f1_ f2_ f3_; subst f4_; subst f5_))
         refine hK.out _ _ ⟨(blk_cell BK279.out 0).trans rfl, (blk_cell BK279.out 1).trans rfl, (blk_cell BK279.out 2).trans rfl, (blk_cell BK279.out 3).trans rfl, (blk_cell BK279.out 4).trans rfl, (blk_cell BK280.out 0).trans rfl, (blk_cell BK280.out 1).trans rfl, (blk_cell BK280.out 2).trans rfl, (blk_cell BK280.out 3).trans rfl⟩ (fun hHeld => ?_)
         clear hK K
         refine norm_ (a' := ?_) ?_ ?_
         rotate_left
         ·
          show Act.put _ (some 63) _ = _
          simp only [Act.put, List.setIfInBounds_toArray, List.set_cons_zero, List.set_cons_succ, i64_w, i32_w]
          rfl
         refine two_ (i := 4) (j := 5) (Ni := some 64) (Nj := some 12) #[true, true, true, true, true, false, false] #[true, true, true, true, false, true, false] rfl rfl rfl rfl (by kernel_rfl) (by decide) (by decide) (fun K hK => ?_) (fun K hK => ?_)
         ·
          skip
          refine goes_ Try.func47 (by kernel_rfl) rfl #[.agg #[.slice Ao122 t360.length co122, .int .i64 t363, .bool t364, .slice Ao123 t365.length co123, .slice Ao124 t368.length co124], .agg #[.int .i64 t371, .int .i64 t372, .int .i64 t373, .int .i64 t374]] (by rfl) rfl rfl z4_ ?_
          with_reducible refine (impl_Swap.calls _ _ t360 t363 t364 _ _ t365 _ _ t368 t371 t372 t373 t374 t375 t378 t379 t380 t383 _ ?side1 ?side2 ?side3 ?side4 ?side5 ?side6 A105.out).mono ?_
          (case side1 => repeat (first | exact (Kd.R_reads' HO362.out).2.2 | (with_reducible refine Kd.C_alloc ?_ _) | (with_reducible refine Kd.C_drewN ?_ _) | (with_reducible refine Kd.C_drew ?_)))
          (case side2 => exact (Kd.R_reads' HO362.out).2.1)
          (case side3 => repeat (first | exact (Kd.R_reads' HO367.out).2.2 | (with_reducible refine Kd.C_alloc ?_ _) | (with_reducible refine Kd.C_drewN ?_ _) | (with_reducible refine Kd.C_drew ?_)))
          (case side4 => exact (Kd.R_reads' HO367.out).2.1)
          (case side5 => repeat (first | exact (Kd.R_reads' HO370.out).2.2 | (with_reducible refine Kd.C_alloc ?_ _) | (with_reducible refine Kd.C_drewN ?_ _) | (with_reducible refine Kd.C_drew ?_)))
          (case side6 => exact (Kd.R_reads' HO370.out).2.1)
          rintro e w125 ⟨v376, v381, v384, rfl, ho0, ho1, ho2, hb⟩
          refine ⟨_, rfl, ?_⟩
          have n0_ := Aside0.mk (Kd.R_elder' (rb_ HO_309000.out) (Kd.R_base ho0) hb)
          have n1_ := Aside0.mk (Kd.R_elder' (rb_ HO_309003.out) (Kd.R_base ho1) hb)
          have n2_ := Aside0.mk (Kd.R_elder' (rb_ HO_309004.out) (Kd.R_base ho2) hb)
          have n3_ := Aside0.mk (Kd.R_elder' (rb_ HO_321000.out) (Kd.R_base ho0) hb)
          have n4_ := Aside0.mk (Kd.R_elder' (rb_ HO_321003.out) (Kd.R_base ho1) hb)
          have n5_ := Aside0.mk (Kd.R_elder' (rb_ HO_321004.out) (Kd.R_base ho2) hb)
          have n6_ := Aside0.mk (Kd.R_elder' (rb_ HO_337000.out) (Kd.R_base ho0) hb)
          have n7_ := Aside0.mk (Kd.R_elder' (rb_ HO_337003.out) (Kd.R_base ho1) hb)
          have n8_ := Aside0.mk (Kd.R_elder' (rb_ HO_337004.out) (Kd.R_base ho2) hb)
          have n9_ := Aside0.mk (Kd.R_elder' (rb_ HO362.out) (Kd.R_base ho0) hb)
          have n10_ := Aside0.mk (Kd.R_elder' (rb_ HO367.out) (Kd.R_base ho1) hb)
          have n11_ := Aside0.mk (Kd.R_elder' (rb_ HO370.out) (Kd.R_base ho2) hb)
          have n12_ := Aside0.mk (Kd.R_lower (Kd.R_new' (Kd.R_new' (Kd.R_new' (Kd.R_new' ho0 (Kd.R_lt (rb_ HO_309000.out))) (Kd.R_lt (rb_ HO_321000.out))) (Kd.R_lt (rb_ HO_337000.out))) (Kd.R_lt (rb_ HO362.out))) (below_size z0_))
          have n13_ := Aside0.mk (Kd.R_lower (Kd.R_new' (Kd.R_new' (Kd.R_new' (Kd.R_new' ho1 (Kd.R_lt (rb_ HO_309003.out))) (Kd.R_lt (rb_ HO_321003.out))) (Kd.R_lt (rb_ HO_337003.out))) (Kd.R_lt (rb_ HO367.out))) (below_size z0_))
          have n14_ := Aside0.mk (Kd.R_lower (Kd.R_new' (Kd.R_new' (Kd.R_new' (Kd.R_new' ho2 (Kd.R_lt (rb_ HO_309004.out))) (Kd.R_lt (rb_ HO_321004.out))) (Kd.R_lt (rb_ HO_337004.out))) (Kd.R_lt (rb_ HO370.out))) (below_size z0_))
          have n15_ := Aside0.mk (blk_below (g := gb279) (o := .cells #[.slice A0_0 l0_0.length c0_0, .int .i64 a0_1, .bool a0_2, .slice A0_3 l0_3.length c0_3, .slice A0_4 l0_4.length c0_4] 59 (0, 0)) (bk_ BK279.out) hb)
          have n16_ := Aside0.mk (blk_below (g := gb280) (o := .cells #[.int .i64 a1_0, .int .i64 a1_1, .int .i64 a1_2, .int .i64 a1_3] 65 (0, 0)) (bk_ BK280.out) hb)
          have n17_ := Aside0.mk (blk_below (g := gb308) (o := .cells #[.slice Ao37 t297.length co37, .int .i64 t300, .bool t301, .slice Ao41 t302.length co41, .slice Ao43 t305.length co43] 36 (0, 0)) (bk_ BK308.out) hb)
          have n18_ := Aside0.mk (blk_below (g := gb320) (o := .cells #[.slice Ao49 t351.length co49, .int .i64 t312, .bool t313, .slice Ao54 t352.length co54, .slice Ao55 t353.length co55] 36 (0, 0)) (bk_ BK320.out) hb)
          have n19_ := Aside0.mk (blk_below (g := gb336) (o := .cells #[.slice Ao62 t325.length co62, .int .i64 t328, .bool t329, .slice Ao66 t330.length co66, .slice Ao68 t333.length co68] 36 (0, 0)) (bk_ BK336.out) hb)
          have n20_ := Aside0.mk (below_step z0_ hb)
          clear HO_309000 HO_309003 HO_309004 HO_321000 HO_321003 HO_321004 HO_337000 HO_337003 HO_337004 HO362 HO367 HO370 BK279 BK280 BK308 BK320 BK336 HB
          have HO_309000 := n0_
          have HO_309003 := n1_
          have HO_309004 := n2_
          have HO_321000 := n3_
          have HO_321003 := n4_
          have HO_321004 := n5_
          have HO_337000 := n6_
          have HO_337003 := n7_
          have HO_337004 := n8_
          have HO362 := n9_
          have HO367 := n10_
          have HO370 := n11_
          have HO377 := n12_
          have HO382 := n13_
          have HO385 := n14_
          have BK279 := n15_
          have BK280 := n16_
          have BK308 := n17_
          have BK320 := n18_
          have BK336 := n19_
          have HB := n20_
          clear n0_ n1_ n2_ n3_ n4_ n5_ n6_ n7_ n8_ n9_ n10_ n11_ n12_ n13_ n14_ n15_ n16_ n17_ n18_ n19_ n20_
          (try clear hb)
          (try clear hb2)
          (try clear hk)
          (try clear hi)
          (try clear ho0)
          (try clear ho1)
          (try clear ho2)
          refine hK.out _ _ ⟨(blk_cell BK279.out 0).trans rfl, (blk_cell BK279.out 1).trans rfl, (blk_cell BK279.out 2).trans rfl, (blk_cell BK279.out 3).trans rfl, (blk_cell BK279.out 4).trans rfl, (blk_cell BK280.out 0).trans rfl, (blk_cell BK280.out 1).trans rfl, (blk_cell BK280.out 2).trans rfl, (blk_cell BK280.out 3).trans rfl⟩ (fun hHeld => ?_)
          clear hK K
          refine norm_ (a' := ?_) ?_ ?_
          rotate_left
          ·
           show Act.put _ (some 64) _ = _
           simp only [Act.put, List.setIfInBounds_toArray, List.set_cons_zero, List.set_cons_succ, i64_w, i32_w]
           rfl
          refine one_ (i := 5) (N := some 12) #[true, true, true, true, true, true, false] rfl rfl (by kernel_rfl) (by decide) (fun K hK => ?_)
          refine box_step ?hg (N := 12) ?hd (cs := #[.slice none 0 0, .int .i64 0, .bool false, .slice none 0 0, .slice none 0 0]) (t := 36) ?hr ?_; (case hd => rfl); (case hg => rfl); (case hr => first | (go_simp; done) | (go_simp; rfl))
          intro gb386 hg w126 hbox hb
          have n0_ := Aside0.mk (Kd.R_below (rb_ HO_309000.out) hb)
          have n1_ := Aside0.mk (Kd.R_below (rb_ HO_309003.out) hb)
          have n2_ := Aside0.mk (Kd.R_below (rb_ HO_309004.out) hb)
          have n3_ := Aside0.mk (Kd.R_below (rb_ HO_321000.out) hb)
          have n4_ := Aside0.mk (Kd.R_below (rb_ HO_321003.out) hb)
          have n5_ := Aside0.mk (Kd.R_below (rb_ HO_321004.out) hb)
          have n6_ := Aside0.mk (Kd.R_below (rb_ HO_337000.out) hb)
          have n7_ := Aside0.mk (Kd.R_below (rb_ HO_337003.out) hb)
          have n8_ := Aside0.mk (Kd.R_below (rb_ HO_337004.out) hb)
          have n9_ := Aside0.mk (Kd.R_below (rb_ HO362.out) hb)
          have n10_ := Aside0.mk (Kd.R_below (rb_ HO367.out) hb)
          have n11_ := Aside0.mk (Kd.R_below (rb_ HO370.out) hb)
          have n12_ := Aside0.mk (Kd.R_below (rb_ HO377.out) hb)
          have n13_ := Aside0.mk (Kd.R_below (rb_ HO382.out) hb)
          have n14_ := Aside0.mk (Kd.R_below (rb_ HO385.out) hb)
          have n15_ := Aside0.mk (blk_below (g := gb279) (o := .cells #[.slice A0_0 l0_0.length c0_0, .int .i64 a0_1, .bool a0_2, .slice A0_3 l0_3.length c0_3, .slice A0_4 l0_4.length c0_4] 59 (0, 0)) (bk_ BK279.out) hb)
          have n16_ := Aside0.mk (blk_below (g := gb280) (o := .cells #[.int .i64 a1_0, .int .i64 a1_1, .int .i64 a1_2, .int .i64 a1_3] 65 (0, 0)) (bk_ BK280.out) hb)
          have n17_ := Aside0.mk (blk_below (g := gb308) (o := .cells #[.slice Ao37 t297.length co37, .int .i64 t300, .bool t301, .slice Ao41 t302.length co41, .slice Ao43 t305.length co43] 36 (0, 0)) (bk_ BK308.out) hb)
          have n18_ := Aside0.mk (blk_below (g := gb320) (o := .cells #[.slice Ao49 t351.length co49, .int .i64 t312, .bool t313, .slice Ao54 t352.length co54, .slice Ao55 t353.length co55] 36 (0, 0)) (bk_ BK320.out) hb)
          have n19_ := Aside0.mk (blk_below (g := gb336) (o := .cells #[.slice Ao62 t325.length co62, .int .i64 t328, .bool t329, .slice Ao66 t330.length co66, .slice Ao68 t333.length co68] 36 (0, 0)) (bk_ BK336.out) hb)
          have n20_ := Aside0.mk (below_step z0_ hb)
          have n21_ := Aside0.mk (hbox)
          have n22_ := Aside0.mk ((by rw [hg]; exact (below_size z0_) : w.heap.size ≤ gb386))
          have n23_ := Aside0.mk ((by rw [hg]; exact (below_size z0_) : w.heap.size ≤ gb386))
          have n24_ := Aside0.mk ((z6_ : gb279 ≠ gb386))
          have n25_ := Aside0.mk ((z7_ : gb386 ≠ gb279))
          have n26_ := Aside0.mk ((z8_ : gb280 ≠ gb386))
          have n27_ := Aside0.mk ((z9_ : gb386 ≠ gb280))
          have n28_ := Aside0.mk ((z10_ : gb308 ≠ gb386))
          have n29_ := Aside0.mk ((z11_ : gb386 ≠ gb308))
          have n30_ := Aside0.mk ((z14_ : gb320 ≠ gb386))
          have n31_ := Aside0.mk ((z15_ : gb386 ≠ gb320))
          have n32_ := Aside0.mk ((z16_ : gb336 ≠ gb386))
          have n33_ := Aside0.mk ((z17_ : gb386 ≠ gb336))
          clear HO_309000 HO_309003 HO_309004 HO_321000 HO_321003 HO_321004 HO_337000 HO_337003 HO_337004 HO362 HO367 HO370 HO377 HO382 HO385 BK279 BK280 BK308 BK320 BK336 HB
          have HO_309000 := n0_
          have HO_309003 := n1_
          have HO_309004 := n2_
          have HO_321000 := n3_
          have HO_321003 := n4_
          have HO_321004 := n5_
          have HO_337000 := n6_
          have HO_337003 := n7_
          have HO_337004 := n8_
          have HO362 := n9_
          have HO367 := n10_
          have HO370 := n11_
          have HO377 := n12_
          have HO382 := n13_
          have HO385 := n14_
          have BK279 := n15_
          have BK280 := n16_
          have BK308 := n17_
          have BK320 := n18_
          have BK336 := n19_
          have HB := n20_
          have BK386 := n21_
          have GW386 := n22_
          have GE386 := n23_
          have NB279_386 := n24_
          have NB386_279 := n25_
          have NB280_386 := n26_
          have NB386_280 := n27_
          have NB308_386 := n28_
          have NB386_308 := n29_
          have NB320_386 := n30_
          have NB386_320 := n31_
          have NB336_386 := n32_
          have NB386_336 := n33_
          clear n0_ n1_ n2_ n3_ n4_ n5_ n6_ n7_ n8_ n9_ n10_ n11_ n12_ n13_ n14_ n15_ n16_ n17_ n18_ n19_ n20_ n21_ n22_ n23_ n24_ n25_ n26_ n27_ n28_ n29_ n30_ n31_ n32_ n33_ hb hbox hg
          refine hK.out _ _ ⟨(blk_cell BK279.out 0).trans rfl, (blk_cell BK279.out 1).trans rfl, (blk_cell BK279.out 2).trans rfl, (blk_cell BK279.out 3).trans rfl, (blk_cell BK279.out 4).trans rfl, (blk_cell BK280.out 0).trans rfl, (blk_cell BK280.out 1).trans rfl, (blk_cell BK280.out 2).trans rfl, (blk_cell BK280.out 3).trans rfl⟩ (fun hHeld => ?_)
          clear hK K
          refine norm_ (a' := ?_) ?_ ?_
          rotate_left
          ·
           show Act.put _ (some 12) _ = _
           simp only [Act.put, List.setIfInBounds_toArray, List.set_cons_zero, List.set_cons_succ, i64_w, i32_w]
           rfl
          exact norm_ (by simp only [putAll, Act.put, List.setIfInBounds_toArray, List.set_cons_zero, List.set_cons_succ]) (hCont (.slice Ao122 t360.length co122, .slice Ao123 t365.length co123, .slice Ao124 t368.length co124, v376, v381, v384, gb386) _ ⟨hHeld, z45_, z46_, z47_, z48_, z49_, z50_, z36_, z37_, z38_, z39_, z40_, z41_, z42_, z43_, z44_, bk_ BK279.out, bk_ BK280.out, bk_ BK308.out, bk_ BK320.out, bk_ BK336.out, bk_ BK386.out, GW386.out, GE386.out, NB279_386.out, NB386_279.out, NB280_386.out, NB386_280.out, NB308_386.out, NB386_308.out, NB320_386.out, NB386_320.out, NB336_386.out, NB386_336.out, z1_⟩)
         ·
          skip
          refine box_step ?hg (N := 12) ?hd (cs := #[.slice none 0 0, .int .i64 0, .bool false, .slice none 0 0, .slice none 0 0]) (t := 36) ?hr ?_; (case hd => rfl); (case hg => rfl); (case hr => first | (go_simp; done) | (go_simp; rfl))
          intro gb386 hg w122 hbox hb
          have n0_ := Aside0.mk (Kd.R_below (rb_ HO_309000.out) hb)
          have n1_ := Aside0.mk (Kd.R_below (rb_ HO_309003.out) hb)
          have n2_ := Aside0.mk (Kd.R_below (rb_ HO_309004.out) hb)
          have n3_ := Aside0.mk (Kd.R_below (rb_ HO_321000.out) hb)
          have n4_ := Aside0.mk (Kd.R_below (rb_ HO_321003.out) hb)
          have n5_ := Aside0.mk (Kd.R_below (rb_ HO_321004.out) hb)
          have n6_ := Aside0.mk (Kd.R_below (rb_ HO_337000.out) hb)
          have n7_ := Aside0.mk (Kd.R_below (rb_ HO_337003.out) hb)
          have n8_ := Aside0.mk (Kd.R_below (rb_ HO_337004.out) hb)
          have n9_ := Aside0.mk (Kd.R_below (rb_ HO362.out) hb)
          have n10_ := Aside0.mk (Kd.R_below (rb_ HO367.out) hb)
          have n11_ := Aside0.mk (Kd.R_below (rb_ HO370.out) hb)
          have n12_ := Aside0.mk (blk_below (g := gb279) (o := .cells #[.slice A0_0 l0_0.length c0_0, .int .i64 a0_1, .bool a0_2, .slice A0_3 l0_3.length c0_3, .slice A0_4 l0_4.length c0_4] 59 (0, 0)) (bk_ BK279.out) hb)
          have n13_ := Aside0.mk (blk_below (g := gb280) (o := .cells #[.int .i64 a1_0, .int .i64 a1_1, .int .i64 a1_2, .int .i64 a1_3] 65 (0, 0)) (bk_ BK280.out) hb)
          have n14_ := Aside0.mk (blk_below (g := gb308) (o := .cells #[.slice Ao37 t297.length co37, .int .i64 t300, .bool t301, .slice Ao41 t302.length co41, .slice Ao43 t305.length co43] 36 (0, 0)) (bk_ BK308.out) hb)
          have n15_ := Aside0.mk (blk_below (g := gb320) (o := .cells #[.slice Ao49 t351.length co49, .int .i64 t312, .bool t313, .slice Ao54 t352.length co54, .slice Ao55 t353.length co55] 36 (0, 0)) (bk_ BK320.out) hb)
          have n16_ := Aside0.mk (blk_below (g := gb336) (o := .cells #[.slice Ao62 t325.length co62, .int .i64 t328, .bool t329, .slice Ao66 t330.length co66, .slice Ao68 t333.length co68] 36 (0, 0)) (bk_ BK336.out) hb)
          have n17_ := Aside0.mk (below_step z0_ hb)
          have n18_ := Aside0.mk (hbox)
          have n19_ := Aside0.mk ((by rw [hg]; exact (below_size z0_) : w.heap.size ≤ gb386))
          have n20_ := Aside0.mk ((by rw [hg]; exact (below_size z0_) : w.heap.size ≤ gb386))
          have n21_ := Aside0.mk ((z6_ : gb279 ≠ gb386))
          have n22_ := Aside0.mk ((z7_ : gb386 ≠ gb279))
          have n23_ := Aside0.mk ((z8_ : gb280 ≠ gb386))
          have n24_ := Aside0.mk ((z9_ : gb386 ≠ gb280))
          have n25_ := Aside0.mk ((z10_ : gb308 ≠ gb386))
          have n26_ := Aside0.mk ((z11_ : gb386 ≠ gb308))
          have n27_ := Aside0.mk ((z14_ : gb320 ≠ gb386))
          have n28_ := Aside0.mk ((z15_ : gb386 ≠ gb320))
          have n29_ := Aside0.mk ((z16_ : gb336 ≠ gb386))
          have n30_ := Aside0.mk ((z17_ : gb386 ≠ gb336))
          clear HO_309000 HO_309003 HO_309004 HO_321000 HO_321003 HO_321004 HO_337000 HO_337003 HO_337004 HO362 HO367 HO370 BK279 BK280 BK308 BK320 BK336 HB
          have HO_309000 := n0_
          have HO_309003 := n1_
          have HO_309004 := n2_
          have HO_321000 := n3_
          have HO_321003 := n4_
          have HO_321004 := n5_
          have HO_337000 := n6_
          have HO_337003 := n7_
          have HO_337004 := n8_
          have HO362 := n9_
          have HO367 := n10_
          have HO370 := n11_
          have BK279 := n12_
          have BK280 := n13_
          have BK308 := n14_
          have BK320 := n15_
          have BK336 := n16_
          have HB := n17_
          have BK386 := n18_
          have GW386 := n19_
          have GE386 := n20_
          have NB279_386 := n21_
          have NB386_279 := n22_
          have NB280_386 := n23_
          have NB386_280 := n24_
          have NB308_386 := n25_
          have NB386_308 := n26_
          have NB320_386 := n27_
          have NB386_320 := n28_
          have NB336_386 := n29_
          have NB386_336 := n30_
          clear n0_ n1_ n2_ n3_ n4_ n5_ n6_ n7_ n8_ n9_ n10_ n11_ n12_ n13_ n14_ n15_ n16_ n17_ n18_ n19_ n20_ n21_ n22_ n23_ n24_ n25_ n26_ n27_ n28_ n29_ n30_ hb hbox hg
          obtain ⟨Ao123, co123, eo123⟩ := Kd.R_slice HO362.out
          (first | subst eo123 | (injection eo123 with f1_ f2_ f3_; have f4_ := f1_.symm; have f5_ := f3_.symm; clear f1_ f2_ f3_; subst f4_; subst f5_))
          obtain ⟨Ao124, co124, eo124⟩ := Kd.R_slice HO367.out
          (first | subst eo124 | (injection eo124 with f1_ f2_ f3_; have f4_ := f1_.symm; have f5_ := f3_.symm; clear f1_ f2_ f3_; subst f4_; subst f5_))
          obtain ⟨Ao125, co125, eo125⟩ := Kd.R_slice HO370.out
          (first | subst eo125 | (injection eo125 with f1_ f2_ f3_; have f4_ := f1_.symm; have f5_ := f3_.symm; clear f1_ f2_ f3_; subst f4_; subst f5_))
          refine hK.out _ _ ⟨(blk_cell BK279.out 0).trans rfl, (blk_cell BK279.out 1).trans rfl, (blk_cell BK279.out 2).trans rfl, (blk_cell BK279.out 3).trans rfl, (blk_cell BK279.out 4).trans rfl, (blk_cell BK280.out 0).trans rfl, (blk_cell BK280.out 1).trans rfl, (blk_cell BK280.out 2).trans rfl, (blk_cell BK280.out 3).trans rfl⟩ (fun hHeld => ?_)
          clear hK K
          refine norm_ (a' := ?_) ?_ ?_
          rotate_left
          ·
           show Act.put _ (some 12) _ = _
           simp only [Act.put, List.setIfInBounds_toArray, List.set_cons_zero, List.set_cons_succ, i64_w, i32_w]
           rfl
          refine one_ (i := 4) (N := some 64) #[true, true, true, true, true, true, false] rfl rfl (by kernel_rfl) (by decide) (fun K hK => ?_)
          refine goes_ Try.func47 (by kernel_rfl) rfl #[.agg #[.slice Ao123 t360.length co123, .int .i64 t363, .bool t364, .slice Ao124 t365.length co124, .slice Ao125 t368.length co125], .agg #[.int .i64 t371, .int .i64 t372, .int .i64 t373, .int .i64 t374]] (by rfl) rfl rfl z4_ ?_
          with_reducible refine (impl_Swap.calls _ _ t360 t363 t364 _ _ t365 _ _ t368 t371 t372 t373 t374 t375 t378 t379 t380 t383 _ ?side1 ?side2 ?side3 ?side4 ?side5 ?side6 A105.out).mono ?_
          (case side1 => repeat (first | exact (Kd.R_reads' HO362.out).2.2 | (with_reducible refine Kd.C_alloc ?_ _) | (with_reducible refine Kd.C_drewN ?_ _) | (with_reducible refine Kd.C_drew ?_)))
          (case side2 => exact (Kd.R_reads' HO362.out).2.1)
          (case side3 => repeat (first | exact (Kd.R_reads' HO367.out).2.2 | (with_reducible refine Kd.C_alloc ?_ _) | (with_reducible refine Kd.C_drewN ?_ _) | (with_reducible refine Kd.C_drew ?_)))
          (case side4 => exact (Kd.R_reads' HO367.out).2.1)
          (case side5 => repeat (first | exact (Kd.R_reads' HO370.out).2.2 | (with_reducible refine Kd.C_alloc ?_ _) | (with_reducible refine Kd.C_drewN ?_ _) | (with_reducible refine Kd.C_drew ?_)))
          (case side6 => exact (Kd.R_reads' HO370.out).2.1)
          rintro e w126 ⟨v376, v381, v384, rfl, ho0, ho1, ho2, hb⟩
          refine ⟨_, rfl, ?_⟩
          have n0_ := Aside0.mk (Kd.R_elder' (rb_ HO_309000.out) (Kd.R_base ho0) hb)
          have n1_ := Aside0.mk (Kd.R_elder' (rb_ HO_309003.out) (Kd.R_base ho1) hb)
          have n2_ := Aside0.mk (Kd.R_elder' (rb_ HO_309004.out) (Kd.R_base ho2) hb)
          have n3_ := Aside0.mk (Kd.R_elder' (rb_ HO_321000.out) (Kd.R_base ho0) hb)
          have n4_ := Aside0.mk (Kd.R_elder' (rb_ HO_321003.out) (Kd.R_base ho1) hb)
          have n5_ := Aside0.mk (Kd.R_elder' (rb_ HO_321004.out) (Kd.R_base ho2) hb)
          have n6_ := Aside0.mk (Kd.R_elder' (rb_ HO_337000.out) (Kd.R_base ho0) hb)
          have n7_ := Aside0.mk (Kd.R_elder' (rb_ HO_337003.out) (Kd.R_base ho1) hb)
          have n8_ := Aside0.mk (Kd.R_elder' (rb_ HO_337004.out) (Kd.R_base ho2) hb)
          have n9_ := Aside0.mk (Kd.R_elder' (rb_ HO362.out) (Kd.R_base ho0) hb)
          have n10_ := Aside0.mk (Kd.R_elder' (rb_ HO367.out) (Kd.R_base ho1) hb)
          have n11_ := Aside0.mk (Kd.R_elder' (rb_ HO370.out) (Kd.R_base ho2) hb)
          have n12_ := Aside0.mk (Kd.R_lower (Kd.R_new' (Kd.R_new' (Kd.R_new' (Kd.R_new' ho0 (Kd.R_lt (rb_ HO_309000.out))) (Kd.R_lt (rb_ HO_321000.out))) (Kd.R_lt (rb_ HO_337000.out))) (Kd.R_lt (rb_ HO362.out))) (below_size z1_))
          have n13_ := Aside0.mk (Kd.R_lower (Kd.R_new' (Kd.R_new' (Kd.R_new' (Kd.R_new' ho1 (Kd.R_lt (rb_ HO_309003.out))) (Kd.R_lt (rb_ HO_321003.out))) (Kd.R_lt (rb_ HO_337003.out))) (Kd.R_lt (rb_ HO367.out))) (below_size z1_))
          have n14_ := Aside0.mk (Kd.R_lower (Kd.R_new' (Kd.R_new' (Kd.R_new' (Kd.R_new' ho2 (Kd.R_lt (rb_ HO_309004.out))) (Kd.R_lt (rb_ HO_321004.out))) (Kd.R_lt (rb_ HO_337004.out))) (Kd.R_lt (rb_ HO370.out))) (below_size z1_))
          have n15_ := Aside0.mk (blk_below (g := gb279) (o := .cells #[.slice A0_0 l0_0.length c0_0, .int .i64 a0_1, .bool a0_2, .slice A0_3 l0_3.length c0_3, .slice A0_4 l0_4.length c0_4] 59 (0, 0)) (bk_ BK279.out) hb)
          have n16_ := Aside0.mk (blk_below (g := gb280) (o := .cells #[.int .i64 a1_0, .int .i64 a1_1, .int .i64 a1_2, .int .i64 a1_3] 65 (0, 0)) (bk_ BK280.out) hb)
          have n17_ := Aside0.mk (blk_below (g := gb308) (o := .cells #[.slice Ao37 t297.length co37, .int .i64 t300, .bool t301, .slice Ao41 t302.length co41, .slice Ao43 t305.length co43] 36 (0, 0)) (bk_ BK308.out) hb)
          have n18_ := Aside0.mk (blk_below (g := gb320) (o := .cells #[.slice Ao49 t351.length co49, .int .i64 t312, .bool t313, .slice Ao54 t352.length co54, .slice Ao55 t353.length co55] 36 (0, 0)) (bk_ BK320.out) hb)
          have n19_ := Aside0.mk (blk_below (g := gb336) (o := .cells #[.slice Ao62 t325.length co62, .int .i64 t328, .bool t329, .slice Ao66 t330.length co66, .slice Ao68 t333.length co68] 36 (0, 0)) (bk_ BK336.out) hb)
          have n20_ := Aside0.mk (blk_below (g := gb386) (o := .cells #[.slice none 0 0, .int .i64 0, .bool false, .slice none 0 0, .slice none 0 0] 36 (0, 0)) (bk_ BK386.out) hb)
          have n21_ := Aside0.mk (below_step z1_ hb)
          clear HO_309000 HO_309003 HO_309004 HO_321000 HO_321003 HO_321004 HO_337000 HO_337003 HO_337004 HO362 HO367 HO370 BK279 BK280 BK308 BK320 BK336 BK386 HB
          have HO_309000 := n0_
          have HO_309003 := n1_
          have HO_309004 := n2_
          have HO_321000 := n3_
          have HO_321003 := n4_
          have HO_321004 := n5_
          have HO_337000 := n6_
          have HO_337003 := n7_
          have HO_337004 := n8_
          have HO362 := n9_
          have HO367 := n10_
          have HO370 := n11_
          have HO377 := n12_
          have HO382 := n13_
          have HO385 := n14_
          have BK279 := n15_
          have BK280 := n16_
          have BK308 := n17_
          have BK320 := n18_
          have BK336 := n19_
          have BK386 := n20_
          have HB := n21_
          clear n0_ n1_ n2_ n3_ n4_ n5_ n6_ n7_ n8_ n9_ n10_ n11_ n12_ n13_ n14_ n15_ n16_ n17_ n18_ n19_ n20_ n21_
          (try clear hb)
          (try clear hb2)
          (try clear hk)
          (try clear hi)
          (try clear ho0)
          (try clear ho1)
          (try clear ho2)
          refine hK.out _ _ ⟨(blk_cell BK279.out 0).trans rfl, (blk_cell BK279.out 1).trans rfl, (blk_cell BK279.out 2).trans rfl, (blk_cell BK279.out 3).trans rfl, (blk_cell BK279.out 4).trans rfl, (blk_cell BK280.out 0).trans rfl, (blk_cell BK280.out 1).trans rfl, (blk_cell BK280.out 2).trans rfl, (blk_cell BK280.out 3).trans rfl⟩ (fun hHeld => ?_)
          clear hK K
          refine norm_ (a' := ?_) ?_ ?_
          rotate_left
          ·
           show Act.put _ (some 64) _ = _
           simp only [Act.put, List.setIfInBounds_toArray, List.set_cons_zero, List.set_cons_succ, i64_w, i32_w]
           rfl
          exact norm_ (by simp only [putAll, Act.put, List.setIfInBounds_toArray, List.set_cons_zero, List.set_cons_succ]) (hCont (.slice Ao123 t360.length co123, .slice Ao124 t365.length co124, .slice Ao125 t368.length co125, v376, v381, v384, gb386) _ ⟨hHeld, z45_, z46_, z47_, z48_, z49_, z50_, z36_, z37_, z38_, z39_, z40_, z41_, z42_, z43_, z44_, bk_ BK279.out, bk_ BK280.out, bk_ BK308.out, bk_ BK320.out, bk_ BK336.out, bk_ BK386.out, GW386.out, GE386.out, NB279_386.out, NB386_279.out, NB280_386.out, NB386_280.out, NB308_386.out, NB386_308.out, NB320_386.out, NB386_320.out, NB336_386.out, NB386_336.out, z1_⟩)
        ·
         skip
         refine box_step ?hg (N := 12) ?hd (cs := #[.slice none 0 0, .int .i64 0, .bool false, .slice none 0 0, .slice none 0 0]) (t := 36) ?hr ?_; (case hd => rfl); (case hg => rfl); (case hr => first | (go_simp; done) | (go_simp; rfl))
         intro gb386 hg w121 hbox hb
         have n0_ := Aside0.mk (Kd.R_below (rb_ HO_309000.out) hb)
         have n1_ := Aside0.mk (Kd.R_below (rb_ HO_309003.out) hb)
         have n2_ := Aside0.mk (Kd.R_below (rb_ HO_309004.out) hb)
         have n3_ := Aside0.mk (Kd.R_below (rb_ HO_321000.out) hb)
         have n4_ := Aside0.mk (Kd.R_below (rb_ HO_321003.out) hb)
         have n5_ := Aside0.mk (Kd.R_below (rb_ HO_321004.out) hb)
         have n6_ := Aside0.mk (Kd.R_below (rb_ HO_337000.out) hb)
         have n7_ := Aside0.mk (Kd.R_below (rb_ HO_337003.out) hb)
         have n8_ := Aside0.mk (Kd.R_below (rb_ HO_337004.out) hb)
         have n9_ := Aside0.mk (Kd.R_below (rb_ HO362.out) hb)
         have n10_ := Aside0.mk (Kd.R_below (rb_ HO367.out) hb)
         have n11_ := Aside0.mk (Kd.R_below (rb_ HO370.out) hb)
         have n12_ := Aside0.mk (blk_below (g := gb279) (o := .cells #[.slice A0_0 l0_0.length c0_0, .int .i64 a0_1, .bool a0_2, .slice A0_3 l0_3.length c0_3, .slice A0_4 l0_4.length c0_4] 59 (0, 0)) (bk_ BK279.out) hb)
         have n13_ := Aside0.mk (blk_below (g := gb280) (o := .cells #[.int .i64 a1_0, .int .i64 a1_1, .int .i64 a1_2, .int .i64 a1_3] 65 (0, 0)) (bk_ BK280.out) hb)
         have n14_ := Aside0.mk (blk_below (g := gb308) (o := .cells #[.slice Ao37 t297.length co37, .int .i64 t300, .bool t301, .slice Ao41 t302.length co41, .slice Ao43 t305.length co43] 36 (0, 0)) (bk_ BK308.out) hb)
         have n15_ := Aside0.mk (blk_below (g := gb320) (o := .cells #[.slice Ao49 t351.length co49, .int .i64 t312, .bool t313, .slice Ao54 t352.length co54, .slice Ao55 t353.length co55] 36 (0, 0)) (bk_ BK320.out) hb)
         have n16_ := Aside0.mk (blk_below (g := gb336) (o := .cells #[.slice Ao62 t325.length co62, .int .i64 t328, .bool t329, .slice Ao66 t330.length co66, .slice Ao68 t333.length co68] 36 (0, 0)) (bk_ BK336.out) hb)
         have n17_ := Aside0.mk (below_step z0_ hb)
         have n18_ := Aside0.mk (hbox)
         have n19_ := Aside0.mk ((by rw [hg]; exact (below_size z0_) : w.heap.size ≤ gb386))
         have n20_ := Aside0.mk ((by rw [hg]; exact (below_size z0_) : w.heap.size ≤ gb386))
         have n21_ := Aside0.mk ((z6_ : gb279 ≠ gb386))
         have n22_ := Aside0.mk ((z7_ : gb386 ≠ gb279))
         have n23_ := Aside0.mk ((z8_ : gb280 ≠ gb386))
         have n24_ := Aside0.mk ((z9_ : gb386 ≠ gb280))
         have n25_ := Aside0.mk ((z10_ : gb308 ≠ gb386))
         have n26_ := Aside0.mk ((z11_ : gb386 ≠ gb308))
         have n27_ := Aside0.mk ((z14_ : gb320 ≠ gb386))
         have n28_ := Aside0.mk ((z15_ : gb386 ≠ gb320))
         have n29_ := Aside0.mk ((z16_ : gb336 ≠ gb386))
         have n30_ := Aside0.mk ((z17_ : gb386 ≠ gb336))
         clear HO_309000 HO_309003 HO_309004 HO_321000 HO_321003 HO_321004 HO_337000 HO_337003 HO_337004 HO362 HO367 HO370 BK279 BK280 BK308 BK320 BK336 HB
         have HO_309000 := n0_
         have HO_309003 := n1_
         have HO_309004 := n2_
         have HO_321000 := n3_
         have HO_321003 := n4_
         have HO_321004 := n5_
         have HO_337000 := n6_
         have HO_337003 := n7_
         have HO_337004 := n8_
         have HO362 := n9_
         have HO367 := n10_
         have HO370 := n11_
         have BK279 := n12_
         have BK280 := n13_
         have BK308 := n14_
         have BK320 := n15_
         have BK336 := n16_
         have HB := n17_
         have BK386 := n18_
         have GW386 := n19_
         have GE386 := n20_
         have NB279_386 := n21_
         have NB386_279 := n22_
         have NB280_386 := n23_
         have NB386_280 := n24_
         have NB308_386 := n25_
         have NB386_308 := n26_
         have NB320_386 := n27_
         have NB386_320 := n28_
         have NB336_386 := n29_
         have NB386_336 := n30_
         clear n0_ n1_ n2_ n3_ n4_ n5_ n6_ n7_ n8_ n9_ n10_ n11_ n12_ n13_ n14_ n15_ n16_ n17_ n18_ n19_ n20_ n21_ n22_ n23_ n24_ n25_ n26_ n27_ n28_ n29_ n30_ hb hbox hg
         refine hK.out _ _ ⟨(blk_cell BK279.out 0).trans rfl, (blk_cell BK279.out 1).trans rfl, (blk_cell BK279.out 2).trans rfl, (blk_cell BK279.out 3).trans rfl, (blk_cell BK279.out 4).trans rfl, (blk_cell BK280.out 0).trans rfl, (blk_cell BK280.out 1).trans rfl, (blk_cell BK280.out 2).trans rfl, (blk_cell BK280.out 3).trans rfl⟩ (fun hHeld => ?_)
         clear hK K
         refine norm_ (a' := ?_) ?_ ?_
         rotate_left
         ·
          show Act.put _ (some 12) _ = _
          simp only [Act.put, List.setIfInBounds_toArray, List.set_cons_zero, List.set_cons_succ, i64_w, i32_w]
          rfl
         refine one_ (i := 3) (N := some 63) #[true, true, true, true, false, true, false] rfl rfl (by kernel_rfl) (by decide) (fun K hK => ?_)
         refine goes_ Try.func42 (by kernel_rfl) rfl #[.agg #[.int .i64 a1_0, .int .i64 a1_1, .int .i64 a1_2, .int .i64 a1_3]] (by rfl) rfl rfl z4_ ?_
         with_reducible refine (laws_toHelp.calls a1_0 a1_1 a1_2 a1_3 t371 t372 t373 t374 _ A104.out).mono ?_
         rintro e w122 ⟨rfl, hb⟩
         refine ⟨_, rfl, ?_⟩
         have n0_ := Aside0.mk (Kd.R_below (rb_ HO_309000.out) hb)
         have n1_ := Aside0.mk (Kd.R_below (rb_ HO_309003.out) hb)
         have n2_ := Aside0.mk (Kd.R_below (rb_ HO_309004.out) hb)
         have n3_ := Aside0.mk (Kd.R_below (rb_ HO_321000.out) hb)
         have n4_ := Aside0.mk (Kd.R_below (rb_ HO_321003.out) hb)
         have n5_ := Aside0.mk (Kd.R_below (rb_ HO_321004.out) hb)
         have n6_ := Aside0.mk (Kd.R_below (rb_ HO_337000.out) hb)
         have n7_ := Aside0.mk (Kd.R_below (rb_ HO_337003.out) hb)
         have n8_ := Aside0.mk (Kd.R_below (rb_ HO_337004.out) hb)
         have n9_ := Aside0.mk (Kd.R_below (rb_ HO362.out) hb)
         have n10_ := Aside0.mk (Kd.R_below (rb_ HO367.out) hb)
         have n11_ := Aside0.mk (Kd.R_below (rb_ HO370.out) hb)
         have n12_ := Aside0.mk (blk_below (g := gb279) (o := .cells #[.slice A0_0 l0_0.length c0_0, .int .i64 a0_1, .bool a0_2, .slice A0_3 l0_3.length c0_3, .slice A0_4 l0_4.length c0_4] 59 (0, 0)) (bk_ BK279.out) hb)
         have n13_ := Aside0.mk (blk_below (g := gb280) (o := .cells #[.int .i64 a1_0, .int .i64 a1_1, .int .i64 a1_2, .int .i64 a1_3] 65 (0, 0)) (bk_ BK280.out) hb)
         have n14_ := Aside0.mk (blk_below (g := gb308) (o := .cells #[.slice Ao37 t297.length co37, .int .i64 t300, .bool t301, .slice Ao41 t302.length co41, .slice Ao43 t305.length co43] 36 (0, 0)) (bk_ BK308.out) hb)
         have n15_ := Aside0.mk (blk_below (g := gb320) (o := .cells #[.slice Ao49 t351.length co49, .int .i64 t312, .bool t313, .slice Ao54 t352.length co54, .slice Ao55 t353.length co55] 36 (0, 0)) (bk_ BK320.out) hb)
         have n16_ := Aside0.mk (blk_below (g := gb336) (o := .cells #[.slice Ao62 t325.length co62, .int .i64 t328, .bool t329, .slice Ao66 t330.length co66, .slice Ao68 t333.length co68] 36 (0, 0)) (bk_ BK336.out) hb)
         have n17_ := Aside0.mk (blk_below (g := gb386) (o := .cells #[.slice none 0 0, .int .i64 0, .bool false, .slice none 0 0, .slice none 0 0] 36 (0, 0)) (bk_ BK386.out) hb)
         have n18_ := Aside0.mk (below_step z1_ hb)
         clear HO_309000 HO_309003 HO_309004 HO_321000 HO_321003 HO_321004 HO_337000 HO_337003 HO_337004 HO362 HO367 HO370 BK279 BK280 BK308 BK320 BK336 BK386 HB
         have HO_309000 := n0_
         have HO_309003 := n1_
         have HO_309004 := n2_
         have HO_321000 := n3_
         have HO_321003 := n4_
         have HO_321004 := n5_
         have HO_337000 := n6_
         have HO_337003 := n7_
         have HO_337004 := n8_
         have HO362 := n9_
         have HO367 := n10_
         have HO370 := n11_
         have BK279 := n12_
         have BK280 := n13_
         have BK308 := n14_
         have BK320 := n15_
         have BK336 := n16_
         have BK386 := n17_
         have HB := n18_
         clear n0_ n1_ n2_ n3_ n4_ n5_ n6_ n7_ n8_ n9_ n10_ n11_ n12_ n13_ n14_ n15_ n16_ n17_ n18_
         (try clear hb)
         (try clear hb2)
         (try clear hk)
         (try clear hi)
         obtain ⟨Ao123, co123, eo123⟩ := Kd.R_slice HO362.out
         (first | subst eo123 | (injection eo123 with f1_ f2_ f3_; have f4_ := f1_.symm; have f5_ := f3_.symm; clear f1_ f2_ f3_; subst f4_; subst f5_))
         obtain ⟨Ao124, co124, eo124⟩ := Kd.R_slice HO367.out
         (first | subst eo124 | (injection eo124 with f1_ f2_ f3_; have f4_ := f1_.symm; have f5_ := f3_.symm; clear f1_ f2_ f3_; subst f4_; subst f5_))
         obtain ⟨Ao125, co125, eo125⟩ := Kd.R_slice HO370.out
         (first | subst eo125 | (injection eo125 with f1_ f2_ f3_; have f4_ := f1_.symm; have f5_ := f3_.symm; clear f1_ f2_ f3_; subst f4_; subst f5_))
         refine hK.out _ _ ⟨(blk_cell BK279.out 0).trans rfl, (blk_cell BK279.out 1).trans rfl, (blk_cell BK279.out 2).trans rfl, (blk_cell BK279.out 3).trans rfl, (blk_cell BK279.out 4).trans rfl, (blk_cell BK280.out 0).trans rfl, (blk_cell BK280.out 1).trans rfl, (blk_cell BK280.out 2).trans rfl, (blk_cell BK280.out 3).trans rfl⟩ (fun hHeld => ?_)
         clear hK K
         refine norm_ (a' := ?_) ?_ ?_
         rotate_left
         ·
          show Act.put _ (some 63) _ = _
          simp only [Act.put, List.setIfInBounds_toArray, List.set_cons_zero, List.set_cons_succ, i64_w, i32_w]
          rfl
         refine one_ (i := 4) (N := some 64) #[true, true, true, true, true, true, false] rfl rfl (by kernel_rfl) (by decide) (fun K hK => ?_)
         refine goes_ Try.func47 (by kernel_rfl) rfl #[.agg #[.slice Ao123 t360.length co123, .int .i64 t363, .bool t364, .slice Ao124 t365.length co124, .slice Ao125 t368.length co125], .agg #[.int .i64 t371, .int .i64 t372, .int .i64 t373, .int .i64 t374]] (by rfl) rfl rfl z4_ ?_
         with_reducible refine (impl_Swap.calls _ _ t360 t363 t364 _ _ t365 _ _ t368 t371 t372 t373 t374 t375 t378 t379 t380 t383 _ ?side1 ?side2 ?side3 ?side4 ?side5 ?side6 A105.out).mono ?_
         (case side1 => repeat (first | exact (Kd.R_reads' HO362.out).2.2 | (with_reducible refine Kd.C_alloc ?_ _) | (with_reducible refine Kd.C_drewN ?_ _) | (with_reducible refine Kd.C_drew ?_)))
         (case side2 => exact (Kd.R_reads' HO362.out).2.1)
         (case side3 => repeat (first | exact (Kd.R_reads' HO367.out).2.2 | (with_reducible refine Kd.C_alloc ?_ _) | (with_reducible refine Kd.C_drewN ?_ _) | (with_reducible refine Kd.C_drew ?_)))
         (case side4 => exact (Kd.R_reads' HO367.out).2.1)
         (case side5 => repeat (first | exact (Kd.R_reads' HO370.out).2.2 | (with_reducible refine Kd.C_alloc ?_ _) | (with_reducible refine Kd.C_drewN ?_ _) | (with_reducible refine Kd.C_drew ?_)))
         (case side6 => exact (Kd.R_reads' HO370.out).2.1)
         rintro e w126 ⟨v376, v381, v384, rfl, ho0, ho1, ho2, hb⟩
         refine ⟨_, rfl, ?_⟩
         have n0_ := Aside0.mk (Kd.R_elder' (rb_ HO_309000.out) (Kd.R_base ho0) hb)
         have n1_ := Aside0.mk (Kd.R_elder' (rb_ HO_309003.out) (Kd.R_base ho1) hb)
         have n2_ := Aside0.mk (Kd.R_elder' (rb_ HO_309004.out) (Kd.R_base ho2) hb)
         have n3_ := Aside0.mk (Kd.R_elder' (rb_ HO_321000.out) (Kd.R_base ho0) hb)
         have n4_ := Aside0.mk (Kd.R_elder' (rb_ HO_321003.out) (Kd.R_base ho1) hb)
         have n5_ := Aside0.mk (Kd.R_elder' (rb_ HO_321004.out) (Kd.R_base ho2) hb)
         have n6_ := Aside0.mk (Kd.R_elder' (rb_ HO_337000.out) (Kd.R_base ho0) hb)
         have n7_ := Aside0.mk (Kd.R_elder' (rb_ HO_337003.out) (Kd.R_base ho1) hb)
         have n8_ := Aside0.mk (Kd.R_elder' (rb_ HO_337004.out) (Kd.R_base ho2) hb)
         have n9_ := Aside0.mk (Kd.R_elder' (rb_ HO362.out) (Kd.R_base ho0) hb)
         have n10_ := Aside0.mk (Kd.R_elder' (rb_ HO367.out) (Kd.R_base ho1) hb)
         have n11_ := Aside0.mk (Kd.R_elder' (rb_ HO370.out) (Kd.R_base ho2) hb)
         have n12_ := Aside0.mk (Kd.R_lower (Kd.R_new' (Kd.R_new' (Kd.R_new' (Kd.R_new' ho0 (Kd.R_lt (rb_ HO_309000.out))) (Kd.R_lt (rb_ HO_321000.out))) (Kd.R_lt (rb_ HO_337000.out))) (Kd.R_lt (rb_ HO362.out))) (below_size z1_))
         have n13_ := Aside0.mk (Kd.R_lower (Kd.R_new' (Kd.R_new' (Kd.R_new' (Kd.R_new' ho1 (Kd.R_lt (rb_ HO_309003.out))) (Kd.R_lt (rb_ HO_321003.out))) (Kd.R_lt (rb_ HO_337003.out))) (Kd.R_lt (rb_ HO367.out))) (below_size z1_))
         have n14_ := Aside0.mk (Kd.R_lower (Kd.R_new' (Kd.R_new' (Kd.R_new' (Kd.R_new' ho2 (Kd.R_lt (rb_ HO_309004.out))) (Kd.R_lt (rb_ HO_321004.out))) (Kd.R_lt (rb_ HO_337004.out))) (Kd.R_lt (rb_ HO370.out))) (below_size z1_))
         have n15_ := Aside0.mk (blk_below (g := gb279) (o := .cells #[.slice A0_0 l0_0.length c0_0, .int .i64 a0_1, .bool a0_2, .slice A0_3 l0_3.length c0_3, .slice A0_4 l0_4.length c0_4] 59 (0, 0)) (bk_ BK279.out) hb)
         have n16_ := Aside0.mk (blk_below (g := gb280) (o := .cells #[.int .i64 a1_0, .int .i64 a1_1, .int .i64 a1_2, .int .i64 a1_3] 65 (0, 0)) (bk_ BK280.out) hb)
         have n17_ := Aside0.mk (blk_below (g := gb308) (o := .cells #[.slice Ao37 t297.length co37, .int .i64 t300, .bool t301, .slice Ao41 t302.length co41, .slice Ao43 t305.length co43] 36 (0, 0)) (bk_ BK308.out) hb)
         have n18_ := Aside0.mk (blk_below (g := gb320) (o := .cells #[.slice Ao49 t351.length co49, .int .i64 t312, .bool t313, .slice Ao54 t352.length co54, .slice Ao55 t353.length co55] 36 (0, 0)) (bk_ BK320.out) hb)
         have n19_ := Aside0.mk (blk_below (g := gb336) (o := .cells #[.slice Ao62 t325.length co62, .int .i64 t328, .bool t329, .slice Ao66 t330.length co66, .slice Ao68 t333.length co68] 36 (0, 0)) (bk_ BK336.out) hb)
         have n20_ := Aside0.mk (blk_below (g := gb386) (o := .cells #[.slice none 0 0, .int .i64 0, .bool false, .slice none 0 0, .slice none 0 0] 36 (0, 0)) (bk_ BK386.out) hb)
         have n21_ := Aside0.mk (below_step z1_ hb)
         clear HO_309000 HO_309003 HO_309004 HO_321000 HO_321003 HO_321004 HO_337000 HO_337003 HO_337004 HO362 HO367 HO370 BK279 BK280 BK308 BK320 BK336 BK386 HB
         have HO_309000 := n0_
         have HO_309003 := n1_
         have HO_309004 := n2_
         have HO_321000 := n3_
         have HO_321003 := n4_
         have HO_321004 := n5_
         have HO_337000 := n6_
         have HO_337003 := n7_
         have HO_337004 := n8_
         have HO362 := n9_
         have HO367 := n10_
         have HO370 := n11_
         have HO377 := n12_
         have HO382 := n13_
         have HO385 := n14_
         have BK279 := n15_
         have BK280 := n16_
         have BK308 := n17_
         have BK320 := n18_
         have BK336 := n19_
         have BK386 := n20_
         have HB := n21_
         clear n0_ n1_ n2_ n3_ n4_ n5_ n6_ n7_ n8_ n9_ n10_ n11_ n12_ n13_ n14_ n15_ n16_ n17_ n18_ n19_ n20_ n21_
         (try clear hb)
         (try clear hb2)
         (try clear hk)
         (try clear hi)
         (try clear ho0)
         (try clear ho1)
         (try clear ho2)
         refine hK.out _ _ ⟨(blk_cell BK279.out 0).trans rfl, (blk_cell BK279.out 1).trans rfl, (blk_cell BK279.out 2).trans rfl, (blk_cell BK279.out 3).trans rfl, (blk_cell BK279.out 4).trans rfl, (blk_cell BK280.out 0).trans rfl, (blk_cell BK280.out 1).trans rfl, (blk_cell BK280.out 2).trans rfl, (blk_cell BK280.out 3).trans rfl⟩ (fun hHeld => ?_)
         clear hK K
         refine norm_ (a' := ?_) ?_ ?_
         rotate_left
         ·
          show Act.put _ (some 64) _ = _
          simp only [Act.put, List.setIfInBounds_toArray, List.set_cons_zero, List.set_cons_succ, i64_w, i32_w]
          rfl
         exact norm_ (by simp only [putAll, Act.put, List.setIfInBounds_toArray, List.set_cons_zero, List.set_cons_succ]) (hCont (.slice Ao123 t360.length co123, .slice Ao124 t365.length co124, .slice Ao125 t368.length co125, v376, v381, v384, gb386) _ ⟨hHeld, z45_, z46_, z47_, z48_, z49_, z50_, z36_, z37_, z38_, z39_, z40_, z41_, z42_, z43_, z44_, bk_ BK279.out, bk_ BK280.out, bk_ BK308.out, bk_ BK320.out, bk_ BK336.out, bk_ BK386.out, GW386.out, GE386.out, NB279_386.out, NB386_279.out, NB280_386.out, NB386_280.out, NB308_386.out, NB386_308.out, NB320_386.out, NB386_320.out, NB336_386.out, NB386_336.out, z1_⟩)
       ·
        skip
        refine box_step ?hg (N := 12) ?hd (cs := #[.slice none 0 0, .int .i64 0, .bool false, .slice none 0 0, .slice none 0 0]) (t := 36) ?hr ?_; (case hd => rfl); (case hg => rfl); (case hr => first | (go_simp; done) | (go_simp; rfl))
        intro gb386 hg w120 hbox hb
        have n0_ := Aside0.mk (Kd.R_below (rb_ HO_309000.out) hb)
        have n1_ := Aside0.mk (Kd.R_below (rb_ HO_309003.out) hb)
        have n2_ := Aside0.mk (Kd.R_below (rb_ HO_309004.out) hb)
        have n3_ := Aside0.mk (Kd.R_below (rb_ HO_321000.out) hb)
        have n4_ := Aside0.mk (Kd.R_below (rb_ HO_321003.out) hb)
        have n5_ := Aside0.mk (Kd.R_below (rb_ HO_321004.out) hb)
        have n6_ := Aside0.mk (Kd.R_below (rb_ HO_337000.out) hb)
        have n7_ := Aside0.mk (Kd.R_below (rb_ HO_337003.out) hb)
        have n8_ := Aside0.mk (Kd.R_below (rb_ HO_337004.out) hb)
        have n9_ := Aside0.mk (blk_below (g := gb279) (o := .cells #[.slice A0_0 l0_0.length c0_0, .int .i64 a0_1, .bool a0_2, .slice A0_3 l0_3.length c0_3, .slice A0_4 l0_4.length c0_4] 59 (0, 0)) (bk_ BK279.out) hb)
        have n10_ := Aside0.mk (blk_below (g := gb280) (o := .cells #[.int .i64 a1_0, .int .i64 a1_1, .int .i64 a1_2, .int .i64 a1_3] 65 (0, 0)) (bk_ BK280.out) hb)
        have n11_ := Aside0.mk (blk_below (g := gb308) (o := .cells #[.slice Ao37 t297.length co37, .int .i64 t300, .bool t301, .slice Ao41 t302.length co41, .slice Ao43 t305.length co43] 36 (0, 0)) (bk_ BK308.out) hb)
        have n12_ := Aside0.mk (blk_below (g := gb320) (o := .cells #[.slice Ao49 t351.length co49, .int .i64 t312, .bool t313, .slice Ao54 t352.length co54, .slice Ao55 t353.length co55] 36 (0, 0)) (bk_ BK320.out) hb)
        have n13_ := Aside0.mk (blk_below (g := gb336) (o := .cells #[.slice Ao62 t325.length co62, .int .i64 t328, .bool t329, .slice Ao66 t330.length co66, .slice Ao68 t333.length co68] 36 (0, 0)) (bk_ BK336.out) hb)
        have n14_ := Aside0.mk (below_step z0_ hb)
        have n15_ := Aside0.mk (hbox)
        have n16_ := Aside0.mk ((by rw [hg]; exact (below_size z0_) : w.heap.size ≤ gb386))
        have n17_ := Aside0.mk ((by rw [hg]; exact (below_size z0_) : w.heap.size ≤ gb386))
        have n18_ := Aside0.mk ((z6_ : gb279 ≠ gb386))
        have n19_ := Aside0.mk ((z7_ : gb386 ≠ gb279))
        have n20_ := Aside0.mk ((z8_ : gb280 ≠ gb386))
        have n21_ := Aside0.mk ((z9_ : gb386 ≠ gb280))
        have n22_ := Aside0.mk ((z10_ : gb308 ≠ gb386))
        have n23_ := Aside0.mk ((z11_ : gb386 ≠ gb308))
        have n24_ := Aside0.mk ((z14_ : gb320 ≠ gb386))
        have n25_ := Aside0.mk ((z15_ : gb386 ≠ gb320))
        have n26_ := Aside0.mk ((z16_ : gb336 ≠ gb386))
        have n27_ := Aside0.mk ((z17_ : gb386 ≠ gb336))
        clear HO_309000 HO_309003 HO_309004 HO_321000 HO_321003 HO_321004 HO_337000 HO_337003 HO_337004 BK279 BK280 BK308 BK320 BK336 HB
        have HO_309000 := n0_
        have HO_309003 := n1_
        have HO_309004 := n2_
        have HO_321000 := n3_
        have HO_321003 := n4_
        have HO_321004 := n5_
        have HO_337000 := n6_
        have HO_337003 := n7_
        have HO_337004 := n8_
        have BK279 := n9_
        have BK280 := n10_
        have BK308 := n11_
        have BK320 := n12_
        have BK336 := n13_
        have HB := n14_
        have BK386 := n15_
        have GW386 := n16_
        have GE386 := n17_
        have NB279_386 := n18_
        have NB386_279 := n19_
        have NB280_386 := n20_
        have NB386_280 := n21_
        have NB308_386 := n22_
        have NB386_308 := n23_
        have NB320_386 := n24_
        have NB386_320 := n25_
        have NB336_386 := n26_
        have NB386_336 := n27_
        clear n0_ n1_ n2_ n3_ n4_ n5_ n6_ n7_ n8_ n9_ n10_ n11_ n12_ n13_ n14_ n15_ n16_ n17_ n18_ n19_ n20_ n21_ n22_ n23_ n24_ n25_ n26_ n27_ hb hbox hg
        refine hK.out _ _ ⟨(blk_cell BK279.out 0).trans rfl, (blk_cell BK279.out 1).trans rfl, (blk_cell BK279.out 2).trans rfl, (blk_cell BK279.out 3).trans rfl, (blk_cell BK279.out 4).trans rfl, (blk_cell BK280.out 0).trans rfl, (blk_cell BK280.out 1).trans rfl, (blk_cell BK280.out 2).trans rfl, (blk_cell BK280.out 3).trans rfl⟩ (fun hHeld => ?_)
        clear hK K
        refine norm_ (a' := ?_) ?_ ?_
        rotate_left
        ·
         show Act.put _ (some 12) _ = _
         simp only [Act.put, List.setIfInBounds_toArray, List.set_cons_zero, List.set_cons_succ, i64_w, i32_w]
         rfl
        refine one_ (i := 1) (N := some 61) #[true, true, true, false, false, true, false] rfl rfl (by kernel_rfl) (by decide) (fun K hK => ?_)
        refine goes_ Try.func39 (by kernel_rfl) rfl #[.agg #[.slice A0_0 l0_0.length c0_0, .int .i64 a0_1, .bool a0_2, .slice A0_3 l0_3.length c0_3, .slice A0_4 l0_4.length c0_4]] (by rfl) rfl rfl z4_ ?_
        with_reducible refine (laws_toThread.calls kj21 _ _ l0_0 a0_1 a0_2 _ _ l0_3 _ _ l0_4 t360 t363 t364 t365 t368 _ ?side1 ?side2 ?side3 ?side4 ?side5 ?side6 A103.out).mono ?_
        (case side1 => exact cb_ (Kd.C_below HR0_0.out HB.out))
        (case side2 => exact HC0_0.out)
        (case side3 => exact cb_ (Kd.C_below HR0_3.out HB.out))
        (case side4 => exact HC0_3.out)
        (case side5 => exact cb_ (Kd.C_below HR0_4.out HB.out))
        (case side6 => exact HC0_4.out)
        rintro e w121 ⟨v361, v366, v369, rfl, ho0, ho1, ho2, hb⟩
        refine ⟨_, rfl, ?_⟩
        have n0_ := Aside0.mk (Kd.R_elder' (rb_ HO_309000.out) (Kd.R_base ho0) hb)
        have n1_ := Aside0.mk (Kd.R_elder' (rb_ HO_309003.out) (Kd.R_base ho1) hb)
        have n2_ := Aside0.mk (Kd.R_elder' (rb_ HO_309004.out) (Kd.R_base ho2) hb)
        have n3_ := Aside0.mk (Kd.R_elder' (rb_ HO_321000.out) (Kd.R_base ho0) hb)
        have n4_ := Aside0.mk (Kd.R_elder' (rb_ HO_321003.out) (Kd.R_base ho1) hb)
        have n5_ := Aside0.mk (Kd.R_elder' (rb_ HO_321004.out) (Kd.R_base ho2) hb)
        have n6_ := Aside0.mk (Kd.R_elder' (rb_ HO_337000.out) (Kd.R_base ho0) hb)
        have n7_ := Aside0.mk (Kd.R_elder' (rb_ HO_337003.out) (Kd.R_base ho1) hb)
        have n8_ := Aside0.mk (Kd.R_elder' (rb_ HO_337004.out) (Kd.R_base ho2) hb)
        have n9_ := Aside0.mk (Kd.R_lower (Kd.R_new' (Kd.R_new' (Kd.R_new' ho0 (Kd.R_lt (rb_ HO_309000.out))) (Kd.R_lt (rb_ HO_321000.out))) (Kd.R_lt (rb_ HO_337000.out))) (below_size z1_))
        have n10_ := Aside0.mk (Kd.R_lower (Kd.R_new' (Kd.R_new' (Kd.R_new' ho1 (Kd.R_lt (rb_ HO_309003.out))) (Kd.R_lt (rb_ HO_321003.out))) (Kd.R_lt (rb_ HO_337003.out))) (below_size z1_))
        have n11_ := Aside0.mk (Kd.R_lower (Kd.R_new' (Kd.R_new' (Kd.R_new' ho2 (Kd.R_lt (rb_ HO_309004.out))) (Kd.R_lt (rb_ HO_321004.out))) (Kd.R_lt (rb_ HO_337004.out))) (below_size z1_))
        have n12_ := Aside0.mk (blk_below (g := gb279) (o := .cells #[.slice A0_0 l0_0.length c0_0, .int .i64 a0_1, .bool a0_2, .slice A0_3 l0_3.length c0_3, .slice A0_4 l0_4.length c0_4] 59 (0, 0)) (bk_ BK279.out) hb)
        have n13_ := Aside0.mk (blk_below (g := gb280) (o := .cells #[.int .i64 a1_0, .int .i64 a1_1, .int .i64 a1_2, .int .i64 a1_3] 65 (0, 0)) (bk_ BK280.out) hb)
        have n14_ := Aside0.mk (blk_below (g := gb308) (o := .cells #[.slice Ao37 t297.length co37, .int .i64 t300, .bool t301, .slice Ao41 t302.length co41, .slice Ao43 t305.length co43] 36 (0, 0)) (bk_ BK308.out) hb)
        have n15_ := Aside0.mk (blk_below (g := gb320) (o := .cells #[.slice Ao49 t351.length co49, .int .i64 t312, .bool t313, .slice Ao54 t352.length co54, .slice Ao55 t353.length co55] 36 (0, 0)) (bk_ BK320.out) hb)
        have n16_ := Aside0.mk (blk_below (g := gb336) (o := .cells #[.slice Ao62 t325.length co62, .int .i64 t328, .bool t329, .slice Ao66 t330.length co66, .slice Ao68 t333.length co68] 36 (0, 0)) (bk_ BK336.out) hb)
        have n17_ := Aside0.mk (blk_below (g := gb386) (o := .cells #[.slice none 0 0, .int .i64 0, .bool false, .slice none 0 0, .slice none 0 0] 36 (0, 0)) (bk_ BK386.out) hb)
        have n18_ := Aside0.mk (below_step z1_ hb)
        clear HO_309000 HO_309003 HO_309004 HO_321000 HO_321003 HO_321004 HO_337000 HO_337003 HO_337004 BK279 BK280 BK308 BK320 BK336 BK386 HB
        have HO_309000 := n0_
        have HO_309003 := n1_
        have HO_309004 := n2_
        have HO_321000 := n3_
        have HO_321003 := n4_
        have HO_321004 := n5_
        have HO_337000 := n6_
        have HO_337003 := n7_
        have HO_337004 := n8_
        have HO362 := n9_
        have HO367 := n10_
        have HO370 := n11_
        have BK279 := n12_
        have BK280 := n13_
        have BK308 := n14_
        have BK320 := n15_
        have BK336 := n16_
        have BK386 := n17_
        have HB := n18_
        clear n0_ n1_ n2_ n3_ n4_ n5_ n6_ n7_ n8_ n9_ n10_ n11_ n12_ n13_ n14_ n15_ n16_ n17_ n18_
        (try clear hb)
        (try clear hb2)
        (try clear hk)
        (try clear hi)
        (try clear ho0)
        (try clear ho1)
        (try clear ho2)
        refine hK.out _ _ ⟨(blk_cell BK279.out 0).trans rfl, (blk_cell BK279.out 1).trans rfl, (blk_cell BK279.out 2).trans rfl, (blk_cell BK279.out 3).trans rfl, (blk_cell BK279.out 4).trans rfl, (blk_cell BK280.out 0).trans rfl, (blk_cell BK280.out 1).trans rfl, (blk_cell BK280.out 2).trans rfl, (blk_cell BK280.out 3).trans rfl⟩ (fun hHeld => ?_)
        clear hK K
        refine norm_ (a' := ?_) ?_ ?_
        rotate_left
        ·
         show Act.put _ (some 61) _ = _
         simp only [Act.put, List.setIfInBounds_toArray, List.set_cons_zero, List.set_cons_succ, i64_w, i32_w]
         rfl
        refine one_ (i := 3) (N := some 63) #[true, true, true, true, false, true, false] rfl rfl (by kernel_rfl) (by decide) (fun K hK => ?_)
        refine goes_ Try.func42 (by kernel_rfl) rfl #[.agg #[.int .i64 a1_0, .int .i64 a1_1, .int .i64 a1_2, .int .i64 a1_3]] (by rfl) rfl rfl z4_ ?_
        with_reducible refine (laws_toHelp.calls a1_0 a1_1 a1_2 a1_3 t371 t372 t373 t374 _ A104.out).mono ?_
        rintro e w122 ⟨rfl, hb⟩
        refine ⟨_, rfl, ?_⟩
        have n0_ := Aside0.mk (Kd.R_below (rb_ HO_309000.out) hb)
        have n1_ := Aside0.mk (Kd.R_below (rb_ HO_309003.out) hb)
        have n2_ := Aside0.mk (Kd.R_below (rb_ HO_309004.out) hb)
        have n3_ := Aside0.mk (Kd.R_below (rb_ HO_321000.out) hb)
        have n4_ := Aside0.mk (Kd.R_below (rb_ HO_321003.out) hb)
        have n5_ := Aside0.mk (Kd.R_below (rb_ HO_321004.out) hb)
        have n6_ := Aside0.mk (Kd.R_below (rb_ HO_337000.out) hb)
        have n7_ := Aside0.mk (Kd.R_below (rb_ HO_337003.out) hb)
        have n8_ := Aside0.mk (Kd.R_below (rb_ HO_337004.out) hb)
        have n9_ := Aside0.mk (Kd.R_below (rb_ HO362.out) hb)
        have n10_ := Aside0.mk (Kd.R_below (rb_ HO367.out) hb)
        have n11_ := Aside0.mk (Kd.R_below (rb_ HO370.out) hb)
        have n12_ := Aside0.mk (blk_below (g := gb279) (o := .cells #[.slice A0_0 l0_0.length c0_0, .int .i64 a0_1, .bool a0_2, .slice A0_3 l0_3.length c0_3, .slice A0_4 l0_4.length c0_4] 59 (0, 0)) (bk_ BK279.out) hb)
        have n13_ := Aside0.mk (blk_below (g := gb280) (o := .cells #[.int .i64 a1_0, .int .i64 a1_1, .int .i64 a1_2, .int .i64 a1_3] 65 (0, 0)) (bk_ BK280.out) hb)
        have n14_ := Aside0.mk (blk_below (g := gb308) (o := .cells #[.slice Ao37 t297.length co37, .int .i64 t300, .bool t301, .slice Ao41 t302.length co41, .slice Ao43 t305.length co43] 36 (0, 0)) (bk_ BK308.out) hb)
        have n15_ := Aside0.mk (blk_below (g := gb320) (o := .cells #[.slice Ao49 t351.length co49, .int .i64 t312, .bool t313, .slice Ao54 t352.length co54, .slice Ao55 t353.length co55] 36 (0, 0)) (bk_ BK320.out) hb)
        have n16_ := Aside0.mk (blk_below (g := gb336) (o := .cells #[.slice Ao62 t325.length co62, .int .i64 t328, .bool t329, .slice Ao66 t330.length co66, .slice Ao68 t333.length co68] 36 (0, 0)) (bk_ BK336.out) hb)
        have n17_ := Aside0.mk (blk_below (g := gb386) (o := .cells #[.slice none 0 0, .int .i64 0, .bool false, .slice none 0 0, .slice none 0 0] 36 (0, 0)) (bk_ BK386.out) hb)
        have n18_ := Aside0.mk (below_step z1_ hb)
        clear HO_309000 HO_309003 HO_309004 HO_321000 HO_321003 HO_321004 HO_337000 HO_337003 HO_337004 HO362 HO367 HO370 BK279 BK280 BK308 BK320 BK336 BK386 HB
        have HO_309000 := n0_
        have HO_309003 := n1_
        have HO_309004 := n2_
        have HO_321000 := n3_
        have HO_321003 := n4_
        have HO_321004 := n5_
        have HO_337000 := n6_
        have HO_337003 := n7_
        have HO_337004 := n8_
        have HO362 := n9_
        have HO367 := n10_
        have HO370 := n11_
        have BK279 := n12_
        have BK280 := n13_
        have BK308 := n14_
        have BK320 := n15_
        have BK336 := n16_
        have BK386 := n17_
        have HB := n18_
        clear n0_ n1_ n2_ n3_ n4_ n5_ n6_ n7_ n8_ n9_ n10_ n11_ n12_ n13_ n14_ n15_ n16_ n17_ n18_
        (try clear hb)
        (try clear hb2)
        (try clear hk)
        (try clear hi)
        obtain ⟨Ao123, co123, eo123⟩ := Kd.R_slice HO362.out
        (first | subst eo123 | (injection eo123 with f1_ f2_ f3_; have f4_ := f1_.symm; have f5_ := f3_.symm; clear f1_ f2_ f3_; subst f4_; subst f5_))
        obtain ⟨Ao124, co124, eo124⟩ := Kd.R_slice HO367.out
        (first | subst eo124 | (injection eo124 with f1_ f2_ f3_; have f4_ := f1_.symm; have f5_ := f3_.symm; clear f1_ f2_ f3_; subst f4_; subst f5_))
        obtain ⟨Ao125, co125, eo125⟩ := Kd.R_slice HO370.out
        (first | subst eo125 | (injection eo125 with f1_ f2_ f3_; have f4_ := f1_.symm; have f5_ := f3_.symm; clear f1_ f2_ f3_; subst f4_; subst f5_))
        refine hK.out _ _ ⟨(blk_cell BK279.out 0).trans rfl, (blk_cell BK279.out 1).trans rfl, (blk_cell BK279.out 2).trans rfl, (blk_cell BK279.out 3).trans rfl, (blk_cell BK279.out 4).trans rfl, (blk_cell BK280.out 0).trans rfl, (blk_cell BK280.out 1).trans rfl, (blk_cell BK280.out 2).trans rfl, (blk_cell BK280.out 3).trans rfl⟩ (fun hHeld => ?_)
        clear hK K
        refine norm_ (a' := ?_) ?_ ?_
        rotate_left
        ·
         show Act.put _ (some 63) _ = _
         simp only [Act.put, List.setIfInBounds_toArray, List.set_cons_zero, List.set_cons_succ, i64_w, i32_w]
         rfl
        refine one_ (i := 4) (N := some 64) #[true, true, true, true, true, true, false] rfl rfl (by kernel_rfl) (by decide) (fun K hK => ?_)
        refine goes_ Try.func47 (by kernel_rfl) rfl #[.agg #[.slice Ao123 t360.length co123, .int .i64 t363, .bool t364, .slice Ao124 t365.length co124, .slice Ao125 t368.length co125], .agg #[.int .i64 t371, .int .i64 t372, .int .i64 t373, .int .i64 t374]] (by rfl) rfl rfl z4_ ?_
        with_reducible refine (impl_Swap.calls _ _ t360 t363 t364 _ _ t365 _ _ t368 t371 t372 t373 t374 t375 t378 t379 t380 t383 _ ?side1 ?side2 ?side3 ?side4 ?side5 ?side6 A105.out).mono ?_
        (case side1 => repeat (first | exact (Kd.R_reads' HO362.out).2.2 | (with_reducible refine Kd.C_alloc ?_ _) | (with_reducible refine Kd.C_drewN ?_ _) | (with_reducible refine Kd.C_drew ?_)))
        (case side2 => exact (Kd.R_reads' HO362.out).2.1)
        (case side3 => repeat (first | exact (Kd.R_reads' HO367.out).2.2 | (with_reducible refine Kd.C_alloc ?_ _) | (with_reducible refine Kd.C_drewN ?_ _) | (with_reducible refine Kd.C_drew ?_)))
        (case side4 => exact (Kd.R_reads' HO367.out).2.1)
        (case side5 => repeat (first | exact (Kd.R_reads' HO370.out).2.2 | (with_reducible refine Kd.C_alloc ?_ _) | (with_reducible refine Kd.C_drewN ?_ _) | (with_reducible refine Kd.C_drew ?_)))
        (case side6 => exact (Kd.R_reads' HO370.out).2.1)
        rintro e w126 ⟨v376, v381, v384, rfl, ho0, ho1, ho2, hb⟩
        refine ⟨_, rfl, ?_⟩
        have n0_ := Aside0.mk (Kd.R_elder' (rb_ HO_309000.out) (Kd.R_base ho0) hb)
        have n1_ := Aside0.mk (Kd.R_elder' (rb_ HO_309003.out) (Kd.R_base ho1) hb)
        have n2_ := Aside0.mk (Kd.R_elder' (rb_ HO_309004.out) (Kd.R_base ho2) hb)
        have n3_ := Aside0.mk (Kd.R_elder' (rb_ HO_321000.out) (Kd.R_base ho0) hb)
        have n4_ := Aside0.mk (Kd.R_elder' (rb_ HO_321003.out) (Kd.R_base ho1) hb)
        have n5_ := Aside0.mk (Kd.R_elder' (rb_ HO_321004.out) (Kd.R_base ho2) hb)
        have n6_ := Aside0.mk (Kd.R_elder' (rb_ HO_337000.out) (Kd.R_base ho0) hb)
        have n7_ := Aside0.mk (Kd.R_elder' (rb_ HO_337003.out) (Kd.R_base ho1) hb)
        have n8_ := Aside0.mk (Kd.R_elder' (rb_ HO_337004.out) (Kd.R_base ho2) hb)
        have n9_ := Aside0.mk (Kd.R_elder' (rb_ HO362.out) (Kd.R_base ho0) hb)
        have n10_ := Aside0.mk (Kd.R_elder' (rb_ HO367.out) (Kd.R_base ho1) hb)
        have n11_ := Aside0.mk (Kd.R_elder' (rb_ HO370.out) (Kd.R_base ho2) hb)
        have n12_ := Aside0.mk (Kd.R_lower (Kd.R_new' (Kd.R_new' (Kd.R_new' (Kd.R_new' ho0 (Kd.R_lt (rb_ HO_309000.out))) (Kd.R_lt (rb_ HO_321000.out))) (Kd.R_lt (rb_ HO_337000.out))) (Kd.R_lt (rb_ HO362.out))) (below_size z1_))
        have n13_ := Aside0.mk (Kd.R_lower (Kd.R_new' (Kd.R_new' (Kd.R_new' (Kd.R_new' ho1 (Kd.R_lt (rb_ HO_309003.out))) (Kd.R_lt (rb_ HO_321003.out))) (Kd.R_lt (rb_ HO_337003.out))) (Kd.R_lt (rb_ HO367.out))) (below_size z1_))
        have n14_ := Aside0.mk (Kd.R_lower (Kd.R_new' (Kd.R_new' (Kd.R_new' (Kd.R_new' ho2 (Kd.R_lt (rb_ HO_309004.out))) (Kd.R_lt (rb_ HO_321004.out))) (Kd.R_lt (rb_ HO_337004.out))) (Kd.R_lt (rb_ HO370.out))) (below_size z1_))
        have n15_ := Aside0.mk (blk_below (g := gb279) (o := .cells #[.slice A0_0 l0_0.length c0_0, .int .i64 a0_1, .bool a0_2, .slice A0_3 l0_3.length c0_3, .slice A0_4 l0_4.length c0_4] 59 (0, 0)) (bk_ BK279.out) hb)
        have n16_ := Aside0.mk (blk_below (g := gb280) (o := .cells #[.int .i64 a1_0, .int .i64 a1_1, .int .i64 a1_2, .int .i64 a1_3] 65 (0, 0)) (bk_ BK280.out) hb)
        have n17_ := Aside0.mk (blk_below (g := gb308) (o := .cells #[.slice Ao37 t297.length co37, .int .i64 t300, .bool t301, .slice Ao41 t302.length co41, .slice Ao43 t305.length co43] 36 (0, 0)) (bk_ BK308.out) hb)
        have n18_ := Aside0.mk (blk_below (g := gb320) (o := .cells #[.slice Ao49 t351.length co49, .int .i64 t312, .bool t313, .slice Ao54 t352.length co54, .slice Ao55 t353.length co55] 36 (0, 0)) (bk_ BK320.out) hb)
        have n19_ := Aside0.mk (blk_below (g := gb336) (o := .cells #[.slice Ao62 t325.length co62, .int .i64 t328, .bool t329, .slice Ao66 t330.length co66, .slice Ao68 t333.length co68] 36 (0, 0)) (bk_ BK336.out) hb)
        have n20_ := Aside0.mk (blk_below (g := gb386) (o := .cells #[.slice none 0 0, .int .i64 0, .bool false, .slice none 0 0, .slice none 0 0] 36 (0, 0)) (bk_ BK386.out) hb)
        have n21_ := Aside0.mk (below_step z1_ hb)
        clear HO_309000 HO_309003 HO_309004 HO_321000 HO_321003 HO_321004 HO_337000 HO_337003 HO_337004 HO362 HO367 HO370 BK279 BK280 BK308 BK320 BK336 BK386 HB
        have HO_309000 := n0_
        have HO_309003 := n1_
        have HO_309004 := n2_
        have HO_321000 := n3_
        have HO_321003 := n4_
        have HO_321004 := n5_
        have HO_337000 := n6_
        have HO_337003 := n7_
        have HO_337004 := n8_
        have HO362 := n9_
        have HO367 := n10_
        have HO370 := n11_
        have HO377 := n12_
        have HO382 := n13_
        have HO385 := n14_
        have BK279 := n15_
        have BK280 := n16_
        have BK308 := n17_
        have BK320 := n18_
        have BK336 := n19_
        have BK386 := n20_
        have HB := n21_
        clear n0_ n1_ n2_ n3_ n4_ n5_ n6_ n7_ n8_ n9_ n10_ n11_ n12_ n13_ n14_ n15_ n16_ n17_ n18_ n19_ n20_ n21_
        (try clear hb)
        (try clear hb2)
        (try clear hk)
        (try clear hi)
        (try clear ho0)
        (try clear ho1)
        (try clear ho2)
        refine hK.out _ _ ⟨(blk_cell BK279.out 0).trans rfl, (blk_cell BK279.out 1).trans rfl, (blk_cell BK279.out 2).trans rfl, (blk_cell BK279.out 3).trans rfl, (blk_cell BK279.out 4).trans rfl, (blk_cell BK280.out 0).trans rfl, (blk_cell BK280.out 1).trans rfl, (blk_cell BK280.out 2).trans rfl, (blk_cell BK280.out 3).trans rfl⟩ (fun hHeld => ?_)
        clear hK K
        refine norm_ (a' := ?_) ?_ ?_
        rotate_left
        ·
         show Act.put _ (some 64) _ = _
         simp only [Act.put, List.setIfInBounds_toArray, List.set_cons_zero, List.set_cons_succ, i64_w, i32_w]
         rfl
        exact norm_ (by simp only [putAll, Act.put, List.setIfInBounds_toArray, List.set_cons_zero, List.set_cons_succ]) (hCont (.slice Ao123 t360.length co123, .slice Ao124 t365.length co124, .slice Ao125 t368.length co125, v376, v381, v384, gb386) _ ⟨hHeld, z45_, z46_, z47_, z48_, z49_, z50_, z36_, z37_, z38_, z39_, z40_, z41_, z42_, z43_, z44_, bk_ BK279.out, bk_ BK280.out, bk_ BK308.out, bk_ BK320.out, bk_ BK336.out, bk_ BK386.out, GW386.out, GE386.out, NB279_386.out, NB386_279.out, NB280_386.out, NB386_280.out, NB308_386.out, NB386_308.out, NB320_386.out, NB386_320.out, NB336_386.out, NB386_336.out, z1_⟩)
      rintro ⟨v361, v366, v369, v376, v381, v384, gb386⟩ w127 ⟨hS_, h0_, h1_, h2_, h3_, h4_, h5_, h6_, h7_, h8_, h9_, h10_, h11_, h12_, h13_, h14_, h15_, h16_, h17_, h18_, h19_, h20_, h21_, h22_, h23_, h24_, h25_, h26_, h27_, h28_, h29_, h30_, h31_, h32_, h33_⟩
      have n0_ : Aside0 (Kd.R k88 88 w127 w.heap.size (fun k_ => some k_ ≠ (v376 : Value).ownBlock ∧ some k_ ≠ (.slice Ao37 t297.length co37 : Value).ownBlock ∧ some k_ ≠ (.slice Ao49 t351.length co49 : Value).ownBlock ∧ some k_ ≠ (.slice Ao62 t325.length co62 : Value).ownBlock) v361 t360) := ⟨h0_⟩
      have n1_ : Aside0 (Kd.R k136 136 w127 w.heap.size (fun k_ => some k_ ≠ (v381 : Value).ownBlock ∧ some k_ ≠ (.slice Ao41 t302.length co41 : Value).ownBlock ∧ some k_ ≠ (.slice Ao54 t352.length co54 : Value).ownBlock ∧ some k_ ≠ (.slice Ao66 t330.length co66 : Value).ownBlock) v366 t365) := ⟨h1_⟩
      have n2_ : Aside0 (Kd.R k67 67 w127 w.heap.size (fun k_ => some k_ ≠ (v384 : Value).ownBlock ∧ some k_ ≠ (.slice Ao43 t305.length co43 : Value).ownBlock ∧ some k_ ≠ (.slice Ao55 t353.length co55 : Value).ownBlock ∧ some k_ ≠ (.slice Ao68 t333.length co68 : Value).ownBlock) v369 t368) := ⟨h2_⟩
      have n3_ : Aside0 (Kd.R k88 88 w127 w.heap.size (fun k_ => some k_ ≠ (v361 : Value).ownBlock ∧ some k_ ≠ (.slice Ao37 t297.length co37 : Value).ownBlock ∧ some k_ ≠ (.slice Ao49 t351.length co49 : Value).ownBlock ∧ some k_ ≠ (.slice Ao62 t325.length co62 : Value).ownBlock) v376 t375) := ⟨h3_⟩
      have n4_ : Aside0 (Kd.R k136 136 w127 w.heap.size (fun k_ => some k_ ≠ (v366 : Value).ownBlock ∧ some k_ ≠ (.slice Ao41 t302.length co41 : Value).ownBlock ∧ some k_ ≠ (.slice Ao54 t352.length co54 : Value).ownBlock ∧ some k_ ≠ (.slice Ao66 t330.length co66 : Value).ownBlock) v381 t380) := ⟨h4_⟩
      have n5_ : Aside0 (Kd.R k67 67 w127 w.heap.size (fun k_ => some k_ ≠ (v369 : Value).ownBlock ∧ some k_ ≠ (.slice Ao43 t305.length co43 : Value).ownBlock ∧ some k_ ≠ (.slice Ao55 t353.length co55 : Value).ownBlock ∧ some k_ ≠ (.slice Ao68 t333.length co68 : Value).ownBlock) v384 t383) := ⟨h5_⟩
      have n6_ : Aside0 (Kd.R k88 88 w127 w.heap.size (fun k_ => some k_ ≠ (v361 : Value).ownBlock ∧ some k_ ≠ (v376 : Value).ownBlock ∧ some k_ ≠ (.slice Ao49 t351.length co49 : Value).ownBlock ∧ some k_ ≠ (.slice Ao62 t325.length co62 : Value).ownBlock) (.slice Ao37 t297.length co37) t297) := ⟨h6_⟩
      have n7_ : Aside0 (Kd.R k136 136 w127 w.heap.size (fun k_ => some k_ ≠ (v366 : Value).ownBlock ∧ some k_ ≠ (v381 : Value).ownBlock ∧ some k_ ≠ (.slice Ao54 t352.length co54 : Value).ownBlock ∧ some k_ ≠ (.slice Ao66 t330.length co66 : Value).ownBlock) (.slice Ao41 t302.length co41) t302) := ⟨h7_⟩
      have n8_ : Aside0 (Kd.R k67 67 w127 w.heap.size (fun k_ => some k_ ≠ (v369 : Value).ownBlock ∧ some k_ ≠ (v384 : Value).ownBlock ∧ some k_ ≠ (.slice Ao55 t353.length co55 : Value).ownBlock ∧ some k_ ≠ (.slice Ao68 t333.length co68 : Value).ownBlock) (.slice Ao43 t305.length co43) t305) := ⟨h8_⟩
      have n9_ : Aside0 (Kd.R k88 88 w127 w.heap.size (fun k_ => some k_ ≠ (v361 : Value).ownBlock ∧ some k_ ≠ (v376 : Value).ownBlock ∧ some k_ ≠ (.slice Ao37 t297.length co37 : Value).ownBlock ∧ some k_ ≠ (.slice Ao62 t325.length co62 : Value).ownBlock) (.slice Ao49 t351.length co49) t351) := ⟨h9_⟩
      have n10_ : Aside0 (Kd.R k136 136 w127 w.heap.size (fun k_ => some k_ ≠ (v366 : Value).ownBlock ∧ some k_ ≠ (v381 : Value).ownBlock ∧ some k_ ≠ (.slice Ao41 t302.length co41 : Value).ownBlock ∧ some k_ ≠ (.slice Ao66 t330.length co66 : Value).ownBlock) (.slice Ao54 t352.length co54) t352) := ⟨h10_⟩
      have n11_ : Aside0 (Kd.R k67 67 w127 w.heap.size (fun k_ => some k_ ≠ (v369 : Value).ownBlock ∧ some k_ ≠ (v384 : Value).ownBlock ∧ some k_ ≠ (.slice Ao43 t305.length co43 : Value).ownBlock ∧ some k_ ≠ (.slice Ao68 t333.length co68 : Value).ownBlock) (.slice Ao55 t353.length co55) t353) := ⟨h11_⟩
      have n12_ : Aside0 (Kd.R k88 88 w127 w.heap.size (fun k_ => some k_ ≠ (v361 : Value).ownBlock ∧ some k_ ≠ (v376 : Value).ownBlock ∧ some k_ ≠ (.slice Ao37 t297.length co37 : Value).ownBlock ∧ some k_ ≠ (.slice Ao49 t351.length co49 : Value).ownBlock) (.slice Ao62 t325.length co62) t356) := ⟨h12_⟩
      have n13_ : Aside0 (Kd.R k136 136 w127 w.heap.size (fun k_ => some k_ ≠ (v366 : Value).ownBlock ∧ some k_ ≠ (v381 : Value).ownBlock ∧ some k_ ≠ (.slice Ao41 t302.length co41 : Value).ownBlock ∧ some k_ ≠ (.slice Ao54 t352.length co54 : Value).ownBlock) (.slice Ao66 t330.length co66) t357) := ⟨h13_⟩
      have n14_ : Aside0 (Kd.R k67 67 w127 w.heap.size (fun k_ => some k_ ≠ (v369 : Value).ownBlock ∧ some k_ ≠ (v384 : Value).ownBlock ∧ some k_ ≠ (.slice Ao43 t305.length co43 : Value).ownBlock ∧ some k_ ≠ (.slice Ao55 t353.length co55 : Value).ownBlock) (.slice Ao68 t333.length co68) t358) := ⟨h14_⟩
      have n15_ : Aside0 (w127.heap[gb279]? = some (.cells #[.slice A0_0 l0_0.length c0_0, .int .i64 a0_1, .bool a0_2, .slice A0_3 l0_3.length c0_3, .slice A0_4 l0_4.length c0_4] 59 (0, 0))) := ⟨h15_⟩
      have n16_ : Aside0 (w127.heap[gb280]? = some (.cells #[.int .i64 a1_0, .int .i64 a1_1, .int .i64 a1_2, .int .i64 a1_3] 65 (0, 0))) := ⟨h16_⟩
      have n17_ : Aside0 (w127.heap[gb308]? = some (.cells #[.slice Ao37 t297.length co37, .int .i64 t300, .bool t301, .slice Ao41 t302.length co41, .slice Ao43 t305.length co43] 36 (0, 0))) := ⟨h17_⟩
      have n18_ : Aside0 (w127.heap[gb320]? = some (.cells #[.slice Ao49 t351.length co49, .int .i64 t312, .bool t313, .slice Ao54 t352.length co54, .slice Ao55 t353.length co55] 36 (0, 0))) := ⟨h18_⟩
      have n19_ : Aside0 (w127.heap[gb336]? = some (.cells #[.slice Ao62 t325.length co62, .int .i64 t328, .bool t329, .slice Ao66 t330.length co66, .slice Ao68 t333.length co68] 36 (0, 0))) := ⟨h19_⟩
      have n20_ : Aside0 (w127.heap[gb386]? = some (.cells #[.slice none 0 0, .int .i64 0, .bool false, .slice none 0 0, .slice none 0 0] 36 (0, 0))) := ⟨h20_⟩
      have n21_ : Aside0 (w.heap.size ≤ gb386) := ⟨h21_⟩
      have n22_ : Aside0 (w.heap.size ≤ gb386) := ⟨h22_⟩
      have n23_ : Aside0 (gb279 ≠ gb386) := ⟨h23_⟩
      have n24_ : Aside0 (gb386 ≠ gb279) := ⟨h24_⟩
      have n25_ : Aside0 (gb280 ≠ gb386) := ⟨h25_⟩
      have n26_ : Aside0 (gb386 ≠ gb280) := ⟨h26_⟩
      have n27_ : Aside0 (gb308 ≠ gb386) := ⟨h27_⟩
      have n28_ : Aside0 (gb386 ≠ gb308) := ⟨h28_⟩
      have n29_ : Aside0 (gb320 ≠ gb386) := ⟨h29_⟩
      have n30_ : Aside0 (gb386 ≠ gb320) := ⟨h30_⟩
      have n31_ : Aside0 (gb336 ≠ gb386) := ⟨h31_⟩
      have n32_ : Aside0 (gb386 ≠ gb336) := ⟨h32_⟩
      have n33_ : Aside0 (Below w.heap.size w w127) := ⟨h33_⟩
      clear HO_309000 HO_309003 HO_309004 HO_321000 HO_321003 HO_321004 HO_337000 HO_337003 HO_337004 BK279 BK280 BK308 BK320 BK336 HB h0_ h1_ h2_ h3_ h4_ h5_ h6_ h7_ h8_ h9_ h10_ h11_ h12_ h13_ h14_ h15_ h16_ h17_ h18_ h19_ h20_ h21_ h22_ h23_ h24_ h25_ h26_ h27_ h28_ h29_ h30_ h31_ h32_ h33_
      have HO362 := n0_
      have HO367 := n1_
      have HO370 := n2_
      have HO377 := n3_
      have HO382 := n4_
      have HO385 := n5_
      have HO_309000 := n6_
      have HO_309003 := n7_
      have HO_309004 := n8_
      have HO_321000 := n9_
      have HO_321003 := n10_
      have HO_321004 := n11_
      have HO_337000 := n12_
      have HO_337003 := n13_
      have HO_337004 := n14_
      have BK279 := n15_
      have BK280 := n16_
      have BK308 := n17_
      have BK320 := n18_
      have BK336 := n19_
      have BK386 := n20_
      have GW386 := n21_
      have GE386 := n22_
      have NB279_386 := n23_
      have NB386_279 := n24_
      have NB280_386 := n25_
      have NB386_280 := n26_
      have NB308_386 := n27_
      have NB386_308 := n28_
      have NB320_386 := n29_
      have NB386_320 := n30_
      have NB336_386 := n31_
      have NB386_336 := n32_
      have HB := n33_
      clear n0_ n1_ n2_ n3_ n4_ n5_ n6_ n7_ n8_ n9_ n10_ n11_ n12_ n13_ n14_ n15_ n16_ n17_ n18_ n19_ n20_ n21_ n22_ n23_ n24_ n25_ n26_ n27_ n28_ n29_ n30_ n31_ n32_ n33_
      have hHeld : w127.cell? ⟨gb279, 0, none⟩ = some (.slice A0_0 l0_0.length c0_0) ∧ w127.cell? ⟨gb279, 1, none⟩ = some (.int .i64 a0_1) ∧ w127.cell? ⟨gb279, 2, none⟩ = some (.bool a0_2) ∧ w127.cell? ⟨gb279, 3, none⟩ = some (.slice A0_3 l0_3.length c0_3) ∧ w127.cell? ⟨gb279, 4, none⟩ = some (.slice A0_4 l0_4.length c0_4) ∧ w127.cell? ⟨gb280, 0, none⟩ = some (.int .i64 a1_0) ∧ w127.cell? ⟨gb280, 1, none⟩ = some (.int .i64 a1_1) ∧ w127.cell? ⟨gb280, 2, none⟩ = some (.int .i64 a1_2) ∧ w127.cell? ⟨gb280, 3, none⟩ = some (.int .i64 a1_3) := hS_
      obtain ⟨Ao128, co128, eo128⟩ := Kd.R_slice HO377.out
      (first | subst eo128 | (injection eo128 with f1_ f2_ f3_; have f4_ := f1_.symm; have f5_ := f3_.symm; clear f1_ f2_ f3_; subst f4_; subst f5_))
      obtain ⟨Ao132, co132, eo132⟩ := Kd.R_slice HO382.out
      (first | subst eo132 | (injection eo132 with f1_ f2_ f3_; have f4_ := f1_.symm; have f5_ := f3_.symm; clear f1_ f2_ f3_; subst f4_; subst f5_))
      obtain ⟨Ao134, co134, eo134⟩ := Kd.R_slice HO385.out
      (first | subst eo134 | (injection eo134 with f1_ f2_ f3_; have f4_ := f1_.symm; have f5_ := f3_.symm; clear f1_ f2_ f3_; subst f4_; subst f5_))
      refine norm_ (a' := ?_) ?_ ?_
      rotate_left
      ·
       simp only [putAll, Act.put, List.setIfInBounds_toArray, List.set_cons_zero, List.set_cons_succ]
       rfl
      refine one_ (i := 6) (N := none) #[true, true, true, true, true, true, true] rfl rfl (by kernel_rfl) (by decide) (fun K hK => ?_)
      have hs129 : w127.cell? ⟨gb386, 0, none⟩ = some (.slice none 0 0) := (blk_cell BK386.out 0).trans rfl
      have hfs129 := blk_frozen BK386.out 0
      have hns129_0 := NB279_386.out
      have hns129_1 := NB280_386.out
      have hns129_2 := NB308_386.out
      have hns129_3 := NB320_386.out
      have hns129_4 := NB336_386.out
      have hms129_0 := NB386_279.out
      have hms129_1 := NB386_280.out
      have hms129_2 := NB386_308.out
      have hms129_3 := NB386_320.out
      have hms129_4 := NB386_336.out
      have hs130 : w127.cell? ⟨gb386, 1, none⟩ = some (.int .i64 0) := (blk_cell BK386.out 1).trans rfl
      have hfs130 := blk_frozen BK386.out 1
      have hns130_0 := NB279_386.out
      have hns130_1 := NB280_386.out
      have hns130_2 := NB308_386.out
      have hns130_3 := NB320_386.out
      have hns130_4 := NB336_386.out
      have hms130_0 := NB386_279.out
      have hms130_1 := NB386_280.out
      have hms130_2 := NB386_308.out
      have hms130_3 := NB386_320.out
      have hms130_4 := NB386_336.out
      have hs131 : w127.cell? ⟨gb386, 2, none⟩ = some (.bool false) := (blk_cell BK386.out 2).trans rfl
      have hfs131 := blk_frozen BK386.out 2
      have hns131_0 := NB279_386.out
      have hns131_1 := NB280_386.out
      have hns131_2 := NB308_386.out
      have hns131_3 := NB320_386.out
      have hns131_4 := NB336_386.out
      have hms131_0 := NB386_279.out
      have hms131_1 := NB386_280.out
      have hms131_2 := NB386_308.out
      have hms131_3 := NB386_320.out
      have hms131_4 := NB386_336.out
      have hs133 : w127.cell? ⟨gb386, 3, none⟩ = some (.slice none 0 0) := (blk_cell BK386.out 3).trans rfl
      have hfs133 := blk_frozen BK386.out 3
      have hns133_0 := NB279_386.out
      have hns133_1 := NB280_386.out
      have hns133_2 := NB308_386.out
      have hns133_3 := NB320_386.out
      have hns133_4 := NB336_386.out
      have hms133_0 := NB386_279.out
      have hms133_1 := NB386_280.out
      have hms133_2 := NB386_308.out
      have hms133_3 := NB386_320.out
      have hms133_4 := NB386_336.out
      have hs135 : w127.cell? ⟨gb386, 4, none⟩ = some (.slice none 0 0) := (blk_cell BK386.out 4).trans rfl
      have hfs135 := blk_frozen BK386.out 4
      have hns135_0 := NB279_386.out
      have hns135_1 := NB280_386.out
      have hns135_2 := NB308_386.out
      have hns135_3 := NB320_386.out
      have hns135_4 := NB336_386.out
      have hms135_0 := NB386_279.out
      have hms135_1 := NB386_280.out
      have hms135_2 := NB386_308.out
      have hms135_3 := NB386_320.out
      have hms135_4 := NB386_336.out
      refine skip_ (w1 := ?_) (by rfl) rfl ?_ ?_
      rotate_left
      ·
       go_simp
       rfl
      refine hK.out _ _ ⟨((cell_far (p := ⟨gb386, _, none⟩) NB279_386.out _).trans (((cell_far (p := ⟨gb386, _, none⟩) NB279_386.out _).trans (((cell_far (p := ⟨gb386, _, none⟩) NB279_386.out _).trans (((cell_far (p := ⟨gb386, _, none⟩) NB279_386.out _).trans (((cell_far (p := ⟨gb386, _, none⟩) NB279_386.out _).trans (hHeld.1)))))))))), ((cell_far (p := ⟨gb386, _, none⟩) NB279_386.out _).trans (((cell_far (p := ⟨gb386, _, none⟩) NB279_386.out _).trans (((cell_far (p := ⟨gb386, _, none⟩) NB279_386.out _).trans (((cell_far (p := ⟨gb386, _, none⟩) NB279_386.out _).trans (((cell_far (p := ⟨gb386, _, none⟩) NB279_386.out _).trans (hHeld.2.1)))))))))), ((cell_far (p := ⟨gb386, _, none⟩) NB279_386.out _).trans (((cell_far (p := ⟨gb386, _, none⟩) NB279_386.out _).trans (((cell_far (p := ⟨gb386, _, none⟩) NB279_386.out _).trans (((cell_far (p := ⟨gb386, _, none⟩) NB279_386.out _).trans (((cell_far (p := ⟨gb386, _, none⟩) NB279_386.out _).trans (hHeld.2.2.1)))))))))), ((cell_far (p := ⟨gb386, _, none⟩) NB279_386.out _).trans (((cell_far (p := ⟨gb386, _, none⟩) NB279_386.out _).trans (((cell_far (p := ⟨gb386, _, none⟩) NB279_386.out _).trans (((cell_far (p := ⟨gb386, _, none⟩) NB279_386.out _).trans (((cell_far (p := ⟨gb386, _, none⟩) NB279_386.out _).trans (hHeld.2.2.2.1)))))))))), ((cell_far (p := ⟨gb386, _, none⟩) NB279_386.out _).trans (((cell_far (p := ⟨gb386, _, none⟩) NB279_386.out _).trans (((cell_far (p := ⟨gb386, _, none⟩) NB279_386.out _).trans (((cell_far (p := ⟨gb386, _, none⟩) NB279_386.out _).trans (((cell_far (p := ⟨gb386, _, none⟩) NB279_386.out _).trans (hHeld.2.2.2.2.1)))))))))), ((cell_far (p := ⟨gb386, _, none⟩) NB280_386.out _).trans (((cell_far (p := ⟨gb386, _, none⟩) NB280_386.out _).trans (((cell_far (p := ⟨gb386, _, none⟩) NB280_386.out _).trans (((cell_far (p := ⟨gb386, _, none⟩) NB280_386.out _).trans (((cell_far (p := ⟨gb386, _, none⟩) NB280_386.out _).trans (hHeld.2.2.2.2.2.1)))))))))), ((cell_far (p := ⟨gb386, _, none⟩) NB280_386.out _).trans (((cell_far (p := ⟨gb386, _, none⟩) NB280_386.out _).trans (((cell_far (p := ⟨gb386, _, none⟩) NB280_386.out _).trans (((cell_far (p := ⟨gb386, _, none⟩) NB280_386.out _).trans (((cell_far (p := ⟨gb386, _, none⟩) NB280_386.out _).trans (hHeld.2.2.2.2.2.2.1)))))))))), ((cell_far (p := ⟨gb386, _, none⟩) NB280_386.out _).trans (((cell_far (p := ⟨gb386, _, none⟩) NB280_386.out _).trans (((cell_far (p := ⟨gb386, _, none⟩) NB280_386.out _).trans (((cell_far (p := ⟨gb386, _, none⟩) NB280_386.out _).trans (((cell_far (p := ⟨gb386, _, none⟩) NB280_386.out _).trans (hHeld.2.2.2.2.2.2.2.1)))))))))), ((cell_far (p := ⟨gb386, _, none⟩) NB280_386.out _).trans (((cell_far (p := ⟨gb386, _, none⟩) NB280_386.out _).trans (((cell_far (p := ⟨gb386, _, none⟩) NB280_386.out _).trans (((cell_far (p := ⟨gb386, _, none⟩) NB280_386.out _).trans (((cell_far (p := ⟨gb386, _, none⟩) NB280_386.out _).trans (hHeld.2.2.2.2.2.2.2.2))))))))))⟩ (fun hHeld => ?_)
      clear hK K
      refine done_ (by kernel_rfl) ?_
      have hnb136 := NB386_279.out
      have hnc136 := NB279_386.out
      have hnb137 := NB386_280.out
      have hnc137 := NB280_386.out
      have hnb138 := NB386_308.out
      have hnc138 := NB308_386.out
      have hnb139 := NB386_320.out
      have hnc139 := NB320_386.out
      have hnb140 := NB386_336.out
      have hnc140 := NB336_386.out
      have hcz141_0 : w127.cell? ⟨gb386, 0, none⟩ = some (.slice none 0 0) := (blk_cell BK386.out 0).trans rfl
      have hcz141_1 : w127.cell? ⟨gb386, 1, none⟩ = some (.int .i64 0) := (blk_cell BK386.out 1).trans rfl
      have hcz141_2 : w127.cell? ⟨gb386, 2, none⟩ = some (.bool false) := (blk_cell BK386.out 2).trans rfl
      have hcz141_3 : w127.cell? ⟨gb386, 3, none⟩ = some (.slice none 0 0) := (blk_cell BK386.out 3).trans rfl
      have hcz141_4 : w127.cell? ⟨gb386, 4, none⟩ = some (.slice none 0 0) := (blk_cell BK386.out 4).trans rfl
      have hfz141_0 := blk_frozen BK386.out 0
      have hfz141_1 := blk_frozen BK386.out 1
      have hfz141_2 := blk_frozen BK386.out 2
      have hfz141_3 := blk_frozen BK386.out 3
      have hfz141_4 := blk_frozen BK386.out 4
      have hnb142 := NB308_279.out
      have hnc142 := NB279_308.out
      have hnb143 := NB308_280.out
      have hnc143 := NB280_308.out
      have hnb144 := NB308_320.out
      have hnc144 := NB320_308.out
      have hcz145_0 : w127.cell? ⟨gb308, 0, none⟩ = some (.slice Ao37 t297.length co37) := (blk_cell BK308.out 0).trans rfl
      have hcz145_1 : w127.cell? ⟨gb308, 1, none⟩ = some (.int .i64 t300) := (blk_cell BK308.out 1).trans rfl
      have hcz145_2 : w127.cell? ⟨gb308, 2, none⟩ = some (.bool t301) := (blk_cell BK308.out 2).trans rfl
      have hcz145_3 : w127.cell? ⟨gb308, 3, none⟩ = some (.slice Ao41 t302.length co41) := (blk_cell BK308.out 3).trans rfl
      have hcz145_4 : w127.cell? ⟨gb308, 4, none⟩ = some (.slice Ao43 t305.length co43) := (blk_cell BK308.out 4).trans rfl
      have hfz145_0 := blk_frozen BK308.out 0
      have hfz145_1 := blk_frozen BK308.out 1
      have hfz145_2 := blk_frozen BK308.out 2
      have hfz145_3 := blk_frozen BK308.out 3
      have hfz145_4 := blk_frozen BK308.out 4
      try go_wp2_with (first | ((with_reducible refine gate_callee (f := 24) rfl ?_); refine goesL_ (some 67) rfl rfl Try.func24 (by kernel_rfl) rfl #[.agg #[.slice Ao128 t375.length co128, .int .i64 t378, .bool t379, .slice Ao132 t380.length co132, .slice Ao134 t383.length co134], .agg #[.slice Ao37 t297.length co37, .int .i64 t300, .bool t301, .slice Ao41 t302.length co41, .slice Ao43 t305.length co43]] rfl z4_ ?_; (with_reducible refine (laws_eqThread.calls kj21 _ _ t375 t378 t379 _ _ t380 _ _ t383 _ _ t297 t300 t301 _ _ t302 _ _ t305 true _ ?side1 ?side2 ?side3 ?side4 ?side5 ?side6 ?side7 ?side8 ?side9 ?side10 ?side11 ?side12 A106.out).mono ?_); (case side1 => refine (Kd.R_reads' (e := 88) (base := w.heap.size) (ok := fun k_ => (some k_ ≠ (v361 : Value).ownBlock ∧ (some k_ ≠ (.slice Ao37 t297.length co37 : Value).ownBlock ∧ (some k_ ≠ (.slice Ao49 t351.length co49 : Value).ownBlock ∧ some k_ ≠ (.slice Ao62 t325.length co62 : Value).ownBlock)))) (n := t375.length) (c := co128) ?_).2.2; exact z21_); (case side2 => exact (Kd.R_reads' HO377.out).2.1); (case side3 => refine (Kd.R_reads' (e := 136) (base := w.heap.size) (ok := fun k_ => (some k_ ≠ (v366 : Value).ownBlock ∧ (some k_ ≠ (.slice Ao41 t302.length co41 : Value).ownBlock ∧ (some k_ ≠ (.slice Ao54 t352.length co54 : Value).ownBlock ∧ some k_ ≠ (.slice Ao66 t330.length co66 : Value).ownBlock)))) (n := t380.length) (c := co132) ?_).2.2; exact z22_); (case side4 => exact (Kd.R_reads' HO382.out).2.1); (case side5 => refine (Kd.R_reads' (e := 67) (base := w.heap.size) (ok := fun k_ => (some k_ ≠ (v369 : Value).ownBlock ∧ (some k_ ≠ (.slice Ao43 t305.length co43 : Value).ownBlock ∧ (some k_ ≠ (.slice Ao55 t353.length co55 : Value).ownBlock ∧ some k_ ≠ (.slice Ao68 t333.length co68 : Value).ownBlock)))) (n := t383.length) (c := co134) ?_).2.2; exact z23_); (case side6 => exact (Kd.R_reads' HO385.out).2.1); (case side7 => refine (Kd.R_reads' (e := 88) (base := w.heap.size) (ok := fun k_ => (some k_ ≠ (v361 : Value).ownBlock ∧ (some k_ ≠ (.slice Ao128 t375.length co128 : Value).ownBlock ∧ (some k_ ≠ (.slice Ao49 t351.length co49 : Value).ownBlock ∧ some k_ ≠ (.slice Ao62 t325.length co62 : Value).ownBlock)))) (n := t297.length) (c := co37) ?_).2.2; exact z18_); (case side8 => exact (Kd.R_reads' HO_309000.out).2.1); (case side9 => refine (Kd.R_reads' (e := 136) (base := w.heap.size) (ok := fun k_ => (some k_ ≠ (v366 : Value).ownBlock ∧ (some k_ ≠ (.slice Ao132 t380.length co132 : Value).ownBlock ∧ (some k_ ≠ (.slice Ao54 t352.length co54 : Value).ownBlock ∧ some k_ ≠ (.slice Ao66 t330.length co66 : Value).ownBlock)))) (n := t302.length) (c := co41) ?_).2.2; exact z19_); (case side10 => exact (Kd.R_reads' HO_309003.out).2.1); (case side11 => refine (Kd.R_reads' (e := 67) (base := w.heap.size) (ok := fun k_ => (some k_ ≠ (v369 : Value).ownBlock ∧ (some k_ ≠ (.slice Ao134 t383.length co134 : Value).ownBlock ∧ (some k_ ≠ (.slice Ao55 t353.length co55 : Value).ownBlock ∧ some k_ ≠ (.slice Ao68 t333.length co68 : Value).ownBlock)))) (n := t305.length) (c := co43) ?_).2.2; exact z20_); (case side12 => exact (Kd.R_reads' HO_309004.out).2.1); rintro e w146 ⟨rfl, hb⟩; refine ⟨_, rfl, ?_⟩; have n0_ := Aside0.mk (Kd.R_below z18_ hb); have n1_ := Aside0.mk (Kd.R_below z19_ hb); have n2_ := Aside0.mk (Kd.R_below z20_ hb); have n3_ := Aside0.mk (Kd.R_below (by (with_reducible repeat (first | apply Kd.R_alloc | apply Kd.R_drewN | apply Kd.R_drew)); exact (Kd.R_mono (Kd.R_far (p := ⟨gb386, 4, none⟩) (Kd.R_far (p := ⟨gb386, 3, none⟩) (Kd.R_far (p := ⟨gb386, 2, none⟩) (Kd.R_far (p := ⟨gb386, 1, none⟩) (Kd.R_far (p := ⟨gb386, 0, none⟩) (Kd.R_types HO_321000.out BK386.out (by decide)) (fun _ hk => hk.2) (.slice Ao128 t375.length co128)) (fun _ hk => hk.2) (.int .i64 t378)) (fun _ hk => hk.2) (.bool t379)) (fun _ hk => hk.2) (.slice Ao132 t380.length co132)) (fun _ hk => hk.2) (.slice Ao134 t383.length co134)) (fun _ h_ => h_.1))) hb); have n4_ := Aside0.mk (Kd.R_below (by (with_reducible repeat (first | apply Kd.R_alloc | apply Kd.R_drewN | apply Kd.R_drew)); exact (Kd.R_mono (Kd.R_far (p := ⟨gb386, 4, none⟩) (Kd.R_far (p := ⟨gb386, 3, none⟩) (Kd.R_far (p := ⟨gb386, 2, none⟩) (Kd.R_far (p := ⟨gb386, 1, none⟩) (Kd.R_far (p := ⟨gb386, 0, none⟩) (Kd.R_types HO_321003.out BK386.out (by decide)) (fun _ hk => hk.2) (.slice Ao128 t375.length co128)) (fun _ hk => hk.2) (.int .i64 t378)) (fun _ hk => hk.2) (.bool t379)) (fun _ hk => hk.2) (.slice Ao132 t380.length co132)) (fun _ hk => hk.2) (.slice Ao134 t383.length co134)) (fun _ h_ => h_.1))) hb); have n5_ := Aside0.mk (Kd.R_below (by (with_reducible repeat (first | apply Kd.R_alloc | apply Kd.R_drewN | apply Kd.R_drew)); exact (Kd.R_mono (Kd.R_far (p := ⟨gb386, 4, none⟩) (Kd.R_far (p := ⟨gb386, 3, none⟩) (Kd.R_far (p := ⟨gb386, 2, none⟩) (Kd.R_far (p := ⟨gb386, 1, none⟩) (Kd.R_far (p := ⟨gb386, 0, none⟩) (Kd.R_types HO_321004.out BK386.out (by decide)) (fun _ hk => hk.2) (.slice Ao128 t375.length co128)) (fun _ hk => hk.2) (.int .i64 t378)) (fun _ hk => hk.2) (.bool t379)) (fun _ hk => hk.2) (.slice Ao132 t380.length co132)) (fun _ hk => hk.2) (.slice Ao134 t383.length co134)) (fun _ h_ => h_.1))) hb); have n6_ := Aside0.mk (Kd.R_below (by (with_reducible repeat (first | apply Kd.R_alloc | apply Kd.R_drewN | apply Kd.R_drew)); exact (Kd.R_mono (Kd.R_far (p := ⟨gb386, 4, none⟩) (Kd.R_far (p := ⟨gb386, 3, none⟩) (Kd.R_far (p := ⟨gb386, 2, none⟩) (Kd.R_far (p := ⟨gb386, 1, none⟩) (Kd.R_far (p := ⟨gb386, 0, none⟩) (Kd.R_types HO_337000.out BK386.out (by decide)) (fun _ hk => hk.2) (.slice Ao128 t375.length co128)) (fun _ hk => hk.2) (.int .i64 t378)) (fun _ hk => hk.2) (.bool t379)) (fun _ hk => hk.2) (.slice Ao132 t380.length co132)) (fun _ hk => hk.2) (.slice Ao134 t383.length co134)) (fun _ h_ => h_.1))) hb); have n7_ := Aside0.mk (Kd.R_below (by (with_reducible repeat (first | apply Kd.R_alloc | apply Kd.R_drewN | apply Kd.R_drew)); exact (Kd.R_mono (Kd.R_far (p := ⟨gb386, 4, none⟩) (Kd.R_far (p := ⟨gb386, 3, none⟩) (Kd.R_far (p := ⟨gb386, 2, none⟩) (Kd.R_far (p := ⟨gb386, 1, none⟩) (Kd.R_far (p := ⟨gb386, 0, none⟩) (Kd.R_types HO_337003.out BK386.out (by decide)) (fun _ hk => hk.2) (.slice Ao128 t375.length co128)) (fun _ hk => hk.2) (.int .i64 t378)) (fun _ hk => hk.2) (.bool t379)) (fun _ hk => hk.2) (.slice Ao132 t380.length co132)) (fun _ hk => hk.2) (.slice Ao134 t383.length co134)) (fun _ h_ => h_.1))) hb); have n8_ := Aside0.mk (Kd.R_below (by (with_reducible repeat (first | apply Kd.R_alloc | apply Kd.R_drewN | apply Kd.R_drew)); exact (Kd.R_mono (Kd.R_far (p := ⟨gb386, 4, none⟩) (Kd.R_far (p := ⟨gb386, 3, none⟩) (Kd.R_far (p := ⟨gb386, 2, none⟩) (Kd.R_far (p := ⟨gb386, 1, none⟩) (Kd.R_far (p := ⟨gb386, 0, none⟩) (Kd.R_types HO_337004.out BK386.out (by decide)) (fun _ hk => hk.2) (.slice Ao128 t375.length co128)) (fun _ hk => hk.2) (.int .i64 t378)) (fun _ hk => hk.2) (.bool t379)) (fun _ hk => hk.2) (.slice Ao132 t380.length co132)) (fun _ hk => hk.2) (.slice Ao134 t383.length co134)) (fun _ h_ => h_.1))) hb); have n9_ := Aside0.mk (Kd.R_below (by (with_reducible repeat (first | apply Kd.R_alloc | apply Kd.R_drewN | apply Kd.R_drew)); exact (Kd.R_mono (Kd.R_far (p := ⟨gb386, 4, none⟩) (Kd.R_far (p := ⟨gb386, 3, none⟩) (Kd.R_far (p := ⟨gb386, 2, none⟩) (Kd.R_far (p := ⟨gb386, 1, none⟩) (Kd.R_far (p := ⟨gb386, 0, none⟩) (Kd.R_types HO362.out BK386.out (by decide)) (fun _ hk => hk.2) (.slice Ao128 t375.length co128)) (fun _ hk => hk.2) (.int .i64 t378)) (fun _ hk => hk.2) (.bool t379)) (fun _ hk => hk.2) (.slice Ao132 t380.length co132)) (fun _ hk => hk.2) (.slice Ao134 t383.length co134)) (fun _ h_ => h_.1))) hb); have n10_ := Aside0.mk (Kd.R_below (by (with_reducible repeat (first | apply Kd.R_alloc | apply Kd.R_drewN | apply Kd.R_drew)); exact (Kd.R_mono (Kd.R_far (p := ⟨gb386, 4, none⟩) (Kd.R_far (p := ⟨gb386, 3, none⟩) (Kd.R_far (p := ⟨gb386, 2, none⟩) (Kd.R_far (p := ⟨gb386, 1, none⟩) (Kd.R_far (p := ⟨gb386, 0, none⟩) (Kd.R_types HO367.out BK386.out (by decide)) (fun _ hk => hk.2) (.slice Ao128 t375.length co128)) (fun _ hk => hk.2) (.int .i64 t378)) (fun _ hk => hk.2) (.bool t379)) (fun _ hk => hk.2) (.slice Ao132 t380.length co132)) (fun _ hk => hk.2) (.slice Ao134 t383.length co134)) (fun _ h_ => h_.1))) hb); have n11_ := Aside0.mk (Kd.R_below (by (with_reducible repeat (first | apply Kd.R_alloc | apply Kd.R_drewN | apply Kd.R_drew)); exact (Kd.R_mono (Kd.R_far (p := ⟨gb386, 4, none⟩) (Kd.R_far (p := ⟨gb386, 3, none⟩) (Kd.R_far (p := ⟨gb386, 2, none⟩) (Kd.R_far (p := ⟨gb386, 1, none⟩) (Kd.R_far (p := ⟨gb386, 0, none⟩) (Kd.R_types HO370.out BK386.out (by decide)) (fun _ hk => hk.2) (.slice Ao128 t375.length co128)) (fun _ hk => hk.2) (.int .i64 t378)) (fun _ hk => hk.2) (.bool t379)) (fun _ hk => hk.2) (.slice Ao132 t380.length co132)) (fun _ hk => hk.2) (.slice Ao134 t383.length co134)) (fun _ h_ => h_.1))) hb); have n12_ := Aside0.mk (Kd.R_below z21_ hb); have n13_ := Aside0.mk (Kd.R_below z22_ hb); have n14_ := Aside0.mk (Kd.R_below z23_ hb); have n15_ := Aside0.mk (blk_below (g := gb279) (o := .cells #[.slice A0_0 l0_0.length c0_0, .int .i64 a0_1, .bool a0_2, .slice A0_3 l0_3.length c0_3, .slice A0_4 l0_4.length c0_4] 59 (0, 0)) (by (with_reducible repeat (first | refine blk_drewN ?_ _ | refine blk_drew ?_ | refine blk_alloc ?_ _)); refine blk_far ?_ NB279_386.out _; (with_reducible repeat (first | refine blk_drewN ?_ _ | refine blk_drew ?_ | refine blk_alloc ?_ _)); refine blk_far ?_ NB279_386.out _; (with_reducible repeat (first | refine blk_drewN ?_ _ | refine blk_drew ?_ | refine blk_alloc ?_ _)); refine blk_far ?_ NB279_386.out _; (with_reducible repeat (first | refine blk_drewN ?_ _ | refine blk_drew ?_ | refine blk_alloc ?_ _)); refine blk_far ?_ NB279_386.out _; (with_reducible repeat (first | refine blk_drewN ?_ _ | refine blk_drew ?_ | refine blk_alloc ?_ _)); refine blk_far ?_ NB279_386.out _; (with_reducible repeat (first | refine blk_drewN ?_ _ | refine blk_drew ?_ | refine blk_alloc ?_ _)); exact BK279.out) hb); have n16_ := Aside0.mk (blk_below (g := gb280) (o := .cells #[.int .i64 a1_0, .int .i64 a1_1, .int .i64 a1_2, .int .i64 a1_3] 65 (0, 0)) (by (with_reducible repeat (first | refine blk_drewN ?_ _ | refine blk_drew ?_ | refine blk_alloc ?_ _)); refine blk_far ?_ NB280_386.out _; (with_reducible repeat (first | refine blk_drewN ?_ _ | refine blk_drew ?_ | refine blk_alloc ?_ _)); refine blk_far ?_ NB280_386.out _; (with_reducible repeat (first | refine blk_drewN ?_ _ | refine blk_drew ?_ | refine blk_alloc ?_ _)); refine blk_far ?_ NB280_386.out _; (with_reducible repeat (first | refine blk_drewN ?_ _ | refine blk_drew ?_ | refine blk_alloc ?_ _)); refine blk_far ?_ NB280_386.out _; (with_reducible repeat (first | refine blk_drewN ?_ _ | refine blk_drew ?_ | refine blk_alloc ?_ _)); refine blk_far ?_ NB280_386.out _; (with_reducible repeat (first | refine blk_drewN ?_ _ | refine blk_drew ?_ | refine blk_alloc ?_ _)); exact BK280.out) hb); have n17_ := Aside0.mk (blk_below (g := gb308) (o := .cells #[.slice Ao37 t297.length co37, .int .i64 t300, .bool t301, .slice Ao41 t302.length co41, .slice Ao43 t305.length co43] 36 (0, 0)) (by (with_reducible repeat (first | refine blk_drewN ?_ _ | refine blk_drew ?_ | refine blk_alloc ?_ _)); refine blk_far ?_ NB308_386.out _; (with_reducible repeat (first | refine blk_drewN ?_ _ | refine blk_drew ?_ | refine blk_alloc ?_ _)); refine blk_far ?_ NB308_386.out _; (with_reducible repeat (first | refine blk_drewN ?_ _ | refine blk_drew ?_ | refine blk_alloc ?_ _)); refine blk_far ?_ NB308_386.out _; (with_reducible repeat (first | refine blk_drewN ?_ _ | refine blk_drew ?_ | refine blk_alloc ?_ _)); refine blk_far ?_ NB308_386.out _; (with_reducible repeat (first | refine blk_drewN ?_ _ | refine blk_drew ?_ | refine blk_alloc ?_ _)); refine blk_far ?_ NB308_386.out _; (with_reducible repeat (first | refine blk_drewN ?_ _ | refine blk_drew ?_ | refine blk_alloc ?_ _)); exact BK308.out) hb); have n18_ := Aside0.mk (blk_below (g := gb320) (o := .cells #[.slice Ao49 t351.length co49, .int .i64 t312, .bool t313, .slice Ao54 t352.length co54, .slice Ao55 t353.length co55] 36 (0, 0)) (by (with_reducible repeat (first | refine blk_drewN ?_ _ | refine blk_drew ?_ | refine blk_alloc ?_ _)); refine blk_far ?_ NB320_386.out _; (with_reducible repeat (first | refine blk_drewN ?_ _ | refine blk_drew ?_ | refine blk_alloc ?_ _)); refine blk_far ?_ NB320_386.out _; (with_reducible repeat (first | refine blk_drewN ?_ _ | refine blk_drew ?_ | refine blk_alloc ?_ _)); refine blk_far ?_ NB320_386.out _; (with_reducible repeat (first | refine blk_drewN ?_ _ | refine blk_drew ?_ | refine blk_alloc ?_ _)); refine blk_far ?_ NB320_386.out _; (with_reducible repeat (first | refine blk_drewN ?_ _ | refine blk_drew ?_ | refine blk_alloc ?_ _)); refine blk_far ?_ NB320_386.out _; (with_reducible repeat (first | refine blk_drewN ?_ _ | refine blk_drew ?_ | refine blk_alloc ?_ _)); exact BK320.out) hb); have n19_ := Aside0.mk (blk_below (g := gb336) (o := .cells #[.slice Ao62 t325.length co62, .int .i64 t328, .bool t329, .slice Ao66 t330.length co66, .slice Ao68 t333.length co68] 36 (0, 0)) (by (with_reducible repeat (first | refine blk_drewN ?_ _ | refine blk_drew ?_ | refine blk_alloc ?_ _)); refine blk_far ?_ NB336_386.out _; (with_reducible repeat (first | refine blk_drewN ?_ _ | refine blk_drew ?_ | refine blk_alloc ?_ _)); refine blk_far ?_ NB336_386.out _; (with_reducible repeat (first | refine blk_drewN ?_ _ | refine blk_drew ?_ | refine blk_alloc ?_ _)); refine blk_far ?_ NB336_386.out _; (with_reducible repeat (first | refine blk_drewN ?_ _ | refine blk_drew ?_ | refine blk_alloc ?_ _)); refine blk_far ?_ NB336_386.out _; (with_reducible repeat (first | refine blk_drewN ?_ _ | refine blk_drew ?_ | refine blk_alloc ?_ _)); refine blk_far ?_ NB336_386.out _; (with_reducible repeat (first | refine blk_drewN ?_ _ | refine blk_drew ?_ | refine blk_alloc ?_ _)); exact BK336.out) hb); have n20_ := Aside0.mk (blk_below (g := gb386) (o := .cells #[.slice Ao128 t375.length co128, .int .i64 t378, .bool t379, .slice Ao132 t380.length co132, .slice Ao134 t383.length co134] 36 (0, 0)) (by (with_reducible repeat (first | refine blk_drewN ?_ _ | refine blk_drew ?_ | refine blk_alloc ?_ _)); refine blk_put (cs := #[.slice Ao128 t375.length co128, .int .i64 t378, .bool t379, .slice Ao132 t380.length co132, .slice none 0 0]) ?_ 4 _ rfl; (with_reducible repeat (first | refine blk_drewN ?_ _ | refine blk_drew ?_ | refine blk_alloc ?_ _)); refine blk_put (cs := #[.slice Ao128 t375.length co128, .int .i64 t378, .bool t379, .slice none 0 0, .slice none 0 0]) ?_ 3 _ rfl; (with_reducible repeat (first | refine blk_drewN ?_ _ | refine blk_drew ?_ | refine blk_alloc ?_ _)); refine blk_put (cs := #[.slice Ao128 t375.length co128, .int .i64 t378, .bool false, .slice none 0 0, .slice none 0 0]) ?_ 2 _ rfl; (with_reducible repeat (first | refine blk_drewN ?_ _ | refine blk_drew ?_ | refine blk_alloc ?_ _)); refine blk_put (cs := #[.slice Ao128 t375.length co128, .int .i64 0, .bool false, .slice none 0 0, .slice none 0 0]) ?_ 1 _ rfl; (with_reducible repeat (first | refine blk_drewN ?_ _ | refine blk_drew ?_ | refine blk_alloc ?_ _)); refine blk_put (cs := #[.slice none 0 0, .int .i64 0, .bool false, .slice none 0 0, .slice none 0 0]) ?_ 0 _ rfl; (with_reducible repeat (first | refine blk_drewN ?_ _ | refine blk_drew ?_ | refine blk_alloc ?_ _)); exact BK386.out) hb); have n21_ := Aside0.mk (below_step z1_ hb); clear HO_309000 HO_309003 HO_309004 HO_321000 HO_321003 HO_321004 HO_337000 HO_337003 HO_337004 HO362 HO367 HO370 HO377 HO382 HO385 BK279 BK280 BK308 BK320 BK336 BK386 HB; have HO_309000 := n0_; have HO_309003 := n1_; have HO_309004 := n2_; have HO_321000 := n3_; have HO_321003 := n4_; have HO_321004 := n5_; have HO_337000 := n6_; have HO_337003 := n7_; have HO_337004 := n8_; have HO362 := n9_; have HO367 := n10_; have HO370 := n11_; have HO377 := n12_; have HO382 := n13_; have HO385 := n14_; have BK279 := n15_; have BK280 := n16_; have BK308 := n17_; have BK320 := n18_; have BK336 := n19_; have BK386 := n20_; have HB := n21_; clear n0_ n1_ n2_ n3_ n4_ n5_ n6_ n7_ n8_ n9_ n10_ n11_ n12_ n13_ n14_ n15_ n16_ n17_ n18_ n19_ n20_ n21_; (try clear hb); (try clear hb2); (try clear hk); (try clear hi); have hcz147_0 : w146.cell? ⟨gb336, 0, none⟩ = some (.slice Ao62 t325.length co62) := (blk_cell BK336.out 0).trans rfl; have hcz147_1 : w146.cell? ⟨gb336, 1, none⟩ = some (.int .i64 t328) := (blk_cell BK336.out 1).trans rfl; have hcz147_2 : w146.cell? ⟨gb336, 2, none⟩ = some (.bool t329) := (blk_cell BK336.out 2).trans rfl; have hcz147_3 : w146.cell? ⟨gb336, 3, none⟩ = some (.slice Ao66 t330.length co66) := (blk_cell BK336.out 3).trans rfl; have hcz147_4 : w146.cell? ⟨gb336, 4, none⟩ = some (.slice Ao68 t333.length co68) := (blk_cell BK336.out 4).trans rfl; have hfz147_0 := blk_frozen BK336.out 0; have hfz147_1 := blk_frozen BK336.out 1; have hfz147_2 := blk_frozen BK336.out 2; have hfz147_3 := blk_frozen BK336.out 3; have hfz147_4 := blk_frozen BK336.out 4) | ((with_reducible refine gate_callee (f := 28) rfl ?_); refine goesL_ (some 71) rfl rfl Try.func28 (by kernel_rfl) rfl #[.agg #[.slice Ao62 t356.length co62, .int .i64 t328, .bool t329, .slice Ao66 t357.length co66, .slice Ao68 t358.length co68], .int .i64 1] rfl z59_ ?_; (with_reducible refine (laws_heldThread.calls kj21 _ _ t356 t328 t329 _ _ t357 _ _ t358 1 t388 _ ?side1 ?side2 ?side3 ?side4 ?side5 ?side6 A108.out).mono ?_); (case side1 => repeat (first | exact (Kd.R_reads' HO_337000.out).2.2 | (with_reducible refine Kd.C_alloc ?_ _) | (with_reducible refine Kd.C_drewN ?_ _) | (with_reducible refine Kd.C_drew ?_))); (case side2 => rw [show t356.length = t325.length from (Kd.R_reads' HO_337000.out).1.symm]; exact (Kd.R_reads' HO_337000.out).2.1); (case side3 => repeat (first | exact (Kd.R_reads' HO_337003.out).2.2 | (with_reducible refine Kd.C_alloc ?_ _) | (with_reducible refine Kd.C_drewN ?_ _) | (with_reducible refine Kd.C_drew ?_))); (case side4 => rw [show t357.length = t330.length from (Kd.R_reads' HO_337003.out).1.symm]; exact (Kd.R_reads' HO_337003.out).2.1); (case side5 => repeat (first | exact (Kd.R_reads' HO_337004.out).2.2 | (with_reducible refine Kd.C_alloc ?_ _) | (with_reducible refine Kd.C_drewN ?_ _) | (with_reducible refine Kd.C_drew ?_))); (case side6 => rw [show t358.length = t333.length from (Kd.R_reads' HO_337004.out).1.symm]; exact (Kd.R_reads' HO_337004.out).2.1); rintro e w148 ⟨rfl, hb⟩; refine ⟨_, rfl, ?_⟩; have n0_ := Aside0.mk (Kd.R_below (rb_ HO_309000.out) hb); have n1_ := Aside0.mk (Kd.R_below (rb_ HO_309003.out) hb); have n2_ := Aside0.mk (Kd.R_below (rb_ HO_309004.out) hb); have n3_ := Aside0.mk (Kd.R_below (rb_ HO_321000.out) hb); have n4_ := Aside0.mk (Kd.R_below (rb_ HO_321003.out) hb); have n5_ := Aside0.mk (Kd.R_below (rb_ HO_321004.out) hb); have n6_ := Aside0.mk (Kd.R_below (rb_ HO_337000.out) hb); have n7_ := Aside0.mk (Kd.R_below (rb_ HO_337003.out) hb); have n8_ := Aside0.mk (Kd.R_below (rb_ HO_337004.out) hb); have n9_ := Aside0.mk (Kd.R_below (rb_ HO362.out) hb); have n10_ := Aside0.mk (Kd.R_below (rb_ HO367.out) hb); have n11_ := Aside0.mk (Kd.R_below (rb_ HO370.out) hb); have n12_ := Aside0.mk (Kd.R_below (rb_ HO377.out) hb); have n13_ := Aside0.mk (Kd.R_below (rb_ HO382.out) hb); have n14_ := Aside0.mk (Kd.R_below (rb_ HO385.out) hb); have n15_ := Aside0.mk (blk_below (g := gb279) (o := .cells #[.slice A0_0 l0_0.length c0_0, .int .i64 a0_1, .bool a0_2, .slice A0_3 l0_3.length c0_3, .slice A0_4 l0_4.length c0_4] 59 (0, 0)) (bk_ BK279.out) hb); have n16_ := Aside0.mk (blk_below (g := gb280) (o := .cells #[.int .i64 a1_0, .int .i64 a1_1, .int .i64 a1_2, .int .i64 a1_3] 65 (0, 0)) (bk_ BK280.out) hb); have n17_ := Aside0.mk (blk_below (g := gb308) (o := .cells #[.slice Ao37 t297.length co37, .int .i64 t300, .bool t301, .slice Ao41 t302.length co41, .slice Ao43 t305.length co43] 36 (0, 0)) (bk_ BK308.out) hb); have n18_ := Aside0.mk (blk_below (g := gb320) (o := .cells #[.slice Ao49 t351.length co49, .int .i64 t312, .bool t313, .slice Ao54 t352.length co54, .slice Ao55 t353.length co55] 36 (0, 0)) (bk_ BK320.out) hb); have n19_ := Aside0.mk (blk_below (g := gb336) (o := .cells #[.slice Ao62 t325.length co62, .int .i64 t328, .bool t329, .slice Ao66 t330.length co66, .slice Ao68 t333.length co68] 36 (0, 0)) (bk_ BK336.out) hb); have n20_ := Aside0.mk (blk_below (g := gb386) (o := .cells #[.slice Ao128 t375.length co128, .int .i64 t378, .bool t379, .slice Ao132 t380.length co132, .slice Ao134 t383.length co134] 36 (0, 0)) (bk_ BK386.out) hb); have n21_ := Aside0.mk (below_step z1_ hb); clear HO_309000 HO_309003 HO_309004 HO_321000 HO_321003 HO_321004 HO_337000 HO_337003 HO_337004 HO362 HO367 HO370 HO377 HO382 HO385 BK279 BK280 BK308 BK320 BK336 BK386 HB; have HO_309000 := n0_; have HO_309003 := n1_; have HO_309004 := n2_; have HO_321000 := n3_; have HO_321003 := n4_; have HO_321004 := n5_; have HO_337000 := n6_; have HO_337003 := n7_; have HO_337004 := n8_; have HO362 := n9_; have HO367 := n10_; have HO370 := n11_; have HO377 := n12_; have HO382 := n13_; have HO385 := n14_; have BK279 := n15_; have BK280 := n16_; have BK308 := n17_; have BK320 := n18_; have BK336 := n19_; have BK386 := n20_; have HB := n21_; clear n0_ n1_ n2_ n3_ n4_ n5_ n6_ n7_ n8_ n9_ n10_ n11_ n12_ n13_ n14_ n15_ n16_ n17_ n18_ n19_ n20_ n21_; (try clear hb); (try clear hb2); (try clear hk); (try clear hi)))
      go_ret
      exact ⟨by first | rfl | (simp [errW_none, errW_some] <;> rfl) | (simp [*, errW_none, errW_some] <;> rfl), z1_⟩
     ·
      rw [if_neg c110] at H
      exact absurd H (by simp)
   ·
    replace c107 := Bool.eq_false_iff.mpr c107
    subst c107
    have H1 : (none) = some r := by rw [if_neg (show ¬ (false = true) by decide)] at H; exact H
    clear H
    have H := H1
    clear H1
    exact absurd H (by simp)
  ·
   rw [if_neg c102] at H
   exact absurd H (by simp)) : p := h

end Go.Proofs.Ytblpbhhomocfbaa.PFnExactSwap
