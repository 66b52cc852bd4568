/- Contracts of functions of the program: each says that the call does what a plain Lean function tells. Made by programs of this session and of the kit. No condition beyond the hypotheses that each theorem names. -/
import Derived.Test.YtblpbhhomocfbaaPFnExactPushx0
import Derived.Test.YtblpbhhomocfbaaPFnExactPushx2
import Derived.Test.YtblpbhhomocfbaaPFnExactPushx3
import Derived.Test.YtblpbhhomocfbaaPFnExactPushx4
import Derived.Test.YtblpbhhomocfbaaPFnExactPushx6
namespace Go.Proofs.Ytblpbhhomocfbaa.PFnExactPush
open Go.RowKit Go.Proofs.YtblpbhhomocfbaaW.PrintWords Go.Proofs.YtblpbhhomocfbaaW.PrintLast Go.Proofs.YtblpbhhomocfbaaW.PrintMore
attribute [local go_sem] max2_int min2_int max_two min_two max_three min_three max_four min_four   -- for this text's walks alone
set_option linter.unusedVariables false
set_option linter.unusedSimpArgs false

theorem z59_ {p : Prop} (h : p := by (try simp only [List.map_toArray, List.map_cons, List.map_nil]); first | done | (rw [show t369.length = t338.length from (Kd.R_reads' HO_350000.out).1.symm, show t370.length = t343.length from (Kd.R_reads' HO_350003.out).1.symm, show t371.length = t346.length from (Kd.R_reads' HO_350004.out).1.symm] <;> rfl) | rfl | (simp only [List.length_drop, List.length_take]; rfl)) : p := h
theorem z58_ {p : Prop} (h : p := by (with_reducible repeat (first | apply Kd.R_alloc | apply Kd.R_drewN | apply Kd.R_drew)); exact Kd.R_mono HO320.out (fun _ hk => hk.2)) : p := h
theorem z57_ {p : Prop} (h : p := by (with_reducible repeat (first | apply Kd.R_alloc | apply Kd.R_drewN | apply Kd.R_drew)); exact Kd.R_mono HO317.out (fun _ hk => hk.2)) : p := h
theorem z56_ {p : Prop} (h : p := by (with_reducible repeat (first | apply Kd.R_alloc | apply Kd.R_drewN | apply Kd.R_drew)); exact Kd.R_mono HO312.out (fun _ hk => hk.2)) : p := h
theorem z55_ {p : Prop} (h : p := by (with_reducible repeat (first | apply Kd.R_alloc | apply Kd.R_drewN | apply Kd.R_drew)); exact Kd.R_mono HO305.out (fun _ hk => hk.2)) : p := h
theorem z54_ {p : Prop} (h : p := by (with_reducible repeat (first | apply Kd.R_alloc | apply Kd.R_drewN | apply Kd.R_drew)); exact Kd.R_mono HO302.out (fun _ hk => hk.2)) : p := h
theorem z53_ {p : Prop} (h : p := by (with_reducible repeat (first | apply Kd.R_alloc | apply Kd.R_drewN | apply Kd.R_drew)); exact Kd.R_mono HO297.out (fun _ hk => hk.2)) : p := h
theorem z52_ {p : Prop} (h : p := by rw [hg]; exact Nat.ne_of_gt (blk_lt (g := gb333) (o := .cells #[.slice Ao49 t322.length co49, .int .i64 t325, .bool t326, .slice Ao54 t327.length co54, .slice Ao55 t330.length co55] 36 (0, 0)) (bk_ BK333.out))) : p := h
theorem z51_ {p : Prop} (h : p := by rw [hg]; exact Nat.ne_of_lt (blk_lt (g := gb333) (o := .cells #[.slice Ao49 t322.length co49, .int .i64 t325, .bool t326, .slice Ao54 t327.length co54, .slice Ao55 t330.length co55] 36 (0, 0)) (bk_ BK333.out))) : p := h
theorem z50_ {p : Prop} (h : p := by (with_reducible repeat (first | apply Kd.R_alloc | apply Kd.R_drewN | apply Kd.R_drew)); exact Kd.R_mono HO398.out (fun _ hk => ⟨hk.2, ⟨hk.1.1.1.2, ⟨hk.1.1.2, hk.1.2⟩⟩⟩)) : p := h
theorem z49_ {p : Prop} (h : p := by (with_reducible repeat (first | apply Kd.R_alloc | apply Kd.R_drewN | apply Kd.R_drew)); exact Kd.R_mono HO395.out (fun _ hk => ⟨hk.2, ⟨hk.1.1.1.2, ⟨hk.1.1.2, hk.1.2⟩⟩⟩)) : p := h
theorem z48_ {p : Prop} (h : p := by (with_reducible repeat (first | apply Kd.R_alloc | apply Kd.R_drewN | apply Kd.R_drew)); exact Kd.R_mono HO390.out (fun _ hk => ⟨hk.2, ⟨hk.1.1.1.2, ⟨hk.1.1.2, hk.1.2⟩⟩⟩)) : p := h
theorem z47_ {p : Prop} (h : p := by (with_reducible repeat (first | apply Kd.R_alloc | apply Kd.R_drewN | apply Kd.R_drew)); exact Kd.R_mono HO383.out (fun _ hk => ⟨hk.2, ⟨hk.1.1.1.2, ⟨hk.1.1.2, hk.1.2⟩⟩⟩)) : p := h
theorem z46_ {p : Prop} (h : p := by (with_reducible repeat (first | apply Kd.R_alloc | apply Kd.R_drewN | apply Kd.R_drew)); exact Kd.R_mono HO380.out (fun _ hk => ⟨hk.2, ⟨hk.1.1.1.2, ⟨hk.1.1.2, hk.1.2⟩⟩⟩)) : p := h
theorem z45_ {p : Prop} (h : p := by (with_reducible repeat (first | apply Kd.R_alloc | apply Kd.R_drewN | apply Kd.R_drew)); exact Kd.R_mono HO375.out (fun _ hk => ⟨hk.2, ⟨hk.1.1.1.2, ⟨hk.1.1.2, hk.1.2⟩⟩⟩)) : p := h
theorem z44_ {p : Prop} (h : p := by (with_reducible repeat (first | apply Kd.R_alloc | apply Kd.R_drewN | apply Kd.R_drew)); exact Kd.R_mono HO_350004.out (fun _ hk => ⟨hk.1.2, ⟨hk.2, ⟨hk.1.1.1, hk.1.1.2⟩⟩⟩)) : p := h
theorem z43_ {p : Prop} (h : p := by (with_reducible repeat (first | apply Kd.R_alloc | apply Kd.R_drewN | apply Kd.R_drew)); exact Kd.R_mono HO_350003.out (fun _ hk => ⟨hk.1.2, ⟨hk.2, ⟨hk.1.1.1, hk.1.1.2⟩⟩⟩)) : p := h
theorem z42_ {p : Prop} (h : p := by (with_reducible repeat (first | apply Kd.R_alloc | apply Kd.R_drewN | apply Kd.R_drew)); exact Kd.R_mono HO_350000.out (fun _ hk => ⟨hk.1.2, ⟨hk.2, ⟨hk.1.1.1, hk.1.1.2⟩⟩⟩)) : p := h
theorem z41_ {p : Prop} (h : p := by (with_reducible repeat (first | apply Kd.R_alloc | apply Kd.R_drewN | apply Kd.R_drew)); exact Kd.R_mono HO_334004.out (fun _ hk => ⟨hk.1.2, ⟨hk.2, ⟨hk.1.1.1, hk.1.1.2⟩⟩⟩)) : p := h
theorem z40_ {p : Prop} (h : p := by (with_reducible repeat (first | apply Kd.R_alloc | apply Kd.R_drewN | apply Kd.R_drew)); exact Kd.R_mono HO_334003.out (fun _ hk => ⟨hk.1.2, ⟨hk.2, ⟨hk.1.1.1, hk.1.1.2⟩⟩⟩)) : p := h
theorem z39_ {p : Prop} (h : p := by (with_reducible repeat (first | apply Kd.R_alloc | apply Kd.R_drewN | apply Kd.R_drew)); exact Kd.R_mono HO_334000.out (fun _ hk => ⟨hk.1.2, ⟨hk.2, ⟨hk.1.1.1, hk.1.1.2⟩⟩⟩)) : p := h
theorem z38_ {p : Prop} (h : p := by (with_reducible repeat (first | apply Kd.R_alloc | apply Kd.R_drewN | apply Kd.R_drew)); exact Kd.R_mono HO_322004.out (fun _ hk => ⟨hk.1.2, ⟨hk.2, ⟨hk.1.1.1, hk.1.1.2⟩⟩⟩)) : p := h
theorem z37_ {p : Prop} (h : p := by (with_reducible repeat (first | apply Kd.R_alloc | apply Kd.R_drewN | apply Kd.R_drew)); exact Kd.R_mono HO_322003.out (fun _ hk => ⟨hk.1.2, ⟨hk.2, ⟨hk.1.1.1, hk.1.1.2⟩⟩⟩)) : p := h
theorem z36_ {p : Prop} (h : p := by (with_reducible repeat (first | apply Kd.R_alloc | apply Kd.R_drewN | apply Kd.R_drew)); exact Kd.R_mono HO_322000.out (fun _ hk => ⟨hk.1.2, ⟨hk.2, ⟨hk.1.1.1, hk.1.1.2⟩⟩⟩)) : p := h
theorem z35_ {p : Prop} (h : p := by (with_reducible repeat (first | apply Kd.R_alloc | apply Kd.R_drewN | apply Kd.R_drew)); exact (Kd.R_mono (Kd.R_far (p := ⟨gb349, 4, none⟩) (Kd.R_far (p := ⟨gb349, 3, none⟩) (Kd.R_far (p := ⟨gb349, 2, none⟩) (Kd.R_far (p := ⟨gb349, 1, none⟩) (Kd.R_far (p := ⟨gb349, 0, none⟩) (Kd.R_types HO320.out BK349.out (by decide)) (fun _ hk => hk.2) (.slice Ao62 t338.length co62)) (fun _ hk => hk.2) (.int .i64 t341)) (fun _ hk => hk.2) (.bool t342)) (fun _ hk => hk.2) (.slice Ao66 t343.length co66)) (fun _ hk => hk.2) (.slice Ao68 t346.length co68)) (fun _ h_ => h_.1))) : p := h
theorem z34_ {p : Prop} (h : p := by (with_reducible repeat (first | apply Kd.R_alloc | apply Kd.R_drewN | apply Kd.R_drew)); exact (Kd.R_mono (Kd.R_far (p := ⟨gb349, 4, none⟩) (Kd.R_far (p := ⟨gb349, 3, none⟩) (Kd.R_far (p := ⟨gb349, 2, none⟩) (Kd.R_far (p := ⟨gb349, 1, none⟩) (Kd.R_far (p := ⟨gb349, 0, none⟩) (Kd.R_types HO317.out BK349.out (by decide)) (fun _ hk => hk.2) (.slice Ao62 t338.length co62)) (fun _ hk => hk.2) (.int .i64 t341)) (fun _ hk => hk.2) (.bool t342)) (fun _ hk => hk.2) (.slice Ao66 t343.length co66)) (fun _ hk => hk.2) (.slice Ao68 t346.length co68)) (fun _ h_ => h_.1))) : p := h
theorem z33_ {p : Prop} (h : p := by (with_reducible repeat (first | apply Kd.R_alloc | apply Kd.R_drewN | apply Kd.R_drew)); exact (Kd.R_mono (Kd.R_far (p := ⟨gb349, 4, none⟩) (Kd.R_far (p := ⟨gb349, 3, none⟩) (Kd.R_far (p := ⟨gb349, 2, none⟩) (Kd.R_far (p := ⟨gb349, 1, none⟩) (Kd.R_far (p := ⟨gb349, 0, none⟩) (Kd.R_types HO312.out BK349.out (by decide)) (fun _ hk => hk.2) (.slice Ao62 t338.length co62)) (fun _ hk => hk.2) (.int .i64 t341)) (fun _ hk => hk.2) (.bool t342)) (fun _ hk => hk.2) (.slice Ao66 t343.length co66)) (fun _ hk => hk.2) (.slice Ao68 t346.length co68)) (fun _ h_ => h_.1))) : p := h
theorem z32_ {p : Prop} (h : p := by (with_reducible repeat (first | apply Kd.R_alloc | apply Kd.R_drewN | apply Kd.R_drew)); exact (Kd.R_mono (Kd.R_far (p := ⟨gb349, 4, none⟩) (Kd.R_far (p := ⟨gb349, 3, none⟩) (Kd.R_far (p := ⟨gb349, 2, none⟩) (Kd.R_far (p := ⟨gb349, 1, none⟩) (Kd.R_far (p := ⟨gb349, 0, none⟩) (Kd.R_types HO348.out BK349.out (by decide)) (fun _ hk => hk.2) (.slice Ao62 t338.length co62)) (fun _ hk => hk.2) (.int .i64 t341)) (fun _ hk => hk.2) (.bool t342)) (fun _ hk => hk.2) (.slice Ao66 t343.length co66)) (fun _ hk => hk.2) (.slice Ao68 t346.length co68)) (fun _ h_ => h_.1))) : p := h
theorem z31_ {p : Prop} (h : p := by (with_reducible repeat (first | apply Kd.R_alloc | apply Kd.R_drewN | apply Kd.R_drew)); exact (Kd.R_mono (Kd.R_far (p := ⟨gb349, 4, none⟩) (Kd.R_far (p := ⟨gb349, 3, none⟩) (Kd.R_far (p := ⟨gb349, 2, none⟩) (Kd.R_far (p := ⟨gb349, 1, none⟩) (Kd.R_far (p := ⟨gb349, 0, none⟩) (Kd.R_types HO345.out BK349.out (by decide)) (fun _ hk => hk.2) (.slice Ao62 t338.length co62)) (fun _ hk => hk.2) (.int .i64 t341)) (fun _ hk => hk.2) (.bool t342)) (fun _ hk => hk.2) (.slice Ao66 t343.length co66)) (fun _ hk => hk.2) (.slice Ao68 t346.length co68)) (fun _ h_ => h_.1))) : p := h
theorem z30_ {p : Prop} (h : p := by (with_reducible repeat (first | apply Kd.R_alloc | apply Kd.R_drewN | apply Kd.R_drew)); exact (Kd.R_mono (Kd.R_far (p := ⟨gb349, 4, none⟩) (Kd.R_far (p := ⟨gb349, 3, none⟩) (Kd.R_far (p := ⟨gb349, 2, none⟩) (Kd.R_far (p := ⟨gb349, 1, none⟩) (Kd.R_far (p := ⟨gb349, 0, none⟩) (Kd.R_types HO340.out BK349.out (by decide)) (fun _ hk => hk.2) (.slice Ao62 t338.length co62)) (fun _ hk => hk.2) (.int .i64 t341)) (fun _ hk => hk.2) (.bool t342)) (fun _ hk => hk.2) (.slice Ao66 t343.length co66)) (fun _ hk => hk.2) (.slice Ao68 t346.length co68)) (fun _ h_ => h_.1))) : p := h
theorem z29_ {p : Prop} (h : p := by (with_reducible repeat (first | apply Kd.R_alloc | apply Kd.R_drewN | apply Kd.R_drew)); exact (Kd.R_mono (Kd.R_far (p := ⟨gb321, 4, none⟩) (Kd.R_far (p := ⟨gb321, 3, none⟩) (Kd.R_far (p := ⟨gb321, 2, none⟩) (Kd.R_far (p := ⟨gb321, 1, none⟩) (Kd.R_far (p := ⟨gb321, 0, none⟩) (Kd.R_types HO320.out BK321.out (by decide)) (fun _ hk => hk.2) (.slice Ao37 t310.length co37)) (fun _ hk => hk.2) (.int .i64 t313)) (fun _ hk => hk.2) (.bool t314)) (fun _ hk => hk.2) (.slice Ao41 t315.length co41)) (fun _ hk => hk.2) (.slice Ao43 t318.length co43)) (fun _ h_ => h_.1))) : p := h
theorem z28_ {p : Prop} (h : p := by (with_reducible repeat (first | apply Kd.R_alloc | apply Kd.R_drewN | apply Kd.R_drew)); exact (Kd.R_mono (Kd.R_far (p := ⟨gb321, 4, none⟩) (Kd.R_far (p := ⟨gb321, 3, none⟩) (Kd.R_far (p := ⟨gb321, 2, none⟩) (Kd.R_far (p := ⟨gb321, 1, none⟩) (Kd.R_far (p := ⟨gb321, 0, none⟩) (Kd.R_types HO317.out BK321.out (by decide)) (fun _ hk => hk.2) (.slice Ao37 t310.length co37)) (fun _ hk => hk.2) (.int .i64 t313)) (fun _ hk => hk.2) (.bool t314)) (fun _ hk => hk.2) (.slice Ao41 t315.length co41)) (fun _ hk => hk.2) (.slice Ao43 t318.length co43)) (fun _ h_ => h_.1))) : p := h
theorem z27_ {p : Prop} (h : p := by (with_reducible repeat (first | apply Kd.R_alloc | apply Kd.R_drewN | apply Kd.R_drew)); exact (Kd.R_mono (Kd.R_far (p := ⟨gb321, 4, none⟩) (Kd.R_far (p := ⟨gb321, 3, none⟩) (Kd.R_far (p := ⟨gb321, 2, none⟩) (Kd.R_far (p := ⟨gb321, 1, none⟩) (Kd.R_far (p := ⟨gb321, 0, none⟩) (Kd.R_types HO312.out BK321.out (by decide)) (fun _ hk => hk.2) (.slice Ao37 t310.length co37)) (fun _ hk => hk.2) (.int .i64 t313)) (fun _ hk => hk.2) (.bool t314)) (fun _ hk => hk.2) (.slice Ao41 t315.length co41)) (fun _ hk => hk.2) (.slice Ao43 t318.length co43)) (fun _ h_ => h_.1))) : p := h
theorem z26_ {p : Prop} (h : p := by (with_reducible repeat (first | apply Kd.R_alloc | apply Kd.R_drewN | apply Kd.R_drew)); exact (Kd.R_mono (Kd.R_far (p := ⟨gb321, 4, none⟩) (Kd.R_far (p := ⟨gb321, 3, none⟩) (Kd.R_far (p := ⟨gb321, 2, none⟩) (Kd.R_far (p := ⟨gb321, 1, none⟩) (Kd.R_far (p := ⟨gb321, 0, none⟩) (Kd.R_types HO305.out BK321.out (by decide)) (fun _ hk => hk.2) (.slice Ao37 t310.length co37)) (fun _ hk => hk.2) (.int .i64 t313)) (fun _ hk => hk.2) (.bool t314)) (fun _ hk => hk.2) (.slice Ao41 t315.length co41)) (fun _ hk => hk.2) (.slice Ao43 t318.length co43)) (fun _ h_ => h_.1))) : p := h
theorem z25_ {p : Prop} (h : p := by (with_reducible repeat (first | apply Kd.R_alloc | apply Kd.R_drewN | apply Kd.R_drew)); exact (Kd.R_mono (Kd.R_far (p := ⟨gb321, 4, none⟩) (Kd.R_far (p := ⟨gb321, 3, none⟩) (Kd.R_far (p := ⟨gb321, 2, none⟩) (Kd.R_far (p := ⟨gb321, 1, none⟩) (Kd.R_far (p := ⟨gb321, 0, none⟩) (Kd.R_types HO302.out BK321.out (by decide)) (fun _ hk => hk.2) (.slice Ao37 t310.length co37)) (fun _ hk => hk.2) (.int .i64 t313)) (fun _ hk => hk.2) (.bool t314)) (fun _ hk => hk.2) (.slice Ao41 t315.length co41)) (fun _ hk => hk.2) (.slice Ao43 t318.length co43)) (fun _ h_ => h_.1))) : p := h
theorem z24_ {p : Prop} (h : p := by (with_reducible repeat (first | apply Kd.R_alloc | apply Kd.R_drewN | apply Kd.R_drew)); exact (Kd.R_mono (Kd.R_far (p := ⟨gb321, 4, none⟩) (Kd.R_far (p := ⟨gb321, 3, none⟩) (Kd.R_far (p := ⟨gb321, 2, none⟩) (Kd.R_far (p := ⟨gb321, 1, none⟩) (Kd.R_far (p := ⟨gb321, 0, none⟩) (Kd.R_types HO297.out BK321.out (by decide)) (fun _ hk => hk.2) (.slice Ao37 t310.length co37)) (fun _ hk => hk.2) (.int .i64 t313)) (fun _ hk => hk.2) (.bool t314)) (fun _ hk => hk.2) (.slice Ao41 t315.length co41)) (fun _ hk => hk.2) (.slice Ao43 t318.length co43)) (fun _ h_ => h_.1))) : p := h
theorem z23_ {p : Prop} (h : p := by (with_reducible repeat (first | apply Kd.R_alloc | apply Kd.R_drewN | apply Kd.R_drew)); exact (Kd.R_mono (Kd.R_far (p := ⟨gb399, 4, none⟩) (Kd.R_far (p := ⟨gb399, 3, none⟩) (Kd.R_far (p := ⟨gb399, 2, none⟩) (Kd.R_far (p := ⟨gb399, 1, none⟩) (Kd.R_far (p := ⟨gb399, 0, none⟩) (Kd.R_types HO398.out BK399.out (by decide)) (fun _ hk => hk.2) (.slice Ao128 t388.length co128)) (fun _ hk => hk.2) (.int .i64 t391)) (fun _ hk => hk.2) (.bool t392)) (fun _ hk => hk.2) (.slice Ao132 t393.length co132)) (fun _ hk => hk.2) (.slice Ao134 t396.length co134)) (fun _ h_ => h_.1))) : p := h
theorem z22_ {p : Prop} (h : p := by (with_reducible repeat (first | apply Kd.R_alloc | apply Kd.R_drewN | apply Kd.R_drew)); exact (Kd.R_mono (Kd.R_far (p := ⟨gb399, 4, none⟩) (Kd.R_far (p := ⟨gb399, 3, none⟩) (Kd.R_far (p := ⟨gb399, 2, none⟩) (Kd.R_far (p := ⟨gb399, 1, none⟩) (Kd.R_far (p := ⟨gb399, 0, none⟩) (Kd.R_types HO395.out BK399.out (by decide)) (fun _ hk => hk.2) (.slice Ao128 t388.length co128)) (fun _ hk => hk.2) (.int .i64 t391)) (fun _ hk => hk.2) (.bool t392)) (fun _ hk => hk.2) (.slice Ao132 t393.length co132)) (fun _ hk => hk.2) (.slice Ao134 t396.length co134)) (fun _ h_ => h_.1))) : p := h
theorem z21_ {p : Prop} (h : p := by (with_reducible repeat (first | apply Kd.R_alloc | apply Kd.R_drewN | apply Kd.R_drew)); exact (Kd.R_mono (Kd.R_far (p := ⟨gb399, 4, none⟩) (Kd.R_far (p := ⟨gb399, 3, none⟩) (Kd.R_far (p := ⟨gb399, 2, none⟩) (Kd.R_far (p := ⟨gb399, 1, none⟩) (Kd.R_far (p := ⟨gb399, 0, none⟩) (Kd.R_types HO390.out BK399.out (by decide)) (fun _ hk => hk.2) (.slice Ao128 t388.length co128)) (fun _ hk => hk.2) (.int .i64 t391)) (fun _ hk => hk.2) (.bool t392)) (fun _ hk => hk.2) (.slice Ao132 t393.length co132)) (fun _ hk => hk.2) (.slice Ao134 t396.length co134)) (fun _ h_ => h_.1))) : p := h
theorem z20_ {p : Prop} (h : p := by (with_reducible repeat (first | apply Kd.R_alloc | apply Kd.R_drewN | apply Kd.R_drew)); exact (Kd.R_mono (Kd.R_far (p := ⟨gb399, 4, none⟩) (Kd.R_far (p := ⟨gb399, 3, none⟩) (Kd.R_far (p := ⟨gb399, 2, none⟩) (Kd.R_far (p := ⟨gb399, 1, none⟩) (Kd.R_far (p := ⟨gb399, 0, none⟩) (Kd.R_types HO_322004.out BK399.out (by decide)) (fun _ hk => hk.2) (.slice Ao128 t388.length co128)) (fun _ hk => hk.2) (.int .i64 t391)) (fun _ hk => hk.2) (.bool t392)) (fun _ hk => hk.2) (.slice Ao132 t393.length co132)) (fun _ hk => hk.2) (.slice Ao134 t396.length co134)) (fun _ h_ => h_.1))) : p := h
theorem z19_ {p : Prop} (h : p := by (with_reducible repeat (first | apply Kd.R_alloc | apply Kd.R_drewN | apply Kd.R_drew)); exact (Kd.R_mono (Kd.R_far (p := ⟨gb399, 4, none⟩) (Kd.R_far (p := ⟨gb399, 3, none⟩) (Kd.R_far (p := ⟨gb399, 2, none⟩) (Kd.R_far (p := ⟨gb399, 1, none⟩) (Kd.R_far (p := ⟨gb399, 0, none⟩) (Kd.R_types HO_322003.out BK399.out (by decide)) (fun _ hk => hk.2) (.slice Ao128 t388.length co128)) (fun _ hk => hk.2) (.int .i64 t391)) (fun _ hk => hk.2) (.bool t392)) (fun _ hk => hk.2) (.slice Ao132 t393.length co132)) (fun _ hk => hk.2) (.slice Ao134 t396.length co134)) (fun _ h_ => h_.1))) : p := h
theorem z18_ {p : Prop} (h : p := by (with_reducible repeat (first | apply Kd.R_alloc | apply Kd.R_drewN | apply Kd.R_drew)); exact (Kd.R_mono (Kd.R_far (p := ⟨gb399, 4, none⟩) (Kd.R_far (p := ⟨gb399, 3, none⟩) (Kd.R_far (p := ⟨gb399, 2, none⟩) (Kd.R_far (p := ⟨gb399, 1, none⟩) (Kd.R_far (p := ⟨gb399, 0, none⟩) (Kd.R_types HO_322000.out BK399.out (by decide)) (fun _ hk => hk.2) (.slice Ao128 t388.length co128)) (fun _ hk => hk.2) (.int .i64 t391)) (fun _ hk => hk.2) (.bool t392)) (fun _ hk => hk.2) (.slice Ao132 t393.length co132)) (fun _ hk => hk.2) (.slice Ao134 t396.length co134)) (fun _ h_ => h_.1))) : p := h
theorem z17_ {p : Prop} (h : p := by rw [hg]; exact Nat.ne_of_gt (blk_lt (g := gb349) (o := .cells #[.slice Ao62 t338.length co62, .int .i64 t341, .bool t342, .slice Ao66 t343.length co66, .slice Ao68 t346.length co68] 36 (0, 0)) (bk_ BK349.out))) : p := h
theorem z16_ {p : Prop} (h : p := by rw [hg]; exact Nat.ne_of_lt (blk_lt (g := gb349) (o := .cells #[.slice Ao62 t338.length co62, .int .i64 t341, .bool t342, .slice Ao66 t343.length co66, .slice Ao68 t346.length co68] 36 (0, 0)) (bk_ BK349.out))) : p := h
theorem z15_ {p : Prop} (h : p := by rw [hg]; exact Nat.ne_of_gt (blk_lt (g := gb333) (o := .cells #[.slice Ao49 t364.length co49, .int .i64 t325, .bool t326, .slice Ao54 t365.length co54, .slice Ao55 t366.length co55] 36 (0, 0)) (bk_ BK333.out))) : p := h
theorem z14_ {p : Prop} (h : p := by rw [hg]; exact Nat.ne_of_lt (blk_lt (g := gb333) (o := .cells #[.slice Ao49 t364.length co49, .int .i64 t325, .bool t326, .slice Ao54 t365.length co54, .slice Ao55 t366.length co55] 36 (0, 0)) (bk_ BK333.out))) : p := h
theorem z13_ {p : Prop} (h : p := by repeat (first | (with_reducible first | exact HB.out | apply below_alloc | apply pw_below_drewN | apply below_drew1) | exact HB.out)) : p := h
theorem z12_ {p : Prop} (h : p := by repeat (first | (with_reducible first | exact HB.out | apply below_alloc | apply pw_below_drewN | apply below_drew1 | refine below_set ?_ GE292.out) | exact HB.out)) : p := h
theorem z11_ {p : Prop} (h : p := by rw [hg]; exact Nat.ne_of_gt (blk_lt (g := gb321) (o := .cells #[.slice Ao37 t310.length co37, .int .i64 t313, .bool t314, .slice Ao41 t315.length co41, .slice Ao43 t318.length co43] 36 (0, 0)) (bk_ BK321.out))) : p := h
theorem z10_ {p : Prop} (h : p := by rw [hg]; exact Nat.ne_of_lt (blk_lt (g := gb321) (o := .cells #[.slice Ao37 t310.length co37, .int .i64 t313, .bool t314, .slice Ao41 t315.length co41, .slice Ao43 t318.length co43] 36 (0, 0)) (bk_ BK321.out))) : p := h
theorem z9_ {p : Prop} (h : p := by rw [hg]; exact Nat.ne_of_gt (blk_lt (g := gb293) (o := .cells #[.int .i64 a1_0, .int .i64 a1_1, .int .i64 a1_2, .int .i64 a1_3] 65 (0, 0)) (bk_ BK293.out))) : p := h
theorem z8_ {p : Prop} (h : p := by rw [hg]; exact Nat.ne_of_lt (blk_lt (g := gb293) (o := .cells #[.int .i64 a1_0, .int .i64 a1_1, .int .i64 a1_2, .int .i64 a1_3] 65 (0, 0)) (bk_ BK293.out))) : p := h
theorem z7_ {p : Prop} (h : p := by rw [hg]; exact Nat.ne_of_gt (blk_lt (g := gb292) (o := .cells #[.slice A0_0 l0_0.length c0_0, .int .i64 a0_1, .bool a0_2, .slice A0_3 l0_3.length c0_3, .slice A0_4 l0_4.length c0_4] 59 (0, 0)) (bk_ BK292.out))) : p := h
theorem z6_ {p : Prop} (h : p := by rw [hg]; exact Nat.ne_of_lt (blk_lt (g := gb292) (o := .cells #[.slice A0_0 l0_0.length c0_0, .int .i64 a0_1, .bool a0_2, .slice A0_3 l0_3.length c0_3, .slice A0_4 l0_4.length c0_4] 59 (0, 0)) (bk_ BK292.out))) : p := h
theorem z5_ {p : Prop} (h : p := by repeat (first | (with_reducible first | exact HB.out | apply below_alloc | apply pw_below_drewN | apply below_drew1 | refine below_set ?_ GE292.out | refine below_set ?_ GE293.out | refine below_set ?_ GE321.out | refine below_set ?_ GE333.out) | exact HB.out)) : p := h
theorem z4_ {p : Prop} (h : p := by (try simp only [List.map_toArray, List.map_cons, List.map_nil]); first | done | rfl | (simp only [List.length_drop, List.length_take]; rfl)) : p := h
theorem z3_ {p : Prop} (h : p := by repeat (first | (with_reducible first | exact HB.out | apply below_alloc | apply pw_below_drewN | apply below_drew1 | refine below_set ?_ GE292.out | refine below_set ?_ GE293.out) | exact HB.out)) : p := h
theorem z2_ {p : Prop} (h : p := by repeat (first | (with_reducible first | exact HB.out | apply below_alloc | apply pw_below_drewN | apply below_drew1 | refine below_set ?_ GE292.out | refine below_set ?_ GE293.out | refine below_set ?_ GE321.out) | exact HB.out)) : p := h
theorem z1_ {p : Prop} (h : p := by repeat (first | (with_reducible first | exact HB.out | apply below_alloc | apply pw_below_drewN | apply below_drew1 | refine below_set ?_ GE292.out | refine below_set ?_ GE293.out | refine below_set ?_ GE321.out | refine below_set ?_ GE333.out | refine below_set ?_ GE349.out | refine below_set ?_ GE399.out) | exact HB.out)) : p := h
theorem z0_ {p : Prop} (h : p := by repeat (first | (with_reducible first | exact HB.out | apply below_alloc | apply pw_below_drewN | apply below_drew1 | refine below_set ?_ GE292.out | refine below_set ?_ GE293.out | refine below_set ?_ GE321.out | refine below_set ?_ GE333.out | refine below_set ?_ GE349.out) | exact HB.out)) : p := h
theorem cb_ {p q : Prop} (hx : q) (f : q → p := by intro HX_; repeat (first | exact HX_ | (with_reducible refine Kd.C_alloc ?_ _) | (with_reducible refine Kd.C_drewN ?_ _) | (with_reducible refine Kd.C_drew ?_))) : p := f hx
theorem bk_ {p q : Prop} (hx : q) (f : q → p := by intro HX_; (with_reducible repeat (first | refine blk_drewN ?_ _ | refine blk_drew ?_ | refine blk_alloc ?_ _)); exact HX_) : p := f hx
theorem rb_ {p q : Prop} (hx : q) (f : q → p := by intro HX_; (with_reducible repeat (first | apply Kd.R_alloc | apply Kd.R_drewN | apply Kd.R_drew)); exact HX_) : p := f hx

set_option maxRecDepth 1000000 in
theorem half_7 {p : Prop} (h : p := by
 replace c98 := Bool.eq_false_iff.mpr c98
 subst c98
 have H1 : ((laws_markThread.f kj21 t338 t341 t342 t343 t346 1).bind fun bt368 => ((laws_heldThread.f kj21 bt368.2.1 t341 t342 bt368.2.2.1 bt368.2.2.2 1).bind fun t372 => (if t372 < 0 then (none) else (if t372 = bt368.1 then ((laws_toThread.f kj21 l0_0 a0_1 a0_2 l0_3 l0_4).bind fun bt373 => ((laws_toHelp.f a1_0 a1_1 a1_2 a1_3).bind fun bt384 => ((impl_Push.f bt373.1 bt373.2.1 bt373.2.2.1 bt373.2.2.2.1 bt373.2.2.2.2 bt384.1 bt384.2.1 bt384.2.2.1 bt384.2.2.2).bind fun bt388 => ((laws_eqThread.f kj21 bt388.1 bt388.2.1 bt388.2.2.1 bt388.2.2.2.1 bt388.2.2.2.2 t310 t313 t314 t315 t318).bind fun t400 => (if t400 = true then ((laws_heldThread.f kj21 bt368.2.1 t341 t342 bt368.2.2.1 bt368.2.2.2 1).bind fun t401 => (if t401 < 0 then (none) else (if t401 = bt368.1 then (some true) else (none)))) else (none)))))) else (none))))) = some r := by rw [if_neg (show ¬ (false = true) by decide)] at H; exact H
 clear H
 have H := H1
 clear H1
 replace H := Option.bind_eq_some_iff.mp H
 obtain ⟨⟨t368, t369, t370, t371⟩, A990, H⟩ := H
 replace H : ((laws_heldThread.f kj21 t369 t341 t342 t370 t371 1).bind fun t372 => (if t372 < 0 then (none) else (if t372 = t368 then ((laws_toThread.f kj21 l0_0 a0_1 a0_2 l0_3 l0_4).bind fun bt373 => ((laws_toHelp.f a1_0 a1_1 a1_2 a1_3).bind fun bt384 => ((impl_Push.f bt373.1 bt373.2.1 bt373.2.2.1 bt373.2.2.2.1 bt373.2.2.2.2 bt384.1 bt384.2.1 bt384.2.2.1 bt384.2.2.2).bind fun bt388 => ((laws_eqThread.f kj21 bt388.1 bt388.2.1 bt388.2.2.1 bt388.2.2.2.1 bt388.2.2.2.2 t310 t313 t314 t315 t318).bind fun t400 => (if t400 = true then ((laws_heldThread.f kj21 t369 t341 t342 t370 t371 1).bind fun t401 => (if t401 < 0 then (none) else (if t401 = t368 then (some true) else (none)))) else (none)))))) else (none)))) = some r := H
 have A99 := Aside0.mk A990
 clear A990
 replace H := Option.bind_eq_some_iff.mp H
 obtain ⟨t372, A1000, H⟩ := H
 replace H : (if t372 < 0 then (none) else (if t372 = t368 then ((laws_toThread.f kj21 l0_0 a0_1 a0_2 l0_3 l0_4).bind fun bt373 => ((laws_toHelp.f a1_0 a1_1 a1_2 a1_3).bind fun bt384 => ((impl_Push.f bt373.1 bt373.2.1 bt373.2.2.1 bt373.2.2.2.1 bt373.2.2.2.2 bt384.1 bt384.2.1 bt384.2.2.1 bt384.2.2.2).bind fun bt388 => ((laws_eqThread.f kj21 bt388.1 bt388.2.1 bt388.2.2.1 bt388.2.2.2.1 bt388.2.2.2.2 t310 t313 t314 t315 t318).bind fun t400 => (if t400 = true then ((laws_heldThread.f kj21 t369 t341 t342 t370 t371 1).bind fun t401 => (if t401 < 0 then (none) else (if t401 = t368 then (some true) else (none)))) else (none)))))) else (none))) = some r := H
 have A100 := Aside0.mk A1000
 clear A1000
 by_cases c101 : t372 < 0
 ·
  rw [if_pos c101] at H
  exact absurd H (by simp)
 ·
  rw [if_neg c101] at H
  have c101b0 : decide (t372 < 0) = false := decide_eq_false c101
  clear c101
  by_cases c102 : t372 = t368
  ·
   rw [if_pos c102] at H
   have c102b0 : (t372 == t368) = true := beq_iff_eq.mpr c102
   have c102b1 : (t372 != t368) = false := bne_eq_false_iff_eq.mpr c102
   clear c102
   replace H := Option.bind_eq_some_iff.mp H
   obtain ⟨⟨t373, t376, t377, t378, t381⟩, A1030, H⟩ := H
   replace H : ((laws_toHelp.f a1_0 a1_1 a1_2 a1_3).bind fun bt384 => ((impl_Push.f t373 t376 t377 t378 t381 bt384.1 bt384.2.1 bt384.2.2.1 bt384.2.2.2).bind fun bt388 => ((laws_eqThread.f kj21 bt388.1 bt388.2.1 bt388.2.2.1 bt388.2.2.2.1 bt388.2.2.2.2 t310 t313 t314 t315 t318).bind fun t400 => (if t400 = true then ((laws_heldThread.f kj21 t369 t341 t342 t370 t371 1).bind fun t401 => (if t401 < 0 then (none) else (if t401 = t368 then (some true) else (none)))) else (none))))) = some r := H
   have A103 := Aside0.mk A1030
   clear A1030
   replace H := Option.bind_eq_some_iff.mp H
   obtain ⟨⟨t384, t385, t386, t387⟩, A1040, H⟩ := H
   replace H : ((impl_Push.f t373 t376 t377 t378 t381 t384 t385 t386 t387).bind fun bt388 => ((laws_eqThread.f kj21 bt388.1 bt388.2.1 bt388.2.2.1 bt388.2.2.2.1 bt388.2.2.2.2 t310 t313 t314 t315 t318).bind fun t400 => (if t400 = true then ((laws_heldThread.f kj21 t369 t341 t342 t370 t371 1).bind fun t401 => (if t401 < 0 then (none) else (if t401 = t368 then (some true) else (none)))) else (none)))) = some r := H
   have A104 := Aside0.mk A1040
   clear A1040
   replace H := Option.bind_eq_some_iff.mp H
   obtain ⟨⟨t388, t391, t392, t393, t396⟩, A1050, H⟩ := H
   replace H : ((laws_eqThread.f kj21 t388 t391 t392 t393 t396 t310 t313 t314 t315 t318).bind fun t400 => (if t400 = true then ((laws_heldThread.f kj21 t369 t341 t342 t370 t371 1).bind fun t401 => (if t401 < 0 then (none) else (if t401 = t368 then (some true) else (none)))) else (none))) = some r := H
   have A105 := Aside0.mk A1050
   clear A1050
   replace H := Option.bind_eq_some_iff.mp H
   obtain ⟨t400, A1060, H⟩ := H
   replace H : (if t400 = true then ((laws_heldThread.f kj21 t369 t341 t342 t370 t371 1).bind fun t401 => (if t401 < 0 then (none) else (if t401 = t368 then (some true) else (none)))) else (none)) = some r := H
   have A106 := Aside0.mk A1060
   clear A1060
   by_cases c107 : t400 = true
   ·
    subst c107
    have H1 : ((laws_heldThread.f kj21 t369 t341 t342 t370 t371 1).bind fun t401 => (if t401 < 0 then (none) else (if t401 = t368 then (some true) else (none)))) = some r := by rw [if_pos rfl] at H; exact H
    clear H
    have H := H1
    clear H1
    replace H := Option.bind_eq_some_iff.mp H
    obtain ⟨t401, A1080, H⟩ := H
    replace H : (if t401 < 0 then (none) else (if t401 = t368 then (some true) else (none))) = some r := H
    have A108 := Aside0.mk A1080
    clear A1080
    by_cases c109 : t401 < 0
    ·
     rw [if_pos c109] at H
     exact absurd H (by simp)
    ·
     rw [if_neg c109] at H
     have c109b0 : decide (t401 < 0) = false := decide_eq_false c109
     clear c109
     by_cases c110 : t401 = t368
     ·
      rw [if_pos c110] at H
      have c110b0 : (t401 == t368) = true := beq_iff_eq.mpr c110
      have c110b1 : (t401 != t368) = false := bne_eq_false_iff_eq.mpr c110
      clear c110
      obtain rfl := Option.some.inj H
      have hnb111 := NB349_292.out
      have hnc111 := NB292_349.out
      have hnb112 := NB349_293.out
      have hnc112 := NB293_349.out
      have hnb113 := NB349_321.out
      have hnc113 := NB321_349.out
      have hnb114 := NB349_333.out
      have hnc114 := NB333_349.out
      have hcz115_0 : wc.cell? ⟨gb349, 0, none⟩ = some (.slice Ao62 t338.length co62) := (blk_cell BK349.out 0).trans rfl
      have hcz115_1 : wc.cell? ⟨gb349, 1, none⟩ = some (.int .i64 t341) := (blk_cell BK349.out 1).trans rfl
      have hcz115_2 : wc.cell? ⟨gb349, 2, none⟩ = some (.bool t342) := (blk_cell BK349.out 2).trans rfl
      have hcz115_3 : wc.cell? ⟨gb349, 3, none⟩ = some (.slice Ao66 t343.length co66) := (blk_cell BK349.out 3).trans rfl
      have hcz115_4 : wc.cell? ⟨gb349, 4, none⟩ = some (.slice Ao68 t346.length co68) := (blk_cell BK349.out 4).trans rfl
      have hfz115_0 := blk_frozen BK349.out 0
      have hfz115_1 := blk_frozen BK349.out 1
      have hfz115_2 := blk_frozen BK349.out 2
      have hfz115_3 := blk_frozen BK349.out 3
      have hfz115_4 := blk_frozen BK349.out 4
      try go_wp2_with (first | ((with_reducible refine gate_callee (f := 27) rfl ?_); refine goesL_ (some 51) rfl rfl Try.func27 (by kernel_rfl) rfl #[.agg #[.slice Ao62 t338.length co62, .int .i64 t341, .bool t342, .slice Ao66 t343.length co66, .slice Ao68 t346.length co68], .int .i64 1] rfl z4_ ?_; (with_reducible refine (laws_markThread.calls kj21 (fun k_ => some k_ = (.slice Ao62 t338.length co62 : Value).ownBlock) (.slice Ao62 t338.length co62) t338 t341 t342 (fun k_ => some k_ = (.slice Ao66 t343.length co66 : Value).ownBlock) (.slice Ao66 t343.length co66) t343 (fun k_ => some k_ = (.slice Ao68 t346.length co68 : Value).ownBlock) (.slice Ao68 t346.length co68) t346 1 t368 t369 t370 t371 w _ ?side1 ?side2 ?side3 ?side4 A99.out).mono ?_); (case side1 => repeat (first | (with_reducible first | exact HB.out | apply below_alloc | apply pw_below_drewN | apply below_drew1 | refine below_set ?_ GE292.out | refine below_set ?_ GE293.out | refine below_set ?_ GE321.out | refine below_set ?_ GE333.out | refine below_set ?_ GE349.out) | exact HB.out)); (case side2 => exact Kd.R_tight rfl HO_350000.out); (case side3 => exact Kd.R_tight rfl HO_350003.out); (case side4 => exact Kd.R_tight rfl HO_350004.out); rintro e w116 ⟨rfl, hy0, hy1, hy2, hb, hkp⟩; refine ⟨_, rfl, ?_⟩; have n0_ := Aside0.mk (Kd.R_mono (ok' := fun k_ => some k_ ≠ (.slice Ao49 t364.length co49 : Value).ownBlock ∧ some k_ ≠ (.slice Ao62 t338.length co62 : Value).ownBlock) (Kd.R_keptB ((Kd.R_apart' (Kd.R_apart' HO_322000.out (Kd.R_typed HO_350003.out) (by decide)) (Kd.R_typed HO_350004.out) (by decide))) hkp (fun k_ hk_ hs_ => Or.elim hs_ (fun e_ => (hk_.1.1.2) e_) (fun e_ => Or.elim e_ (fun e_ => (hk_.1.2) e_) (fun e_ => (hk_.2) e_)))) (fun k_ hk_ => ⟨hk_.1.1.1.1, hk_.1.1.1.2⟩)); have n1_ := Aside0.mk (Kd.R_mono (ok' := fun k_ => some k_ ≠ (.slice Ao54 t365.length co54 : Value).ownBlock ∧ some k_ ≠ (.slice Ao66 t343.length co66 : Value).ownBlock) (Kd.R_keptB ((Kd.R_apart' (Kd.R_apart' HO_322003.out (Kd.R_typed HO_350000.out) (by decide)) (Kd.R_typed HO_350004.out) (by decide))) hkp (fun k_ hk_ hs_ => Or.elim hs_ (fun e_ => (hk_.1.2) e_) (fun e_ => Or.elim e_ (fun e_ => (hk_.1.1.2) e_) (fun e_ => (hk_.2) e_)))) (fun k_ hk_ => ⟨hk_.1.1.1.1, hk_.1.1.1.2⟩)); have n2_ := Aside0.mk (Kd.R_mono (ok' := fun k_ => some k_ ≠ (.slice Ao55 t366.length co55 : Value).ownBlock ∧ some k_ ≠ (.slice Ao68 t346.length co68 : Value).ownBlock) (Kd.R_keptB ((Kd.R_apart' (Kd.R_apart' HO_322004.out (Kd.R_typed HO_350000.out) (by decide)) (Kd.R_typed HO_350003.out) (by decide))) hkp (fun k_ hk_ hs_ => Or.elim hs_ (fun e_ => (hk_.1.2) e_) (fun e_ => Or.elim e_ (fun e_ => (hk_.2) e_) (fun e_ => (hk_.1.1.2) e_)))) (fun k_ hk_ => ⟨hk_.1.1.1.1, hk_.1.1.1.2⟩)); have n3_ := Aside0.mk (Kd.R_mono (ok' := fun k_ => some k_ ≠ (.slice Ao37 t310.length co37 : Value).ownBlock ∧ some k_ ≠ (.slice Ao62 t338.length co62 : Value).ownBlock) (Kd.R_keptB ((Kd.R_apart' (Kd.R_apart' HO_334000.out (Kd.R_typed HO_350003.out) (by decide)) (Kd.R_typed HO_350004.out) (by decide))) hkp (fun k_ hk_ hs_ => Or.elim hs_ (fun e_ => (hk_.1.1.2) e_) (fun e_ => Or.elim e_ (fun e_ => (hk_.1.2) e_) (fun e_ => (hk_.2) e_)))) (fun k_ hk_ => ⟨hk_.1.1.1.1, hk_.1.1.1.2⟩)); have n4_ := Aside0.mk (Kd.R_mono (ok' := fun k_ => some k_ ≠ (.slice Ao41 t315.length co41 : Value).ownBlock ∧ some k_ ≠ (.slice Ao66 t343.length co66 : Value).ownBlock) (Kd.R_keptB ((Kd.R_apart' (Kd.R_apart' HO_334003.out (Kd.R_typed HO_350000.out) (by decide)) (Kd.R_typed HO_350004.out) (by decide))) hkp (fun k_ hk_ hs_ => Or.elim hs_ (fun e_ => (hk_.1.2) e_) (fun e_ => Or.elim e_ (fun e_ => (hk_.1.1.2) e_) (fun e_ => (hk_.2) e_)))) (fun k_ hk_ => ⟨hk_.1.1.1.1, hk_.1.1.1.2⟩)); have n5_ := Aside0.mk (Kd.R_mono (ok' := fun k_ => some k_ ≠ (.slice Ao43 t318.length co43 : Value).ownBlock ∧ some k_ ≠ (.slice Ao68 t346.length co68 : Value).ownBlock) (Kd.R_keptB ((Kd.R_apart' (Kd.R_apart' HO_334004.out (Kd.R_typed HO_350000.out) (by decide)) (Kd.R_typed HO_350003.out) (by decide))) hkp (fun k_ hk_ hs_ => Or.elim hs_ (fun e_ => (hk_.1.2) e_) (fun e_ => Or.elim e_ (fun e_ => (hk_.2) e_) (fun e_ => (hk_.1.1.2) e_)))) (fun k_ hk_ => ⟨hk_.1.1.1.1, hk_.1.1.1.2⟩)); have n6_ := Aside0.mk (Kd.R_reok rfl hy0 (fun k_ e_ => HO_350000.out.1 k_ e_)); have n7_ := Aside0.mk (Kd.R_reok rfl hy1 (fun k_ e_ => HO_350003.out.1 k_ e_)); have n8_ := Aside0.mk (Kd.R_reok rfl hy2 (fun k_ e_ => HO_350004.out.1 k_ e_)); have n9_ := Aside0.mk (blk_kept (bk_ BK292.out) hkp (fun hs_ => Or.elim hs_ (fun e_ => (fun e_ => (Kd.R_ne HO_350000.out BK292.out (by decide)) e_) e_) (fun e_ => Or.elim e_ (fun e_ => (fun e_ => (Kd.R_ne HO_350003.out BK292.out (by decide)) e_) e_) (fun e_ => (fun e_ => (Kd.R_ne HO_350004.out BK292.out (by decide)) e_) e_)))); have n10_ := Aside0.mk (blk_kept (bk_ BK293.out) hkp (fun hs_ => Or.elim hs_ (fun e_ => (fun e_ => (Kd.R_ne HO_350000.out BK293.out (by decide)) e_) e_) (fun e_ => Or.elim e_ (fun e_ => (fun e_ => (Kd.R_ne HO_350003.out BK293.out (by decide)) e_) e_) (fun e_ => (fun e_ => (Kd.R_ne HO_350004.out BK293.out (by decide)) e_) e_)))); have n11_ := Aside0.mk (blk_kept (bk_ BK321.out) hkp (fun hs_ => Or.elim hs_ (fun e_ => (fun e_ => (Kd.R_ne HO_350000.out BK321.out (by decide)) e_) e_) (fun e_ => Or.elim e_ (fun e_ => (fun e_ => (Kd.R_ne HO_350003.out BK321.out (by decide)) e_) e_) (fun e_ => (fun e_ => (Kd.R_ne HO_350004.out BK321.out (by decide)) e_) e_)))); have n12_ := Aside0.mk (blk_kept (bk_ BK333.out) hkp (fun hs_ => Or.elim hs_ (fun e_ => (fun e_ => (Kd.R_ne HO_350000.out BK333.out (by decide)) e_) e_) (fun e_ => Or.elim e_ (fun e_ => (fun e_ => (Kd.R_ne HO_350003.out BK333.out (by decide)) e_) e_) (fun e_ => (fun e_ => (Kd.R_ne HO_350004.out BK333.out (by decide)) e_) e_)))); have n13_ := Aside0.mk (blk_kept (bk_ BK349.out) hkp (fun hs_ => Or.elim hs_ (fun e_ => (fun e_ => (Kd.R_ne HO_350000.out BK349.out (by decide)) e_) e_) (fun e_ => Or.elim e_ (fun e_ => (fun e_ => (Kd.R_ne HO_350003.out BK349.out (by decide)) e_) e_) (fun e_ => (fun e_ => (Kd.R_ne HO_350004.out BK349.out (by decide)) e_) e_)))); have n14_ := Aside0.mk (hb); clear HO_322000 HO_322003 HO_322004 HO_334000 HO_334003 HO_334004 HO_350000 HO_350003 HO_350004 BK292 BK293 BK321 BK333 BK349 HB; have HO_322000 := n0_; have HO_322003 := n1_; have HO_322004 := n2_; have HO_334000 := n3_; have HO_334003 := n4_; have HO_334004 := n5_; have HO_350000 := n6_; have HO_350003 := n7_; have HO_350004 := n8_; have BK292 := n9_; have BK293 := n10_; have BK321 := n11_; have BK333 := n12_; have BK349 := n13_; have HB := n14_; clear n0_ n1_ n2_ n3_ n4_ n5_ n6_ n7_ n8_ n9_ n10_ n11_ n12_ n13_ n14_; (try clear hb); (try clear hkp); (try clear hy0); (try clear hy1); (try clear hy2); have hcz117_0 : w116.cell? ⟨gb349, 0, none⟩ = some (.slice Ao62 t338.length co62) := (blk_cell BK349.out 0).trans rfl; have hcz117_1 : w116.cell? ⟨gb349, 1, none⟩ = some (.int .i64 t341) := (blk_cell BK349.out 1).trans rfl; have hcz117_2 : w116.cell? ⟨gb349, 2, none⟩ = some (.bool t342) := (blk_cell BK349.out 2).trans rfl; have hcz117_3 : w116.cell? ⟨gb349, 3, none⟩ = some (.slice Ao66 t343.length co66) := (blk_cell BK349.out 3).trans rfl; have hcz117_4 : w116.cell? ⟨gb349, 4, none⟩ = some (.slice Ao68 t346.length co68) := (blk_cell BK349.out 4).trans rfl; have hfz117_0 := blk_frozen BK349.out 0; have hfz117_1 := blk_frozen BK349.out 1; have hfz117_2 := blk_frozen BK349.out 2; have hfz117_3 := blk_frozen BK349.out 3; have hfz117_4 := blk_frozen BK349.out 4) | ((with_reducible refine gate_callee (f := 28) rfl ?_); refine goesL_ (some 54) rfl rfl Try.func28 (by kernel_rfl) rfl #[.agg #[.slice Ao62 t369.length co62, .int .i64 t341, .bool t342, .slice Ao66 t370.length co66, .slice Ao68 t371.length co68], .int .i64 1] rfl z59_ ?_; (with_reducible refine (laws_heldThread.calls kj21 _ _ t369 t341 t342 _ _ t370 _ _ t371 1 t372 _ ?side1 ?side2 ?side3 ?side4 ?side5 ?side6 A100.out).mono ?_); (case side1 => repeat (first | exact (Kd.R_reads' HO_350000.out).2.2 | (with_reducible refine Kd.C_alloc ?_ _) | (with_reducible refine Kd.C_drewN ?_ _) | (with_reducible refine Kd.C_drew ?_))); (case side2 => rw [show t369.length = t338.length from (Kd.R_reads' HO_350000.out).1.symm]; exact (Kd.R_reads' HO_350000.out).2.1); (case side3 => repeat (first | exact (Kd.R_reads' HO_350003.out).2.2 | (with_reducible refine Kd.C_alloc ?_ _) | (with_reducible refine Kd.C_drewN ?_ _) | (with_reducible refine Kd.C_drew ?_))); (case side4 => rw [show t370.length = t343.length from (Kd.R_reads' HO_350003.out).1.symm]; exact (Kd.R_reads' HO_350003.out).2.1); (case side5 => repeat (first | exact (Kd.R_reads' HO_350004.out).2.2 | (with_reducible refine Kd.C_alloc ?_ _) | (with_reducible refine Kd.C_drewN ?_ _) | (with_reducible refine Kd.C_drew ?_))); (case side6 => rw [show t371.length = t346.length from (Kd.R_reads' HO_350004.out).1.symm]; exact (Kd.R_reads' HO_350004.out).2.1); rintro e w118 ⟨rfl, hb⟩; refine ⟨_, rfl, ?_⟩; have n0_ := Aside0.mk (Kd.R_below (rb_ HO_322000.out) hb); have n1_ := Aside0.mk (Kd.R_below (rb_ HO_322003.out) hb); have n2_ := Aside0.mk (Kd.R_below (rb_ HO_322004.out) hb); have n3_ := Aside0.mk (Kd.R_below (rb_ HO_334000.out) hb); have n4_ := Aside0.mk (Kd.R_below (rb_ HO_334003.out) hb); have n5_ := Aside0.mk (Kd.R_below (rb_ HO_334004.out) hb); have n6_ := Aside0.mk (Kd.R_below (rb_ HO_350000.out) hb); have n7_ := Aside0.mk (Kd.R_below (rb_ HO_350003.out) hb); have n8_ := Aside0.mk (Kd.R_below (rb_ HO_350004.out) hb); have n9_ := Aside0.mk (blk_below (g := gb292) (o := .cells #[.slice A0_0 l0_0.length c0_0, .int .i64 a0_1, .bool a0_2, .slice A0_3 l0_3.length c0_3, .slice A0_4 l0_4.length c0_4] 59 (0, 0)) (bk_ BK292.out) hb); have n10_ := Aside0.mk (blk_below (g := gb293) (o := .cells #[.int .i64 a1_0, .int .i64 a1_1, .int .i64 a1_2, .int .i64 a1_3] 65 (0, 0)) (bk_ BK293.out) hb); have n11_ := Aside0.mk (blk_below (g := gb321) (o := .cells #[.slice Ao37 t310.length co37, .int .i64 t313, .bool t314, .slice Ao41 t315.length co41, .slice Ao43 t318.length co43] 36 (0, 0)) (bk_ BK321.out) hb); have n12_ := Aside0.mk (blk_below (g := gb333) (o := .cells #[.slice Ao49 t364.length co49, .int .i64 t325, .bool t326, .slice Ao54 t365.length co54, .slice Ao55 t366.length co55] 36 (0, 0)) (bk_ BK333.out) hb); have n13_ := Aside0.mk (blk_below (g := gb349) (o := .cells #[.slice Ao62 t338.length co62, .int .i64 t341, .bool t342, .slice Ao66 t343.length co66, .slice Ao68 t346.length co68] 36 (0, 0)) (bk_ BK349.out) hb); have n14_ := Aside0.mk (below_step z0_ hb); clear HO_322000 HO_322003 HO_322004 HO_334000 HO_334003 HO_334004 HO_350000 HO_350003 HO_350004 BK292 BK293 BK321 BK333 BK349 HB; have HO_322000 := n0_; have HO_322003 := n1_; have HO_322004 := n2_; have HO_334000 := n3_; have HO_334003 := n4_; have HO_334004 := n5_; have HO_350000 := n6_; have HO_350003 := n7_; have HO_350004 := n8_; have BK292 := n9_; have BK293 := n10_; have BK321 := n11_; have BK333 := n12_; have BK349 := n13_; have HB := n14_; clear n0_ n1_ n2_ n3_ n4_ n5_ n6_ n7_ n8_ n9_ n10_ n11_ n12_ n13_ n14_; (try clear hb); (try clear hb2); (try clear hk); (try clear hi)))
      have n0_ := Aside0.mk (Kd.R_drew HO_322000.out)
      have n1_ := Aside0.mk (Kd.R_drew HO_322003.out)
      have n2_ := Aside0.mk (Kd.R_drew HO_322004.out)
      have n3_ := Aside0.mk (Kd.R_drew HO_334000.out)
      have n4_ := Aside0.mk (Kd.R_drew HO_334003.out)
      have n5_ := Aside0.mk (Kd.R_drew HO_334004.out)
      have n6_ := Aside0.mk (Kd.R_drew HO_350000.out)
      have n7_ := Aside0.mk (Kd.R_drew HO_350003.out)
      have n8_ := Aside0.mk (Kd.R_drew HO_350004.out)
      have n9_ := Aside0.mk (blk_drew BK292.out)
      have n10_ := Aside0.mk (blk_drew BK293.out)
      have n11_ := Aside0.mk (blk_drew BK321.out)
      have n12_ := Aside0.mk (blk_drew BK333.out)
      have n13_ := Aside0.mk (blk_drew BK349.out)
      have n14_ := Aside0.mk (below_drew1 HB.out)
      clear HO_322000 HO_322003 HO_322004 HO_334000 HO_334003 HO_334004 HO_350000 HO_350003 HO_350004 BK292 BK293 BK321 BK333 BK349 HB
      have HO_322000 := n0_
      have HO_322003 := n1_
      have HO_322004 := n2_
      have HO_334000 := n3_
      have HO_334003 := n4_
      have HO_334004 := n5_
      have HO_350000 := n6_
      have HO_350003 := n7_
      have HO_350004 := n8_
      have BK292 := n9_
      have BK293 := n10_
      have BK321 := n11_
      have BK333 := n12_
      have BK349 := n13_
      have HB := n14_
      clear n0_ n1_ n2_ n3_ n4_ n5_ n6_ n7_ n8_ n9_ n10_ n11_ n12_ n13_ n14_
      refine start_ (n := 7) (S := fun w' => w'.cell? ⟨gb292, 0, none⟩ = some (.slice A0_0 l0_0.length c0_0) ∧ w'.cell? ⟨gb292, 1, none⟩ = some (.int .i64 a0_1) ∧ w'.cell? ⟨gb292, 2, none⟩ = some (.bool a0_2) ∧ w'.cell? ⟨gb292, 3, none⟩ = some (.slice A0_3 l0_3.length c0_3) ∧ w'.cell? ⟨gb292, 4, none⟩ = some (.slice A0_4 l0_4.length c0_4) ∧ w'.cell? ⟨gb293, 0, none⟩ = some (.int .i64 a1_0) ∧ w'.cell? ⟨gb293, 1, none⟩ = some (.int .i64 a1_1) ∧ w'.cell? ⟨gb293, 2, none⟩ = some (.int .i64 a1_2) ∧ w'.cell? ⟨gb293, 3, none⟩ = some (.int .i64 a1_3)) (ds := []) #[false, false, false, false, false, false, false] (by kernel_rfl) rfl rfl ⟨(blk_cell BK292.out 0).trans rfl, (blk_cell BK292.out 1).trans rfl, (blk_cell BK292.out 2).trans rfl, (blk_cell BK292.out 3).trans rfl, (blk_cell BK292.out 4).trans rfl, (blk_cell BK293.out 0).trans rfl, (blk_cell BK293.out 1).trans rfl, (blk_cell BK293.out 2).trans rfl, (blk_cell BK293.out 3).trans rfl⟩ (fun hHeld => ?_)
      generalize w118.drew = w119 at HO_322000 HO_322003 HO_322004 HO_334000 HO_334003 HO_334004 HO_350000 HO_350003 HO_350004 BK292 BK293 BK321 BK333 BK349 HB hHeld ⊢
      refine take_ (i := 0) (N := some 60) (v := ?_) (a' := ?_) #[true, false, false, false, false, false, false] rfl rfl (by kernel_rfl) (fun _ _ _ h => h) (Or.inl ⟨by rfl, ?_⟩) hHeld ?_ ?_
      rotate_left
      ·
       rintro w' ⟨s0, s1, s2, s3, s4, s5, s6, s7, s8⟩
       go_simp
       with_reducible rfl
      rotate_left
      ·
       simp only [Act.put, List.setIfInBounds_toArray, List.set_cons_zero, List.set_cons_succ, i64_w, i32_w]
       rfl
      refine take_ (i := 2) (N := some 62) (v := ?_) (a' := ?_) #[true, false, true, false, false, false, false] rfl rfl (by kernel_rfl) (fun _ _ _ h => h) (Or.inl ⟨by rfl, ?_⟩) hHeld ?_ ?_
      rotate_left
      ·
       rintro w' ⟨s0, s1, s2, s3, s4, s5, s6, s7, s8⟩
       go_simp
       with_reducible rfl
      rotate_left
      ·
       simp only [Act.put, List.setIfInBounds_toArray, List.set_cons_zero, List.set_cons_succ, i64_w, i32_w]
       rfl
      refine join_ (σ := Value × Value × Value × Value × Value × Value × Nat) 1 #[true, true, true, true, true, true, false] (fun s_ => [(61, .agg #[s_.1, .int .i64 t376, .bool t377, s_.2.1, s_.2.2.1]), (63, .agg #[.int .i64 t384, .int .i64 t385, .int .i64 t386, .int .i64 t387]), (64, .agg #[s_.2.2.2.1, .int .i64 t391, .bool t392, s_.2.2.2.2.1, s_.2.2.2.2.2.1]), (12, .pointer (some ⟨s_.2.2.2.2.2.2, 0, none⟩))]) (fun s_ w' => (w'.cell? ⟨gb292, 0, none⟩ = some (.slice A0_0 l0_0.length c0_0) ∧ w'.cell? ⟨gb292, 1, none⟩ = some (.int .i64 a0_1) ∧ w'.cell? ⟨gb292, 2, none⟩ = some (.bool a0_2) ∧ w'.cell? ⟨gb292, 3, none⟩ = some (.slice A0_3 l0_3.length c0_3) ∧ w'.cell? ⟨gb292, 4, none⟩ = some (.slice A0_4 l0_4.length c0_4) ∧ w'.cell? ⟨gb293, 0, none⟩ = some (.int .i64 a1_0) ∧ w'.cell? ⟨gb293, 1, none⟩ = some (.int .i64 a1_1) ∧ w'.cell? ⟨gb293, 2, none⟩ = some (.int .i64 a1_2) ∧ w'.cell? ⟨gb293, 3, none⟩ = some (.int .i64 a1_3)) ∧ (Kd.R k88 88 w' w.heap.size (fun k_ => some k_ ≠ (s_.2.2.2.1 : Value).ownBlock ∧ some k_ ≠ (.slice Ao37 t310.length co37 : Value).ownBlock ∧ some k_ ≠ (.slice Ao49 t364.length co49 : Value).ownBlock ∧ some k_ ≠ (.slice Ao62 t338.length co62 : Value).ownBlock) s_.1 t373) ∧ (Kd.R k136 136 w' w.heap.size (fun k_ => some k_ ≠ (s_.2.2.2.2.1 : Value).ownBlock ∧ some k_ ≠ (.slice Ao41 t315.length co41 : Value).ownBlock ∧ some k_ ≠ (.slice Ao54 t365.length co54 : Value).ownBlock ∧ some k_ ≠ (.slice Ao66 t343.length co66 : Value).ownBlock) s_.2.1 t378) ∧ (Kd.R k67 67 w' w.heap.size (fun k_ => some k_ ≠ (s_.2.2.2.2.2.1 : Value).ownBlock ∧ some k_ ≠ (.slice Ao43 t318.length co43 : Value).ownBlock ∧ some k_ ≠ (.slice Ao55 t366.length co55 : Value).ownBlock ∧ some k_ ≠ (.slice Ao68 t346.length co68 : Value).ownBlock) s_.2.2.1 t381) ∧ (Kd.R k88 88 w' w.heap.size (fun k_ => some k_ ≠ (s_.1 : Value).ownBlock ∧ some k_ ≠ (.slice Ao37 t310.length co37 : Value).ownBlock ∧ some k_ ≠ (.slice Ao49 t364.length co49 : Value).ownBlock ∧ some k_ ≠ (.slice Ao62 t338.length co62 : Value).ownBlock) s_.2.2.2.1 t388) ∧ (Kd.R k136 136 w' w.heap.size (fun k_ => some k_ ≠ (s_.2.1 : Value).ownBlock ∧ some k_ ≠ (.slice Ao41 t315.length co41 : Value).ownBlock ∧ some k_ ≠ (.slice Ao54 t365.length co54 : Value).ownBlock ∧ some k_ ≠ (.slice Ao66 t343.length co66 : Value).ownBlock) s_.2.2.2.2.1 t393) ∧ (Kd.R k67 67 w' w.heap.size (fun k_ => some k_ ≠ (s_.2.2.1 : Value).ownBlock ∧ some k_ ≠ (.slice Ao43 t318.length co43 : Value).ownBlock ∧ some k_ ≠ (.slice Ao55 t366.length co55 : Value).ownBlock ∧ some k_ ≠ (.slice Ao68 t346.length co68 : Value).ownBlock) s_.2.2.2.2.2.1 t396) ∧ (Kd.R k88 88 w' w.heap.size (fun k_ => some k_ ≠ (s_.1 : Value).ownBlock ∧ some k_ ≠ (s_.2.2.2.1 : Value).ownBlock ∧ some k_ ≠ (.slice Ao49 t364.length co49 : Value).ownBlock ∧ some k_ ≠ (.slice Ao62 t338.length co62 : Value).ownBlock) (.slice Ao37 t310.length co37) t310) ∧ (Kd.R k136 136 w' w.heap.size (fun k_ => some k_ ≠ (s_.2.1 : Value).ownBlock ∧ some k_ ≠ (s_.2.2.2.2.1 : Value).ownBlock ∧ some k_ ≠ (.slice Ao54 t365.length co54 : Value).ownBlock ∧ some k_ ≠ (.slice Ao66 t343.length co66 : Value).ownBlock) (.slice Ao41 t315.length co41) t315) ∧ (Kd.R k67 67 w' w.heap.size (fun k_ => some k_ ≠ (s_.2.2.1 : Value).ownBlock ∧ some k_ ≠ (s_.2.2.2.2.2.1 : Value).ownBlock ∧ some k_ ≠ (.slice Ao55 t366.length co55 : Value).ownBlock ∧ some k_ ≠ (.slice Ao68 t346.length co68 : Value).ownBlock) (.slice Ao43 t318.length co43) t318) ∧ (Kd.R k88 88 w' w.heap.size (fun k_ => some k_ ≠ (s_.1 : Value).ownBlock ∧ some k_ ≠ (s_.2.2.2.1 : Value).ownBlock ∧ some k_ ≠ (.slice Ao37 t310.length co37 : Value).ownBlock ∧ some k_ ≠ (.slice Ao62 t338.length co62 : Value).ownBlock) (.slice Ao49 t364.length co49) t364) ∧ (Kd.R k136 136 w' w.heap.size (fun k_ => some k_ ≠ (s_.2.1 : Value).ownBlock ∧ some k_ ≠ (s_.2.2.2.2.1 : Value).ownBlock ∧ some k_ ≠ (.slice Ao41 t315.length co41 : Value).ownBlock ∧ some k_ ≠ (.slice Ao66 t343.length co66 : Value).ownBlock) (.slice Ao54 t365.length co54) t365) ∧ (Kd.R k67 67 w' w.heap.size (fun k_ => some k_ ≠ (s_.2.2.1 : Value).ownBlock ∧ some k_ ≠ (s_.2.2.2.2.2.1 : Value).ownBlock ∧ some k_ ≠ (.slice Ao43 t318.length co43 : Value).ownBlock ∧ some k_ ≠ (.slice Ao68 t346.length co68 : Value).ownBlock) (.slice Ao55 t366.length co55) t366) ∧ (Kd.R k88 88 w' w.heap.size (fun k_ => some k_ ≠ (s_.1 : Value).ownBlock ∧ some k_ ≠ (s_.2.2.2.1 : Value).ownBlock ∧ some k_ ≠ (.slice Ao37 t310.length co37 : Value).ownBlock ∧ some k_ ≠ (.slice Ao49 t364.length co49 : Value).ownBlock) (.slice Ao62 t338.length co62) t369) ∧ (Kd.R k136 136 w' w.heap.size (fun k_ => some k_ ≠ (s_.2.1 : Value).ownBlock ∧ some k_ ≠ (s_.2.2.2.2.1 : Value).ownBlock ∧ some k_ ≠ (.slice Ao41 t315.length co41 : Value).ownBlock ∧ some k_ ≠ (.slice Ao54 t365.length co54 : Value).ownBlock) (.slice Ao66 t343.length co66) t370) ∧ (Kd.R k67 67 w' w.heap.size (fun k_ => some k_ ≠ (s_.2.2.1 : Value).ownBlock ∧ some k_ ≠ (s_.2.2.2.2.2.1 : Value).ownBlock ∧ some k_ ≠ (.slice Ao43 t318.length co43 : Value).ownBlock ∧ some k_ ≠ (.slice Ao55 t366.length co55 : Value).ownBlock) (.slice Ao68 t346.length co68) t371) ∧ (w'.heap[gb292]? = some (.cells #[.slice A0_0 l0_0.length c0_0, .int .i64 a0_1, .bool a0_2, .slice A0_3 l0_3.length c0_3, .slice A0_4 l0_4.length c0_4] 59 (0, 0))) ∧ (w'.heap[gb293]? = some (.cells #[.int .i64 a1_0, .int .i64 a1_1, .int .i64 a1_2, .int .i64 a1_3] 65 (0, 0))) ∧ (w'.heap[gb321]? = some (.cells #[.slice Ao37 t310.length co37, .int .i64 t313, .bool t314, .slice Ao41 t315.length co41, .slice Ao43 t318.length co43] 36 (0, 0))) ∧ (w'.heap[gb333]? = some (.cells #[.slice Ao49 t364.length co49, .int .i64 t325, .bool t326, .slice Ao54 t365.length co54, .slice Ao55 t366.length co55] 36 (0, 0))) ∧ (w'.heap[gb349]? = some (.cells #[.slice Ao62 t338.length co62, .int .i64 t341, .bool t342, .slice Ao66 t343.length co66, .slice Ao68 t346.length co68] 36 (0, 0))) ∧ (w'.heap[s_.2.2.2.2.2.2]? = some (.cells #[.slice none 0 0, .int .i64 0, .bool false, .slice none 0 0, .slice none 0 0] 36 (0, 0))) ∧ (w.heap.size ≤ s_.2.2.2.2.2.2) ∧ (w.heap.size ≤ s_.2.2.2.2.2.2) ∧ (gb292 ≠ s_.2.2.2.2.2.2) ∧ (s_.2.2.2.2.2.2 ≠ gb292) ∧ (gb293 ≠ s_.2.2.2.2.2.2) ∧ (s_.2.2.2.2.2.2 ≠ gb293) ∧ (gb321 ≠ s_.2.2.2.2.2.2) ∧ (s_.2.2.2.2.2.2 ≠ gb321) ∧ (gb333 ≠ s_.2.2.2.2.2.2) ∧ (s_.2.2.2.2.2.2 ≠ gb333) ∧ (gb349 ≠ s_.2.2.2.2.2.2) ∧ (s_.2.2.2.2.2.2 ≠ gb349) ∧ (Below w.heap.size w w')) ?_ ?_
      rotate_left
      ·
       intro hCont
       refine two_ (i := 1) (j := 5) (Ni := some 61) (Nj := some 12) #[true, true, true, false, false, false, false] #[true, false, true, false, false, true, false] rfl rfl rfl rfl (by kernel_rfl) (by decide) (by decide) (fun K hK => ?_) (fun K hK => ?_)
       ·
        skip
        refine goes_ Try.func39 (by kernel_rfl) rfl #[.agg #[.slice A0_0 l0_0.length c0_0, .int .i64 a0_1, .bool a0_2, .slice A0_3 l0_3.length c0_3, .slice A0_4 l0_4.length c0_4]] (by rfl) rfl rfl z4_ ?_
        with_reducible refine (laws_toThread.calls kj21 _ _ l0_0 a0_1 a0_2 _ _ l0_3 _ _ l0_4 t373 t376 t377 t378 t381 _ ?side1 ?side2 ?side3 ?side4 ?side5 ?side6 A103.out).mono ?_
        (case side1 => exact cb_ (Kd.C_below HR0_0.out HB.out))
        (case side2 => exact HC0_0.out)
        (case side3 => exact cb_ (Kd.C_below HR0_3.out HB.out))
        (case side4 => exact HC0_3.out)
        (case side5 => exact cb_ (Kd.C_below HR0_4.out HB.out))
        (case side6 => exact HC0_4.out)
        rintro e w120 ⟨v374, v379, v382, rfl, ho0, ho1, ho2, hb⟩
        refine ⟨_, rfl, ?_⟩
        have n0_ := Aside0.mk (Kd.R_elder' (rb_ HO_322000.out) (Kd.R_base ho0) hb)
        have n1_ := Aside0.mk (Kd.R_elder' (rb_ HO_322003.out) (Kd.R_base ho1) hb)
        have n2_ := Aside0.mk (Kd.R_elder' (rb_ HO_322004.out) (Kd.R_base ho2) hb)
        have n3_ := Aside0.mk (Kd.R_elder' (rb_ HO_334000.out) (Kd.R_base ho0) hb)
        have n4_ := Aside0.mk (Kd.R_elder' (rb_ HO_334003.out) (Kd.R_base ho1) hb)
        have n5_ := Aside0.mk (Kd.R_elder' (rb_ HO_334004.out) (Kd.R_base ho2) hb)
        have n6_ := Aside0.mk (Kd.R_elder' (rb_ HO_350000.out) (Kd.R_base ho0) hb)
        have n7_ := Aside0.mk (Kd.R_elder' (rb_ HO_350003.out) (Kd.R_base ho1) hb)
        have n8_ := Aside0.mk (Kd.R_elder' (rb_ HO_350004.out) (Kd.R_base ho2) hb)
        have n9_ := Aside0.mk (Kd.R_lower (Kd.R_new' (Kd.R_new' (Kd.R_new' ho0 (Kd.R_lt (rb_ HO_322000.out))) (Kd.R_lt (rb_ HO_334000.out))) (Kd.R_lt (rb_ HO_350000.out))) (below_size z0_))
        have n10_ := Aside0.mk (Kd.R_lower (Kd.R_new' (Kd.R_new' (Kd.R_new' ho1 (Kd.R_lt (rb_ HO_322003.out))) (Kd.R_lt (rb_ HO_334003.out))) (Kd.R_lt (rb_ HO_350003.out))) (below_size z0_))
        have n11_ := Aside0.mk (Kd.R_lower (Kd.R_new' (Kd.R_new' (Kd.R_new' ho2 (Kd.R_lt (rb_ HO_322004.out))) (Kd.R_lt (rb_ HO_334004.out))) (Kd.R_lt (rb_ HO_350004.out))) (below_size z0_))
        have n12_ := Aside0.mk (blk_below (g := gb292) (o := .cells #[.slice A0_0 l0_0.length c0_0, .int .i64 a0_1, .bool a0_2, .slice A0_3 l0_3.length c0_3, .slice A0_4 l0_4.length c0_4] 59 (0, 0)) (bk_ BK292.out) hb)
        have n13_ := Aside0.mk (blk_below (g := gb293) (o := .cells #[.int .i64 a1_0, .int .i64 a1_1, .int .i64 a1_2, .int .i64 a1_3] 65 (0, 0)) (bk_ BK293.out) hb)
        have n14_ := Aside0.mk (blk_below (g := gb321) (o := .cells #[.slice Ao37 t310.length co37, .int .i64 t313, .bool t314, .slice Ao41 t315.length co41, .slice Ao43 t318.length co43] 36 (0, 0)) (bk_ BK321.out) hb)
        have n15_ := Aside0.mk (blk_below (g := gb333) (o := .cells #[.slice Ao49 t364.length co49, .int .i64 t325, .bool t326, .slice Ao54 t365.length co54, .slice Ao55 t366.length co55] 36 (0, 0)) (bk_ BK333.out) hb)
        have n16_ := Aside0.mk (blk_below (g := gb349) (o := .cells #[.slice Ao62 t338.length co62, .int .i64 t341, .bool t342, .slice Ao66 t343.length co66, .slice Ao68 t346.length co68] 36 (0, 0)) (bk_ BK349.out) hb)
        have n17_ := Aside0.mk (below_step z0_ hb)
        clear HO_322000 HO_322003 HO_322004 HO_334000 HO_334003 HO_334004 HO_350000 HO_350003 HO_350004 BK292 BK293 BK321 BK333 BK349 HB
        have HO_322000 := n0_
        have HO_322003 := n1_
        have HO_322004 := n2_
        have HO_334000 := n3_
        have HO_334003 := n4_
        have HO_334004 := n5_
        have HO_350000 := n6_
        have HO_350003 := n7_
        have HO_350004 := n8_
        have HO375 := n9_
        have HO380 := n10_
        have HO383 := n11_
        have BK292 := n12_
        have BK293 := n13_
        have BK321 := n14_
        have BK333 := n15_
        have BK349 := n16_
        have HB := n17_
        clear n0_ n1_ n2_ n3_ n4_ n5_ n6_ n7_ n8_ n9_ n10_ n11_ n12_ n13_ n14_ n15_ n16_ n17_
        (try clear hb)
        (try clear hb2)
        (try clear hk)
        (try clear hi)
        (try clear ho0)
        (try clear ho1)
        (try clear ho2)
        refine hK.out _ _ ⟨(blk_cell BK292.out 0).trans rfl, (blk_cell BK292.out 1).trans rfl, (blk_cell BK292.out 2).trans rfl, (blk_cell BK292.out 3).trans rfl, (blk_cell BK292.out 4).trans rfl, (blk_cell BK293.out 0).trans rfl, (blk_cell BK293.out 1).trans rfl, (blk_cell BK293.out 2).trans rfl, (blk_cell BK293.out 3).trans rfl⟩ (fun hHeld => ?_)
        clear hK K
        refine norm_ (a' := ?_) ?_ ?_
        rotate_left
        ·
         show Act.put _ (some 61) _ = _
         simp only [Act.put, List.setIfInBounds_toArray, List.set_cons_zero, List.set_cons_succ, i64_w, i32_w]
         rfl
        refine two_ (i := 3) (j := 5) (Ni := some 63) (Nj := some 12) #[true, true, true, true, false, false, false] #[true, true, true, false, false, true, false] rfl rfl rfl rfl (by kernel_rfl) (by decide) (by decide) (fun K hK => ?_) (fun K hK => ?_)
        ·
         skip
         refine goes_ Try.func42 (by kernel_rfl) rfl #[.agg #[.int .i64 a1_0, .int .i64 a1_1, .int .i64 a1_2, .int .i64 a1_3]] (by rfl) rfl rfl z4_ ?_
         with_reducible refine (laws_toHelp.calls a1_0 a1_1 a1_2 a1_3 t384 t385 t386 t387 _ A104.out).mono ?_
         rintro e w121 ⟨rfl, hb⟩
         refine ⟨_, rfl, ?_⟩
         have n0_ := Aside0.mk (Kd.R_below (rb_ HO_322000.out) hb)
         have n1_ := Aside0.mk (Kd.R_below (rb_ HO_322003.out) hb)
         have n2_ := Aside0.mk (Kd.R_below (rb_ HO_322004.out) hb)
         have n3_ := Aside0.mk (Kd.R_below (rb_ HO_334000.out) hb)
         have n4_ := Aside0.mk (Kd.R_below (rb_ HO_334003.out) hb)
         have n5_ := Aside0.mk (Kd.R_below (rb_ HO_334004.out) hb)
         have n6_ := Aside0.mk (Kd.R_below (rb_ HO_350000.out) hb)
         have n7_ := Aside0.mk (Kd.R_below (rb_ HO_350003.out) hb)
         have n8_ := Aside0.mk (Kd.R_below (rb_ HO_350004.out) hb)
         have n9_ := Aside0.mk (Kd.R_below (rb_ HO375.out) hb)
         have n10_ := Aside0.mk (Kd.R_below (rb_ HO380.out) hb)
         have n11_ := Aside0.mk (Kd.R_below (rb_ HO383.out) hb)
         have n12_ := Aside0.mk (blk_below (g := gb292) (o := .cells #[.slice A0_0 l0_0.length c0_0, .int .i64 a0_1, .bool a0_2, .slice A0_3 l0_3.length c0_3, .slice A0_4 l0_4.length c0_4] 59 (0, 0)) (bk_ BK292.out) hb)
         have n13_ := Aside0.mk (blk_below (g := gb293) (o := .cells #[.int .i64 a1_0, .int .i64 a1_1, .int .i64 a1_2, .int .i64 a1_3] 65 (0, 0)) (bk_ BK293.out) hb)
         have n14_ := Aside0.mk (blk_below (g := gb321) (o := .cells #[.slice Ao37 t310.length co37, .int .i64 t313, .bool t314, .slice Ao41 t315.length co41, .slice Ao43 t318.length co43] 36 (0, 0)) (bk_ BK321.out) hb)
         have n15_ := Aside0.mk (blk_below (g := gb333) (o := .cells #[.slice Ao49 t364.length co49, .int .i64 t325, .bool t326, .slice Ao54 t365.length co54, .slice Ao55 t366.length co55] 36 (0, 0)) (bk_ BK333.out) hb)
         have n16_ := Aside0.mk (blk_below (g := gb349) (o := .cells #[.slice Ao62 t338.length co62, .int .i64 t341, .bool t342, .slice Ao66 t343.length co66, .slice Ao68 t346.length co68] 36 (0, 0)) (bk_ BK349.out) hb)
         have n17_ := Aside0.mk (below_step z0_ hb)
         clear HO_322000 HO_322003 HO_322004 HO_334000 HO_334003 HO_334004 HO_350000 HO_350003 HO_350004 HO375 HO380 HO383 BK292 BK293 BK321 BK333 BK349 HB
         have HO_322000 := n0_
         have HO_322003 := n1_
         have HO_322004 := n2_
         have HO_334000 := n3_
         have HO_334003 := n4_
         have HO_334004 := n5_
         have HO_350000 := n6_
         have HO_350003 := n7_
         have HO_350004 := n8_
         have HO375 := n9_
         have HO380 := n10_
         have HO383 := n11_
         have BK292 := n12_
         have BK293 := n13_
         have BK321 := n14_
         have BK333 := n15_
         have BK349 := n16_
         have HB := n17_
         clear n0_ n1_ n2_ n3_ n4_ n5_ n6_ n7_ n8_ n9_ n10_ n11_ n12_ n13_ n14_ n15_ n16_ n17_
         (try clear hb)
         (try clear hb2)
         (try clear hk)
         (try clear hi)
         obtain ⟨Ao122, co122, eo122⟩ := Kd.R_slice HO375.out
         (first | subst eo122 | (injection eo122 with f1_ f2_ f3_; have f4_ := f1_.symm; have f5_ := f3_.symm; clear f1_ f2_ f3_; subst f4_; subst f5_))
         obtain ⟨Ao123, co123, eo123⟩ := Kd.R_slice HO380.out
         (first | subst eo123 | (injection eo123 with f1_ f2_ f3_; have f4_ := f1_.symm; have f5_ := f3_.symm; clear f1_ f2_ f3_; subst f4_; subst f5_))
         obtain ⟨Ao124, co124, eo124⟩ := Kd.R_slice HO383.out
         (first | subst eo124 | (injection eo124 with f1_ f2_ f3_; have f4_ := f1_.symm; have f5_ := f3_.symm; clear f1_ f2_ f3_; subst f4_; subst f5_))
         refine hK.out _ _ ⟨(blk_cell BK292.out 0).trans rfl, (blk_cell BK292.out 1).trans rfl, (blk_cell BK292.out 2).trans rfl, (blk_cell BK292.out 3).trans rfl, (blk_cell BK292.out 4).trans rfl, (blk_cell BK293.out 0).trans rfl, (blk_cell BK293.out 1).trans rfl, (blk_cell BK293.out 2).trans rfl, (blk_cell BK293.out 3).trans rfl⟩ (fun hHeld => ?_)
         clear hK K
         refine norm_ (a' := ?_) ?_ ?_
         rotate_left
         ·
          show Act.put _ (some 63) _ = _
          simp only [Act.put, List.setIfInBounds_toArray, List.set_cons_zero, List.set_cons_succ, i64_w, i32_w]
          rfl
         refine two_ (i := 4) (j := 5) (Ni := some 64) (Nj := some 12) #[true, true, true, true, true, false, false] #[true, true, true, true, false, true, false] rfl rfl rfl rfl (by kernel_rfl) (by decide) (by decide) (fun K hK => ?_) (fun K hK => ?_)
         ·
          skip
          refine goes_ Try.func43 (by kernel_rfl) rfl #[.agg #[.slice Ao122 t373.length co122, .int .i64 t376, .bool t377, .slice Ao123 t378.length co123, .slice Ao124 t381.length co124], .agg #[.int .i64 t384, .int .i64 t385, .int .i64 t386, .int .i64 t387]] (by rfl) rfl rfl z4_ ?_
          with_reducible refine (impl_Push.calls _ _ t373 t376 t377 _ _ t378 _ _ t381 t384 t385 t386 t387 t388 t391 t392 t393 t396 _ ?side1 ?side2 ?side3 ?side4 ?side5 ?side6 A105.out).mono ?_
          (case side1 => repeat (first | exact (Kd.R_reads' HO375.out).2.2 | (with_reducible refine Kd.C_alloc ?_ _) | (with_reducible refine Kd.C_drewN ?_ _) | (with_reducible refine Kd.C_drew ?_)))
          (case side2 => exact (Kd.R_reads' HO375.out).2.1)
          (case side3 => repeat (first | exact (Kd.R_reads' HO380.out).2.2 | (with_reducible refine Kd.C_alloc ?_ _) | (with_reducible refine Kd.C_drewN ?_ _) | (with_reducible refine Kd.C_drew ?_)))
          (case side4 => exact (Kd.R_reads' HO380.out).2.1)
          (case side5 => repeat (first | exact (Kd.R_reads' HO383.out).2.2 | (with_reducible refine Kd.C_alloc ?_ _) | (with_reducible refine Kd.C_drewN ?_ _) | (with_reducible refine Kd.C_drew ?_)))
          (case side6 => exact (Kd.R_reads' HO383.out).2.1)
          rintro e w125 ⟨v389, v394, v397, rfl, ho0, ho1, ho2, hb⟩
          refine ⟨_, rfl, ?_⟩
          have n0_ := Aside0.mk (Kd.R_elder' (rb_ HO_322000.out) (Kd.R_base ho0) hb)
          have n1_ := Aside0.mk (Kd.R_elder' (rb_ HO_322003.out) (Kd.R_base ho1) hb)
          have n2_ := Aside0.mk (Kd.R_elder' (rb_ HO_322004.out) (Kd.R_base ho2) hb)
          have n3_ := Aside0.mk (Kd.R_elder' (rb_ HO_334000.out) (Kd.R_base ho0) hb)
          have n4_ := Aside0.mk (Kd.R_elder' (rb_ HO_334003.out) (Kd.R_base ho1) hb)
          have n5_ := Aside0.mk (Kd.R_elder' (rb_ HO_334004.out) (Kd.R_base ho2) hb)
          have n6_ := Aside0.mk (Kd.R_elder' (rb_ HO_350000.out) (Kd.R_base ho0) hb)
          have n7_ := Aside0.mk (Kd.R_elder' (rb_ HO_350003.out) (Kd.R_base ho1) hb)
          have n8_ := Aside0.mk (Kd.R_elder' (rb_ HO_350004.out) (Kd.R_base ho2) hb)
          have n9_ := Aside0.mk (Kd.R_elder' (rb_ HO375.out) (Kd.R_base ho0) hb)
          have n10_ := Aside0.mk (Kd.R_elder' (rb_ HO380.out) (Kd.R_base ho1) hb)
          have n11_ := Aside0.mk (Kd.R_elder' (rb_ HO383.out) (Kd.R_base ho2) hb)
          have n12_ := Aside0.mk (Kd.R_lower (Kd.R_new' (Kd.R_new' (Kd.R_new' (Kd.R_new' ho0 (Kd.R_lt (rb_ HO_322000.out))) (Kd.R_lt (rb_ HO_334000.out))) (Kd.R_lt (rb_ HO_350000.out))) (Kd.R_lt (rb_ HO375.out))) (below_size z0_))
          have n13_ := Aside0.mk (Kd.R_lower (Kd.R_new' (Kd.R_new' (Kd.R_new' (Kd.R_new' ho1 (Kd.R_lt (rb_ HO_322003.out))) (Kd.R_lt (rb_ HO_334003.out))) (Kd.R_lt (rb_ HO_350003.out))) (Kd.R_lt (rb_ HO380.out))) (below_size z0_))
          have n14_ := Aside0.mk (Kd.R_lower (Kd.R_new' (Kd.R_new' (Kd.R_new' (Kd.R_new' ho2 (Kd.R_lt (rb_ HO_322004.out))) (Kd.R_lt (rb_ HO_334004.out))) (Kd.R_lt (rb_ HO_350004.out))) (Kd.R_lt (rb_ HO383.out))) (below_size z0_))
          have n15_ := Aside0.mk (blk_below (g := gb292) (o := .cells #[.slice A0_0 l0_0.length c0_0, .int .i64 a0_1, .bool a0_2, .slice A0_3 l0_3.length c0_3, .slice A0_4 l0_4.length c0_4] 59 (0, 0)) (bk_ BK292.out) hb)
          have n16_ := Aside0.mk (blk_below (g := gb293) (o := .cells #[.int .i64 a1_0, .int .i64 a1_1, .int .i64 a1_2, .int .i64 a1_3] 65 (0, 0)) (bk_ BK293.out) hb)
          have n17_ := Aside0.mk (blk_below (g := gb321) (o := .cells #[.slice Ao37 t310.length co37, .int .i64 t313, .bool t314, .slice Ao41 t315.length co41, .slice Ao43 t318.length co43] 36 (0, 0)) (bk_ BK321.out) hb)
          have n18_ := Aside0.mk (blk_below (g := gb333) (o := .cells #[.slice Ao49 t364.length co49, .int .i64 t325, .bool t326, .slice Ao54 t365.length co54, .slice Ao55 t366.length co55] 36 (0, 0)) (bk_ BK333.out) hb)
          have n19_ := Aside0.mk (blk_below (g := gb349) (o := .cells #[.slice Ao62 t338.length co62, .int .i64 t341, .bool t342, .slice Ao66 t343.length co66, .slice Ao68 t346.length co68] 36 (0, 0)) (bk_ BK349.out) hb)
          have n20_ := Aside0.mk (below_step z0_ hb)
          clear HO_322000 HO_322003 HO_322004 HO_334000 HO_334003 HO_334004 HO_350000 HO_350003 HO_350004 HO375 HO380 HO383 BK292 BK293 BK321 BK333 BK349 HB
          have HO_322000 := n0_
          have HO_322003 := n1_
          have HO_322004 := n2_
          have HO_334000 := n3_
          have HO_334003 := n4_
          have HO_334004 := n5_
          have HO_350000 := n6_
          have HO_350003 := n7_
          have HO_350004 := n8_
          have HO375 := n9_
          have HO380 := n10_
          have HO383 := n11_
          have HO390 := n12_
          have HO395 := n13_
          have HO398 := n14_
          have BK292 := n15_
          have BK293 := n16_
          have BK321 := n17_
          have BK333 := n18_
          have BK349 := n19_
          have HB := n20_
          clear n0_ n1_ n2_ n3_ n4_ n5_ n6_ n7_ n8_ n9_ n10_ n11_ n12_ n13_ n14_ n15_ n16_ n17_ n18_ n19_ n20_
          (try clear hb)
          (try clear hb2)
          (try clear hk)
          (try clear hi)
          (try clear ho0)
          (try clear ho1)
          (try clear ho2)
          refine hK.out _ _ ⟨(blk_cell BK292.out 0).trans rfl, (blk_cell BK292.out 1).trans rfl, (blk_cell BK292.out 2).trans rfl, (blk_cell BK292.out 3).trans rfl, (blk_cell BK292.out 4).trans rfl, (blk_cell BK293.out 0).trans rfl, (blk_cell BK293.out 1).trans rfl, (blk_cell BK293.out 2).trans rfl, (blk_cell BK293.out 3).trans rfl⟩ (fun hHeld => ?_)
          clear hK K
          refine norm_ (a' := ?_) ?_ ?_
          rotate_left
          ·
           show Act.put _ (some 64) _ = _
           simp only [Act.put, List.setIfInBounds_toArray, List.set_cons_zero, List.set_cons_succ, i64_w, i32_w]
           rfl
          refine one_ (i := 5) (N := some 12) #[true, true, true, true, true, true, false] rfl rfl (by kernel_rfl) (by decide) (fun K hK => ?_)
          refine box_step ?hg (N := 12) ?hd (cs := #[.slice none 0 0, .int .i64 0, .bool false, .slice none 0 0, .slice none 0 0]) (t := 36) ?hr ?_; (case hd => rfl); (case hg => rfl); (case hr => first | (go_simp; done) | (go_simp; rfl))
          intro gb399 hg w126 hbox hb
          have n0_ := Aside0.mk (Kd.R_below (rb_ HO_322000.out) hb)
          have n1_ := Aside0.mk (Kd.R_below (rb_ HO_322003.out) hb)
          have n2_ := Aside0.mk (Kd.R_below (rb_ HO_322004.out) hb)
          have n3_ := Aside0.mk (Kd.R_below (rb_ HO_334000.out) hb)
          have n4_ := Aside0.mk (Kd.R_below (rb_ HO_334003.out) hb)
          have n5_ := Aside0.mk (Kd.R_below (rb_ HO_334004.out) hb)
          have n6_ := Aside0.mk (Kd.R_below (rb_ HO_350000.out) hb)
          have n7_ := Aside0.mk (Kd.R_below (rb_ HO_350003.out) hb)
          have n8_ := Aside0.mk (Kd.R_below (rb_ HO_350004.out) hb)
          have n9_ := Aside0.mk (Kd.R_below (rb_ HO375.out) hb)
          have n10_ := Aside0.mk (Kd.R_below (rb_ HO380.out) hb)
          have n11_ := Aside0.mk (Kd.R_below (rb_ HO383.out) hb)
          have n12_ := Aside0.mk (Kd.R_below (rb_ HO390.out) hb)
          have n13_ := Aside0.mk (Kd.R_below (rb_ HO395.out) hb)
          have n14_ := Aside0.mk (Kd.R_below (rb_ HO398.out) hb)
          have n15_ := Aside0.mk (blk_below (g := gb292) (o := .cells #[.slice A0_0 l0_0.length c0_0, .int .i64 a0_1, .bool a0_2, .slice A0_3 l0_3.length c0_3, .slice A0_4 l0_4.length c0_4] 59 (0, 0)) (bk_ BK292.out) hb)
          have n16_ := Aside0.mk (blk_below (g := gb293) (o := .cells #[.int .i64 a1_0, .int .i64 a1_1, .int .i64 a1_2, .int .i64 a1_3] 65 (0, 0)) (bk_ BK293.out) hb)
          have n17_ := Aside0.mk (blk_below (g := gb321) (o := .cells #[.slice Ao37 t310.length co37, .int .i64 t313, .bool t314, .slice Ao41 t315.length co41, .slice Ao43 t318.length co43] 36 (0, 0)) (bk_ BK321.out) hb)
          have n18_ := Aside0.mk (blk_below (g := gb333) (o := .cells #[.slice Ao49 t364.length co49, .int .i64 t325, .bool t326, .slice Ao54 t365.length co54, .slice Ao55 t366.length co55] 36 (0, 0)) (bk_ BK333.out) hb)
          have n19_ := Aside0.mk (blk_below (g := gb349) (o := .cells #[.slice Ao62 t338.length co62, .int .i64 t341, .bool t342, .slice Ao66 t343.length co66, .slice Ao68 t346.length co68] 36 (0, 0)) (bk_ BK349.out) hb)
          have n20_ := Aside0.mk (below_step z0_ hb)
          have n21_ := Aside0.mk (hbox)
          have n22_ := Aside0.mk ((by rw [hg]; exact (below_size z0_) : w.heap.size ≤ gb399))
          have n23_ := Aside0.mk ((by rw [hg]; exact (below_size z0_) : w.heap.size ≤ gb399))
          have n24_ := Aside0.mk ((z6_ : gb292 ≠ gb399))
          have n25_ := Aside0.mk ((z7_ : gb399 ≠ gb292))
          have n26_ := Aside0.mk ((z8_ : gb293 ≠ gb399))
          have n27_ := Aside0.mk ((z9_ : gb399 ≠ gb293))
          have n28_ := Aside0.mk ((z10_ : gb321 ≠ gb399))
          have n29_ := Aside0.mk ((z11_ : gb399 ≠ gb321))
          have n30_ := Aside0.mk ((z14_ : gb333 ≠ gb399))
          have n31_ := Aside0.mk ((z15_ : gb399 ≠ gb333))
          have n32_ := Aside0.mk ((z16_ : gb349 ≠ gb399))
          have n33_ := Aside0.mk ((z17_ : gb399 ≠ gb349))
          clear HO_322000 HO_322003 HO_322004 HO_334000 HO_334003 HO_334004 HO_350000 HO_350003 HO_350004 HO375 HO380 HO383 HO390 HO395 HO398 BK292 BK293 BK321 BK333 BK349 HB
          have HO_322000 := n0_
          have HO_322003 := n1_
          have HO_322004 := n2_
          have HO_334000 := n3_
          have HO_334003 := n4_
          have HO_334004 := n5_
          have HO_350000 := n6_
          have HO_350003 := n7_
          have HO_350004 := n8_
          have HO375 := n9_
          have HO380 := n10_
          have HO383 := n11_
          have HO390 := n12_
          have HO395 := n13_
          have HO398 := n14_
          have BK292 := n15_
          have BK293 := n16_
          have BK321 := n17_
          have BK333 := n18_
          have BK349 := n19_
          have HB := n20_
          have BK399 := n21_
          have GW399 := n22_
          have GE399 := n23_
          have NB292_399 := n24_
          have NB399_292 := n25_
          have NB293_399 := n26_
          have NB399_293 := n27_
          have NB321_399 := n28_
          have NB399_321 := n29_
          have NB333_399 := n30_
          have NB399_333 := n31_
          have NB349_399 := n32_
          have NB399_349 := n33_
          clear n0_ n1_ n2_ n3_ n4_ n5_ n6_ n7_ n8_ n9_ n10_ n11_ n12_ n13_ n14_ n15_ n16_ n17_ n18_ n19_ n20_ n21_ n22_ n23_ n24_ n25_ n26_ n27_ n28_ n29_ n30_ n31_ n32_ n33_ hb hbox hg
          refine hK.out _ _ ⟨(blk_cell BK292.out 0).trans rfl, (blk_cell BK292.out 1).trans rfl, (blk_cell BK292.out 2).trans rfl, (blk_cell BK292.out 3).trans rfl, (blk_cell BK292.out 4).trans rfl, (blk_cell BK293.out 0).trans rfl, (blk_cell BK293.out 1).trans rfl, (blk_cell BK293.out 2).trans rfl, (blk_cell BK293.out 3).trans rfl⟩ (fun hHeld => ?_)
          clear hK K
          refine norm_ (a' := ?_) ?_ ?_
          rotate_left
          ·
           show Act.put _ (some 12) _ = _
           simp only [Act.put, List.setIfInBounds_toArray, List.set_cons_zero, List.set_cons_succ, i64_w, i32_w]
           rfl
          exact norm_ (by simp only [putAll, Act.put, List.setIfInBounds_toArray, List.set_cons_zero, List.set_cons_succ]) (hCont (.slice Ao122 t373.length co122, .slice Ao123 t378.length co123, .slice Ao124 t381.length co124, v389, v394, v397, gb399) _ ⟨hHeld, z45_, z46_, z47_, z48_, z49_, z50_, z36_, z37_, z38_, z39_, z40_, z41_, z42_, z43_, z44_, bk_ BK292.out, bk_ BK293.out, bk_ BK321.out, bk_ BK333.out, bk_ BK349.out, bk_ BK399.out, GW399.out, GE399.out, NB292_399.out, NB399_292.out, NB293_399.out, NB399_293.out, NB321_399.out, NB399_321.out, NB333_399.out, NB399_333.out, NB349_399.out, NB399_349.out, z1_⟩)
         ·
          skip
          refine box_step ?hg (N := 12) ?hd (cs := #[.slice none 0 0, .int .i64 0, .bool false, .slice none 0 0, .slice none 0 0]) (t := 36) ?hr ?_; (case hd => rfl); (case hg => rfl); (case hr => first | (go_simp; done) | (go_simp; rfl))
          intro gb399 hg w122 hbox hb
          have n0_ := Aside0.mk (Kd.R_below (rb_ HO_322000.out) hb)
          have n1_ := Aside0.mk (Kd.R_below (rb_ HO_322003.out) hb)
          have n2_ := Aside0.mk (Kd.R_below (rb_ HO_322004.out) hb)
          have n3_ := Aside0.mk (Kd.R_below (rb_ HO_334000.out) hb)
          have n4_ := Aside0.mk (Kd.R_below (rb_ HO_334003.out) hb)
          have n5_ := Aside0.mk (Kd.R_below (rb_ HO_334004.out) hb)
          have n6_ := Aside0.mk (Kd.R_below (rb_ HO_350000.out) hb)
          have n7_ := Aside0.mk (Kd.R_below (rb_ HO_350003.out) hb)
          have n8_ := Aside0.mk (Kd.R_below (rb_ HO_350004.out) hb)
          have n9_ := Aside0.mk (Kd.R_below (rb_ HO375.out) hb)
          have n10_ := Aside0.mk (Kd.R_below (rb_ HO380.out) hb)
          have n11_ := Aside0.mk (Kd.R_below (rb_ HO383.out) hb)
          have n12_ := Aside0.mk (blk_below (g := gb292) (o := .cells #[.slice A0_0 l0_0.length c0_0, .int .i64 a0_1, .bool a0_2, .slice A0_3 l0_3.length c0_3, .slice A0_4 l0_4.length c0_4] 59 (0, 0)) (bk_ BK292.out) hb)
          have n13_ := Aside0.mk (blk_below (g := gb293) (o := .cells #[.int .i64 a1_0, .int .i64 a1_1, .int .i64 a1_2, .int .i64 a1_3] 65 (0, 0)) (bk_ BK293.out) hb)
          have n14_ := Aside0.mk (blk_below (g := gb321) (o := .cells #[.slice Ao37 t310.length co37, .int .i64 t313, .bool t314, .slice Ao41 t315.length co41, .slice Ao43 t318.length co43] 36 (0, 0)) (bk_ BK321.out) hb)
          have n15_ := Aside0.mk (blk_below (g := gb333) (o := .cells #[.slice Ao49 t364.length co49, .int .i64 t325, .bool t326, .slice Ao54 t365.length co54, .slice Ao55 t366.length co55] 36 (0, 0)) (bk_ BK333.out) hb)
          have n16_ := Aside0.mk (blk_below (g := gb349) (o := .cells #[.slice Ao62 t338.length co62, .int .i64 t341, .bool t342, .slice Ao66 t343.length co66, .slice Ao68 t346.length co68] 36 (0, 0)) (bk_ BK349.out) hb)
          have n17_ := Aside0.mk (below_step z0_ hb)
          have n18_ := Aside0.mk (hbox)
          have n19_ := Aside0.mk ((by rw [hg]; exact (below_size z0_) : w.heap.size ≤ gb399))
          have n20_ := Aside0.mk ((by rw [hg]; exact (below_size z0_) : w.heap.size ≤ gb399))
          have n21_ := Aside0.mk ((z6_ : gb292 ≠ gb399))
          have n22_ := Aside0.mk ((z7_ : gb399 ≠ gb292))
          have n23_ := Aside0.mk ((z8_ : gb293 ≠ gb399))
          have n24_ := Aside0.mk ((z9_ : gb399 ≠ gb293))
          have n25_ := Aside0.mk ((z10_ : gb321 ≠ gb399))
          have n26_ := Aside0.mk ((z11_ : gb399 ≠ gb321))
          have n27_ := Aside0.mk ((z14_ : gb333 ≠ gb399))
          have n28_ := Aside0.mk ((z15_ : gb399 ≠ gb333))
          have n29_ := Aside0.mk ((z16_ : gb349 ≠ gb399))
          have n30_ := Aside0.mk ((z17_ : gb399 ≠ gb349))
          clear HO_322000 HO_322003 HO_322004 HO_334000 HO_334003 HO_334004 HO_350000 HO_350003 HO_350004 HO375 HO380 HO383 BK292 BK293 BK321 BK333 BK349 HB
          have HO_322000 := n0_
          have HO_322003 := n1_
          have HO_322004 := n2_
          have HO_334000 := n3_
          have HO_334003 := n4_
          have HO_334004 := n5_
          have HO_350000 := n6_
          have HO_350003 := n7_
          have HO_350004 := n8_
          have HO375 := n9_
          have HO380 := n10_
          have HO383 := n11_
          have BK292 := n12_
          have BK293 := n13_
          have BK321 := n14_
          have BK333 := n15_
          have BK349 := n16_
          have HB := n17_
          have BK399 := n18_
          have GW399 := n19_
          have GE399 := n20_
          have NB292_399 := n21_
          have NB399_292 := n22_
          have NB293_399 := n23_
          have NB399_293 := n24_
          have NB321_399 := n25_
          have NB399_321 := n26_
          have NB333_399 := n27_
          have NB399_333 := n28_
          have NB349_399 := n29_
          have NB399_349 := n30_
          clear n0_ n1_ n2_ n3_ n4_ n5_ n6_ n7_ n8_ n9_ n10_ n11_ n12_ n13_ n14_ n15_ n16_ n17_ n18_ n19_ n20_ n21_ n22_ n23_ n24_ n25_ n26_ n27_ n28_ n29_ n30_ hb hbox hg
          obtain ⟨Ao123, co123, eo123⟩ := Kd.R_slice HO375.out
          (first | subst eo123 | (injection eo123 with f1_ f2_ f3_; have f4_ := f1_.symm; have f5_ := f3_.symm; clear f1_ f2_ f3_; subst f4_; subst f5_))
          obtain ⟨Ao124, co124, eo124⟩ := Kd.R_slice HO380.out
          (first | subst eo124 | (injection eo124 with f1_ f2_ f3_; have f4_ := f1_.symm; have f5_ := f3_.symm; clear f1_ f2_ f3_; subst f4_; subst f5_))
          obtain ⟨Ao125, co125, eo125⟩ := Kd.R_slice HO383.out
          (first | subst eo125 | (injection eo125 with f1_ f2_ f3_; have f4_ := f1_.symm; have f5_ := f3_.symm; clear f1_ f2_ f3_; subst f4_; subst f5_))
          refine hK.out _ _ ⟨(blk_cell BK292.out 0).trans rfl, (blk_cell BK292.out 1).trans rfl, (blk_cell BK292.out 2).trans rfl, (blk_cell BK292.out 3).trans rfl, (blk_cell BK292.out 4).trans rfl, (blk_cell BK293.out 0).trans rfl, (blk_cell BK293.out 1).trans rfl, (blk_cell BK293.out 2).trans rfl, (blk_cell BK293.out 3).trans rfl⟩ (fun hHeld => ?_)
          clear hK K
          refine norm_ (a' := ?_) ?_ ?_
          rotate_left
          ·
           show Act.put _ (some 12) _ = _
           simp only [Act.put, List.setIfInBounds_toArray, List.set_cons_zero, List.set_cons_succ, i64_w, i32_w]
           rfl
          refine one_ (i := 4) (N := some 64) #[true, true, true, true, true, true, false] rfl rfl (by kernel_rfl) (by decide) (fun K hK => ?_)
          refine goes_ Try.func43 (by kernel_rfl) rfl #[.agg #[.slice Ao123 t373.length co123, .int .i64 t376, .bool t377, .slice Ao124 t378.length co124, .slice Ao125 t381.length co125], .agg #[.int .i64 t384, .int .i64 t385, .int .i64 t386, .int .i64 t387]] (by rfl) rfl rfl z4_ ?_
          with_reducible refine (impl_Push.calls _ _ t373 t376 t377 _ _ t378 _ _ t381 t384 t385 t386 t387 t388 t391 t392 t393 t396 _ ?side1 ?side2 ?side3 ?side4 ?side5 ?side6 A105.out).mono ?_
          (case side1 => repeat (first | exact (Kd.R_reads' HO375.out).2.2 | (with_reducible refine Kd.C_alloc ?_ _) | (with_reducible refine Kd.C_drewN ?_ _) | (with_reducible refine Kd.C_drew ?_)))
          (case side2 => exact (Kd.R_reads' HO375.out).2.1)
          (case side3 => repeat (first | exact (Kd.R_reads' HO380.out).2.2 | (with_reducible refine Kd.C_alloc ?_ _) | (with_reducible refine Kd.C_drewN ?_ _) | (with_reducible refine Kd.C_drew ?_)))
          (case side4 => exact (Kd.R_reads' HO380.out).2.1)
          (case side5 => repeat (first | exact (Kd.R_reads' HO383.out).2.2 | (with_reducible refine Kd.C_alloc ?_ _) | (with_reducible refine Kd.C_drewN ?_ _) | (with_reducible refine Kd.C_drew ?_)))
          (case side6 => exact (Kd.R_reads' HO383.out).2.1)
          rintro e w126 ⟨v389, v394, v397, rfl, ho0, ho1, ho2, hb⟩
          refine ⟨_, rfl, ?_⟩
          have n0_ := Aside0.mk (Kd.R_elder' (rb_ HO_322000.out) (Kd.R_base ho0) hb)
          have n1_ := Aside0.mk (Kd.R_elder' (rb_ HO_322003.out) (Kd.R_base ho1) hb)
          have n2_ := Aside0.mk (Kd.R_elder' (rb_ HO_322004.out) (Kd.R_base ho2) hb)
          have n3_ := Aside0.mk (Kd.R_elder' (rb_ HO_334000.out) (Kd.R_base ho0) hb)
          have n4_ := Aside0.mk (Kd.R_elder' (rb_ HO_334003.out) (Kd.R_base ho1) hb)
          have n5_ := Aside0.mk (Kd.R_elder' (rb_ HO_334004.out) (Kd.R_base ho2) hb)
          have n6_ := Aside0.mk (Kd.R_elder' (rb_ HO_350000.out) (Kd.R_base ho0) hb)
          have n7_ := Aside0.mk (Kd.R_elder' (rb_ HO_350003.out) (Kd.R_base ho1) hb)
          have n8_ := Aside0.mk (Kd.R_elder' (rb_ HO_350004.out) (Kd.R_base ho2) hb)
          have n9_ := Aside0.mk (Kd.R_elder' (rb_ HO375.out) (Kd.R_base ho0) hb)
          have n10_ := Aside0.mk (Kd.R_elder' (rb_ HO380.out) (Kd.R_base ho1) hb)
          have n11_ := Aside0.mk (Kd.R_elder' (rb_ HO383.out) (Kd.R_base ho2) hb)
          have n12_ := Aside0.mk (Kd.R_lower (Kd.R_new' (Kd.R_new' (Kd.R_new' (Kd.R_new' ho0 (Kd.R_lt (rb_ HO_322000.out))) (Kd.R_lt (rb_ HO_334000.out))) (Kd.R_lt (rb_ HO_350000.out))) (Kd.R_lt (rb_ HO375.out))) (below_size z1_))
          have n13_ := Aside0.mk (Kd.R_lower (Kd.R_new' (Kd.R_new' (Kd.R_new' (Kd.R_new' ho1 (Kd.R_lt (rb_ HO_322003.out))) (Kd.R_lt (rb_ HO_334003.out))) (Kd.R_lt (rb_ HO_350003.out))) (Kd.R_lt (rb_ HO380.out))) (below_size z1_))
          have n14_ := Aside0.mk (Kd.R_lower (Kd.R_new' (Kd.R_new' (Kd.R_new' (Kd.R_new' ho2 (Kd.R_lt (rb_ HO_322004.out))) (Kd.R_lt (rb_ HO_334004.out))) (Kd.R_lt (rb_ HO_350004.out))) (Kd.R_lt (rb_ HO383.out))) (below_size z1_))
          have n15_ := Aside0.mk (blk_below (g := gb292) (o := .cells #[.slice A0_0 l0_0.length c0_0, .int .i64 a0_1, .bool a0_2, .slice A0_3 l0_3.length c0_3, .slice A0_4 l0_4.length c0_4] 59 (0, 0)) (bk_ BK292.out) hb)
          have n16_ := Aside0.mk (blk_below (g := gb293) (o := .cells #[.int .i64 a1_0, .int .i64 a1_1, .int .i64 a1_2, .int .i64 a1_3] 65 (0, 0)) (bk_ BK293.out) hb)
          have n17_ := Aside0.mk (blk_below (g := gb321) (o := .cells #[.slice Ao37 t310.length co37, .int .i64 t313, .bool t314, .slice Ao41 t315.length co41, .slice Ao43 t318.length co43] 36 (0, 0)) (bk_ BK321.out) hb)
          have n18_ := Aside0.mk (blk_below (g := gb333) (o := .cells #[.slice Ao49 t364.length co49, .int .i64 t325, .bool t326, .slice Ao54 t365.length co54, .slice Ao55 t366.length co55] 36 (0, 0)) (bk_ BK333.out) hb)
          have n19_ := Aside0.mk (blk_below (g := gb349) (o := .cells #[.slice Ao62 t338.length co62, .int .i64 t341, .bool t342, .slice Ao66 t343.length co66, .slice Ao68 t346.length co68] 36 (0, 0)) (bk_ BK349.out) hb)
          have n20_ := Aside0.mk (blk_below (g := gb399) (o := .cells #[.slice none 0 0, .int .i64 0, .bool false, .slice none 0 0, .slice none 0 0] 36 (0, 0)) (bk_ BK399.out) hb)
          have n21_ := Aside0.mk (below_step z1_ hb)
          clear HO_322000 HO_322003 HO_322004 HO_334000 HO_334003 HO_334004 HO_350000 HO_350003 HO_350004 HO375 HO380 HO383 BK292 BK293 BK321 BK333 BK349 BK399 HB
          have HO_322000 := n0_
          have HO_322003 := n1_
          have HO_322004 := n2_
          have HO_334000 := n3_
          have HO_334003 := n4_
          have HO_334004 := n5_
          have HO_350000 := n6_
          have HO_350003 := n7_
          have HO_350004 := n8_
          have HO375 := n9_
          have HO380 := n10_
          have HO383 := n11_
          have HO390 := n12_
          have HO395 := n13_
          have HO398 := n14_
          have BK292 := n15_
          have BK293 := n16_
          have BK321 := n17_
          have BK333 := n18_
          have BK349 := n19_
          have BK399 := n20_
          have HB := n21_
          clear n0_ n1_ n2_ n3_ n4_ n5_ n6_ n7_ n8_ n9_ n10_ n11_ n12_ n13_ n14_ n15_ n16_ n17_ n18_ n19_ n20_ n21_
          (try clear hb)
          (try clear hb2)
          (try clear hk)
          (try clear hi)
          (try clear ho0)
          (try clear ho1)
          (try clear ho2)
          refine hK.out _ _ ⟨(blk_cell BK292.out 0).trans rfl, (blk_cell BK292.out 1).trans rfl, (blk_cell BK292.out 2).trans rfl, (blk_cell BK292.out 3).trans rfl, (blk_cell BK292.out 4).trans rfl, (blk_cell BK293.out 0).trans rfl, (blk_cell BK293.out 1).trans rfl, (blk_cell BK293.out 2).trans rfl, (blk_cell BK293.out 3).trans rfl⟩ (fun hHeld => ?_)
          clear hK K
          refine norm_ (a' := ?_) ?_ ?_
          rotate_left
          ·
           show Act.put _ (some 64) _ = _
           simp only [Act.put, List.setIfInBounds_toArray, List.set_cons_zero, List.set_cons_succ, i64_w, i32_w]
           rfl
          exact norm_ (by simp only [putAll, Act.put, List.setIfInBounds_toArray, List.set_cons_zero, List.set_cons_succ]) (hCont (.slice Ao123 t373.length co123, .slice Ao124 t378.length co124, .slice Ao125 t381.length co125, v389, v394, v397, gb399) _ ⟨hHeld, z45_, z46_, z47_, z48_, z49_, z50_, z36_, z37_, z38_, z39_, z40_, z41_, z42_, z43_, z44_, bk_ BK292.out, bk_ BK293.out, bk_ BK321.out, bk_ BK333.out, bk_ BK349.out, bk_ BK399.out, GW399.out, GE399.out, NB292_399.out, NB399_292.out, NB293_399.out, NB399_293.out, NB321_399.out, NB399_321.out, NB333_399.out, NB399_333.out, NB349_399.out, NB399_349.out, z1_⟩)
        ·
         skip
         refine box_step ?hg (N := 12) ?hd (cs := #[.slice none 0 0, .int .i64 0, .bool false, .slice none 0 0, .slice none 0 0]) (t := 36) ?hr ?_; (case hd => rfl); (case hg => rfl); (case hr => first | (go_simp; done) | (go_simp; rfl))
         intro gb399 hg w121 hbox hb
         have n0_ := Aside0.mk (Kd.R_below (rb_ HO_322000.out) hb)
         have n1_ := Aside0.mk (Kd.R_below (rb_ HO_322003.out) hb)
         have n2_ := Aside0.mk (Kd.R_below (rb_ HO_322004.out) hb)
         have n3_ := Aside0.mk (Kd.R_below (rb_ HO_334000.out) hb)
         have n4_ := Aside0.mk (Kd.R_below (rb_ HO_334003.out) hb)
         have n5_ := Aside0.mk (Kd.R_below (rb_ HO_334004.out) hb)
         have n6_ := Aside0.mk (Kd.R_below (rb_ HO_350000.out) hb)
         have n7_ := Aside0.mk (Kd.R_below (rb_ HO_350003.out) hb)
         have n8_ := Aside0.mk (Kd.R_below (rb_ HO_350004.out) hb)
         have n9_ := Aside0.mk (Kd.R_below (rb_ HO375.out) hb)
         have n10_ := Aside0.mk (Kd.R_below (rb_ HO380.out) hb)
         have n11_ := Aside0.mk (Kd.R_below (rb_ HO383.out) hb)
         have n12_ := Aside0.mk (blk_below (g := gb292) (o := .cells #[.slice A0_0 l0_0.length c0_0, .int .i64 a0_1, .bool a0_2, .slice A0_3 l0_3.length c0_3, .slice A0_4 l0_4.length c0_4] 59 (0, 0)) (bk_ BK292.out) hb)
         have n13_ := Aside0.mk (blk_below (g := gb293) (o := .cells #[.int .i64 a1_0, .int .i64 a1_1, .int .i64 a1_2, .int .i64 a1_3] 65 (0, 0)) (bk_ BK293.out) hb)
         have n14_ := Aside0.mk (blk_below (g := gb321) (o := .cells #[.slice Ao37 t310.length co37, .int .i64 t313, .bool t314, .slice Ao41 t315.length co41, .slice Ao43 t318.length co43] 36 (0, 0)) (bk_ BK321.out) hb)
         have n15_ := Aside0.mk (blk_below (g := gb333) (o := .cells #[.slice Ao49 t364.length co49, .int .i64 t325, .bool t326, .slice Ao54 t365.length co54, .slice Ao55 t366.length co55] 36 (0, 0)) (bk_ BK333.out) hb)
         have n16_ := Aside0.mk (blk_below (g := gb349) (o := .cells #[.slice Ao62 t338.length co62, .int .i64 t341, .bool t342, .slice Ao66 t343.length co66, .slice Ao68 t346.length co68] 36 (0, 0)) (bk_ BK349.out) hb)
         have n17_ := Aside0.mk (below_step z0_ hb)
         have n18_ := Aside0.mk (hbox)
         have n19_ := Aside0.mk ((by rw [hg]; exact (below_size z0_) : w.heap.size ≤ gb399))
         have n20_ := Aside0.mk ((by rw [hg]; exact (below_size z0_) : w.heap.size ≤ gb399))
         have n21_ := Aside0.mk ((z6_ : gb292 ≠ gb399))
         have n22_ := Aside0.mk ((z7_ : gb399 ≠ gb292))
         have n23_ := Aside0.mk ((z8_ : gb293 ≠ gb399))
         have n24_ := Aside0.mk ((z9_ : gb399 ≠ gb293))
         have n25_ := Aside0.mk ((z10_ : gb321 ≠ gb399))
         have n26_ := Aside0.mk ((z11_ : gb399 ≠ gb321))
         have n27_ := Aside0.mk ((z14_ : gb333 ≠ gb399))
         have n28_ := Aside0.mk ((z15_ : gb399 ≠ gb333))
         have n29_ := Aside0.mk ((z16_ : gb349 ≠ gb399))
         have n30_ := Aside0.mk ((z17_ : gb399 ≠ gb349))
         clear HO_322000 HO_322003 HO_322004 HO_334000 HO_334003 HO_334004 HO_350000 HO_350003 HO_350004 HO375 HO380 HO383 BK292 BK293 BK321 BK333 BK349 HB
         have HO_322000 := n0_
         have HO_322003 := n1_
         have HO_322004 := n2_
         have HO_334000 := n3_
         have HO_334003 := n4_
         have HO_334004 := n5_
         have HO_350000 := n6_
         have HO_350003 := n7_
         have HO_350004 := n8_
         have HO375 := n9_
         have HO380 := n10_
         have HO383 := n11_
         have BK292 := n12_
         have BK293 := n13_
         have BK321 := n14_
         have BK333 := n15_
         have BK349 := n16_
         have HB := n17_
         have BK399 := n18_
         have GW399 := n19_
         have GE399 := n20_
         have NB292_399 := n21_
         have NB399_292 := n22_
         have NB293_399 := n23_
         have NB399_293 := n24_
         have NB321_399 := n25_
         have NB399_321 := n26_
         have NB333_399 := n27_
         have NB399_333 := n28_
         have NB349_399 := n29_
         have NB399_349 := n30_
         clear n0_ n1_ n2_ n3_ n4_ n5_ n6_ n7_ n8_ n9_ n10_ n11_ n12_ n13_ n14_ n15_ n16_ n17_ n18_ n19_ n20_ n21_ n22_ n23_ n24_ n25_ n26_ n27_ n28_ n29_ n30_ hb hbox hg
         refine hK.out _ _ ⟨(blk_cell BK292.out 0).trans rfl, (blk_cell BK292.out 1).trans rfl, (blk_cell BK292.out 2).trans rfl, (blk_cell BK292.out 3).trans rfl, (blk_cell BK292.out 4).trans rfl, (blk_cell BK293.out 0).trans rfl, (blk_cell BK293.out 1).trans rfl, (blk_cell BK293.out 2).trans rfl, (blk_cell BK293.out 3).trans rfl⟩ (fun hHeld => ?_)
         clear hK K
         refine norm_ (a' := ?_) ?_ ?_
         rotate_left
         ·
          show Act.put _ (some 12) _ = _
          simp only [Act.put, List.setIfInBounds_toArray, List.set_cons_zero, List.set_cons_succ, i64_w, i32_w]
          rfl
         refine one_ (i := 3) (N := some 63) #[true, true, true, true, false, true, false] rfl rfl (by kernel_rfl) (by decide) (fun K hK => ?_)
         refine goes_ Try.func42 (by kernel_rfl) rfl #[.agg #[.int .i64 a1_0, .int .i64 a1_1, .int .i64 a1_2, .int .i64 a1_3]] (by rfl) rfl rfl z4_ ?_
         with_reducible refine (laws_toHelp.calls a1_0 a1_1 a1_2 a1_3 t384 t385 t386 t387 _ A104.out).mono ?_
         rintro e w122 ⟨rfl, hb⟩
         refine ⟨_, rfl, ?_⟩
         have n0_ := Aside0.mk (Kd.R_below (rb_ HO_322000.out) hb)
         have n1_ := Aside0.mk (Kd.R_below (rb_ HO_322003.out) hb)
         have n2_ := Aside0.mk (Kd.R_below (rb_ HO_322004.out) hb)
         have n3_ := Aside0.mk (Kd.R_below (rb_ HO_334000.out) hb)
         have n4_ := Aside0.mk (Kd.R_below (rb_ HO_334003.out) hb)
         have n5_ := Aside0.mk (Kd.R_below (rb_ HO_334004.out) hb)
         have n6_ := Aside0.mk (Kd.R_below (rb_ HO_350000.out) hb)
         have n7_ := Aside0.mk (Kd.R_below (rb_ HO_350003.out) hb)
         have n8_ := Aside0.mk (Kd.R_below (rb_ HO_350004.out) hb)
         have n9_ := Aside0.mk (Kd.R_below (rb_ HO375.out) hb)
         have n10_ := Aside0.mk (Kd.R_below (rb_ HO380.out) hb)
         have n11_ := Aside0.mk (Kd.R_below (rb_ HO383.out) hb)
         have n12_ := Aside0.mk (blk_below (g := gb292) (o := .cells #[.slice A0_0 l0_0.length c0_0, .int .i64 a0_1, .bool a0_2, .slice A0_3 l0_3.length c0_3, .slice A0_4 l0_4.length c0_4] 59 (0, 0)) (bk_ BK292.out) hb)
         have n13_ := Aside0.mk (blk_below (g := gb293) (o := .cells #[.int .i64 a1_0, .int .i64 a1_1, .int .i64 a1_2, .int .i64 a1_3] 65 (0, 0)) (bk_ BK293.out) hb)
         have n14_ := Aside0.mk (blk_below (g := gb321) (o := .cells #[.slice Ao37 t310.length co37, .int .i64 t313, .bool t314, .slice Ao41 t315.length co41, .slice Ao43 t318.length co43] 36 (0, 0)) (bk_ BK321.out) hb)
         have n15_ := Aside0.mk (blk_below (g := gb333) (o := .cells #[.slice Ao49 t364.length co49, .int .i64 t325, .bool t326, .slice Ao54 t365.length co54, .slice Ao55 t366.length co55] 36 (0, 0)) (bk_ BK333.out) hb)
         have n16_ := Aside0.mk (blk_below (g := gb349) (o := .cells #[.slice Ao62 t338.length co62, .int .i64 t341, .bool t342, .slice Ao66 t343.length co66, .slice Ao68 t346.length co68] 36 (0, 0)) (bk_ BK349.out) hb)
         have n17_ := Aside0.mk (blk_below (g := gb399) (o := .cells #[.slice none 0 0, .int .i64 0, .bool false, .slice none 0 0, .slice none 0 0] 36 (0, 0)) (bk_ BK399.out) hb)
         have n18_ := Aside0.mk (below_step z1_ hb)
         clear HO_322000 HO_322003 HO_322004 HO_334000 HO_334003 HO_334004 HO_350000 HO_350003 HO_350004 HO375 HO380 HO383 BK292 BK293 BK321 BK333 BK349 BK399 HB
         have HO_322000 := n0_
         have HO_322003 := n1_
         have HO_322004 := n2_
         have HO_334000 := n3_
         have HO_334003 := n4_
         have HO_334004 := n5_
         have HO_350000 := n6_
         have HO_350003 := n7_
         have HO_350004 := n8_
         have HO375 := n9_
         have HO380 := n10_
         have HO383 := n11_
         have BK292 := n12_
         have BK293 := n13_
         have BK321 := n14_
         have BK333 := n15_
         have BK349 := n16_
         have BK399 := n17_
         have HB := n18_
         clear n0_ n1_ n2_ n3_ n4_ n5_ n6_ n7_ n8_ n9_ n10_ n11_ n12_ n13_ n14_ n15_ n16_ n17_ n18_
         (try clear hb)
         (try clear hb2)
         (try clear hk)
         (try clear hi)
         obtain ⟨Ao123, co123, eo123⟩ := Kd.R_slice HO375.out
         (first | subst eo123 | (injection eo123 with f1_ f2_ f3_; have f4_ := f1_.symm; have f5_ := f3_.symm; clear f1_ f2_ f3_; subst f4_; subst f5_))
         obtain ⟨Ao124, co124, eo124⟩ := Kd.R_slice HO380.out
         (first | subst eo124 | (injection eo124 with f1_ f2_ f3_; have f4_ := f1_.symm; have f5_ := f3_.symm; clear f1_ f2_ f3_; subst f4_; subst f5_))
         obtain ⟨Ao125, co125, eo125⟩ := Kd.R_slice HO383.out
         (first | subst eo125 | (injection eo125 with f1_ f2_ f3_; have f4_ := f1_.symm; have f5_ := f3_.symm; clear f1_ f2_ f3_; subst f4_; subst f5_))
         refine hK.out _ _ ⟨(blk_cell BK292.out 0).trans rfl, (blk_cell BK292.out 1).trans rfl, (blk_cell BK292.out 2).trans rfl, (blk_cell BK292.out 3).trans rfl, (blk_cell BK292.out 4).trans rfl, (blk_cell BK293.out 0).trans rfl, (blk_cell BK293.out 1).trans rfl, (blk_cell BK293.out 2).trans rfl, (blk_cell BK293.out 3).trans rfl⟩ (fun hHeld => ?_)
         clear hK K
         refine norm_ (a' := ?_) ?_ ?_
         rotate_left
         ·
          show Act.put _ (some 63) _ = _
          simp only [Act.put, List.setIfInBounds_toArray, List.set_cons_zero, List.set_cons_succ, i64_w, i32_w]
          rfl
         refine one_ (i := 4) (N := some 64) #[true, true, true, true, true, true, false] rfl rfl (by kernel_rfl) (by decide) (fun K hK => ?_)
         refine goes_ Try.func43 (by kernel_rfl) rfl #[.agg #[.slice Ao123 t373.length co123, .int .i64 t376, .bool t377, .slice Ao124 t378.length co124, .slice Ao125 t381.length co125], .agg #[.int .i64 t384, .int .i64 t385, .int .i64 t386, .int .i64 t387]] (by rfl) rfl rfl z4_ ?_
         with_reducible refine (impl_Push.calls _ _ t373 t376 t377 _ _ t378 _ _ t381 t384 t385 t386 t387 t388 t391 t392 t393 t396 _ ?side1 ?side2 ?side3 ?side4 ?side5 ?side6 A105.out).mono ?_
         (case side1 => repeat (first | exact (Kd.R_reads' HO375.out).2.2 | (with_reducible refine Kd.C_alloc ?_ _) | (with_reducible refine Kd.C_drewN ?_ _) | (with_reducible refine Kd.C_drew ?_)))
         (case side2 => exact (Kd.R_reads' HO375.out).2.1)
         (case side3 => repeat (first | exact (Kd.R_reads' HO380.out).2.2 | (with_reducible refine Kd.C_alloc ?_ _) | (with_reducible refine Kd.C_drewN ?_ _) | (with_reducible refine Kd.C_drew ?_)))
         (case side4 => exact (Kd.R_reads' HO380.out).2.1)
         (case side5 => repeat (first | exact (Kd.R_reads' HO383.out).2.2 | (with_reducible refine Kd.C_alloc ?_ _) | (with_reducible refine Kd.C_drewN ?_ _) | (with_reducible refine Kd.C_drew ?_)))
         (case side6 => exact (Kd.R_reads' HO383.out).2.1)
         rintro e w126 ⟨v389, v394, v397, rfl, ho0, ho1, ho2, hb⟩
         refine ⟨_, rfl, ?_⟩
         have n0_ := Aside0.mk (Kd.R_elder' (rb_ HO_322000.out) (Kd.R_base ho0) hb)
         have n1_ := Aside0.mk (Kd.R_elder' (rb_ HO_322003.out) (Kd.R_base ho1) hb)
         have n2_ := Aside0.mk (Kd.R_elder' (rb_ HO_322004.out) (Kd.R_base ho2) hb)
         have n3_ := Aside0.mk (Kd.R_elder' (rb_ HO_334000.out) (Kd.R_base ho0) hb)
         have n4_ := Aside0.mk (Kd.R_elder' (rb_ HO_334003.out) (Kd.R_base ho1) hb)
         have n5_ := Aside0.mk (Kd.R_elder' (rb_ HO_334004.out) (Kd.R_base ho2) hb)
         have n6_ := Aside0.mk (Kd.R_elder' (rb_ HO_350000.out) (Kd.R_base ho0) hb)
         have n7_ := Aside0.mk (Kd.R_elder' (rb_ HO_350003.out) (Kd.R_base ho1) hb)
         have n8_ := Aside0.mk (Kd.R_elder' (rb_ HO_350004.out) (Kd.R_base ho2) hb)
         have n9_ := Aside0.mk (Kd.R_elder' (rb_ HO375.out) (Kd.R_base ho0) hb)
         have n10_ := Aside0.mk (Kd.R_elder' (rb_ HO380.out) (Kd.R_base ho1) hb)
         have n11_ := Aside0.mk (Kd.R_elder' (rb_ HO383.out) (Kd.R_base ho2) hb)
         have n12_ := Aside0.mk (Kd.R_lower (Kd.R_new' (Kd.R_new' (Kd.R_new' (Kd.R_new' ho0 (Kd.R_lt (rb_ HO_322000.out))) (Kd.R_lt (rb_ HO_334000.out))) (Kd.R_lt (rb_ HO_350000.out))) (Kd.R_lt (rb_ HO375.out))) (below_size z1_))
         have n13_ := Aside0.mk (Kd.R_lower (Kd.R_new' (Kd.R_new' (Kd.R_new' (Kd.R_new' ho1 (Kd.R_lt (rb_ HO_322003.out))) (Kd.R_lt (rb_ HO_334003.out))) (Kd.R_lt (rb_ HO_350003.out))) (Kd.R_lt (rb_ HO380.out))) (below_size z1_))
         have n14_ := Aside0.mk (Kd.R_lower (Kd.R_new' (Kd.R_new' (Kd.R_new' (Kd.R_new' ho2 (Kd.R_lt (rb_ HO_322004.out))) (Kd.R_lt (rb_ HO_334004.out))) (Kd.R_lt (rb_ HO_350004.out))) (Kd.R_lt (rb_ HO383.out))) (below_size z1_))
         have n15_ := Aside0.mk (blk_below (g := gb292) (o := .cells #[.slice A0_0 l0_0.length c0_0, .int .i64 a0_1, .bool a0_2, .slice A0_3 l0_3.length c0_3, .slice A0_4 l0_4.length c0_4] 59 (0, 0)) (bk_ BK292.out) hb)
         have n16_ := Aside0.mk (blk_below (g := gb293) (o := .cells #[.int .i64 a1_0, .int .i64 a1_1, .int .i64 a1_2, .int .i64 a1_3] 65 (0, 0)) (bk_ BK293.out) hb)
         have n17_ := Aside0.mk (blk_below (g := gb321) (o := .cells #[.slice Ao37 t310.length co37, .int .i64 t313, .bool t314, .slice Ao41 t315.length co41, .slice Ao43 t318.length co43] 36 (0, 0)) (bk_ BK321.out) hb)
         have n18_ := Aside0.mk (blk_below (g := gb333) (o := .cells #[.slice Ao49 t364.length co49, .int .i64 t325, .bool t326, .slice Ao54 t365.length co54, .slice Ao55 t366.length co55] 36 (0, 0)) (bk_ BK333.out) hb)
         have n19_ := Aside0.mk (blk_below (g := gb349) (o := .cells #[.slice Ao62 t338.length co62, .int .i64 t341, .bool t342, .slice Ao66 t343.length co66, .slice Ao68 t346.length co68] 36 (0, 0)) (bk_ BK349.out) hb)
         have n20_ := Aside0.mk (blk_below (g := gb399) (o := .cells #[.slice none 0 0, .int .i64 0, .bool false, .slice none 0 0, .slice none 0 0] 36 (0, 0)) (bk_ BK399.out) hb)
         have n21_ := Aside0.mk (below_step z1_ hb)
         clear HO_322000 HO_322003 HO_322004 HO_334000 HO_334003 HO_334004 HO_350000 HO_350003 HO_350004 HO375 HO380 HO383 BK292 BK293 BK321 BK333 BK349 BK399 HB
         have HO_322000 := n0_
         have HO_322003 := n1_
         have HO_322004 := n2_
         have HO_334000 := n3_
         have HO_334003 := n4_
         have HO_334004 := n5_
         have HO_350000 := n6_
         have HO_350003 := n7_
         have HO_350004 := n8_
         have HO375 := n9_
         have HO380 := n10_
         have HO383 := n11_
         have HO390 := n12_
         have HO395 := n13_
         have HO398 := n14_
         have BK292 := n15_
         have BK293 := n16_
         have BK321 := n17_
         have BK333 := n18_
         have BK349 := n19_
         have BK399 := n20_
         have HB := n21_
         clear n0_ n1_ n2_ n3_ n4_ n5_ n6_ n7_ n8_ n9_ n10_ n11_ n12_ n13_ n14_ n15_ n16_ n17_ n18_ n19_ n20_ n21_
         (try clear hb)
         (try clear hb2)
         (try clear hk)
         (try clear hi)
         (try clear ho0)
         (try clear ho1)
         (try clear ho2)
         refine hK.out _ _ ⟨(blk_cell BK292.out 0).trans rfl, (blk_cell BK292.out 1).trans rfl, (blk_cell BK292.out 2).trans rfl, (blk_cell BK292.out 3).trans rfl, (blk_cell BK292.out 4).trans rfl, (blk_cell BK293.out 0).trans rfl, (blk_cell BK293.out 1).trans rfl, (blk_cell BK293.out 2).trans rfl, (blk_cell BK293.out 3).trans rfl⟩ (fun hHeld => ?_)
         clear hK K
         refine norm_ (a' := ?_) ?_ ?_
         rotate_left
         ·
          show Act.put _ (some 64) _ = _
          simp only [Act.put, List.setIfInBounds_toArray, List.set_cons_zero, List.set_cons_succ, i64_w, i32_w]
          rfl
         exact norm_ (by simp only [putAll, Act.put, List.setIfInBounds_toArray, List.set_cons_zero, List.set_cons_succ]) (hCont (.slice Ao123 t373.length co123, .slice Ao124 t378.length co124, .slice Ao125 t381.length co125, v389, v394, v397, gb399) _ ⟨hHeld, z45_, z46_, z47_, z48_, z49_, z50_, z36_, z37_, z38_, z39_, z40_, z41_, z42_, z43_, z44_, bk_ BK292.out, bk_ BK293.out, bk_ BK321.out, bk_ BK333.out, bk_ BK349.out, bk_ BK399.out, GW399.out, GE399.out, NB292_399.out, NB399_292.out, NB293_399.out, NB399_293.out, NB321_399.out, NB399_321.out, NB333_399.out, NB399_333.out, NB349_399.out, NB399_349.out, z1_⟩)
       ·
        skip
        refine box_step ?hg (N := 12) ?hd (cs := #[.slice none 0 0, .int .i64 0, .bool false, .slice none 0 0, .slice none 0 0]) (t := 36) ?hr ?_; (case hd => rfl); (case hg => rfl); (case hr => first | (go_simp; done) | (go_simp; rfl))
        intro gb399 hg w120 hbox hb
        have n0_ := Aside0.mk (Kd.R_below (rb_ HO_322000.out) hb)
        have n1_ := Aside0.mk (Kd.R_below (rb_ HO_322003.out) hb)
        have n2_ := Aside0.mk (Kd.R_below (rb_ HO_322004.out) hb)
        have n3_ := Aside0.mk (Kd.R_below (rb_ HO_334000.out) hb)
        have n4_ := Aside0.mk (Kd.R_below (rb_ HO_334003.out) hb)
        have n5_ := Aside0.mk (Kd.R_below (rb_ HO_334004.out) hb)
        have n6_ := Aside0.mk (Kd.R_below (rb_ HO_350000.out) hb)
        have n7_ := Aside0.mk (Kd.R_below (rb_ HO_350003.out) hb)
        have n8_ := Aside0.mk (Kd.R_below (rb_ HO_350004.out) hb)
        have n9_ := Aside0.mk (blk_below (g := gb292) (o := .cells #[.slice A0_0 l0_0.length c0_0, .int .i64 a0_1, .bool a0_2, .slice A0_3 l0_3.length c0_3, .slice A0_4 l0_4.length c0_4] 59 (0, 0)) (bk_ BK292.out) hb)
        have n10_ := Aside0.mk (blk_below (g := gb293) (o := .cells #[.int .i64 a1_0, .int .i64 a1_1, .int .i64 a1_2, .int .i64 a1_3] 65 (0, 0)) (bk_ BK293.out) hb)
        have n11_ := Aside0.mk (blk_below (g := gb321) (o := .cells #[.slice Ao37 t310.length co37, .int .i64 t313, .bool t314, .slice Ao41 t315.length co41, .slice Ao43 t318.length co43] 36 (0, 0)) (bk_ BK321.out) hb)
        have n12_ := Aside0.mk (blk_below (g := gb333) (o := .cells #[.slice Ao49 t364.length co49, .int .i64 t325, .bool t326, .slice Ao54 t365.length co54, .slice Ao55 t366.length co55] 36 (0, 0)) (bk_ BK333.out) hb)
        have n13_ := Aside0.mk (blk_below (g := gb349) (o := .cells #[.slice Ao62 t338.length co62, .int .i64 t341, .bool t342, .slice Ao66 t343.length co66, .slice Ao68 t346.length co68] 36 (0, 0)) (bk_ BK349.out) hb)
        have n14_ := Aside0.mk (below_step z0_ hb)
        have n15_ := Aside0.mk (hbox)
        have n16_ := Aside0.mk ((by rw [hg]; exact (below_size z0_) : w.heap.size ≤ gb399))
        have n17_ := Aside0.mk ((by rw [hg]; exact (below_size z0_) : w.heap.size ≤ gb399))
        have n18_ := Aside0.mk ((z6_ : gb292 ≠ gb399))
        have n19_ := Aside0.mk ((z7_ : gb399 ≠ gb292))
        have n20_ := Aside0.mk ((z8_ : gb293 ≠ gb399))
        have n21_ := Aside0.mk ((z9_ : gb399 ≠ gb293))
        have n22_ := Aside0.mk ((z10_ : gb321 ≠ gb399))
        have n23_ := Aside0.mk ((z11_ : gb399 ≠ gb321))
        have n24_ := Aside0.mk ((z14_ : gb333 ≠ gb399))
        have n25_ := Aside0.mk ((z15_ : gb399 ≠ gb333))
        have n26_ := Aside0.mk ((z16_ : gb349 ≠ gb399))
        have n27_ := Aside0.mk ((z17_ : gb399 ≠ gb349))
        clear HO_322000 HO_322003 HO_322004 HO_334000 HO_334003 HO_334004 HO_350000 HO_350003 HO_350004 BK292 BK293 BK321 BK333 BK349 HB
        have HO_322000 := n0_
        have HO_322003 := n1_
        have HO_322004 := n2_
        have HO_334000 := n3_
        have HO_334003 := n4_
        have HO_334004 := n5_
        have HO_350000 := n6_
        have HO_350003 := n7_
        have HO_350004 := n8_
        have BK292 := n9_
        have BK293 := n10_
        have BK321 := n11_
        have BK333 := n12_
        have BK349 := n13_
        have HB := n14_
        have BK399 := n15_
        have GW399 := n16_
        have GE399 := n17_
        have NB292_399 := n18_
        have NB399_292 := n19_
        have NB293_399 := n20_
        have NB399_293 := n21_
        have NB321_399 := n22_
        have NB399_321 := n23_
        have NB333_399 := n24_
        have NB399_333 := n25_
        have NB349_399 := n26_
        have NB399_349 := n27_
        clear n0_ n1_ n2_ n3_ n4_ n5_ n6_ n7_ n8_ n9_ n10_ n11_ n12_ n13_ n14_ n15_ n16_ n17_ n18_ n19_ n20_ n21_ n22_ n23_ n24_ n25_ n26_ n27_ hb hbox hg
        refine hK.out _ _ ⟨(blk_cell BK292.out 0).trans rfl, (blk_cell BK292.out 1).trans rfl, (blk_cell BK292.out 2).trans rfl, (blk_cell BK292.out 3).trans rfl, (blk_cell BK292.out 4).trans rfl, (blk_cell BK293.out 0).trans rfl, (blk_cell BK293.out 1).trans rfl, (blk_cell BK293.out 2).trans rfl, (blk_cell BK293.out 3).trans rfl⟩ (fun hHeld => ?_)
        clear hK K
        refine norm_ (a' := ?_) ?_ ?_
        rotate_left
        ·
         show Act.put _ (some 12) _ = _
         simp only [Act.put, List.setIfInBounds_toArray, List.set_cons_zero, List.set_cons_succ, i64_w, i32_w]
         rfl
        refine one_ (i := 1) (N := some 61) #[true, true, true, false, false, true, false] rfl rfl (by kernel_rfl) (by decide) (fun K hK => ?_)
        refine goes_ Try.func39 (by kernel_rfl) rfl #[.agg #[.slice A0_0 l0_0.length c0_0, .int .i64 a0_1, .bool a0_2, .slice A0_3 l0_3.length c0_3, .slice A0_4 l0_4.length c0_4]] (by rfl) rfl rfl z4_ ?_
        with_reducible refine (laws_toThread.calls kj21 _ _ l0_0 a0_1 a0_2 _ _ l0_3 _ _ l0_4 t373 t376 t377 t378 t381 _ ?side1 ?side2 ?side3 ?side4 ?side5 ?side6 A103.out).mono ?_
        (case side1 => exact cb_ (Kd.C_below HR0_0.out HB.out))
        (case side2 => exact HC0_0.out)
        (case side3 => exact cb_ (Kd.C_below HR0_3.out HB.out))
        (case side4 => exact HC0_3.out)
        (case side5 => exact cb_ (Kd.C_below HR0_4.out HB.out))
        (case side6 => exact HC0_4.out)
        rintro e w121 ⟨v374, v379, v382, rfl, ho0, ho1, ho2, hb⟩
        refine ⟨_, rfl, ?_⟩
        have n0_ := Aside0.mk (Kd.R_elder' (rb_ HO_322000.out) (Kd.R_base ho0) hb)
        have n1_ := Aside0.mk (Kd.R_elder' (rb_ HO_322003.out) (Kd.R_base ho1) hb)
        have n2_ := Aside0.mk (Kd.R_elder' (rb_ HO_322004.out) (Kd.R_base ho2) hb)
        have n3_ := Aside0.mk (Kd.R_elder' (rb_ HO_334000.out) (Kd.R_base ho0) hb)
        have n4_ := Aside0.mk (Kd.R_elder' (rb_ HO_334003.out) (Kd.R_base ho1) hb)
        have n5_ := Aside0.mk (Kd.R_elder' (rb_ HO_334004.out) (Kd.R_base ho2) hb)
        have n6_ := Aside0.mk (Kd.R_elder' (rb_ HO_350000.out) (Kd.R_base ho0) hb)
        have n7_ := Aside0.mk (Kd.R_elder' (rb_ HO_350003.out) (Kd.R_base ho1) hb)
        have n8_ := Aside0.mk (Kd.R_elder' (rb_ HO_350004.out) (Kd.R_base ho2) hb)
        have n9_ := Aside0.mk (Kd.R_lower (Kd.R_new' (Kd.R_new' (Kd.R_new' ho0 (Kd.R_lt (rb_ HO_322000.out))) (Kd.R_lt (rb_ HO_334000.out))) (Kd.R_lt (rb_ HO_350000.out))) (below_size z1_))
        have n10_ := Aside0.mk (Kd.R_lower (Kd.R_new' (Kd.R_new' (Kd.R_new' ho1 (Kd.R_lt (rb_ HO_322003.out))) (Kd.R_lt (rb_ HO_334003.out))) (Kd.R_lt (rb_ HO_350003.out))) (below_size z1_))
        have n11_ := Aside0.mk (Kd.R_lower (Kd.R_new' (Kd.R_new' (Kd.R_new' ho2 (Kd.R_lt (rb_ HO_322004.out))) (Kd.R_lt (rb_ HO_334004.out))) (Kd.R_lt (rb_ HO_350004.out))) (below_size z1_))
        have n12_ := Aside0.mk (blk_below (g := gb292) (o := .cells #[.slice A0_0 l0_0.length c0_0, .int .i64 a0_1, .bool a0_2, .slice A0_3 l0_3.length c0_3, .slice A0_4 l0_4.length c0_4] 59 (0, 0)) (bk_ BK292.out) hb)
        have n13_ := Aside0.mk (blk_below (g := gb293) (o := .cells #[.int .i64 a1_0, .int .i64 a1_1, .int .i64 a1_2, .int .i64 a1_3] 65 (0, 0)) (bk_ BK293.out) hb)
        have n14_ := Aside0.mk (blk_below (g := gb321) (o := .cells #[.slice Ao37 t310.length co37, .int .i64 t313, .bool t314, .slice Ao41 t315.length co41, .slice Ao43 t318.length co43] 36 (0, 0)) (bk_ BK321.out) hb)
        have n15_ := Aside0.mk (blk_below (g := gb333) (o := .cells #[.slice Ao49 t364.length co49, .int .i64 t325, .bool t326, .slice Ao54 t365.length co54, .slice Ao55 t366.length co55] 36 (0, 0)) (bk_ BK333.out) hb)
        have n16_ := Aside0.mk (blk_below (g := gb349) (o := .cells #[.slice Ao62 t338.length co62, .int .i64 t341, .bool t342, .slice Ao66 t343.length co66, .slice Ao68 t346.length co68] 36 (0, 0)) (bk_ BK349.out) hb)
        have n17_ := Aside0.mk (blk_below (g := gb399) (o := .cells #[.slice none 0 0, .int .i64 0, .bool false, .slice none 0 0, .slice none 0 0] 36 (0, 0)) (bk_ BK399.out) hb)
        have n18_ := Aside0.mk (below_step z1_ hb)
        clear HO_322000 HO_322003 HO_322004 HO_334000 HO_334003 HO_334004 HO_350000 HO_350003 HO_350004 BK292 BK293 BK321 BK333 BK349 BK399 HB
        have HO_322000 := n0_
        have HO_322003 := n1_
        have HO_322004 := n2_
        have HO_334000 := n3_
        have HO_334003 := n4_
        have HO_334004 := n5_
        have HO_350000 := n6_
        have HO_350003 := n7_
        have HO_350004 := n8_
        have HO375 := n9_
        have HO380 := n10_
        have HO383 := n11_
        have BK292 := n12_
        have BK293 := n13_
        have BK321 := n14_
        have BK333 := n15_
        have BK349 := n16_
        have BK399 := n17_
        have HB := n18_
        clear n0_ n1_ n2_ n3_ n4_ n5_ n6_ n7_ n8_ n9_ n10_ n11_ n12_ n13_ n14_ n15_ n16_ n17_ n18_
        (try clear hb)
        (try clear hb2)
        (try clear hk)
        (try clear hi)
        (try clear ho0)
        (try clear ho1)
        (try clear ho2)
        refine hK.out _ _ ⟨(blk_cell BK292.out 0).trans rfl, (blk_cell BK292.out 1).trans rfl, (blk_cell BK292.out 2).trans rfl, (blk_cell BK292.out 3).trans rfl, (blk_cell BK292.out 4).trans rfl, (blk_cell BK293.out 0).trans rfl, (blk_cell BK293.out 1).trans rfl, (blk_cell BK293.out 2).trans rfl, (blk_cell BK293.out 3).trans rfl⟩ (fun hHeld => ?_)
        clear hK K
        refine norm_ (a' := ?_) ?_ ?_
        rotate_left
        ·
         show Act.put _ (some 61) _ = _
         simp only [Act.put, List.setIfInBounds_toArray, List.set_cons_zero, List.set_cons_succ, i64_w, i32_w]
         rfl
        refine one_ (i := 3) (N := some 63) #[true, true, true, true, false, true, false] rfl rfl (by kernel_rfl) (by decide) (fun K hK => ?_)
        refine goes_ Try.func42 (by kernel_rfl) rfl #[.agg #[.int .i64 a1_0, .int .i64 a1_1, .int .i64 a1_2, .int .i64 a1_3]] (by rfl) rfl rfl z4_ ?_
        with_reducible refine (laws_toHelp.calls a1_0 a1_1 a1_2 a1_3 t384 t385 t386 t387 _ A104.out).mono ?_
        rintro e w122 ⟨rfl, hb⟩
        refine ⟨_, rfl, ?_⟩
        have n0_ := Aside0.mk (Kd.R_below (rb_ HO_322000.out) hb)
        have n1_ := Aside0.mk (Kd.R_below (rb_ HO_322003.out) hb)
        have n2_ := Aside0.mk (Kd.R_below (rb_ HO_322004.out) hb)
        have n3_ := Aside0.mk (Kd.R_below (rb_ HO_334000.out) hb)
        have n4_ := Aside0.mk (Kd.R_below (rb_ HO_334003.out) hb)
        have n5_ := Aside0.mk (Kd.R_below (rb_ HO_334004.out) hb)
        have n6_ := Aside0.mk (Kd.R_below (rb_ HO_350000.out) hb)
        have n7_ := Aside0.mk (Kd.R_below (rb_ HO_350003.out) hb)
        have n8_ := Aside0.mk (Kd.R_below (rb_ HO_350004.out) hb)
        have n9_ := Aside0.mk (Kd.R_below (rb_ HO375.out) hb)
        have n10_ := Aside0.mk (Kd.R_below (rb_ HO380.out) hb)
        have n11_ := Aside0.mk (Kd.R_below (rb_ HO383.out) hb)
        have n12_ := Aside0.mk (blk_below (g := gb292) (o := .cells #[.slice A0_0 l0_0.length c0_0, .int .i64 a0_1, .bool a0_2, .slice A0_3 l0_3.length c0_3, .slice A0_4 l0_4.length c0_4] 59 (0, 0)) (bk_ BK292.out) hb)
        have n13_ := Aside0.mk (blk_below (g := gb293) (o := .cells #[.int .i64 a1_0, .int .i64 a1_1, .int .i64 a1_2, .int .i64 a1_3] 65 (0, 0)) (bk_ BK293.out) hb)
        have n14_ := Aside0.mk (blk_below (g := gb321) (o := .cells #[.slice Ao37 t310.length co37, .int .i64 t313, .bool t314, .slice Ao41 t315.length co41, .slice Ao43 t318.length co43] 36 (0, 0)) (bk_ BK321.out) hb)
        have n15_ := Aside0.mk (blk_below (g := gb333) (o := .cells #[.slice Ao49 t364.length co49, .int .i64 t325, .bool t326, .slice Ao54 t365.length co54, .slice Ao55 t366.length co55] 36 (0, 0)) (bk_ BK333.out) hb)
        have n16_ := Aside0.mk (blk_below (g := gb349) (o := .cells #[.slice Ao62 t338.length co62, .int .i64 t341, .bool t342, .slice Ao66 t343.length co66, .slice Ao68 t346.length co68] 36 (0, 0)) (bk_ BK349.out) hb)
        have n17_ := Aside0.mk (blk_below (g := gb399) (o := .cells #[.slice none 0 0, .int .i64 0, .bool false, .slice none 0 0, .slice none 0 0] 36 (0, 0)) (bk_ BK399.out) hb)
        have n18_ := Aside0.mk (below_step z1_ hb)
        clear HO_322000 HO_322003 HO_322004 HO_334000 HO_334003 HO_334004 HO_350000 HO_350003 HO_350004 HO375 HO380 HO383 BK292 BK293 BK321 BK333 BK349 BK399 HB
        have HO_322000 := n0_
        have HO_322003 := n1_
        have HO_322004 := n2_
        have HO_334000 := n3_
        have HO_334003 := n4_
        have HO_334004 := n5_
        have HO_350000 := n6_
        have HO_350003 := n7_
        have HO_350004 := n8_
        have HO375 := n9_
        have HO380 := n10_
        have HO383 := n11_
        have BK292 := n12_
        have BK293 := n13_
        have BK321 := n14_
        have BK333 := n15_
        have BK349 := n16_
        have BK399 := n17_
        have HB := n18_
        clear n0_ n1_ n2_ n3_ n4_ n5_ n6_ n7_ n8_ n9_ n10_ n11_ n12_ n13_ n14_ n15_ n16_ n17_ n18_
        (try clear hb)
        (try clear hb2)
        (try clear hk)
        (try clear hi)
        obtain ⟨Ao123, co123, eo123⟩ := Kd.R_slice HO375.out
        (first | subst eo123 | (injection eo123 with f1_ f2_ f3_; have f4_ := f1_.symm; have f5_ := f3_.symm; clear f1_ f2_ f3_; subst f4_; subst f5_))
        obtain ⟨Ao124, co124, eo124⟩ := Kd.R_slice HO380.out
        (first | subst eo124 | (injection eo124 with f1_ f2_ f3_; have f4_ := f1_.symm; have f5_ := f3_.symm; clear f1_ f2_ f3_; subst f4_; subst f5_))
        obtain ⟨Ao125, co125, eo125⟩ := Kd.R_slice HO383.out
        (first | subst eo125 | (injection eo125 with f1_ f2_ f3_; have f4_ := f1_.symm; have f5_ := f3_.symm; clear f1_ f2_ f3_; subst f4_; subst f5_))
        refine hK.out _ _ ⟨(blk_cell BK292.out 0).trans rfl, (blk_cell BK292.out 1).trans rfl, (blk_cell BK292.out 2).trans rfl, (blk_cell BK292.out 3).trans rfl, (blk_cell BK292.out 4).trans rfl, (blk_cell BK293.out 0).trans rfl, (blk_cell BK293.out 1).trans rfl, (blk_cell BK293.out 2).trans rfl, (blk_cell BK293.out 3).trans rfl⟩ (fun hHeld => ?_)
        clear hK K
        refine norm_ (a' := ?_) ?_ ?_
        rotate_left
        ·
         show Act.put _ (some 63) _ = _
         simp only [Act.put, List.setIfInBounds_toArray, List.set_cons_zero, List.set_cons_succ, i64_w, i32_w]
         rfl
        refine one_ (i := 4) (N := some 64) #[true, true, true, true, true, true, false] rfl rfl (by kernel_rfl) (by decide) (fun K hK => ?_)
        refine goes_ Try.func43 (by kernel_rfl) rfl #[.agg #[.slice Ao123 t373.length co123, .int .i64 t376, .bool t377, .slice Ao124 t378.length co124, .slice Ao125 t381.length co125], .agg #[.int .i64 t384, .int .i64 t385, .int .i64 t386, .int .i64 t387]] (by rfl) rfl rfl z4_ ?_
        with_reducible refine (impl_Push.calls _ _ t373 t376 t377 _ _ t378 _ _ t381 t384 t385 t386 t387 t388 t391 t392 t393 t396 _ ?side1 ?side2 ?side3 ?side4 ?side5 ?side6 A105.out).mono ?_
        (case side1 => repeat (first | exact (Kd.R_reads' HO375.out).2.2 | (with_reducible refine Kd.C_alloc ?_ _) | (with_reducible refine Kd.C_drewN ?_ _) | (with_reducible refine Kd.C_drew ?_)))
        (case side2 => exact (Kd.R_reads' HO375.out).2.1)
        (case side3 => repeat (first | exact (Kd.R_reads' HO380.out).2.2 | (with_reducible refine Kd.C_alloc ?_ _) | (with_reducible refine Kd.C_drewN ?_ _) | (with_reducible refine Kd.C_drew ?_)))
        (case side4 => exact (Kd.R_reads' HO380.out).2.1)
        (case side5 => repeat (first | exact (Kd.R_reads' HO383.out).2.2 | (with_reducible refine Kd.C_alloc ?_ _) | (with_reducible refine Kd.C_drewN ?_ _) | (with_reducible refine Kd.C_drew ?_)))
        (case side6 => exact (Kd.R_reads' HO383.out).2.1)
        rintro e w126 ⟨v389, v394, v397, rfl, ho0, ho1, ho2, hb⟩
        refine ⟨_, rfl, ?_⟩
        have n0_ := Aside0.mk (Kd.R_elder' (rb_ HO_322000.out) (Kd.R_base ho0) hb)
        have n1_ := Aside0.mk (Kd.R_elder' (rb_ HO_322003.out) (Kd.R_base ho1) hb)
        have n2_ := Aside0.mk (Kd.R_elder' (rb_ HO_322004.out) (Kd.R_base ho2) hb)
        have n3_ := Aside0.mk (Kd.R_elder' (rb_ HO_334000.out) (Kd.R_base ho0) hb)
        have n4_ := Aside0.mk (Kd.R_elder' (rb_ HO_334003.out) (Kd.R_base ho1) hb)
        have n5_ := Aside0.mk (Kd.R_elder' (rb_ HO_334004.out) (Kd.R_base ho2) hb)
        have n6_ := Aside0.mk (Kd.R_elder' (rb_ HO_350000.out) (Kd.R_base ho0) hb)
        have n7_ := Aside0.mk (Kd.R_elder' (rb_ HO_350003.out) (Kd.R_base ho1) hb)
        have n8_ := Aside0.mk (Kd.R_elder' (rb_ HO_350004.out) (Kd.R_base ho2) hb)
        have n9_ := Aside0.mk (Kd.R_elder' (rb_ HO375.out) (Kd.R_base ho0) hb)
        have n10_ := Aside0.mk (Kd.R_elder' (rb_ HO380.out) (Kd.R_base ho1) hb)
        have n11_ := Aside0.mk (Kd.R_elder' (rb_ HO383.out) (Kd.R_base ho2) hb)
        have n12_ := Aside0.mk (Kd.R_lower (Kd.R_new' (Kd.R_new' (Kd.R_new' (Kd.R_new' ho0 (Kd.R_lt (rb_ HO_322000.out))) (Kd.R_lt (rb_ HO_334000.out))) (Kd.R_lt (rb_ HO_350000.out))) (Kd.R_lt (rb_ HO375.out))) (below_size z1_))
        have n13_ := Aside0.mk (Kd.R_lower (Kd.R_new' (Kd.R_new' (Kd.R_new' (Kd.R_new' ho1 (Kd.R_lt (rb_ HO_322003.out))) (Kd.R_lt (rb_ HO_334003.out))) (Kd.R_lt (rb_ HO_350003.out))) (Kd.R_lt (rb_ HO380.out))) (below_size z1_))
        have n14_ := Aside0.mk (Kd.R_lower (Kd.R_new' (Kd.R_new' (Kd.R_new' (Kd.R_new' ho2 (Kd.R_lt (rb_ HO_322004.out))) (Kd.R_lt (rb_ HO_334004.out))) (Kd.R_lt (rb_ HO_350004.out))) (Kd.R_lt (rb_ HO383.out))) (below_size z1_))
        have n15_ := Aside0.mk (blk_below (g := gb292) (o := .cells #[.slice A0_0 l0_0.length c0_0, .int .i64 a0_1, .bool a0_2, .slice A0_3 l0_3.length c0_3, .slice A0_4 l0_4.length c0_4] 59 (0, 0)) (bk_ BK292.out) hb)
        have n16_ := Aside0.mk (blk_below (g := gb293) (o := .cells #[.int .i64 a1_0, .int .i64 a1_1, .int .i64 a1_2, .int .i64 a1_3] 65 (0, 0)) (bk_ BK293.out) hb)
        have n17_ := Aside0.mk (blk_below (g := gb321) (o := .cells #[.slice Ao37 t310.length co37, .int .i64 t313, .bool t314, .slice Ao41 t315.length co41, .slice Ao43 t318.length co43] 36 (0, 0)) (bk_ BK321.out) hb)
        have n18_ := Aside0.mk (blk_below (g := gb333) (o := .cells #[.slice Ao49 t364.length co49, .int .i64 t325, .bool t326, .slice Ao54 t365.length co54, .slice Ao55 t366.length co55] 36 (0, 0)) (bk_ BK333.out) hb)
        have n19_ := Aside0.mk (blk_below (g := gb349) (o := .cells #[.slice Ao62 t338.length co62, .int .i64 t341, .bool t342, .slice Ao66 t343.length co66, .slice Ao68 t346.length co68] 36 (0, 0)) (bk_ BK349.out) hb)
        have n20_ := Aside0.mk (blk_below (g := gb399) (o := .cells #[.slice none 0 0, .int .i64 0, .bool false, .slice none 0 0, .slice none 0 0] 36 (0, 0)) (bk_ BK399.out) hb)
        have n21_ := Aside0.mk (below_step z1_ hb)
        clear HO_322000 HO_322003 HO_322004 HO_334000 HO_334003 HO_334004 HO_350000 HO_350003 HO_350004 HO375 HO380 HO383 BK292 BK293 BK321 BK333 BK349 BK399 HB
        have HO_322000 := n0_
        have HO_322003 := n1_
        have HO_322004 := n2_
        have HO_334000 := n3_
        have HO_334003 := n4_
        have HO_334004 := n5_
        have HO_350000 := n6_
        have HO_350003 := n7_
        have HO_350004 := n8_
        have HO375 := n9_
        have HO380 := n10_
        have HO383 := n11_
        have HO390 := n12_
        have HO395 := n13_
        have HO398 := n14_
        have BK292 := n15_
        have BK293 := n16_
        have BK321 := n17_
        have BK333 := n18_
        have BK349 := n19_
        have BK399 := n20_
        have HB := n21_
        clear n0_ n1_ n2_ n3_ n4_ n5_ n6_ n7_ n8_ n9_ n10_ n11_ n12_ n13_ n14_ n15_ n16_ n17_ n18_ n19_ n20_ n21_
        (try clear hb)
        (try clear hb2)
        (try clear hk)
        (try clear hi)
        (try clear ho0)
        (try clear ho1)
        (try clear ho2)
        refine hK.out _ _ ⟨(blk_cell BK292.out 0).trans rfl, (blk_cell BK292.out 1).trans rfl, (blk_cell BK292.out 2).trans rfl, (blk_cell BK292.out 3).trans rfl, (blk_cell BK292.out 4).trans rfl, (blk_cell BK293.out 0).trans rfl, (blk_cell BK293.out 1).trans rfl, (blk_cell BK293.out 2).trans rfl, (blk_cell BK293.out 3).trans rfl⟩ (fun hHeld => ?_)
        clear hK K
        refine norm_ (a' := ?_) ?_ ?_
        rotate_left
        ·
         show Act.put _ (some 64) _ = _
         simp only [Act.put, List.setIfInBounds_toArray, List.set_cons_zero, List.set_cons_succ, i64_w, i32_w]
         rfl
        exact norm_ (by simp only [putAll, Act.put, List.setIfInBounds_toArray, List.set_cons_zero, List.set_cons_succ]) (hCont (.slice Ao123 t373.length co123, .slice Ao124 t378.length co124, .slice Ao125 t381.length co125, v389, v394, v397, gb399) _ ⟨hHeld, z45_, z46_, z47_, z48_, z49_, z50_, z36_, z37_, z38_, z39_, z40_, z41_, z42_, z43_, z44_, bk_ BK292.out, bk_ BK293.out, bk_ BK321.out, bk_ BK333.out, bk_ BK349.out, bk_ BK399.out, GW399.out, GE399.out, NB292_399.out, NB399_292.out, NB293_399.out, NB399_293.out, NB321_399.out, NB399_321.out, NB333_399.out, NB399_333.out, NB349_399.out, NB399_349.out, z1_⟩)
      rintro ⟨v374, v379, v382, v389, v394, v397, gb399⟩ w127 ⟨hS_, h0_, h1_, h2_, h3_, h4_, h5_, h6_, h7_, h8_, h9_, h10_, h11_, h12_, h13_, h14_, h15_, h16_, h17_, h18_, h19_, h20_, h21_, h22_, h23_, h24_, h25_, h26_, h27_, h28_, h29_, h30_, h31_, h32_, h33_⟩
      have n0_ : Aside0 (Kd.R k88 88 w127 w.heap.size (fun k_ => some k_ ≠ (v389 : Value).ownBlock ∧ some k_ ≠ (.slice Ao37 t310.length co37 : Value).ownBlock ∧ some k_ ≠ (.slice Ao49 t364.length co49 : Value).ownBlock ∧ some k_ ≠ (.slice Ao62 t338.length co62 : Value).ownBlock) v374 t373) := ⟨h0_⟩
      have n1_ : Aside0 (Kd.R k136 136 w127 w.heap.size (fun k_ => some k_ ≠ (v394 : Value).ownBlock ∧ some k_ ≠ (.slice Ao41 t315.length co41 : Value).ownBlock ∧ some k_ ≠ (.slice Ao54 t365.length co54 : Value).ownBlock ∧ some k_ ≠ (.slice Ao66 t343.length co66 : Value).ownBlock) v379 t378) := ⟨h1_⟩
      have n2_ : Aside0 (Kd.R k67 67 w127 w.heap.size (fun k_ => some k_ ≠ (v397 : Value).ownBlock ∧ some k_ ≠ (.slice Ao43 t318.length co43 : Value).ownBlock ∧ some k_ ≠ (.slice Ao55 t366.length co55 : Value).ownBlock ∧ some k_ ≠ (.slice Ao68 t346.length co68 : Value).ownBlock) v382 t381) := ⟨h2_⟩
      have n3_ : Aside0 (Kd.R k88 88 w127 w.heap.size (fun k_ => some k_ ≠ (v374 : Value).ownBlock ∧ some k_ ≠ (.slice Ao37 t310.length co37 : Value).ownBlock ∧ some k_ ≠ (.slice Ao49 t364.length co49 : Value).ownBlock ∧ some k_ ≠ (.slice Ao62 t338.length co62 : Value).ownBlock) v389 t388) := ⟨h3_⟩
      have n4_ : Aside0 (Kd.R k136 136 w127 w.heap.size (fun k_ => some k_ ≠ (v379 : Value).ownBlock ∧ some k_ ≠ (.slice Ao41 t315.length co41 : Value).ownBlock ∧ some k_ ≠ (.slice Ao54 t365.length co54 : Value).ownBlock ∧ some k_ ≠ (.slice Ao66 t343.length co66 : Value).ownBlock) v394 t393) := ⟨h4_⟩
      have n5_ : Aside0 (Kd.R k67 67 w127 w.heap.size (fun k_ => some k_ ≠ (v382 : Value).ownBlock ∧ some k_ ≠ (.slice Ao43 t318.length co43 : Value).ownBlock ∧ some k_ ≠ (.slice Ao55 t366.length co55 : Value).ownBlock ∧ some k_ ≠ (.slice Ao68 t346.length co68 : Value).ownBlock) v397 t396) := ⟨h5_⟩
      have n6_ : Aside0 (Kd.R k88 88 w127 w.heap.size (fun k_ => some k_ ≠ (v374 : Value).ownBlock ∧ some k_ ≠ (v389 : Value).ownBlock ∧ some k_ ≠ (.slice Ao49 t364.length co49 : Value).ownBlock ∧ some k_ ≠ (.slice Ao62 t338.length co62 : Value).ownBlock) (.slice Ao37 t310.length co37) t310) := ⟨h6_⟩
      have n7_ : Aside0 (Kd.R k136 136 w127 w.heap.size (fun k_ => some k_ ≠ (v379 : Value).ownBlock ∧ some k_ ≠ (v394 : Value).ownBlock ∧ some k_ ≠ (.slice Ao54 t365.length co54 : Value).ownBlock ∧ some k_ ≠ (.slice Ao66 t343.length co66 : Value).ownBlock) (.slice Ao41 t315.length co41) t315) := ⟨h7_⟩
      have n8_ : Aside0 (Kd.R k67 67 w127 w.heap.size (fun k_ => some k_ ≠ (v382 : Value).ownBlock ∧ some k_ ≠ (v397 : Value).ownBlock ∧ some k_ ≠ (.slice Ao55 t366.length co55 : Value).ownBlock ∧ some k_ ≠ (.slice Ao68 t346.length co68 : Value).ownBlock) (.slice Ao43 t318.length co43) t318) := ⟨h8_⟩
      have n9_ : Aside0 (Kd.R k88 88 w127 w.heap.size (fun k_ => some k_ ≠ (v374 : Value).ownBlock ∧ some k_ ≠ (v389 : Value).ownBlock ∧ some k_ ≠ (.slice Ao37 t310.length co37 : Value).ownBlock ∧ some k_ ≠ (.slice Ao62 t338.length co62 : Value).ownBlock) (.slice Ao49 t364.length co49) t364) := ⟨h9_⟩
      have n10_ : Aside0 (Kd.R k136 136 w127 w.heap.size (fun k_ => some k_ ≠ (v379 : Value).ownBlock ∧ some k_ ≠ (v394 : Value).ownBlock ∧ some k_ ≠ (.slice Ao41 t315.length co41 : Value).ownBlock ∧ some k_ ≠ (.slice Ao66 t343.length co66 : Value).ownBlock) (.slice Ao54 t365.length co54) t365) := ⟨h10_⟩
      have n11_ : Aside0 (Kd.R k67 67 w127 w.heap.size (fun k_ => some k_ ≠ (v382 : Value).ownBlock ∧ some k_ ≠ (v397 : Value).ownBlock ∧ some k_ ≠ (.slice Ao43 t318.length co43 : Value).ownBlock ∧ some k_ ≠ (.slice Ao68 t346.length co68 : Value).ownBlock) (.slice Ao55 t366.length co55) t366) := ⟨h11_⟩
      have n12_ : Aside0 (Kd.R k88 88 w127 w.heap.size (fun k_ => some k_ ≠ (v374 : Value).ownBlock ∧ some k_ ≠ (v389 : Value).ownBlock ∧ some k_ ≠ (.slice Ao37 t310.length co37 : Value).ownBlock ∧ some k_ ≠ (.slice Ao49 t364.length co49 : Value).ownBlock) (.slice Ao62 t338.length co62) t369) := ⟨h12_⟩
      have n13_ : Aside0 (Kd.R k136 136 w127 w.heap.size (fun k_ => some k_ ≠ (v379 : Value).ownBlock ∧ some k_ ≠ (v394 : Value).ownBlock ∧ some k_ ≠ (.slice Ao41 t315.length co41 : Value).ownBlock ∧ some k_ ≠ (.slice Ao54 t365.length co54 : Value).ownBlock) (.slice Ao66 t343.length co66) t370) := ⟨h13_⟩
      have n14_ : Aside0 (Kd.R k67 67 w127 w.heap.size (fun k_ => some k_ ≠ (v382 : Value).ownBlock ∧ some k_ ≠ (v397 : Value).ownBlock ∧ some k_ ≠ (.slice Ao43 t318.length co43 : Value).ownBlock ∧ some k_ ≠ (.slice Ao55 t366.length co55 : Value).ownBlock) (.slice Ao68 t346.length co68) t371) := ⟨h14_⟩
      have n15_ : Aside0 (w127.heap[gb292]? = some (.cells #[.slice A0_0 l0_0.length c0_0, .int .i64 a0_1, .bool a0_2, .slice A0_3 l0_3.length c0_3, .slice A0_4 l0_4.length c0_4] 59 (0, 0))) := ⟨h15_⟩
      have n16_ : Aside0 (w127.heap[gb293]? = some (.cells #[.int .i64 a1_0, .int .i64 a1_1, .int .i64 a1_2, .int .i64 a1_3] 65 (0, 0))) := ⟨h16_⟩
      have n17_ : Aside0 (w127.heap[gb321]? = some (.cells #[.slice Ao37 t310.length co37, .int .i64 t313, .bool t314, .slice Ao41 t315.length co41, .slice Ao43 t318.length co43] 36 (0, 0))) := ⟨h17_⟩
      have n18_ : Aside0 (w127.heap[gb333]? = some (.cells #[.slice Ao49 t364.length co49, .int .i64 t325, .bool t326, .slice Ao54 t365.length co54, .slice Ao55 t366.length co55] 36 (0, 0))) := ⟨h18_⟩
      have n19_ : Aside0 (w127.heap[gb349]? = some (.cells #[.slice Ao62 t338.length co62, .int .i64 t341, .bool t342, .slice Ao66 t343.length co66, .slice Ao68 t346.length co68] 36 (0, 0))) := ⟨h19_⟩
      have n20_ : Aside0 (w127.heap[gb399]? = some (.cells #[.slice none 0 0, .int .i64 0, .bool false, .slice none 0 0, .slice none 0 0] 36 (0, 0))) := ⟨h20_⟩
      have n21_ : Aside0 (w.heap.size ≤ gb399) := ⟨h21_⟩
      have n22_ : Aside0 (w.heap.size ≤ gb399) := ⟨h22_⟩
      have n23_ : Aside0 (gb292 ≠ gb399) := ⟨h23_⟩
      have n24_ : Aside0 (gb399 ≠ gb292) := ⟨h24_⟩
      have n25_ : Aside0 (gb293 ≠ gb399) := ⟨h25_⟩
      have n26_ : Aside0 (gb399 ≠ gb293) := ⟨h26_⟩
      have n27_ : Aside0 (gb321 ≠ gb399) := ⟨h27_⟩
      have n28_ : Aside0 (gb399 ≠ gb321) := ⟨h28_⟩
      have n29_ : Aside0 (gb333 ≠ gb399) := ⟨h29_⟩
      have n30_ : Aside0 (gb399 ≠ gb333) := ⟨h30_⟩
      have n31_ : Aside0 (gb349 ≠ gb399) := ⟨h31_⟩
      have n32_ : Aside0 (gb399 ≠ gb349) := ⟨h32_⟩
      have n33_ : Aside0 (Below w.heap.size w w127) := ⟨h33_⟩
      clear HO_322000 HO_322003 HO_322004 HO_334000 HO_334003 HO_334004 HO_350000 HO_350003 HO_350004 BK292 BK293 BK321 BK333 BK349 HB h0_ h1_ h2_ h3_ h4_ h5_ h6_ h7_ h8_ h9_ h10_ h11_ h12_ h13_ h14_ h15_ h16_ h17_ h18_ h19_ h20_ h21_ h22_ h23_ h24_ h25_ h26_ h27_ h28_ h29_ h30_ h31_ h32_ h33_
      have HO375 := n0_
      have HO380 := n1_
      have HO383 := n2_
      have HO390 := n3_
      have HO395 := n4_
      have HO398 := n5_
      have HO_322000 := n6_
      have HO_322003 := n7_
      have HO_322004 := n8_
      have HO_334000 := n9_
      have HO_334003 := n10_
      have HO_334004 := n11_
      have HO_350000 := n12_
      have HO_350003 := n13_
      have HO_350004 := n14_
      have BK292 := n15_
      have BK293 := n16_
      have BK321 := n17_
      have BK333 := n18_
      have BK349 := n19_
      have BK399 := n20_
      have GW399 := n21_
      have GE399 := n22_
      have NB292_399 := n23_
      have NB399_292 := n24_
      have NB293_399 := n25_
      have NB399_293 := n26_
      have NB321_399 := n27_
      have NB399_321 := n28_
      have NB333_399 := n29_
      have NB399_333 := n30_
      have NB349_399 := n31_
      have NB399_349 := n32_
      have HB := n33_
      clear n0_ n1_ n2_ n3_ n4_ n5_ n6_ n7_ n8_ n9_ n10_ n11_ n12_ n13_ n14_ n15_ n16_ n17_ n18_ n19_ n20_ n21_ n22_ n23_ n24_ n25_ n26_ n27_ n28_ n29_ n30_ n31_ n32_ n33_
      have hHeld : w127.cell? ⟨gb292, 0, none⟩ = some (.slice A0_0 l0_0.length c0_0) ∧ w127.cell? ⟨gb292, 1, none⟩ = some (.int .i64 a0_1) ∧ w127.cell? ⟨gb292, 2, none⟩ = some (.bool a0_2) ∧ w127.cell? ⟨gb292, 3, none⟩ = some (.slice A0_3 l0_3.length c0_3) ∧ w127.cell? ⟨gb292, 4, none⟩ = some (.slice A0_4 l0_4.length c0_4) ∧ w127.cell? ⟨gb293, 0, none⟩ = some (.int .i64 a1_0) ∧ w127.cell? ⟨gb293, 1, none⟩ = some (.int .i64 a1_1) ∧ w127.cell? ⟨gb293, 2, none⟩ = some (.int .i64 a1_2) ∧ w127.cell? ⟨gb293, 3, none⟩ = some (.int .i64 a1_3) := hS_
      obtain ⟨Ao128, co128, eo128⟩ := Kd.R_slice HO390.out
      (first | subst eo128 | (injection eo128 with f1_ f2_ f3_; have f4_ := f1_.symm; have f5_ := f3_.symm; clear f1_ f2_ f3_; subst f4_; subst f5_))
      obtain ⟨Ao132, co132, eo132⟩ := Kd.R_slice HO395.out
      (first | subst eo132 | (injection eo132 with f1_ f2_ f3_; have f4_ := f1_.symm; have f5_ := f3_.symm; clear f1_ f2_ f3_; subst f4_; subst f5_))
      obtain ⟨Ao134, co134, eo134⟩ := Kd.R_slice HO398.out
      (first | subst eo134 | (injection eo134 with f1_ f2_ f3_; have f4_ := f1_.symm; have f5_ := f3_.symm; clear f1_ f2_ f3_; subst f4_; subst f5_))
      refine norm_ (a' := ?_) ?_ ?_
      rotate_left
      ·
       simp only [putAll, Act.put, List.setIfInBounds_toArray, List.set_cons_zero, List.set_cons_succ]
       rfl
      refine one_ (i := 6) (N := none) #[true, true, true, true, true, true, true] rfl rfl (by kernel_rfl) (by decide) (fun K hK => ?_)
      have hs129 : w127.cell? ⟨gb399, 0, none⟩ = some (.slice none 0 0) := (blk_cell BK399.out 0).trans rfl
      have hfs129 := blk_frozen BK399.out 0
      have hns129_0 := NB292_399.out
      have hns129_1 := NB293_399.out
      have hns129_2 := NB321_399.out
      have hns129_3 := NB333_399.out
      have hns129_4 := NB349_399.out
      have hms129_0 := NB399_292.out
      have hms129_1 := NB399_293.out
      have hms129_2 := NB399_321.out
      have hms129_3 := NB399_333.out
      have hms129_4 := NB399_349.out
      have hs130 : w127.cell? ⟨gb399, 1, none⟩ = some (.int .i64 0) := (blk_cell BK399.out 1).trans rfl
      have hfs130 := blk_frozen BK399.out 1
      have hns130_0 := NB292_399.out
      have hns130_1 := NB293_399.out
      have hns130_2 := NB321_399.out
      have hns130_3 := NB333_399.out
      have hns130_4 := NB349_399.out
      have hms130_0 := NB399_292.out
      have hms130_1 := NB399_293.out
      have hms130_2 := NB399_321.out
      have hms130_3 := NB399_333.out
      have hms130_4 := NB399_349.out
      have hs131 : w127.cell? ⟨gb399, 2, none⟩ = some (.bool false) := (blk_cell BK399.out 2).trans rfl
      have hfs131 := blk_frozen BK399.out 2
      have hns131_0 := NB292_399.out
      have hns131_1 := NB293_399.out
      have hns131_2 := NB321_399.out
      have hns131_3 := NB333_399.out
      have hns131_4 := NB349_399.out
      have hms131_0 := NB399_292.out
      have hms131_1 := NB399_293.out
      have hms131_2 := NB399_321.out
      have hms131_3 := NB399_333.out
      have hms131_4 := NB399_349.out
      have hs133 : w127.cell? ⟨gb399, 3, none⟩ = some (.slice none 0 0) := (blk_cell BK399.out 3).trans rfl
      have hfs133 := blk_frozen BK399.out 3
      have hns133_0 := NB292_399.out
      have hns133_1 := NB293_399.out
      have hns133_2 := NB321_399.out
      have hns133_3 := NB333_399.out
      have hns133_4 := NB349_399.out
      have hms133_0 := NB399_292.out
      have hms133_1 := NB399_293.out
      have hms133_2 := NB399_321.out
      have hms133_3 := NB399_333.out
      have hms133_4 := NB399_349.out
      have hs135 : w127.cell? ⟨gb399, 4, none⟩ = some (.slice none 0 0) := (blk_cell BK399.out 4).trans rfl
      have hfs135 := blk_frozen BK399.out 4
      have hns135_0 := NB292_399.out
      have hns135_1 := NB293_399.out
      have hns135_2 := NB321_399.out
      have hns135_3 := NB333_399.out
      have hns135_4 := NB349_399.out
      have hms135_0 := NB399_292.out
      have hms135_1 := NB399_293.out
      have hms135_2 := NB399_321.out
      have hms135_3 := NB399_333.out
      have hms135_4 := NB399_349.out
      refine skip_ (w1 := ?_) (by rfl) rfl ?_ ?_
      rotate_left
      ·
       go_simp
       rfl
      refine hK.out _ _ ⟨((cell_far (p := ⟨gb399, _, none⟩) NB292_399.out _).trans (((cell_far (p := ⟨gb399, _, none⟩) NB292_399.out _).trans (((cell_far (p := ⟨gb399, _, none⟩) NB292_399.out _).trans (((cell_far (p := ⟨gb399, _, none⟩) NB292_399.out _).trans (((cell_far (p := ⟨gb399, _, none⟩) NB292_399.out _).trans (hHeld.1)))))))))), ((cell_far (p := ⟨gb399, _, none⟩) NB292_399.out _).trans (((cell_far (p := ⟨gb399, _, none⟩) NB292_399.out _).trans (((cell_far (p := ⟨gb399, _, none⟩) NB292_399.out _).trans (((cell_far (p := ⟨gb399, _, none⟩) NB292_399.out _).trans (((cell_far (p := ⟨gb399, _, none⟩) NB292_399.out _).trans (hHeld.2.1)))))))))), ((cell_far (p := ⟨gb399, _, none⟩) NB292_399.out _).trans (((cell_far (p := ⟨gb399, _, none⟩) NB292_399.out _).trans (((cell_far (p := ⟨gb399, _, none⟩) NB292_399.out _).trans (((cell_far (p := ⟨gb399, _, none⟩) NB292_399.out _).trans (((cell_far (p := ⟨gb399, _, none⟩) NB292_399.out _).trans (hHeld.2.2.1)))))))))), ((cell_far (p := ⟨gb399, _, none⟩) NB292_399.out _).trans (((cell_far (p := ⟨gb399, _, none⟩) NB292_399.out _).trans (((cell_far (p := ⟨gb399, _, none⟩) NB292_399.out _).trans (((cell_far (p := ⟨gb399, _, none⟩) NB292_399.out _).trans (((cell_far (p := ⟨gb399, _, none⟩) NB292_399.out _).trans (hHeld.2.2.2.1)))))))))), ((cell_far (p := ⟨gb399, _, none⟩) NB292_399.out _).trans (((cell_far (p := ⟨gb399, _, none⟩) NB292_399.out _).trans (((cell_far (p := ⟨gb399, _, none⟩) NB292_399.out _).trans (((cell_far (p := ⟨gb399, _, none⟩) NB292_399.out _).trans (((cell_far (p := ⟨gb399, _, none⟩) NB292_399.out _).trans (hHeld.2.2.2.2.1)))))))))), ((cell_far (p := ⟨gb399, _, none⟩) NB293_399.out _).trans (((cell_far (p := ⟨gb399, _, none⟩) NB293_399.out _).trans (((cell_far (p := ⟨gb399, _, none⟩) NB293_399.out _).trans (((cell_far (p := ⟨gb399, _, none⟩) NB293_399.out _).trans (((cell_far (p := ⟨gb399, _, none⟩) NB293_399.out _).trans (hHeld.2.2.2.2.2.1)))))))))), ((cell_far (p := ⟨gb399, _, none⟩) NB293_399.out _).trans (((cell_far (p := ⟨gb399, _, none⟩) NB293_399.out _).trans (((cell_far (p := ⟨gb399, _, none⟩) NB293_399.out _).trans (((cell_far (p := ⟨gb399, _, none⟩) NB293_399.out _).trans (((cell_far (p := ⟨gb399, _, none⟩) NB293_399.out _).trans (hHeld.2.2.2.2.2.2.1)))))))))), ((cell_far (p := ⟨gb399, _, none⟩) NB293_399.out _).trans (((cell_far (p := ⟨gb399, _, none⟩) NB293_399.out _).trans (((cell_far (p := ⟨gb399, _, none⟩) NB293_399.out _).trans (((cell_far (p := ⟨gb399, _, none⟩) NB293_399.out _).trans (((cell_far (p := ⟨gb399, _, none⟩) NB293_399.out _).trans (hHeld.2.2.2.2.2.2.2.1)))))))))), ((cell_far (p := ⟨gb399, _, none⟩) NB293_399.out _).trans (((cell_far (p := ⟨gb399, _, none⟩) NB293_399.out _).trans (((cell_far (p := ⟨gb399, _, none⟩) NB293_399.out _).trans (((cell_far (p := ⟨gb399, _, none⟩) NB293_399.out _).trans (((cell_far (p := ⟨gb399, _, none⟩) NB293_399.out _).trans (hHeld.2.2.2.2.2.2.2.2))))))))))⟩ (fun hHeld => ?_)
      clear hK K
      refine done_ (by kernel_rfl) ?_
      have hnb136 := NB399_292.out
      have hnc136 := NB292_399.out
      have hnb137 := NB399_293.out
      have hnc137 := NB293_399.out
      have hnb138 := NB399_321.out
      have hnc138 := NB321_399.out
      have hnb139 := NB399_333.out
      have hnc139 := NB333_399.out
      have hnb140 := NB399_349.out
      have hnc140 := NB349_399.out
      have hcz141_0 : w127.cell? ⟨gb399, 0, none⟩ = some (.slice none 0 0) := (blk_cell BK399.out 0).trans rfl
      have hcz141_1 : w127.cell? ⟨gb399, 1, none⟩ = some (.int .i64 0) := (blk_cell BK399.out 1).trans rfl
      have hcz141_2 : w127.cell? ⟨gb399, 2, none⟩ = some (.bool false) := (blk_cell BK399.out 2).trans rfl
      have hcz141_3 : w127.cell? ⟨gb399, 3, none⟩ = some (.slice none 0 0) := (blk_cell BK399.out 3).trans rfl
      have hcz141_4 : w127.cell? ⟨gb399, 4, none⟩ = some (.slice none 0 0) := (blk_cell BK399.out 4).trans rfl
      have hfz141_0 := blk_frozen BK399.out 0
      have hfz141_1 := blk_frozen BK399.out 1
      have hfz141_2 := blk_frozen BK399.out 2
      have hfz141_3 := blk_frozen BK399.out 3
      have hfz141_4 := blk_frozen BK399.out 4
      have hnb142 := NB321_292.out
      have hnc142 := NB292_321.out
      have hnb143 := NB321_293.out
      have hnc143 := NB293_321.out
      have hnb144 := NB321_333.out
      have hnc144 := NB333_321.out
      have hcz145_0 : w127.cell? ⟨gb321, 0, none⟩ = some (.slice Ao37 t310.length co37) := (blk_cell BK321.out 0).trans rfl
      have hcz145_1 : w127.cell? ⟨gb321, 1, none⟩ = some (.int .i64 t313) := (blk_cell BK321.out 1).trans rfl
      have hcz145_2 : w127.cell? ⟨gb321, 2, none⟩ = some (.bool t314) := (blk_cell BK321.out 2).trans rfl
      have hcz145_3 : w127.cell? ⟨gb321, 3, none⟩ = some (.slice Ao41 t315.length co41) := (blk_cell BK321.out 3).trans rfl
      have hcz145_4 : w127.cell? ⟨gb321, 4, none⟩ = some (.slice Ao43 t318.length co43) := (blk_cell BK321.out 4).trans rfl
      have hfz145_0 := blk_frozen BK321.out 0
      have hfz145_1 := blk_frozen BK321.out 1
      have hfz145_2 := blk_frozen BK321.out 2
      have hfz145_3 := blk_frozen BK321.out 3
      have hfz145_4 := blk_frozen BK321.out 4
      try go_wp2_with (first | ((with_reducible refine gate_callee (f := 24) rfl ?_); refine goesL_ (some 67) rfl rfl Try.func24 (by kernel_rfl) rfl #[.agg #[.slice Ao128 t388.length co128, .int .i64 t391, .bool t392, .slice Ao132 t393.length co132, .slice Ao134 t396.length co134], .agg #[.slice Ao37 t310.length co37, .int .i64 t313, .bool t314, .slice Ao41 t315.length co41, .slice Ao43 t318.length co43]] rfl z4_ ?_; (with_reducible refine (laws_eqThread.calls kj21 _ _ t388 t391 t392 _ _ t393 _ _ t396 _ _ t310 t313 t314 _ _ t315 _ _ t318 true _ ?side1 ?side2 ?side3 ?side4 ?side5 ?side6 ?side7 ?side8 ?side9 ?side10 ?side11 ?side12 A106.out).mono ?_); (case side1 => refine (Kd.R_reads' (e := 88) (base := w.heap.size) (ok := fun k_ => (some k_ ≠ (v374 : Value).ownBlock ∧ (some k_ ≠ (.slice Ao37 t310.length co37 : Value).ownBlock ∧ (some k_ ≠ (.slice Ao49 t364.length co49 : Value).ownBlock ∧ some k_ ≠ (.slice Ao62 t338.length co62 : Value).ownBlock)))) (n := t388.length) (c := co128) ?_).2.2; exact z21_); (case side2 => exact (Kd.R_reads' HO390.out).2.1); (case side3 => refine (Kd.R_reads' (e := 136) (base := w.heap.size) (ok := fun k_ => (some k_ ≠ (v379 : Value).ownBlock ∧ (some k_ ≠ (.slice Ao41 t315.length co41 : Value).ownBlock ∧ (some k_ ≠ (.slice Ao54 t365.length co54 : Value).ownBlock ∧ some k_ ≠ (.slice Ao66 t343.length co66 : Value).ownBlock)))) (n := t393.length) (c := co132) ?_).2.2; exact z22_); (case side4 => exact (Kd.R_reads' HO395.out).2.1); (case side5 => refine (Kd.R_reads' (e := 67) (base := w.heap.size) (ok := fun k_ => (some k_ ≠ (v382 : Value).ownBlock ∧ (some k_ ≠ (.slice Ao43 t318.length co43 : Value).ownBlock ∧ (some k_ ≠ (.slice Ao55 t366.length co55 : Value).ownBlock ∧ some k_ ≠ (.slice Ao68 t346.length co68 : Value).ownBlock)))) (n := t396.length) (c := co134) ?_).2.2; exact z23_); (case side6 => exact (Kd.R_reads' HO398.out).2.1); (case side7 => refine (Kd.R_reads' (e := 88) (base := w.heap.size) (ok := fun k_ => (some k_ ≠ (v374 : Value).ownBlock ∧ (some k_ ≠ (.slice Ao128 t388.length co128 : Value).ownBlock ∧ (some k_ ≠ (.slice Ao49 t364.length co49 : Value).ownBlock ∧ some k_ ≠ (.slice Ao62 t338.length co62 : Value).ownBlock)))) (n := t310.length) (c := co37) ?_).2.2; exact z18_); (case side8 => exact (Kd.R_reads' HO_322000.out).2.1); (case side9 => refine (Kd.R_reads' (e := 136) (base := w.heap.size) (ok := fun k_ => (some k_ ≠ (v379 : Value).ownBlock ∧ (some k_ ≠ (.slice Ao132 t393.length co132 : Value).ownBlock ∧ (some k_ ≠ (.slice Ao54 t365.length co54 : Value).ownBlock ∧ some k_ ≠ (.slice Ao66 t343.length co66 : Value).ownBlock)))) (n := t315.length) (c := co41) ?_).2.2; exact z19_); (case side10 => exact (Kd.R_reads' HO_322003.out).2.1); (case side11 => refine (Kd.R_reads' (e := 67) (base := w.heap.size) (ok := fun k_ => (some k_ ≠ (v382 : Value).ownBlock ∧ (some k_ ≠ (.slice Ao134 t396.length co134 : Value).ownBlock ∧ (some k_ ≠ (.slice Ao55 t366.length co55 : Value).ownBlock ∧ some k_ ≠ (.slice Ao68 t346.length co68 : Value).ownBlock)))) (n := t318.length) (c := co43) ?_).2.2; exact z20_); (case side12 => exact (Kd.R_reads' HO_322004.out).2.1); rintro e w146 ⟨rfl, hb⟩; refine ⟨_, rfl, ?_⟩; have n0_ := Aside0.mk (Kd.R_below z18_ hb); have n1_ := Aside0.mk (Kd.R_below z19_ hb); have n2_ := Aside0.mk (Kd.R_below z20_ hb); have n3_ := Aside0.mk (Kd.R_below (by (with_reducible repeat (first | apply Kd.R_alloc | apply Kd.R_drewN | apply Kd.R_drew)); exact (Kd.R_mono (Kd.R_far (p := ⟨gb399, 4, none⟩) (Kd.R_far (p := ⟨gb399, 3, none⟩) (Kd.R_far (p := ⟨gb399, 2, none⟩) (Kd.R_far (p := ⟨gb399, 1, none⟩) (Kd.R_far (p := ⟨gb399, 0, none⟩) (Kd.R_types HO_334000.out BK399.out (by decide)) (fun _ hk => hk.2) (.slice Ao128 t388.length co128)) (fun _ hk => hk.2) (.int .i64 t391)) (fun _ hk => hk.2) (.bool t392)) (fun _ hk => hk.2) (.slice Ao132 t393.length co132)) (fun _ hk => hk.2) (.slice Ao134 t396.length co134)) (fun _ h_ => h_.1))) hb); have n4_ := Aside0.mk (Kd.R_below (by (with_reducible repeat (first | apply Kd.R_alloc | apply Kd.R_drewN | apply Kd.R_drew)); exact (Kd.R_mono (Kd.R_far (p := ⟨gb399, 4, none⟩) (Kd.R_far (p := ⟨gb399, 3, none⟩) (Kd.R_far (p := ⟨gb399, 2, none⟩) (Kd.R_far (p := ⟨gb399, 1, none⟩) (Kd.R_far (p := ⟨gb399, 0, none⟩) (Kd.R_types HO_334003.out BK399.out (by decide)) (fun _ hk => hk.2) (.slice Ao128 t388.length co128)) (fun _ hk => hk.2) (.int .i64 t391)) (fun _ hk => hk.2) (.bool t392)) (fun _ hk => hk.2) (.slice Ao132 t393.length co132)) (fun _ hk => hk.2) (.slice Ao134 t396.length co134)) (fun _ h_ => h_.1))) hb); have n5_ := Aside0.mk (Kd.R_below (by (with_reducible repeat (first | apply Kd.R_alloc | apply Kd.R_drewN | apply Kd.R_drew)); exact (Kd.R_mono (Kd.R_far (p := ⟨gb399, 4, none⟩) (Kd.R_far (p := ⟨gb399, 3, none⟩) (Kd.R_far (p := ⟨gb399, 2, none⟩) (Kd.R_far (p := ⟨gb399, 1, none⟩) (Kd.R_far (p := ⟨gb399, 0, none⟩) (Kd.R_types HO_334004.out BK399.out (by decide)) (fun _ hk => hk.2) (.slice Ao128 t388.length co128)) (fun _ hk => hk.2) (.int .i64 t391)) (fun _ hk => hk.2) (.bool t392)) (fun _ hk => hk.2) (.slice Ao132 t393.length co132)) (fun _ hk => hk.2) (.slice Ao134 t396.length co134)) (fun _ h_ => h_.1))) hb); have n6_ := Aside0.mk (Kd.R_below (by (with_reducible repeat (first | apply Kd.R_alloc | apply Kd.R_drewN | apply Kd.R_drew)); exact (Kd.R_mono (Kd.R_far (p := ⟨gb399, 4, none⟩) (Kd.R_far (p := ⟨gb399, 3, none⟩) (Kd.R_far (p := ⟨gb399, 2, none⟩) (Kd.R_far (p := ⟨gb399, 1, none⟩) (Kd.R_far (p := ⟨gb399, 0, none⟩) (Kd.R_types HO_350000.out BK399.out (by decide)) (fun _ hk => hk.2) (.slice Ao128 t388.length co128)) (fun _ hk => hk.2) (.int .i64 t391)) (fun _ hk => hk.2) (.bool t392)) (fun _ hk => hk.2) (.slice Ao132 t393.length co132)) (fun _ hk => hk.2) (.slice Ao134 t396.length co134)) (fun _ h_ => h_.1))) hb); have n7_ := Aside0.mk (Kd.R_below (by (with_reducible repeat (first | apply Kd.R_alloc | apply Kd.R_drewN | apply Kd.R_drew)); exact (Kd.R_mono (Kd.R_far (p := ⟨gb399, 4, none⟩) (Kd.R_far (p := ⟨gb399, 3, none⟩) (Kd.R_far (p := ⟨gb399, 2, none⟩) (Kd.R_far (p := ⟨gb399, 1, none⟩) (Kd.R_far (p := ⟨gb399, 0, none⟩) (Kd.R_types HO_350003.out BK399.out (by decide)) (fun _ hk => hk.2) (.slice Ao128 t388.length co128)) (fun _ hk => hk.2) (.int .i64 t391)) (fun _ hk => hk.2) (.bool t392)) (fun _ hk => hk.2) (.slice Ao132 t393.length co132)) (fun _ hk => hk.2) (.slice Ao134 t396.length co134)) (fun _ h_ => h_.1))) hb); have n8_ := Aside0.mk (Kd.R_below (by (with_reducible repeat (first | apply Kd.R_alloc | apply Kd.R_drewN | apply Kd.R_drew)); exact (Kd.R_mono (Kd.R_far (p := ⟨gb399, 4, none⟩) (Kd.R_far (p := ⟨gb399, 3, none⟩) (Kd.R_far (p := ⟨gb399, 2, none⟩) (Kd.R_far (p := ⟨gb399, 1, none⟩) (Kd.R_far (p := ⟨gb399, 0, none⟩) (Kd.R_types HO_350004.out BK399.out (by decide)) (fun _ hk => hk.2) (.slice Ao128 t388.length co128)) (fun _ hk => hk.2) (.int .i64 t391)) (fun _ hk => hk.2) (.bool t392)) (fun _ hk => hk.2) (.slice Ao132 t393.length co132)) (fun _ hk => hk.2) (.slice Ao134 t396.length co134)) (fun _ h_ => h_.1))) hb); have n9_ := Aside0.mk (Kd.R_below (by (with_reducible repeat (first | apply Kd.R_alloc | apply Kd.R_drewN | apply Kd.R_drew)); exact (Kd.R_mono (Kd.R_far (p := ⟨gb399, 4, none⟩) (Kd.R_far (p := ⟨gb399, 3, none⟩) (Kd.R_far (p := ⟨gb399, 2, none⟩) (Kd.R_far (p := ⟨gb399, 1, none⟩) (Kd.R_far (p := ⟨gb399, 0, none⟩) (Kd.R_types HO375.out BK399.out (by decide)) (fun _ hk => hk.2) (.slice Ao128 t388.length co128)) (fun _ hk => hk.2) (.int .i64 t391)) (fun _ hk => hk.2) (.bool t392)) (fun _ hk => hk.2) (.slice Ao132 t393.length co132)) (fun _ hk => hk.2) (.slice Ao134 t396.length co134)) (fun _ h_ => h_.1))) hb); have n10_ := Aside0.mk (Kd.R_below (by (with_reducible repeat (first | apply Kd.R_alloc | apply Kd.R_drewN | apply Kd.R_drew)); exact (Kd.R_mono (Kd.R_far (p := ⟨gb399, 4, none⟩) (Kd.R_far (p := ⟨gb399, 3, none⟩) (Kd.R_far (p := ⟨gb399, 2, none⟩) (Kd.R_far (p := ⟨gb399, 1, none⟩) (Kd.R_far (p := ⟨gb399, 0, none⟩) (Kd.R_types HO380.out BK399.out (by decide)) (fun _ hk => hk.2) (.slice Ao128 t388.length co128)) (fun _ hk => hk.2) (.int .i64 t391)) (fun _ hk => hk.2) (.bool t392)) (fun _ hk => hk.2) (.slice Ao132 t393.length co132)) (fun _ hk => hk.2) (.slice Ao134 t396.length co134)) (fun _ h_ => h_.1))) hb); have n11_ := Aside0.mk (Kd.R_below (by (with_reducible repeat (first | apply Kd.R_alloc | apply Kd.R_drewN | apply Kd.R_drew)); exact (Kd.R_mono (Kd.R_far (p := ⟨gb399, 4, none⟩) (Kd.R_far (p := ⟨gb399, 3, none⟩) (Kd.R_far (p := ⟨gb399, 2, none⟩) (Kd.R_far (p := ⟨gb399, 1, none⟩) (Kd.R_far (p := ⟨gb399, 0, none⟩) (Kd.R_types HO383.out BK399.out (by decide)) (fun _ hk => hk.2) (.slice Ao128 t388.length co128)) (fun _ hk => hk.2) (.int .i64 t391)) (fun _ hk => hk.2) (.bool t392)) (fun _ hk => hk.2) (.slice Ao132 t393.length co132)) (fun _ hk => hk.2) (.slice Ao134 t396.length co134)) (fun _ h_ => h_.1))) hb); have n12_ := Aside0.mk (Kd.R_below z21_ hb); have n13_ := Aside0.mk (Kd.R_below z22_ hb); have n14_ := Aside0.mk (Kd.R_below z23_ hb); have n15_ := Aside0.mk (blk_below (g := gb292) (o := .cells #[.slice A0_0 l0_0.length c0_0, .int .i64 a0_1, .bool a0_2, .slice A0_3 l0_3.length c0_3, .slice A0_4 l0_4.length c0_4] 59 (0, 0)) (by (with_reducible repeat (first | refine blk_drewN ?_ _ | refine blk_drew ?_ | refine blk_alloc ?_ _)); refine blk_far ?_ NB292_399.out _; (with_reducible repeat (first | refine blk_drewN ?_ _ | refine blk_drew ?_ | refine blk_alloc ?_ _)); refine blk_far ?_ NB292_399.out _; (with_reducible repeat (first | refine blk_drewN ?_ _ | refine blk_drew ?_ | refine blk_alloc ?_ _)); refine blk_far ?_ NB292_399.out _; (with_reducible repeat (first | refine blk_drewN ?_ _ | refine blk_drew ?_ | refine blk_alloc ?_ _)); refine blk_far ?_ NB292_399.out _; (with_reducible repeat (first | refine blk_drewN ?_ _ | refine blk_drew ?_ | refine blk_alloc ?_ _)); refine blk_far ?_ NB292_399.out _; (with_reducible repeat (first | refine blk_drewN ?_ _ | refine blk_drew ?_ | refine blk_alloc ?_ _)); exact BK292.out) hb); have n16_ := Aside0.mk (blk_below (g := gb293) (o := .cells #[.int .i64 a1_0, .int .i64 a1_1, .int .i64 a1_2, .int .i64 a1_3] 65 (0, 0)) (by (with_reducible repeat (first | refine blk_drewN ?_ _ | refine blk_drew ?_ | refine blk_alloc ?_ _)); refine blk_far ?_ NB293_399.out _; (with_reducible repeat (first | refine blk_drewN ?_ _ | refine blk_drew ?_ | refine blk_alloc ?_ _)); refine blk_far ?_ NB293_399.out _; (with_reducible repeat (first | refine blk_drewN ?_ _ | refine blk_drew ?_ | refine blk_alloc ?_ _)); refine blk_far ?_ NB293_399.out _; (with_reducible repeat (first | refine blk_drewN ?_ _ | refine blk_drew ?_ | refine blk_alloc ?_ _)); refine blk_far ?_ NB293_399.out _; (with_reducible repeat (first | refine blk_drewN ?_ _ | refine blk_drew ?_ | refine blk_alloc ?_ _)); refine blk_far ?_ NB293_399.out _; (with_reducible repeat (first | refine blk_drewN ?_ _ | refine blk_drew ?_ | refine blk_alloc ?_ _)); exact BK293.out) hb); have n17_ := Aside0.mk (blk_below (g := gb321) (o := .cells #[.slice Ao37 t310.length co37, .int .i64 t313, .bool t314, .slice Ao41 t315.length co41, .slice Ao43 t318.length co43] 36 (0, 0)) (by (with_reducible repeat (first | refine blk_drewN ?_ _ | refine blk_drew ?_ | refine blk_alloc ?_ _)); refine blk_far ?_ NB321_399.out _; (with_reducible repeat (first | refine blk_drewN ?_ _ | refine blk_drew ?_ | refine blk_alloc ?_ _)); refine blk_far ?_ NB321_399.out _; (with_reducible repeat (first | refine blk_drewN ?_ _ | refine blk_drew ?_ | refine blk_alloc ?_ _)); refine blk_far ?_ NB321_399.out _; (with_reducible repeat (first | refine blk_drewN ?_ _ | refine blk_drew ?_ | refine blk_alloc ?_ _)); refine blk_far ?_ NB321_399.out _; (with_reducible repeat (first | refine blk_drewN ?_ _ | refine blk_drew ?_ | refine blk_alloc ?_ _)); refine blk_far ?_ NB321_399.out _; (with_reducible repeat (first | refine blk_drewN ?_ _ | refine blk_drew ?_ | refine blk_alloc ?_ _)); exact BK321.out) hb); have n18_ := Aside0.mk (blk_below (g := gb333) (o := .cells #[.slice Ao49 t364.length co49, .int .i64 t325, .bool t326, .slice Ao54 t365.length co54, .slice Ao55 t366.length co55] 36 (0, 0)) (by (with_reducible repeat (first | refine blk_drewN ?_ _ | refine blk_drew ?_ | refine blk_alloc ?_ _)); refine blk_far ?_ NB333_399.out _; (with_reducible repeat (first | refine blk_drewN ?_ _ | refine blk_drew ?_ | refine blk_alloc ?_ _)); refine blk_far ?_ NB333_399.out _; (with_reducible repeat (first | refine blk_drewN ?_ _ | refine blk_drew ?_ | refine blk_alloc ?_ _)); refine blk_far ?_ NB333_399.out _; (with_reducible repeat (first | refine blk_drewN ?_ _ | refine blk_drew ?_ | refine blk_alloc ?_ _)); refine blk_far ?_ NB333_399.out _; (with_reducible repeat (first | refine blk_drewN ?_ _ | refine blk_drew ?_ | refine blk_alloc ?_ _)); refine blk_far ?_ NB333_399.out _; (with_reducible repeat (first | refine blk_drewN ?_ _ | refine blk_drew ?_ | refine blk_alloc ?_ _)); exact BK333.out) hb); have n19_ := Aside0.mk (blk_below (g := gb349) (o := .cells #[.slice Ao62 t338.length co62, .int .i64 t341, .bool t342, .slice Ao66 t343.length co66, .slice Ao68 t346.length co68] 36 (0, 0)) (by (with_reducible repeat (first | refine blk_drewN ?_ _ | refine blk_drew ?_ | refine blk_alloc ?_ _)); refine blk_far ?_ NB349_399.out _; (with_reducible repeat (first | refine blk_drewN ?_ _ | refine blk_drew ?_ | refine blk_alloc ?_ _)); refine blk_far ?_ NB349_399.out _; (with_reducible repeat (first | refine blk_drewN ?_ _ | refine blk_drew ?_ | refine blk_alloc ?_ _)); refine blk_far ?_ NB349_399.out _; (with_reducible repeat (first | refine blk_drewN ?_ _ | refine blk_drew ?_ | refine blk_alloc ?_ _)); refine blk_far ?_ NB349_399.out _; (with_reducible repeat (first | refine blk_drewN ?_ _ | refine blk_drew ?_ | refine blk_alloc ?_ _)); refine blk_far ?_ NB349_399.out _; (with_reducible repeat (first | refine blk_drewN ?_ _ | refine blk_drew ?_ | refine blk_alloc ?_ _)); exact BK349.out) hb); have n20_ := Aside0.mk (blk_below (g := gb399) (o := .cells #[.slice Ao128 t388.length co128, .int .i64 t391, .bool t392, .slice Ao132 t393.length co132, .slice Ao134 t396.length co134] 36 (0, 0)) (by (with_reducible repeat (first | refine blk_drewN ?_ _ | refine blk_drew ?_ | refine blk_alloc ?_ _)); refine blk_put (cs := #[.slice Ao128 t388.length co128, .int .i64 t391, .bool t392, .slice Ao132 t393.length co132, .slice none 0 0]) ?_ 4 _ rfl; (with_reducible repeat (first | refine blk_drewN ?_ _ | refine blk_drew ?_ | refine blk_alloc ?_ _)); refine blk_put (cs := #[.slice Ao128 t388.length co128, .int .i64 t391, .bool t392, .slice none 0 0, .slice none 0 0]) ?_ 3 _ rfl; (with_reducible repeat (first | refine blk_drewN ?_ _ | refine blk_drew ?_ | refine blk_alloc ?_ _)); refine blk_put (cs := #[.slice Ao128 t388.length co128, .int .i64 t391, .bool false, .slice none 0 0, .slice none 0 0]) ?_ 2 _ rfl; (with_reducible repeat (first | refine blk_drewN ?_ _ | refine blk_drew ?_ | refine blk_alloc ?_ _)); refine blk_put (cs := #[.slice Ao128 t388.length co128, .int .i64 0, .bool false, .slice none 0 0, .slice none 0 0]) ?_ 1 _ rfl; (with_reducible repeat (first | refine blk_drewN ?_ _ | refine blk_drew ?_ | refine blk_alloc ?_ _)); refine blk_put (cs := #[.slice none 0 0, .int .i64 0, .bool false, .slice none 0 0, .slice none 0 0]) ?_ 0 _ rfl; (with_reducible repeat (first | refine blk_drewN ?_ _ | refine blk_drew ?_ | refine blk_alloc ?_ _)); exact BK399.out) hb); have n21_ := Aside0.mk (below_step z1_ hb); clear HO_322000 HO_322003 HO_322004 HO_334000 HO_334003 HO_334004 HO_350000 HO_350003 HO_350004 HO375 HO380 HO383 HO390 HO395 HO398 BK292 BK293 BK321 BK333 BK349 BK399 HB; have HO_322000 := n0_; have HO_322003 := n1_; have HO_322004 := n2_; have HO_334000 := n3_; have HO_334003 := n4_; have HO_334004 := n5_; have HO_350000 := n6_; have HO_350003 := n7_; have HO_350004 := n8_; have HO375 := n9_; have HO380 := n10_; have HO383 := n11_; have HO390 := n12_; have HO395 := n13_; have HO398 := n14_; have BK292 := n15_; have BK293 := n16_; have BK321 := n17_; have BK333 := n18_; have BK349 := n19_; have BK399 := n20_; have HB := n21_; clear n0_ n1_ n2_ n3_ n4_ n5_ n6_ n7_ n8_ n9_ n10_ n11_ n12_ n13_ n14_ n15_ n16_ n17_ n18_ n19_ n20_ n21_; (try clear hb); (try clear hb2); (try clear hk); (try clear hi); have hcz147_0 : w146.cell? ⟨gb349, 0, none⟩ = some (.slice Ao62 t338.length co62) := (blk_cell BK349.out 0).trans rfl; have hcz147_1 : w146.cell? ⟨gb349, 1, none⟩ = some (.int .i64 t341) := (blk_cell BK349.out 1).trans rfl; have hcz147_2 : w146.cell? ⟨gb349, 2, none⟩ = some (.bool t342) := (blk_cell BK349.out 2).trans rfl; have hcz147_3 : w146.cell? ⟨gb349, 3, none⟩ = some (.slice Ao66 t343.length co66) := (blk_cell BK349.out 3).trans rfl; have hcz147_4 : w146.cell? ⟨gb349, 4, none⟩ = some (.slice Ao68 t346.length co68) := (blk_cell BK349.out 4).trans rfl; have hfz147_0 := blk_frozen BK349.out 0; have hfz147_1 := blk_frozen BK349.out 1; have hfz147_2 := blk_frozen BK349.out 2; have hfz147_3 := blk_frozen BK349.out 3; have hfz147_4 := blk_frozen BK349.out 4) | ((with_reducible refine gate_callee (f := 28) rfl ?_); refine goesL_ (some 71) rfl rfl Try.func28 (by kernel_rfl) rfl #[.agg #[.slice Ao62 t369.length co62, .int .i64 t341, .bool t342, .slice Ao66 t370.length co66, .slice Ao68 t371.length co68], .int .i64 1] rfl z59_ ?_; (with_reducible refine (laws_heldThread.calls kj21 _ _ t369 t341 t342 _ _ t370 _ _ t371 1 t401 _ ?side1 ?side2 ?side3 ?side4 ?side5 ?side6 A108.out).mono ?_); (case side1 => repeat (first | exact (Kd.R_reads' HO_350000.out).2.2 | (with_reducible refine Kd.C_alloc ?_ _) | (with_reducible refine Kd.C_drewN ?_ _) | (with_reducible refine Kd.C_drew ?_))); (case side2 => rw [show t369.length = t338.length from (Kd.R_reads' HO_350000.out).1.symm]; exact (Kd.R_reads' HO_350000.out).2.1); (case side3 => repeat (first | exact (Kd.R_reads' HO_350003.out).2.2 | (with_reducible refine Kd.C_alloc ?_ _) | (with_reducible refine Kd.C_drewN ?_ _) | (with_reducible refine Kd.C_drew ?_))); (case side4 => rw [show t370.length = t343.length from (Kd.R_reads' HO_350003.out).1.symm]; exact (Kd.R_reads' HO_350003.out).2.1); (case side5 => repeat (first | exact (Kd.R_reads' HO_350004.out).2.2 | (with_reducible refine Kd.C_alloc ?_ _) | (with_reducible refine Kd.C_drewN ?_ _) | (with_reducible refine Kd.C_drew ?_))); (case side6 => rw [show t371.length = t346.length from (Kd.R_reads' HO_350004.out).1.symm]; exact (Kd.R_reads' HO_350004.out).2.1); rintro e w148 ⟨rfl, hb⟩; refine ⟨_, rfl, ?_⟩; have n0_ := Aside0.mk (Kd.R_below (rb_ HO_322000.out) hb); have n1_ := Aside0.mk (Kd.R_below (rb_ HO_322003.out) hb); have n2_ := Aside0.mk (Kd.R_below (rb_ HO_322004.out) hb); have n3_ := Aside0.mk (Kd.R_below (rb_ HO_334000.out) hb); have n4_ := Aside0.mk (Kd.R_below (rb_ HO_334003.out) hb); have n5_ := Aside0.mk (Kd.R_below (rb_ HO_334004.out) hb); have n6_ := Aside0.mk (Kd.R_below (rb_ HO_350000.out) hb); have n7_ := Aside0.mk (Kd.R_below (rb_ HO_350003.out) hb); have n8_ := Aside0.mk (Kd.R_below (rb_ HO_350004.out) hb); have n9_ := Aside0.mk (Kd.R_below (rb_ HO375.out) hb); have n10_ := Aside0.mk (Kd.R_below (rb_ HO380.out) hb); have n11_ := Aside0.mk (Kd.R_below (rb_ HO383.out) hb); have n12_ := Aside0.mk (Kd.R_below (rb_ HO390.out) hb); have n13_ := Aside0.mk (Kd.R_below (rb_ HO395.out) hb); have n14_ := Aside0.mk (Kd.R_below (rb_ HO398.out) hb); have n15_ := Aside0.mk (blk_below (g := gb292) (o := .cells #[.slice A0_0 l0_0.length c0_0, .int .i64 a0_1, .bool a0_2, .slice A0_3 l0_3.length c0_3, .slice A0_4 l0_4.length c0_4] 59 (0, 0)) (bk_ BK292.out) hb); have n16_ := Aside0.mk (blk_below (g := gb293) (o := .cells #[.int .i64 a1_0, .int .i64 a1_1, .int .i64 a1_2, .int .i64 a1_3] 65 (0, 0)) (bk_ BK293.out) hb); have n17_ := Aside0.mk (blk_below (g := gb321) (o := .cells #[.slice Ao37 t310.length co37, .int .i64 t313, .bool t314, .slice Ao41 t315.length co41, .slice Ao43 t318.length co43] 36 (0, 0)) (bk_ BK321.out) hb); have n18_ := Aside0.mk (blk_below (g := gb333) (o := .cells #[.slice Ao49 t364.length co49, .int .i64 t325, .bool t326, .slice Ao54 t365.length co54, .slice Ao55 t366.length co55] 36 (0, 0)) (bk_ BK333.out) hb); have n19_ := Aside0.mk (blk_below (g := gb349) (o := .cells #[.slice Ao62 t338.length co62, .int .i64 t341, .bool t342, .slice Ao66 t343.length co66, .slice Ao68 t346.length co68] 36 (0, 0)) (bk_ BK349.out) hb); have n20_ := Aside0.mk (blk_below (g := gb399) (o := .cells #[.slice Ao128 t388.length co128, .int .i64 t391, .bool t392, .slice Ao132 t393.length co132, .slice Ao134 t396.length co134] 36 (0, 0)) (bk_ BK399.out) hb); have n21_ := Aside0.mk (below_step z1_ hb); clear HO_322000 HO_322003 HO_322004 HO_334000 HO_334003 HO_334004 HO_350000 HO_350003 HO_350004 HO375 HO380 HO383 HO390 HO395 HO398 BK292 BK293 BK321 BK333 BK349 BK399 HB; have HO_322000 := n0_; have HO_322003 := n1_; have HO_322004 := n2_; have HO_334000 := n3_; have HO_334003 := n4_; have HO_334004 := n5_; have HO_350000 := n6_; have HO_350003 := n7_; have HO_350004 := n8_; have HO375 := n9_; have HO380 := n10_; have HO383 := n11_; have HO390 := n12_; have HO395 := n13_; have HO398 := n14_; have BK292 := n15_; have BK293 := n16_; have BK321 := n17_; have BK333 := n18_; have BK349 := n19_; have BK399 := n20_; have HB := n21_; clear n0_ n1_ n2_ n3_ n4_ n5_ n6_ n7_ n8_ n9_ n10_ n11_ n12_ n13_ n14_ n15_ n16_ n17_ n18_ n19_ n20_ n21_; (try clear hb); (try clear hb2); (try clear hk); (try clear hi)))
      go_ret
      exact ⟨by first | rfl | (simp [errW_none, errW_some] <;> rfl) | (simp [*, errW_none, errW_some] <;> rfl), z1_⟩
     ·
      rw [if_neg c110] at H
      exact absurd H (by simp)
   ·
    replace c107 := Bool.eq_false_iff.mpr c107
    subst c107
    have H1 : (none) = some r := by rw [if_neg (show ¬ (false = true) by decide)] at H; exact H
    clear H
    have H := H1
    clear H1
    exact absurd H (by simp)
  ·
   rw [if_neg c102] at H
   exact absurd H (by simp)) : p := h

end Go.Proofs.Ytblpbhhomocfbaa.PFnExactPush
