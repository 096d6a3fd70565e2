/- Closed facts on the types of this seat's program, printed by a program; each is met by the kernel's own run. -/
import Derived.Test.YtlpmgkillalhbaaAbsD
import Derived.Test.YtlpmgkillalhbaaProg
import Derived.KernelRfl
namespace Go.Proofs.Ytlpmgkillalhbaa
open Go.AL
theorem mo_fact : Try.prog.follows .mixedOrders = true := by kernel_rfl
@[go_sem] theorem ft_apT_134 : apT Try.prog 134 = some (32, 1, 24) := by kernel_rfl
@[go_sem] theorem ft_apT_24 : apT Try.prog 24 = some (68, 11, 88) := by kernel_rfl
@[go_sem] theorem ft_apT_25 : apT Try.prog 25 = some (2, 1, 8) := by kernel_rfl
@[go_sem] theorem ft_apT_26 : apT Try.prog 26 = some (99, 11, 88) := by kernel_rfl
@[go_sem] theorem ft_apT_27 : apT Try.prog 27 = some (101, 5, 40) := by kernel_rfl
@[go_sem] theorem ft_apT_28 : apT Try.prog 28 = some (64, 5, 40) := by kernel_rfl
@[go_sem] theorem ft_apT_29 : apT Try.prog 29 = some (59, 3, 24) := by kernel_rfl
@[go_sem] theorem ft_apT_32 : apT Try.prog 32 = some (41, 2, 32) := by kernel_rfl
@[go_sem] theorem ft_apT_39 : apT Try.prog 39 = some (66, 10, 80) := by kernel_rfl
@[go_sem] theorem ft_apT_53 : apT Try.prog 53 = some (4, 1, 1) := by kernel_rfl
@[go_sem] theorem ft_apT_88 : apT Try.prog 88 = some (3, 1, 8) := by kernel_rfl
@[go_sem] theorem ft_arS_97 : arS Try.prog 97 = some (2, 4) := by kernel_rfl
@[go_sem] theorem ft_bldPl_101 : bldPl Try.prog 101 = some [(0, 1), (1, 1), (2, 3)] := by kernel_rfl
@[go_sem] theorem ft_bldPl_23 : bldPl Try.prog 23 = some [(0, 1), (1, 1)] := by kernel_rfl
@[go_sem] theorem ft_bldPl_31 : bldPl Try.prog 31 = some [(0, 2), (2, 1), (3, 1), (4, 1), (5, 1), (6, 1), (7, 1), (8, 1)] := by kernel_rfl
@[go_sem] theorem ft_bldPl_41 : bldPl Try.prog 41 = some [(0, 1), (1, 1)] := by kernel_rfl
@[go_sem] theorem ft_bldPl_59 : bldPl Try.prog 59 = some [(0, 1), (1, 1), (2, 1)] := by kernel_rfl
@[go_sem] theorem ft_bldPl_66 : bldPl Try.prog 66 = some [(0, 1), (1, 3), (4, 1), (5, 5)] := by kernel_rfl
@[go_sem] theorem ft_bldPl_68 : bldPl Try.prog 68 = some [(0, 1), (1, 10)] := by kernel_rfl
@[go_sem] theorem ft_bldPl_96 : bldPl Try.prog 96 = some [(0, 1), (1, 1), (2, 1), (3, 1)] := by kernel_rfl
@[go_sem] theorem ft_boolT_4 : boolT Try.prog 4 = true := by kernel_rfl
@[go_sem] theorem ft_cvT_3_3 : cvT Try.prog 3 3 = some .i64 := by kernel_rfl
@[go_sem] theorem ft_elS_119 : elS Try.prog 119 = some 9 := by kernel_rfl
@[go_sem] theorem ft_elS_134 : elS Try.prog 134 = some 1 := by kernel_rfl
@[go_sem] theorem ft_elS_24 : elS Try.prog 24 = some 11 := by kernel_rfl
@[go_sem] theorem ft_elS_25 : elS Try.prog 25 = some 1 := by kernel_rfl
@[go_sem] theorem ft_elS_26 : elS Try.prog 26 = some 11 := by kernel_rfl
@[go_sem] theorem ft_elS_27 : elS Try.prog 27 = some 5 := by kernel_rfl
@[go_sem] theorem ft_elS_28 : elS Try.prog 28 = some 5 := by kernel_rfl
@[go_sem] theorem ft_elS_29 : elS Try.prog 29 = some 3 := by kernel_rfl
@[go_sem] theorem ft_elS_32 : elS Try.prog 32 = some 2 := by kernel_rfl
@[go_sem] theorem ft_elS_39 : elS Try.prog 39 = some 10 := by kernel_rfl
@[go_sem] theorem ft_elS_53 : elS Try.prog 53 = some 1 := by kernel_rfl
@[go_sem] theorem ft_elS_88 : elS Try.prog 88 = some 1 := by kernel_rfl
@[go_sem] theorem ft_eqT_101 : eqT Try.prog 101 = some [some .b, some .i, some .i, some .i, some .i] := by kernel_rfl
@[go_sem] theorem ft_eqT_23 : eqT Try.prog 23 = some [some .i, some .i] := by kernel_rfl
@[go_sem] theorem ft_eqT_59 : eqT Try.prog 59 = some [some .i, some .i, some .i] := by kernel_rfl
@[go_sem] theorem ft_eqT_64 : eqT Try.prog 64 = some [some .i, some .i, some .i, some .i, some .i] := by kernel_rfl
@[go_sem] theorem ft_eqT_66 : eqT Try.prog 66 = some [some .i, some .i, some .i, some .i, some .i, some .i, some .i, some .i, some .i, some .i] := by kernel_rfl
@[go_sem] theorem ft_eqT_68 : eqT Try.prog 68 = some [some .i, some .i, some .i, some .i, some .i, some .i, some .i, some .i, some .i, some .i, some .i] := by kernel_rfl
@[go_sem] theorem ft_eqT_96 : eqT Try.prog 96 = some [some .i, some .i, some .i, some .i] := by kernel_rfl
@[go_sem] theorem ft_eqT_99 : eqT Try.prog 99 = some [some .i, some .i, some .i, some .i, some .i, some .i, some .i, some .i, some .i, some .i, some .i] := by kernel_rfl
@[go_sem] theorem ft_fldO_101_0 : fldO Try.prog 101 0 = some 0 := by kernel_rfl
@[go_sem] theorem ft_fldO_101_1 : fldO Try.prog 101 1 = some 1 := by kernel_rfl
@[go_sem] theorem ft_fldO_101_2 : fldO Try.prog 101 2 = some 2 := by kernel_rfl
@[go_sem] theorem ft_fldO_23_0 : fldO Try.prog 23 0 = some 0 := by kernel_rfl
@[go_sem] theorem ft_fldO_23_1 : fldO Try.prog 23 1 = some 1 := by kernel_rfl
@[go_sem] theorem ft_fldO_31_0 : fldO Try.prog 31 0 = some 0 := by kernel_rfl
@[go_sem] theorem ft_fldO_31_1 : fldO Try.prog 31 1 = some 2 := by kernel_rfl
@[go_sem] theorem ft_fldO_31_2 : fldO Try.prog 31 2 = some 3 := by kernel_rfl
@[go_sem] theorem ft_fldO_31_3 : fldO Try.prog 31 3 = some 4 := by kernel_rfl
@[go_sem] theorem ft_fldO_31_4 : fldO Try.prog 31 4 = some 5 := by kernel_rfl
@[go_sem] theorem ft_fldO_31_5 : fldO Try.prog 31 5 = some 6 := by kernel_rfl
@[go_sem] theorem ft_fldO_31_6 : fldO Try.prog 31 6 = some 7 := by kernel_rfl
@[go_sem] theorem ft_fldO_31_7 : fldO Try.prog 31 7 = some 8 := by kernel_rfl
@[go_sem] theorem ft_fldO_41_0 : fldO Try.prog 41 0 = some 0 := by kernel_rfl
@[go_sem] theorem ft_fldO_41_1 : fldO Try.prog 41 1 = some 1 := by kernel_rfl
@[go_sem] theorem ft_fldO_59_1 : fldO Try.prog 59 1 = some 1 := by kernel_rfl
@[go_sem] theorem ft_fldO_61_0 : fldO Try.prog 61 0 = some 0 := by kernel_rfl
@[go_sem] theorem ft_fldO_61_1 : fldO Try.prog 61 1 = some 1 := by kernel_rfl
@[go_sem] theorem ft_fldO_64_1 : fldO Try.prog 64 1 = some 1 := by kernel_rfl
@[go_sem] theorem ft_fldO_66_0 : fldO Try.prog 66 0 = some 0 := by kernel_rfl
@[go_sem] theorem ft_fldO_66_1 : fldO Try.prog 66 1 = some 1 := by kernel_rfl
@[go_sem] theorem ft_fldO_66_2 : fldO Try.prog 66 2 = some 4 := by kernel_rfl
@[go_sem] theorem ft_fldO_66_3 : fldO Try.prog 66 3 = some 5 := by kernel_rfl
@[go_sem] theorem ft_fldO_68_0 : fldO Try.prog 68 0 = some 0 := by kernel_rfl
@[go_sem] theorem ft_fldO_68_1 : fldO Try.prog 68 1 = some 1 := by kernel_rfl
@[go_sem] theorem ft_fldO_96_0 : fldO Try.prog 96 0 = some 0 := by kernel_rfl
@[go_sem] theorem ft_fldO_96_1 : fldO Try.prog 96 1 = some 1 := by kernel_rfl
@[go_sem] theorem ft_fldO_96_2 : fldO Try.prog 96 2 = some 2 := by kernel_rfl
@[go_sem] theorem ft_fldO_96_3 : fldO Try.prog 96 3 = some 3 := by kernel_rfl
@[go_sem] theorem ft_fldO_99_0 : fldO Try.prog 99 0 = some 0 := by kernel_rfl
@[go_sem] theorem ft_fldO_99_1 : fldO Try.prog 99 1 = some 1 := by kernel_rfl
@[go_sem] theorem ft_fldO_99_2 : fldO Try.prog 99 2 = some 3 := by kernel_rfl
@[go_sem] theorem ft_ldT_101 : ldT Try.prog 101 = some (some 5) := by kernel_rfl
@[go_sem] theorem ft_ldT_2 : ldT Try.prog 2 = some (none) := by kernel_rfl
@[go_sem] theorem ft_ldT_23 : ldT Try.prog 23 = some (some 2) := by kernel_rfl
@[go_sem] theorem ft_ldT_24 : ldT Try.prog 24 = some (none) := by kernel_rfl
@[go_sem] theorem ft_ldT_25 : ldT Try.prog 25 = some (none) := by kernel_rfl
@[go_sem] theorem ft_ldT_26 : ldT Try.prog 26 = some (none) := by kernel_rfl
@[go_sem] theorem ft_ldT_27 : ldT Try.prog 27 = some (none) := by kernel_rfl
@[go_sem] theorem ft_ldT_28 : ldT Try.prog 28 = some (none) := by kernel_rfl
@[go_sem] theorem ft_ldT_29 : ldT Try.prog 29 = some (none) := by kernel_rfl
@[go_sem] theorem ft_ldT_3 : ldT Try.prog 3 = some (none) := by kernel_rfl
@[go_sem] theorem ft_ldT_31 : ldT Try.prog 31 = some (some 9) := by kernel_rfl
@[go_sem] theorem ft_ldT_32 : ldT Try.prog 32 = some (none) := by kernel_rfl
@[go_sem] theorem ft_ldT_39 : ldT Try.prog 39 = some (none) := by kernel_rfl
@[go_sem] theorem ft_ldT_4 : ldT Try.prog 4 = some (none) := by kernel_rfl
@[go_sem] theorem ft_ldT_41 : ldT Try.prog 41 = some (some 2) := by kernel_rfl
@[go_sem] theorem ft_ldT_5 : ldT Try.prog 5 = some (none) := by kernel_rfl
@[go_sem] theorem ft_ldT_59 : ldT Try.prog 59 = some (some 3) := by kernel_rfl
@[go_sem] theorem ft_ldT_61 : ldT Try.prog 61 = some (some 2) := by kernel_rfl
@[go_sem] theorem ft_ldT_64 : ldT Try.prog 64 = some (some 5) := by kernel_rfl
@[go_sem] theorem ft_ldT_66 : ldT Try.prog 66 = some (some 10) := by kernel_rfl
@[go_sem] theorem ft_ldT_68 : ldT Try.prog 68 = some (some 11) := by kernel_rfl
@[go_sem] theorem ft_ldT_96 : ldT Try.prog 96 = some (some 4) := by kernel_rfl
@[go_sem] theorem ft_ldT_99 : ldT Try.prog 99 = some (some 11) := by kernel_rfl
@[go_sem] theorem ft_szT_101 : szT Try.prog 101 = some 5 := by kernel_rfl
@[go_sem] theorem ft_szT_2 : szT Try.prog 2 = some 1 := by kernel_rfl
@[go_sem] theorem ft_szT_24 : szT Try.prog 24 = some 1 := by kernel_rfl
@[go_sem] theorem ft_szT_25 : szT Try.prog 25 = some 1 := by kernel_rfl
@[go_sem] theorem ft_szT_26 : szT Try.prog 26 = some 1 := by kernel_rfl
@[go_sem] theorem ft_szT_27 : szT Try.prog 27 = some 1 := by kernel_rfl
@[go_sem] theorem ft_szT_28 : szT Try.prog 28 = some 1 := by kernel_rfl
@[go_sem] theorem ft_szT_29 : szT Try.prog 29 = some 1 := by kernel_rfl
@[go_sem] theorem ft_szT_3 : szT Try.prog 3 = some 1 := by kernel_rfl
@[go_sem] theorem ft_szT_31 : szT Try.prog 31 = some 9 := by kernel_rfl
@[go_sem] theorem ft_szT_39 : szT Try.prog 39 = some 1 := by kernel_rfl
@[go_sem] theorem ft_szT_4 : szT Try.prog 4 = some 1 := by kernel_rfl
@[go_sem] theorem ft_szT_41 : szT Try.prog 41 = some 2 := by kernel_rfl
@[go_sem] theorem ft_szT_59 : szT Try.prog 59 = some 3 := by kernel_rfl
@[go_sem] theorem ft_szT_61 : szT Try.prog 61 = some 2 := by kernel_rfl
@[go_sem] theorem ft_szT_64 : szT Try.prog 64 = some 5 := by kernel_rfl
@[go_sem] theorem ft_szT_66 : szT Try.prog 66 = some 10 := by kernel_rfl
@[go_sem] theorem ft_szT_68 : szT Try.prog 68 = some 11 := by kernel_rfl
@[go_sem] theorem ft_szT_99 : szT Try.prog 99 = some 11 := by kernel_rfl
@[go_sem] theorem ft_zeroL_101 : zeroL Try.prog 101 = some [.bool false, .int .i64 0, .int .i64 0, .int .i64 0, .int .i64 0] := by kernel_rfl
@[go_sem] theorem ft_zeroL_2 : zeroL Try.prog 2 = some [.int .i64 0] := by kernel_rfl
@[go_sem] theorem ft_zeroL_23 : zeroL Try.prog 23 = some [.int .u8 0, .int .i64 0] := by kernel_rfl
@[go_sem] theorem ft_zeroL_31 : zeroL Try.prog 31 = some [.int .u8 0, .int .i64 0, .int .i64 0, .slice none 0 0, .slice none 0 0, .slice none 0 0, .slice none 0 0, .slice none 0 0, .slice none 0 0] := by kernel_rfl
@[go_sem] theorem ft_zeroL_4 : zeroL Try.prog 4 = some [.bool false] := by kernel_rfl
@[go_sem] theorem ft_zeroL_41 : zeroL Try.prog 41 = some [.int .i64 0, .slice none 0 0] := by kernel_rfl
@[go_sem] theorem ft_zeroL_59 : zeroL Try.prog 59 = some [.int .i64 0, .int .i64 0, .int .i64 0] := by kernel_rfl
@[go_sem] theorem ft_zeroL_61 : zeroL Try.prog 61 = some [.int .i64 0, .int .i64 0] := by kernel_rfl
@[go_sem] theorem ft_zeroL_64 : zeroL Try.prog 64 = some [.int .i64 0, .int .i64 0, .int .i64 0, .int .i64 0, .int .i64 0] := by kernel_rfl
@[go_sem] theorem ft_zeroL_66 : zeroL Try.prog 66 = some [.int .u8 0, .int .i64 0, .int .i64 0, .int .i64 0, .int .i64 0, .int .i64 0, .int .i64 0, .int .i64 0, .int .i64 0, .int .i64 0] := by kernel_rfl
@[go_sem] theorem ft_zeroL_68 : zeroL Try.prog 68 = some [.int .i64 0, .int .u8 0, .int .i64 0, .int .i64 0, .int .i64 0, .int .i64 0, .int .i64 0, .int .i64 0, .int .i64 0, .int .i64 0, .int .i64 0] := by kernel_rfl
@[go_sem] theorem ft_zeroL_96 : zeroL Try.prog 96 = some [.int .i64 0, .int .i64 0, .int .i64 0, .int .i64 0] := by kernel_rfl
@[go_sem] theorem ft_zeroL_99 : zeroL Try.prog 99 = some [.int .i64 0, .int .i64 0, .int .i64 0, .int .i64 0, .int .i64 0, .int .i64 0, .int .i64 0, .int .i64 0, .int .i64 0, .int .i64 0, .int .i64 0] := by kernel_rfl
end Go.Proofs.Ytlpmgkillalhbaa
