/- Closed facts on the types of this seat's program, printed by a program; each is met by the kernel's own run. -/
import Derived.Test.YtfmnjgjfkfppkaaAbsD
import Derived.Test.YtfmnjgjfkfppkaaProg
import Derived.KernelRfl
namespace Go.Proofs.Ytfmnjgjfkfppkaa
open Go.AL
theorem mo_fact : Try.prog.follows .mixedOrders = true := by kernel_rfl
@[go_sem] theorem ft_apT_133 : apT Try.prog 133 = some (146, 3, 24) := by kernel_rfl
@[go_sem] theorem ft_apT_149 : apT Try.prog 149 = some (4, 1, 1) := by kernel_rfl
@[go_sem] theorem ft_apT_23 : apT Try.prog 23 = some (3, 1, 8) := by kernel_rfl
@[go_sem] theorem ft_apT_33 : apT Try.prog 33 = some (56, 11, 88) := by kernel_rfl
@[go_sem] theorem ft_apT_34 : apT Try.prog 34 = some (2, 1, 8) := by kernel_rfl
@[go_sem] theorem ft_apT_35 : apT Try.prog 35 = some (88, 11, 88) := by kernel_rfl
@[go_sem] theorem ft_apT_36 : apT Try.prog 36 = some (82, 5, 40) := by kernel_rfl
@[go_sem] theorem ft_apT_37 : apT Try.prog 37 = some (51, 5, 40) := by kernel_rfl
@[go_sem] theorem ft_apT_38 : apT Try.prog 38 = some (46, 3, 24) := by kernel_rfl
@[go_sem] theorem ft_arS_128 : arS Try.prog 128 = some (5, 1) := by kernel_rfl
@[go_sem] theorem ft_arS_156 : arS Try.prog 156 = some (2, 1) := by kernel_rfl
@[go_sem] theorem ft_arS_86 : arS Try.prog 86 = some (2, 4) := by kernel_rfl
@[go_sem] theorem ft_bldPl_104 : bldPl Try.prog 104 = some [(0, 1), (1, 1)] := by kernel_rfl
@[go_sem] theorem ft_bldPl_128 : bldPl Try.prog 128 = some [(0, 1), (1, 1), (2, 1), (3, 1), (4, 1)] := by kernel_rfl
@[go_sem] theorem ft_bldPl_146 : bldPl Try.prog 146 = some [(0, 1), (1, 1), (2, 1)] := by kernel_rfl
@[go_sem] theorem ft_bldPl_156 : bldPl Try.prog 156 = some [(0, 1), (1, 1)] := by kernel_rfl
@[go_sem] theorem ft_bldPl_25 : bldPl Try.prog 25 = some [(0, 1), (1, 1), (2, 1)] := by kernel_rfl
@[go_sem] theorem ft_bldPl_27 : bldPl Try.prog 27 = some [(0, 1), (1, 1), (2, 1), (3, 1), (4, 1), (5, 3), (8, 1), (9, 1)] := by kernel_rfl
@[go_sem] theorem ft_bldPl_32 : bldPl Try.prog 32 = some [(0, 1), (1, 1)] := by kernel_rfl
@[go_sem] theorem ft_bldPl_40 : bldPl Try.prog 40 = some [(0, 2), (2, 1), (3, 1), (4, 1), (5, 1), (6, 1), (7, 1), (8, 1)] := by kernel_rfl
@[go_sem] theorem ft_bldPl_46 : bldPl Try.prog 46 = some [(0, 1), (1, 1), (2, 1)] := by kernel_rfl
@[go_sem] theorem ft_bldPl_53 : bldPl Try.prog 53 = some [(0, 1), (1, 3), (4, 1), (5, 5)] := by kernel_rfl
@[go_sem] theorem ft_bldPl_56 : bldPl Try.prog 56 = some [(0, 1), (1, 10)] := by kernel_rfl
@[go_sem] theorem ft_bldPl_85 : bldPl Try.prog 85 = some [(0, 1), (1, 1), (2, 1), (3, 1)] := by kernel_rfl
@[go_sem] theorem ft_bldPl_99 : bldPl Try.prog 99 = some [(0, 1), (1, 1), (2, 1), (3, 1), (4, 1)] := by kernel_rfl
@[go_sem] theorem ft_boolT_4 : boolT Try.prog 4 = true := by kernel_rfl
@[go_sem] theorem ft_elS_123 : elS Try.prog 123 = some 2 := by kernel_rfl
@[go_sem] theorem ft_elS_133 : elS Try.prog 133 = some 3 := by kernel_rfl
@[go_sem] theorem ft_elS_149 : elS Try.prog 149 = some 1 := by kernel_rfl
@[go_sem] theorem ft_elS_22 : elS Try.prog 22 = some 5 := by kernel_rfl
@[go_sem] theorem ft_elS_23 : elS Try.prog 23 = some 1 := by kernel_rfl
@[go_sem] theorem ft_elS_28 : elS Try.prog 28 = some 10 := by kernel_rfl
@[go_sem] theorem ft_elS_33 : elS Try.prog 33 = some 11 := by kernel_rfl
@[go_sem] theorem ft_elS_34 : elS Try.prog 34 = some 1 := by kernel_rfl
@[go_sem] theorem ft_elS_35 : elS Try.prog 35 = some 11 := by kernel_rfl
@[go_sem] theorem ft_elS_36 : elS Try.prog 36 = some 5 := by kernel_rfl
@[go_sem] theorem ft_elS_37 : elS Try.prog 37 = some 5 := by kernel_rfl
@[go_sem] theorem ft_elS_38 : elS Try.prog 38 = some 3 := by kernel_rfl
@[go_sem] theorem ft_eqT_46 : eqT Try.prog 46 = some [some .i, some .i, some .i] := by kernel_rfl
@[go_sem] theorem ft_eqT_53 : eqT Try.prog 53 = some [some .i, some .i, some .i, some .i, some .i, some .i, some .i, some .i, some .i, some .i] := by kernel_rfl
@[go_sem] theorem ft_eqT_56 : eqT Try.prog 56 = some [some .i, some .i, some .i, some .i, some .i, some .i, some .i, some .i, some .i, some .i, some .i] := by kernel_rfl
@[go_sem] theorem ft_eqT_85 : eqT Try.prog 85 = some [some .i, some .i, some .i, some .i] := by kernel_rfl
@[go_sem] theorem ft_eqT_99 : eqT Try.prog 99 = some [some .i, some .i, some .i, some .i, some .i] := by kernel_rfl
@[go_sem] theorem ft_fldO_104_0 : fldO Try.prog 104 0 = some 0 := by kernel_rfl
@[go_sem] theorem ft_fldO_104_1 : fldO Try.prog 104 1 = some 1 := by kernel_rfl
@[go_sem] theorem ft_fldO_146_0 : fldO Try.prog 146 0 = some 0 := by kernel_rfl
@[go_sem] theorem ft_fldO_146_1 : fldO Try.prog 146 1 = some 1 := by kernel_rfl
@[go_sem] theorem ft_fldO_146_2 : fldO Try.prog 146 2 = some 2 := by kernel_rfl
@[go_sem] theorem ft_fldO_25_0 : fldO Try.prog 25 0 = some 0 := by kernel_rfl
@[go_sem] theorem ft_fldO_25_1 : fldO Try.prog 25 1 = some 1 := by kernel_rfl
@[go_sem] theorem ft_fldO_25_2 : fldO Try.prog 25 2 = some 2 := by kernel_rfl
@[go_sem] theorem ft_fldO_27_0 : fldO Try.prog 27 0 = some 0 := by kernel_rfl
@[go_sem] theorem ft_fldO_27_1 : fldO Try.prog 27 1 = some 1 := by kernel_rfl
@[go_sem] theorem ft_fldO_27_2 : fldO Try.prog 27 2 = some 2 := by kernel_rfl
@[go_sem] theorem ft_fldO_27_3 : fldO Try.prog 27 3 = some 3 := by kernel_rfl
@[go_sem] theorem ft_fldO_27_4 : fldO Try.prog 27 4 = some 4 := by kernel_rfl
@[go_sem] theorem ft_fldO_27_5 : fldO Try.prog 27 5 = some 5 := by kernel_rfl
@[go_sem] theorem ft_fldO_27_6 : fldO Try.prog 27 6 = some 8 := by kernel_rfl
@[go_sem] theorem ft_fldO_27_7 : fldO Try.prog 27 7 = some 9 := by kernel_rfl
@[go_sem] theorem ft_fldO_32_0 : fldO Try.prog 32 0 = some 0 := by kernel_rfl
@[go_sem] theorem ft_fldO_32_1 : fldO Try.prog 32 1 = some 1 := by kernel_rfl
@[go_sem] theorem ft_fldO_40_0 : fldO Try.prog 40 0 = some 0 := by kernel_rfl
@[go_sem] theorem ft_fldO_40_1 : fldO Try.prog 40 1 = some 2 := by kernel_rfl
@[go_sem] theorem ft_fldO_40_2 : fldO Try.prog 40 2 = some 3 := by kernel_rfl
@[go_sem] theorem ft_fldO_40_3 : fldO Try.prog 40 3 = some 4 := by kernel_rfl
@[go_sem] theorem ft_fldO_40_4 : fldO Try.prog 40 4 = some 5 := by kernel_rfl
@[go_sem] theorem ft_fldO_40_5 : fldO Try.prog 40 5 = some 6 := by kernel_rfl
@[go_sem] theorem ft_fldO_40_6 : fldO Try.prog 40 6 = some 7 := by kernel_rfl
@[go_sem] theorem ft_fldO_40_7 : fldO Try.prog 40 7 = some 8 := by kernel_rfl
@[go_sem] theorem ft_fldO_46_0 : fldO Try.prog 46 0 = some 0 := by kernel_rfl
@[go_sem] theorem ft_fldO_46_1 : fldO Try.prog 46 1 = some 1 := by kernel_rfl
@[go_sem] theorem ft_fldO_46_2 : fldO Try.prog 46 2 = some 2 := by kernel_rfl
@[go_sem] theorem ft_fldO_48_0 : fldO Try.prog 48 0 = some 0 := by kernel_rfl
@[go_sem] theorem ft_fldO_48_1 : fldO Try.prog 48 1 = some 1 := by kernel_rfl
@[go_sem] theorem ft_fldO_51_1 : fldO Try.prog 51 1 = some 1 := by kernel_rfl
@[go_sem] theorem ft_fldO_53_0 : fldO Try.prog 53 0 = some 0 := by kernel_rfl
@[go_sem] theorem ft_fldO_53_1 : fldO Try.prog 53 1 = some 1 := by kernel_rfl
@[go_sem] theorem ft_fldO_53_2 : fldO Try.prog 53 2 = some 4 := by kernel_rfl
@[go_sem] theorem ft_fldO_53_3 : fldO Try.prog 53 3 = some 5 := by kernel_rfl
@[go_sem] theorem ft_fldO_56_0 : fldO Try.prog 56 0 = some 0 := by kernel_rfl
@[go_sem] theorem ft_fldO_56_1 : fldO Try.prog 56 1 = some 1 := by kernel_rfl
@[go_sem] theorem ft_fldO_82_0 : fldO Try.prog 82 0 = some 0 := by kernel_rfl
@[go_sem] theorem ft_fldO_82_1 : fldO Try.prog 82 1 = some 1 := by kernel_rfl
@[go_sem] theorem ft_fldO_82_2 : fldO Try.prog 82 2 = some 2 := by kernel_rfl
@[go_sem] theorem ft_fldO_85_0 : fldO Try.prog 85 0 = some 0 := by kernel_rfl
@[go_sem] theorem ft_fldO_85_1 : fldO Try.prog 85 1 = some 1 := by kernel_rfl
@[go_sem] theorem ft_fldO_85_2 : fldO Try.prog 85 2 = some 2 := by kernel_rfl
@[go_sem] theorem ft_fldO_85_3 : fldO Try.prog 85 3 = some 3 := by kernel_rfl
@[go_sem] theorem ft_fldO_88_0 : fldO Try.prog 88 0 = some 0 := by kernel_rfl
@[go_sem] theorem ft_fldO_88_1 : fldO Try.prog 88 1 = some 1 := by kernel_rfl
@[go_sem] theorem ft_fldO_88_2 : fldO Try.prog 88 2 = some 3 := by kernel_rfl
@[go_sem] theorem ft_fldO_99_0 : fldO Try.prog 99 0 = some 0 := by kernel_rfl
@[go_sem] theorem ft_fldO_99_1 : fldO Try.prog 99 1 = some 1 := by kernel_rfl
@[go_sem] theorem ft_fldO_99_2 : fldO Try.prog 99 2 = some 2 := by kernel_rfl
@[go_sem] theorem ft_fldO_99_3 : fldO Try.prog 99 3 = some 3 := by kernel_rfl
@[go_sem] theorem ft_fldO_99_4 : fldO Try.prog 99 4 = some 4 := by kernel_rfl
@[go_sem] theorem ft_ldT_102 : ldT Try.prog 102 = some (none) := by kernel_rfl
@[go_sem] theorem ft_ldT_104 : ldT Try.prog 104 = some (some 2) := by kernel_rfl
@[go_sem] theorem ft_ldT_146 : ldT Try.prog 146 = some (some 3) := by kernel_rfl
@[go_sem] theorem ft_ldT_149 : ldT Try.prog 149 = some (none) := by kernel_rfl
@[go_sem] theorem ft_ldT_2 : ldT Try.prog 2 = some (none) := by kernel_rfl
@[go_sem] theorem ft_ldT_22 : ldT Try.prog 22 = some (none) := by kernel_rfl
@[go_sem] theorem ft_ldT_23 : ldT Try.prog 23 = some (none) := by kernel_rfl
@[go_sem] theorem ft_ldT_25 : ldT Try.prog 25 = some (some 3) := by kernel_rfl
@[go_sem] theorem ft_ldT_27 : ldT Try.prog 27 = some (some 10) := by kernel_rfl
@[go_sem] theorem ft_ldT_3 : ldT Try.prog 3 = some (none) := by kernel_rfl
@[go_sem] theorem ft_ldT_33 : ldT Try.prog 33 = some (none) := by kernel_rfl
@[go_sem] theorem ft_ldT_34 : ldT Try.prog 34 = some (none) := by kernel_rfl
@[go_sem] theorem ft_ldT_35 : ldT Try.prog 35 = some (none) := by kernel_rfl
@[go_sem] theorem ft_ldT_36 : ldT Try.prog 36 = some (none) := by kernel_rfl
@[go_sem] theorem ft_ldT_37 : ldT Try.prog 37 = some (none) := by kernel_rfl
@[go_sem] theorem ft_ldT_38 : ldT Try.prog 38 = some (none) := by kernel_rfl
@[go_sem] theorem ft_ldT_4 : ldT Try.prog 4 = some (none) := by kernel_rfl
@[go_sem] theorem ft_ldT_40 : ldT Try.prog 40 = some (some 9) := by kernel_rfl
@[go_sem] theorem ft_ldT_46 : ldT Try.prog 46 = some (some 3) := by kernel_rfl
@[go_sem] theorem ft_ldT_48 : ldT Try.prog 48 = some (some 2) := by kernel_rfl
@[go_sem] theorem ft_ldT_5 : ldT Try.prog 5 = some (none) := by kernel_rfl
@[go_sem] theorem ft_ldT_51 : ldT Try.prog 51 = some (some 5) := by kernel_rfl
@[go_sem] theorem ft_ldT_53 : ldT Try.prog 53 = some (some 10) := by kernel_rfl
@[go_sem] theorem ft_ldT_56 : ldT Try.prog 56 = some (some 11) := by kernel_rfl
@[go_sem] theorem ft_ldT_82 : ldT Try.prog 82 = some (some 5) := by kernel_rfl
@[go_sem] theorem ft_ldT_85 : ldT Try.prog 85 = some (some 4) := by kernel_rfl
@[go_sem] theorem ft_ldT_88 : ldT Try.prog 88 = some (some 11) := by kernel_rfl
@[go_sem] theorem ft_ldT_99 : ldT Try.prog 99 = some (some 5) := by kernel_rfl
@[go_sem] theorem ft_szT_104 : szT Try.prog 104 = some 2 := by kernel_rfl
@[go_sem] theorem ft_szT_128 : szT Try.prog 128 = some 5 := by kernel_rfl
@[go_sem] theorem ft_szT_146 : szT Try.prog 146 = some 3 := by kernel_rfl
@[go_sem] theorem ft_szT_149 : szT Try.prog 149 = some 1 := by kernel_rfl
@[go_sem] theorem ft_szT_156 : szT Try.prog 156 = some 2 := by kernel_rfl
@[go_sem] theorem ft_szT_2 : szT Try.prog 2 = some 1 := by kernel_rfl
@[go_sem] theorem ft_szT_27 : szT Try.prog 27 = some 10 := by kernel_rfl
@[go_sem] theorem ft_szT_3 : szT Try.prog 3 = some 1 := by kernel_rfl
@[go_sem] theorem ft_szT_33 : szT Try.prog 33 = some 1 := by kernel_rfl
@[go_sem] theorem ft_szT_34 : szT Try.prog 34 = some 1 := by kernel_rfl
@[go_sem] theorem ft_szT_35 : szT Try.prog 35 = some 1 := by kernel_rfl
@[go_sem] theorem ft_szT_36 : szT Try.prog 36 = some 1 := by kernel_rfl
@[go_sem] theorem ft_szT_37 : szT Try.prog 37 = some 1 := by kernel_rfl
@[go_sem] theorem ft_szT_38 : szT Try.prog 38 = some 1 := by kernel_rfl
@[go_sem] theorem ft_szT_40 : szT Try.prog 40 = some 9 := by kernel_rfl
@[go_sem] theorem ft_szT_46 : szT Try.prog 46 = some 3 := by kernel_rfl
@[go_sem] theorem ft_szT_48 : szT Try.prog 48 = some 2 := by kernel_rfl
@[go_sem] theorem ft_szT_51 : szT Try.prog 51 = some 5 := by kernel_rfl
@[go_sem] theorem ft_szT_53 : szT Try.prog 53 = some 10 := by kernel_rfl
@[go_sem] theorem ft_szT_56 : szT Try.prog 56 = some 11 := by kernel_rfl
@[go_sem] theorem ft_szT_82 : szT Try.prog 82 = some 5 := by kernel_rfl
@[go_sem] theorem ft_szT_88 : szT Try.prog 88 = some 11 := by kernel_rfl
@[go_sem] theorem ft_szT_99 : szT Try.prog 99 = some 5 := by kernel_rfl
@[go_sem] theorem ft_zeroL_128 : zeroL Try.prog 128 = some [.int .i64 0, .int .i64 0, .int .i64 0, .int .i64 0, .int .i64 0] := by kernel_rfl
@[go_sem] theorem ft_zeroL_146 : zeroL Try.prog 146 = some [.int .i64 0, .int .i64 0, .int .i64 0] := by kernel_rfl
@[go_sem] theorem ft_zeroL_149 : zeroL Try.prog 149 = some [.slice none 0 0] := by kernel_rfl
@[go_sem] theorem ft_zeroL_156 : zeroL Try.prog 156 = some [.bool false, .bool false] := by kernel_rfl
@[go_sem] theorem ft_zeroL_2 : zeroL Try.prog 2 = some [.int .i64 0] := by kernel_rfl
@[go_sem] theorem ft_zeroL_25 : zeroL Try.prog 25 = some [.int .u8 0, .int .i64 0, .int .i64 0] := by kernel_rfl
@[go_sem] theorem ft_zeroL_27 : zeroL Try.prog 27 = some [.int .u8 0, .slice none 0 0, .slice none 0 0, .bool false, .slice none 0 0, .int .u8 0, .int .i64 0, .int .i64 0, .bool false, .int .u8 0] := by kernel_rfl
@[go_sem] theorem ft_zeroL_32 : zeroL Try.prog 32 = some [.int .u8 0, .int .i64 0] := by kernel_rfl
@[go_sem] theorem ft_zeroL_40 : zeroL Try.prog 40 = some [.int .u8 0, .int .i64 0, .int .i64 0, .slice none 0 0, .slice none 0 0, .slice none 0 0, .slice none 0 0, .slice none 0 0, .slice none 0 0] := by kernel_rfl
@[go_sem] theorem ft_zeroL_46 : zeroL Try.prog 46 = some [.int .i64 0, .int .i64 0, .int .i64 0] := by kernel_rfl
@[go_sem] theorem ft_zeroL_48 : zeroL Try.prog 48 = some [.int .i64 0, .int .i64 0] := by kernel_rfl
@[go_sem] theorem ft_zeroL_51 : zeroL Try.prog 51 = some [.int .i64 0, .int .i64 0, .int .i64 0, .int .i64 0, .int .i64 0] := by kernel_rfl
@[go_sem] theorem ft_zeroL_53 : zeroL Try.prog 53 = some [.int .u8 0, .int .i64 0, .int .i64 0, .int .i64 0, .int .i64 0, .int .i64 0, .int .i64 0, .int .i64 0, .int .i64 0, .int .i64 0] := by kernel_rfl
@[go_sem] theorem ft_zeroL_56 : zeroL Try.prog 56 = some [.int .i64 0, .int .u8 0, .int .i64 0, .int .i64 0, .int .i64 0, .int .i64 0, .int .i64 0, .int .i64 0, .int .i64 0, .int .i64 0, .int .i64 0] := by kernel_rfl
@[go_sem] theorem ft_zeroL_82 : zeroL Try.prog 82 = some [.bool false, .int .i64 0, .int .i64 0, .int .i64 0, .int .i64 0] := by kernel_rfl
@[go_sem] theorem ft_zeroL_85 : zeroL Try.prog 85 = some [.int .i64 0, .int .i64 0, .int .i64 0, .int .i64 0] := by kernel_rfl
@[go_sem] theorem ft_zeroL_88 : zeroL Try.prog 88 = some [.int .i64 0, .int .i64 0, .int .i64 0, .int .i64 0, .int .i64 0, .int .i64 0, .int .i64 0, .int .i64 0, .int .i64 0, .int .i64 0, .int .i64 0] := by kernel_rfl
@[go_sem] theorem ft_zeroL_99 : zeroL Try.prog 99 = some [.int .u8 0, .int .i64 0, .int .i64 0, .int .i64 0, .int .i64 0] := by kernel_rfl
end Go.Proofs.Ytfmnjgjfkfppkaa
