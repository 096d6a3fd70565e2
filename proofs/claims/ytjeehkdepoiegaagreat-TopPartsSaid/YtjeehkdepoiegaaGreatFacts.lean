/- Closed facts on the types of this seat's program, printed by a program; each is met by the kernel's own run. -/
import Derived.Test.YtjeehkdepoiegaaGreatAbsD
import Derived.Test.YtjeehkdepoiegaaGreatProg
import Derived.KernelRfl
namespace Go.Proofs.YtjeehkdepoiegaaGreat
open Go.AL
theorem mo_fact : Tryz.prog.follows .mixedOrders = true := by kernel_rfl
@[go_sem] theorem ft_apT_131 : apT Tryz.prog 131 = some (51, 1, 24) := by kernel_rfl
@[go_sem] theorem ft_apT_164 : apT Tryz.prog 164 = some (176, 3, 24) := by kernel_rfl
@[go_sem] theorem ft_apT_170 : apT Tryz.prog 170 = some (4, 1, 1) := by kernel_rfl
@[go_sem] theorem ft_apT_23 : apT Tryz.prog 23 = some (3, 1, 8) := by kernel_rfl
@[go_sem] theorem ft_apT_28 : apT Tryz.prog 28 = some (72, 5, 40) := by kernel_rfl
@[go_sem] theorem ft_apT_33 : apT Tryz.prog 33 = some (79, 11, 88) := by kernel_rfl
@[go_sem] theorem ft_apT_34 : apT Tryz.prog 34 = some (2, 1, 8) := by kernel_rfl
@[go_sem] theorem ft_apT_35 : apT Tryz.prog 35 = some (112, 11, 88) := by kernel_rfl
@[go_sem] theorem ft_apT_36 : apT Tryz.prog 36 = some (60, 5, 40) := by kernel_rfl
@[go_sem] theorem ft_apT_37 : apT Tryz.prog 37 = some (55, 3, 24) := by kernel_rfl
@[go_sem] theorem ft_apT_43 : apT Tryz.prog 43 = some (62, 10, 80) := by kernel_rfl
@[go_sem] theorem ft_apT_51 : apT Tryz.prog 51 = some (47, 2, 32) := by kernel_rfl
@[go_sem] theorem ft_arS_110 : arS Tryz.prog 110 = some (2, 4) := by kernel_rfl
@[go_sem] theorem ft_arS_148 : arS Tryz.prog 148 = some (5, 1) := by kernel_rfl
@[go_sem] theorem ft_arS_180 : arS Tryz.prog 180 = some (2, 1) := by kernel_rfl
@[go_sem] theorem ft_bldPl_109 : bldPl Tryz.prog 109 = some [(0, 1), (1, 1), (2, 1), (3, 1)] := by kernel_rfl
@[go_sem] theorem ft_bldPl_126 : bldPl Tryz.prog 126 = some [(0, 1), (1, 1), (2, 1), (3, 1), (4, 1)] := by kernel_rfl
@[go_sem] theorem ft_bldPl_146 : bldPl Tryz.prog 146 = some [(0, 1), (1, 1)] := by kernel_rfl
@[go_sem] theorem ft_bldPl_148 : bldPl Tryz.prog 148 = some [(0, 1), (1, 1), (2, 1), (3, 1), (4, 1)] := by kernel_rfl
@[go_sem] theorem ft_bldPl_176 : bldPl Tryz.prog 176 = some [(0, 1), (1, 1), (2, 1)] := by kernel_rfl
@[go_sem] theorem ft_bldPl_180 : bldPl Tryz.prog 180 = some [(0, 1), (1, 1)] := by kernel_rfl
@[go_sem] theorem ft_bldPl_32 : bldPl Tryz.prog 32 = some [(0, 1), (1, 1)] := by kernel_rfl
@[go_sem] theorem ft_bldPl_39 : bldPl Tryz.prog 39 = some [(0, 2), (2, 1), (3, 1), (4, 1), (5, 1), (6, 1), (7, 1), (8, 1)] := by kernel_rfl
@[go_sem] theorem ft_bldPl_47 : bldPl Tryz.prog 47 = some [(0, 1), (1, 1)] := by kernel_rfl
@[go_sem] theorem ft_bldPl_55 : bldPl Tryz.prog 55 = some [(0, 1), (1, 1), (2, 1)] := by kernel_rfl
@[go_sem] theorem ft_bldPl_62 : bldPl Tryz.prog 62 = some [(0, 1), (1, 3), (4, 1), (5, 5)] := by kernel_rfl
@[go_sem] theorem ft_bldPl_79 : bldPl Tryz.prog 79 = some [(0, 1), (1, 10)] := by kernel_rfl
@[go_sem] theorem ft_boolT_4 : boolT Tryz.prog 4 = true := by kernel_rfl
@[go_sem] theorem ft_cvT_3_3 : cvT Tryz.prog 3 3 = some .i64 := by kernel_rfl
@[go_sem] theorem ft_elS_131 : elS Tryz.prog 131 = some 1 := by kernel_rfl
@[go_sem] theorem ft_elS_158 : elS Tryz.prog 158 = some 2 := by kernel_rfl
@[go_sem] theorem ft_elS_164 : elS Tryz.prog 164 = some 3 := by kernel_rfl
@[go_sem] theorem ft_elS_170 : elS Tryz.prog 170 = some 1 := by kernel_rfl
@[go_sem] theorem ft_elS_22 : elS Tryz.prog 22 = some 5 := by kernel_rfl
@[go_sem] theorem ft_elS_23 : elS Tryz.prog 23 = some 1 := by kernel_rfl
@[go_sem] theorem ft_elS_28 : elS Tryz.prog 28 = some 5 := by kernel_rfl
@[go_sem] theorem ft_elS_33 : elS Tryz.prog 33 = some 11 := by kernel_rfl
@[go_sem] theorem ft_elS_34 : elS Tryz.prog 34 = some 1 := by kernel_rfl
@[go_sem] theorem ft_elS_35 : elS Tryz.prog 35 = some 11 := by kernel_rfl
@[go_sem] theorem ft_elS_36 : elS Tryz.prog 36 = some 5 := by kernel_rfl
@[go_sem] theorem ft_elS_37 : elS Tryz.prog 37 = some 3 := by kernel_rfl
@[go_sem] theorem ft_elS_43 : elS Tryz.prog 43 = some 10 := by kernel_rfl
@[go_sem] theorem ft_elS_51 : elS Tryz.prog 51 = some 2 := by kernel_rfl
@[go_sem] theorem ft_eqT_109 : eqT Tryz.prog 109 = some [some .i, some .i, some .i, some .i] := by kernel_rfl
@[go_sem] theorem ft_eqT_126 : eqT Tryz.prog 126 = some [some .i, some .i, some .i, some .i, some .i] := by kernel_rfl
@[go_sem] theorem ft_eqT_55 : eqT Tryz.prog 55 = some [some .i, some .i, some .i] := by kernel_rfl
@[go_sem] theorem ft_eqT_62 : eqT Tryz.prog 62 = some [some .i, some .i, some .i, some .i, some .i, some .i, some .i, some .i, some .i, some .i] := by kernel_rfl
@[go_sem] theorem ft_fldO_109_0 : fldO Tryz.prog 109 0 = some 0 := by kernel_rfl
@[go_sem] theorem ft_fldO_109_1 : fldO Tryz.prog 109 1 = some 1 := by kernel_rfl
@[go_sem] theorem ft_fldO_109_2 : fldO Tryz.prog 109 2 = some 2 := by kernel_rfl
@[go_sem] theorem ft_fldO_109_3 : fldO Tryz.prog 109 3 = some 3 := by kernel_rfl
@[go_sem] theorem ft_fldO_112_0 : fldO Tryz.prog 112 0 = some 0 := by kernel_rfl
@[go_sem] theorem ft_fldO_112_1 : fldO Tryz.prog 112 1 = some 1 := by kernel_rfl
@[go_sem] theorem ft_fldO_112_2 : fldO Tryz.prog 112 2 = some 3 := by kernel_rfl
@[go_sem] theorem ft_fldO_126_0 : fldO Tryz.prog 126 0 = some 0 := by kernel_rfl
@[go_sem] theorem ft_fldO_126_1 : fldO Tryz.prog 126 1 = some 1 := by kernel_rfl
@[go_sem] theorem ft_fldO_126_2 : fldO Tryz.prog 126 2 = some 2 := by kernel_rfl
@[go_sem] theorem ft_fldO_126_3 : fldO Tryz.prog 126 3 = some 3 := by kernel_rfl
@[go_sem] theorem ft_fldO_126_4 : fldO Tryz.prog 126 4 = some 4 := by kernel_rfl
@[go_sem] theorem ft_fldO_146_0 : fldO Tryz.prog 146 0 = some 0 := by kernel_rfl
@[go_sem] theorem ft_fldO_146_1 : fldO Tryz.prog 146 1 = some 1 := by kernel_rfl
@[go_sem] theorem ft_fldO_176_0 : fldO Tryz.prog 176 0 = some 0 := by kernel_rfl
@[go_sem] theorem ft_fldO_176_1 : fldO Tryz.prog 176 1 = some 1 := by kernel_rfl
@[go_sem] theorem ft_fldO_176_2 : fldO Tryz.prog 176 2 = some 2 := by kernel_rfl
@[go_sem] theorem ft_fldO_25_0 : fldO Tryz.prog 25 0 = some 0 := by kernel_rfl
@[go_sem] theorem ft_fldO_25_1 : fldO Tryz.prog 25 1 = some 1 := by kernel_rfl
@[go_sem] theorem ft_fldO_25_2 : fldO Tryz.prog 25 2 = some 2 := by kernel_rfl
@[go_sem] theorem ft_fldO_27_0 : fldO Tryz.prog 27 0 = some 0 := by kernel_rfl
@[go_sem] theorem ft_fldO_27_1 : fldO Tryz.prog 27 1 = some 1 := by kernel_rfl
@[go_sem] theorem ft_fldO_27_2 : fldO Tryz.prog 27 2 = some 2 := by kernel_rfl
@[go_sem] theorem ft_fldO_27_3 : fldO Tryz.prog 27 3 = some 3 := by kernel_rfl
@[go_sem] theorem ft_fldO_27_4 : fldO Tryz.prog 27 4 = some 4 := by kernel_rfl
@[go_sem] theorem ft_fldO_27_5 : fldO Tryz.prog 27 5 = some 5 := by kernel_rfl
@[go_sem] theorem ft_fldO_27_6 : fldO Tryz.prog 27 6 = some 8 := by kernel_rfl
@[go_sem] theorem ft_fldO_27_7 : fldO Tryz.prog 27 7 = some 9 := by kernel_rfl
@[go_sem] theorem ft_fldO_32_0 : fldO Tryz.prog 32 0 = some 0 := by kernel_rfl
@[go_sem] theorem ft_fldO_32_1 : fldO Tryz.prog 32 1 = some 1 := by kernel_rfl
@[go_sem] theorem ft_fldO_39_0 : fldO Tryz.prog 39 0 = some 0 := by kernel_rfl
@[go_sem] theorem ft_fldO_39_1 : fldO Tryz.prog 39 1 = some 2 := by kernel_rfl
@[go_sem] theorem ft_fldO_39_2 : fldO Tryz.prog 39 2 = some 3 := by kernel_rfl
@[go_sem] theorem ft_fldO_39_3 : fldO Tryz.prog 39 3 = some 4 := by kernel_rfl
@[go_sem] theorem ft_fldO_39_4 : fldO Tryz.prog 39 4 = some 5 := by kernel_rfl
@[go_sem] theorem ft_fldO_39_5 : fldO Tryz.prog 39 5 = some 6 := by kernel_rfl
@[go_sem] theorem ft_fldO_39_6 : fldO Tryz.prog 39 6 = some 7 := by kernel_rfl
@[go_sem] theorem ft_fldO_39_7 : fldO Tryz.prog 39 7 = some 8 := by kernel_rfl
@[go_sem] theorem ft_fldO_47_0 : fldO Tryz.prog 47 0 = some 0 := by kernel_rfl
@[go_sem] theorem ft_fldO_47_1 : fldO Tryz.prog 47 1 = some 1 := by kernel_rfl
@[go_sem] theorem ft_fldO_55_0 : fldO Tryz.prog 55 0 = some 0 := by kernel_rfl
@[go_sem] theorem ft_fldO_55_1 : fldO Tryz.prog 55 1 = some 1 := by kernel_rfl
@[go_sem] theorem ft_fldO_55_2 : fldO Tryz.prog 55 2 = some 2 := by kernel_rfl
@[go_sem] theorem ft_fldO_57_0 : fldO Tryz.prog 57 0 = some 0 := by kernel_rfl
@[go_sem] theorem ft_fldO_57_1 : fldO Tryz.prog 57 1 = some 1 := by kernel_rfl
@[go_sem] theorem ft_fldO_60_1 : fldO Tryz.prog 60 1 = some 1 := by kernel_rfl
@[go_sem] theorem ft_fldO_62_0 : fldO Tryz.prog 62 0 = some 0 := by kernel_rfl
@[go_sem] theorem ft_fldO_62_1 : fldO Tryz.prog 62 1 = some 1 := by kernel_rfl
@[go_sem] theorem ft_fldO_62_2 : fldO Tryz.prog 62 2 = some 4 := by kernel_rfl
@[go_sem] theorem ft_fldO_62_3 : fldO Tryz.prog 62 3 = some 5 := by kernel_rfl
@[go_sem] theorem ft_fldO_72_0 : fldO Tryz.prog 72 0 = some 0 := by kernel_rfl
@[go_sem] theorem ft_fldO_72_1 : fldO Tryz.prog 72 1 = some 1 := by kernel_rfl
@[go_sem] theorem ft_fldO_72_2 : fldO Tryz.prog 72 2 = some 2 := by kernel_rfl
@[go_sem] theorem ft_fldO_79_0 : fldO Tryz.prog 79 0 = some 0 := by kernel_rfl
@[go_sem] theorem ft_fldO_79_1 : fldO Tryz.prog 79 1 = some 1 := by kernel_rfl
@[go_sem] theorem ft_ldT_109 : ldT Tryz.prog 109 = some (some 4) := by kernel_rfl
@[go_sem] theorem ft_ldT_112 : ldT Tryz.prog 112 = some (some 11) := by kernel_rfl
@[go_sem] theorem ft_ldT_126 : ldT Tryz.prog 126 = some (some 5) := by kernel_rfl
@[go_sem] theorem ft_ldT_144 : ldT Tryz.prog 144 = some (none) := by kernel_rfl
@[go_sem] theorem ft_ldT_146 : ldT Tryz.prog 146 = some (some 2) := by kernel_rfl
@[go_sem] theorem ft_ldT_170 : ldT Tryz.prog 170 = some (none) := by kernel_rfl
@[go_sem] theorem ft_ldT_176 : ldT Tryz.prog 176 = some (some 3) := by kernel_rfl
@[go_sem] theorem ft_ldT_2 : ldT Tryz.prog 2 = some (none) := by kernel_rfl
@[go_sem] theorem ft_ldT_22 : ldT Tryz.prog 22 = some (none) := by kernel_rfl
@[go_sem] theorem ft_ldT_23 : ldT Tryz.prog 23 = some (none) := by kernel_rfl
@[go_sem] theorem ft_ldT_25 : ldT Tryz.prog 25 = some (some 3) := by kernel_rfl
@[go_sem] theorem ft_ldT_27 : ldT Tryz.prog 27 = some (some 10) := by kernel_rfl
@[go_sem] theorem ft_ldT_28 : ldT Tryz.prog 28 = some (none) := by kernel_rfl
@[go_sem] theorem ft_ldT_3 : ldT Tryz.prog 3 = some (none) := by kernel_rfl
@[go_sem] theorem ft_ldT_33 : ldT Tryz.prog 33 = some (none) := by kernel_rfl
@[go_sem] theorem ft_ldT_34 : ldT Tryz.prog 34 = some (none) := by kernel_rfl
@[go_sem] theorem ft_ldT_35 : ldT Tryz.prog 35 = some (none) := by kernel_rfl
@[go_sem] theorem ft_ldT_36 : ldT Tryz.prog 36 = some (none) := by kernel_rfl
@[go_sem] theorem ft_ldT_37 : ldT Tryz.prog 37 = some (none) := by kernel_rfl
@[go_sem] theorem ft_ldT_39 : ldT Tryz.prog 39 = some (some 9) := by kernel_rfl
@[go_sem] theorem ft_ldT_4 : ldT Tryz.prog 4 = some (none) := by kernel_rfl
@[go_sem] theorem ft_ldT_43 : ldT Tryz.prog 43 = some (none) := by kernel_rfl
@[go_sem] theorem ft_ldT_47 : ldT Tryz.prog 47 = some (some 2) := by kernel_rfl
@[go_sem] theorem ft_ldT_5 : ldT Tryz.prog 5 = some (none) := by kernel_rfl
@[go_sem] theorem ft_ldT_51 : ldT Tryz.prog 51 = some (none) := by kernel_rfl
@[go_sem] theorem ft_ldT_55 : ldT Tryz.prog 55 = some (some 3) := by kernel_rfl
@[go_sem] theorem ft_ldT_57 : ldT Tryz.prog 57 = some (some 2) := by kernel_rfl
@[go_sem] theorem ft_ldT_60 : ldT Tryz.prog 60 = some (some 5) := by kernel_rfl
@[go_sem] theorem ft_ldT_62 : ldT Tryz.prog 62 = some (some 10) := by kernel_rfl
@[go_sem] theorem ft_ldT_72 : ldT Tryz.prog 72 = some (some 5) := by kernel_rfl
@[go_sem] theorem ft_ldT_79 : ldT Tryz.prog 79 = some (some 11) := by kernel_rfl
@[go_sem] theorem ft_szT_112 : szT Tryz.prog 112 = some 11 := by kernel_rfl
@[go_sem] theorem ft_szT_126 : szT Tryz.prog 126 = some 5 := by kernel_rfl
@[go_sem] theorem ft_szT_146 : szT Tryz.prog 146 = some 2 := by kernel_rfl
@[go_sem] theorem ft_szT_148 : szT Tryz.prog 148 = some 5 := by kernel_rfl
@[go_sem] theorem ft_szT_170 : szT Tryz.prog 170 = some 1 := by kernel_rfl
@[go_sem] theorem ft_szT_176 : szT Tryz.prog 176 = some 3 := by kernel_rfl
@[go_sem] theorem ft_szT_180 : szT Tryz.prog 180 = some 2 := by kernel_rfl
@[go_sem] theorem ft_szT_2 : szT Tryz.prog 2 = some 1 := by kernel_rfl
@[go_sem] theorem ft_szT_28 : szT Tryz.prog 28 = some 1 := by kernel_rfl
@[go_sem] theorem ft_szT_3 : szT Tryz.prog 3 = some 1 := by kernel_rfl
@[go_sem] theorem ft_szT_33 : szT Tryz.prog 33 = some 1 := by kernel_rfl
@[go_sem] theorem ft_szT_34 : szT Tryz.prog 34 = some 1 := by kernel_rfl
@[go_sem] theorem ft_szT_35 : szT Tryz.prog 35 = some 1 := by kernel_rfl
@[go_sem] theorem ft_szT_36 : szT Tryz.prog 36 = some 1 := by kernel_rfl
@[go_sem] theorem ft_szT_37 : szT Tryz.prog 37 = some 1 := by kernel_rfl
@[go_sem] theorem ft_szT_39 : szT Tryz.prog 39 = some 9 := by kernel_rfl
@[go_sem] theorem ft_szT_43 : szT Tryz.prog 43 = some 1 := by kernel_rfl
@[go_sem] theorem ft_szT_47 : szT Tryz.prog 47 = some 2 := by kernel_rfl
@[go_sem] theorem ft_szT_55 : szT Tryz.prog 55 = some 3 := by kernel_rfl
@[go_sem] theorem ft_szT_57 : szT Tryz.prog 57 = some 2 := by kernel_rfl
@[go_sem] theorem ft_szT_60 : szT Tryz.prog 60 = some 5 := by kernel_rfl
@[go_sem] theorem ft_szT_62 : szT Tryz.prog 62 = some 10 := by kernel_rfl
@[go_sem] theorem ft_szT_72 : szT Tryz.prog 72 = some 5 := by kernel_rfl
@[go_sem] theorem ft_szT_79 : szT Tryz.prog 79 = some 11 := by kernel_rfl
@[go_sem] theorem ft_zeroL_109 : zeroL Tryz.prog 109 = some [.int .i64 0, .int .i64 0, .int .i64 0, .int .i64 0] := by kernel_rfl
@[go_sem] theorem ft_zeroL_112 : zeroL Tryz.prog 112 = some [.int .i64 0, .int .i64 0, .int .i64 0, .int .i64 0, .int .i64 0, .int .i64 0, .int .i64 0, .int .i64 0, .int .i64 0, .int .i64 0, .int .i64 0] := by kernel_rfl
@[go_sem] theorem ft_zeroL_126 : zeroL Tryz.prog 126 = some [.int .u8 0, .int .i64 0, .int .i64 0, .int .i64 0, .int .i64 0] := by kernel_rfl
@[go_sem] theorem ft_zeroL_148 : zeroL Tryz.prog 148 = some [.int .i64 0, .int .i64 0, .int .i64 0, .int .i64 0, .int .i64 0] := by kernel_rfl
@[go_sem] theorem ft_zeroL_170 : zeroL Tryz.prog 170 = some [.slice none 0 0] := by kernel_rfl
@[go_sem] theorem ft_zeroL_176 : zeroL Tryz.prog 176 = some [.int .i64 0, .int .i64 0, .int .i64 0] := by kernel_rfl
@[go_sem] theorem ft_zeroL_180 : zeroL Tryz.prog 180 = some [.bool false, .bool false] := by kernel_rfl
@[go_sem] theorem ft_zeroL_2 : zeroL Tryz.prog 2 = some [.int .i64 0] := by kernel_rfl
@[go_sem] theorem ft_zeroL_3 : zeroL Tryz.prog 3 = some [.int .i64 0] := by kernel_rfl
@[go_sem] theorem ft_zeroL_32 : zeroL Tryz.prog 32 = some [.int .u8 0, .int .i64 0] := by kernel_rfl
@[go_sem] theorem ft_zeroL_39 : zeroL Tryz.prog 39 = some [.int .u8 0, .int .i64 0, .int .i64 0, .slice none 0 0, .slice none 0 0, .slice none 0 0, .slice none 0 0, .slice none 0 0, .slice none 0 0] := by kernel_rfl
@[go_sem] theorem ft_zeroL_43 : zeroL Tryz.prog 43 = some [.slice none 0 0] := by kernel_rfl
@[go_sem] theorem ft_zeroL_47 : zeroL Tryz.prog 47 = some [.int .i64 0, .slice none 0 0] := by kernel_rfl
@[go_sem] theorem ft_zeroL_55 : zeroL Tryz.prog 55 = some [.int .i64 0, .int .i64 0, .int .i64 0] := by kernel_rfl
@[go_sem] theorem ft_zeroL_57 : zeroL Tryz.prog 57 = some [.int .i64 0, .int .i64 0] := by kernel_rfl
@[go_sem] theorem ft_zeroL_60 : zeroL Tryz.prog 60 = some [.int .i64 0, .int .i64 0, .int .i64 0, .int .i64 0, .int .i64 0] := by kernel_rfl
@[go_sem] theorem ft_zeroL_62 : zeroL Tryz.prog 62 = some [.int .u8 0, .int .i64 0, .int .i64 0, .int .i64 0, .int .i64 0, .int .i64 0, .int .i64 0, .int .i64 0, .int .i64 0, .int .i64 0] := by kernel_rfl
@[go_sem] theorem ft_zeroL_72 : zeroL Tryz.prog 72 = some [.bool false, .int .i64 0, .int .i64 0, .int .i64 0, .int .i64 0] := by kernel_rfl
@[go_sem] theorem ft_zeroL_79 : zeroL Tryz.prog 79 = some [.int .i64 0, .int .u8 0, .int .i64 0, .int .i64 0, .int .i64 0, .int .i64 0, .int .i64 0, .int .i64 0, .int .i64 0, .int .i64 0, .int .i64 0] := by kernel_rfl
end Go.Proofs.YtjeehkdepoiegaaGreat
