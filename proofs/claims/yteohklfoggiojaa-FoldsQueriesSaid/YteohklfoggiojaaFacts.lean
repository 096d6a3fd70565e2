/- Closed facts on the types of this seat's program, printed by a program; each is met by the kernel's own run. -/
import Derived.Test.YteohklfoggiojaaAbsD
import Derived.Test.YteohklfoggiojaaProg
import Derived.KernelRfl
namespace Go.Proofs.Yteohklfoggiojaa
open Go.AL
theorem mo_fact : Try.prog.follows .mixedOrders = true := by kernel_rfl
@[go_sem] theorem ft_apT_108 : apT Try.prog 108 = some (107, 1, 8) := by kernel_rfl
@[go_sem] theorem ft_apT_22 : apT Try.prog 22 = some (50, 5, 40) := by kernel_rfl
@[go_sem] theorem ft_apT_57 : apT Try.prog 57 = some (22, 1, 24) := by kernel_rfl
@[go_sem] theorem ft_apT_59 : apT Try.prog 59 = some (3, 1, 8) := by kernel_rfl
@[go_sem] theorem ft_apT_75 : apT Try.prog 75 = some (2, 1, 8) := by kernel_rfl
@[go_sem] theorem ft_apT_77 : apT Try.prog 77 = some (4, 1, 1) := by kernel_rfl
@[go_sem] theorem ft_apT_80 : apT Try.prog 80 = some (85, 2, 32) := by kernel_rfl
@[go_sem] theorem ft_apT_97 : apT Try.prog 97 = some (104, 3, 24) := by kernel_rfl
@[go_sem] theorem ft_arS_122 : arS Try.prog 122 = some (5, 1) := by kernel_rfl
@[go_sem] theorem ft_arS_125 : arS Try.prog 125 = some (2, 1) := by kernel_rfl
@[go_sem] theorem ft_bldPl_104 : bldPl Try.prog 104 = some [(0, 1), (1, 1), (2, 1)] := by kernel_rfl
@[go_sem] theorem ft_bldPl_113 : bldPl Try.prog 113 = some [(0, 1), (1, 1)] := by kernel_rfl
@[go_sem] theorem ft_bldPl_122 : bldPl Try.prog 122 = some [(0, 1), (1, 1), (2, 1), (3, 1), (4, 1)] := by kernel_rfl
@[go_sem] theorem ft_bldPl_125 : bldPl Try.prog 125 = some [(0, 1), (1, 1)] := by kernel_rfl
@[go_sem] theorem ft_bldPl_35 : bldPl Try.prog 35 = some [(0, 1), (1, 1), (2, 1)] := by kernel_rfl
@[go_sem] theorem ft_bldPl_50 : bldPl Try.prog 50 = some [(0, 1), (1, 1), (2, 1), (3, 1), (4, 1)] := by kernel_rfl
@[go_sem] theorem ft_bldPl_61 : bldPl Try.prog 61 = some [(0, 1), (1, 1), (2, 1)] := by kernel_rfl
@[go_sem] theorem ft_bldPl_63 : bldPl Try.prog 63 = some [(0, 1), (1, 1), (2, 1), (3, 1), (4, 1), (5, 3), (8, 1), (9, 1)] := by kernel_rfl
@[go_sem] theorem ft_bldPl_85 : bldPl Try.prog 85 = some [(0, 1), (1, 1)] := by kernel_rfl
@[go_sem] theorem ft_boolT_4 : boolT Try.prog 4 = true := by kernel_rfl
@[go_sem] theorem ft_cvT_148_3 : cvT Try.prog 148 3 = some .i64 := by kernel_rfl
@[go_sem] theorem ft_cvT_2_148 : cvT Try.prog 2 148 = some .u64 := by kernel_rfl
@[go_sem] theorem ft_elS_108 : elS Try.prog 108 = some 1 := by kernel_rfl
@[go_sem] theorem ft_elS_135 : elS Try.prog 135 = some 2 := by kernel_rfl
@[go_sem] theorem ft_elS_22 : elS Try.prog 22 = some 5 := by kernel_rfl
@[go_sem] theorem ft_elS_57 : elS Try.prog 57 = some 1 := by kernel_rfl
@[go_sem] theorem ft_elS_59 : elS Try.prog 59 = some 1 := by kernel_rfl
@[go_sem] theorem ft_elS_75 : elS Try.prog 75 = some 1 := by kernel_rfl
@[go_sem] theorem ft_elS_77 : elS Try.prog 77 = some 1 := by kernel_rfl
@[go_sem] theorem ft_elS_80 : elS Try.prog 80 = some 2 := by kernel_rfl
@[go_sem] theorem ft_elS_97 : elS Try.prog 97 = some 3 := by kernel_rfl
@[go_sem] theorem ft_eqT_50 : eqT Try.prog 50 = some [some .i, some .i, some .i, some .i, some .i] := by kernel_rfl
@[go_sem] theorem ft_eqT_61 : eqT Try.prog 61 = some [some .i, some .i, some .i] := by kernel_rfl
@[go_sem] theorem ft_fldO_104_0 : fldO Try.prog 104 0 = some 0 := by kernel_rfl
@[go_sem] theorem ft_fldO_104_1 : fldO Try.prog 104 1 = some 1 := by kernel_rfl
@[go_sem] theorem ft_fldO_104_2 : fldO Try.prog 104 2 = some 2 := by kernel_rfl
@[go_sem] theorem ft_fldO_113_0 : fldO Try.prog 113 0 = some 0 := by kernel_rfl
@[go_sem] theorem ft_fldO_113_1 : fldO Try.prog 113 1 = some 1 := by kernel_rfl
@[go_sem] theorem ft_fldO_35_0 : fldO Try.prog 35 0 = some 0 := by kernel_rfl
@[go_sem] theorem ft_fldO_35_1 : fldO Try.prog 35 1 = some 1 := by kernel_rfl
@[go_sem] theorem ft_fldO_35_2 : fldO Try.prog 35 2 = some 2 := by kernel_rfl
@[go_sem] theorem ft_fldO_50_0 : fldO Try.prog 50 0 = some 0 := by kernel_rfl
@[go_sem] theorem ft_fldO_50_1 : fldO Try.prog 50 1 = some 1 := by kernel_rfl
@[go_sem] theorem ft_fldO_50_2 : fldO Try.prog 50 2 = some 2 := by kernel_rfl
@[go_sem] theorem ft_fldO_50_3 : fldO Try.prog 50 3 = some 3 := by kernel_rfl
@[go_sem] theorem ft_fldO_50_4 : fldO Try.prog 50 4 = some 4 := by kernel_rfl
@[go_sem] theorem ft_fldO_61_0 : fldO Try.prog 61 0 = some 0 := by kernel_rfl
@[go_sem] theorem ft_fldO_61_1 : fldO Try.prog 61 1 = some 1 := by kernel_rfl
@[go_sem] theorem ft_fldO_61_2 : fldO Try.prog 61 2 = some 2 := by kernel_rfl
@[go_sem] theorem ft_fldO_63_0 : fldO Try.prog 63 0 = some 0 := by kernel_rfl
@[go_sem] theorem ft_fldO_63_1 : fldO Try.prog 63 1 = some 1 := by kernel_rfl
@[go_sem] theorem ft_fldO_63_2 : fldO Try.prog 63 2 = some 2 := by kernel_rfl
@[go_sem] theorem ft_fldO_63_3 : fldO Try.prog 63 3 = some 3 := by kernel_rfl
@[go_sem] theorem ft_fldO_63_4 : fldO Try.prog 63 4 = some 4 := by kernel_rfl
@[go_sem] theorem ft_fldO_63_5 : fldO Try.prog 63 5 = some 5 := by kernel_rfl
@[go_sem] theorem ft_fldO_63_6 : fldO Try.prog 63 6 = some 8 := by kernel_rfl
@[go_sem] theorem ft_fldO_63_7 : fldO Try.prog 63 7 = some 9 := by kernel_rfl
@[go_sem] theorem ft_fldO_85_0 : fldO Try.prog 85 0 = some 0 := by kernel_rfl
@[go_sem] theorem ft_fldO_85_1 : fldO Try.prog 85 1 = some 1 := by kernel_rfl
@[go_sem] theorem ft_ldT_104 : ldT Try.prog 104 = some (some 3) := by kernel_rfl
@[go_sem] theorem ft_ldT_107 : ldT Try.prog 107 = some (none) := by kernel_rfl
@[go_sem] theorem ft_ldT_113 : ldT Try.prog 113 = some (some 2) := by kernel_rfl
@[go_sem] theorem ft_ldT_2 : ldT Try.prog 2 = some (none) := by kernel_rfl
@[go_sem] theorem ft_ldT_22 : ldT Try.prog 22 = some (none) := by kernel_rfl
@[go_sem] theorem ft_ldT_24 : ldT Try.prog 24 = some (none) := by kernel_rfl
@[go_sem] theorem ft_ldT_3 : ldT Try.prog 3 = some (none) := by kernel_rfl
@[go_sem] theorem ft_ldT_35 : ldT Try.prog 35 = some (some 3) := by kernel_rfl
@[go_sem] theorem ft_ldT_4 : ldT Try.prog 4 = some (none) := by kernel_rfl
@[go_sem] theorem ft_ldT_5 : ldT Try.prog 5 = some (none) := by kernel_rfl
@[go_sem] theorem ft_ldT_50 : ldT Try.prog 50 = some (some 5) := by kernel_rfl
@[go_sem] theorem ft_ldT_53 : ldT Try.prog 53 = some (none) := by kernel_rfl
@[go_sem] theorem ft_ldT_59 : ldT Try.prog 59 = some (none) := by kernel_rfl
@[go_sem] theorem ft_ldT_61 : ldT Try.prog 61 = some (some 3) := by kernel_rfl
@[go_sem] theorem ft_ldT_63 : ldT Try.prog 63 = some (some 10) := by kernel_rfl
@[go_sem] theorem ft_ldT_77 : ldT Try.prog 77 = some (none) := by kernel_rfl
@[go_sem] theorem ft_ldT_80 : ldT Try.prog 80 = some (none) := by kernel_rfl
@[go_sem] theorem ft_ldT_85 : ldT Try.prog 85 = some (some 2) := by kernel_rfl
@[go_sem] theorem ft_ldT_86 : ldT Try.prog 86 = some (none) := by kernel_rfl
@[go_sem] theorem ft_szT_104 : szT Try.prog 104 = some 3 := by kernel_rfl
@[go_sem] theorem ft_szT_113 : szT Try.prog 113 = some 2 := by kernel_rfl
@[go_sem] theorem ft_szT_122 : szT Try.prog 122 = some 5 := by kernel_rfl
@[go_sem] theorem ft_szT_125 : szT Try.prog 125 = some 2 := by kernel_rfl
@[go_sem] theorem ft_szT_2 : szT Try.prog 2 = some 1 := by kernel_rfl
@[go_sem] theorem ft_szT_22 : szT Try.prog 22 = some 1 := by kernel_rfl
@[go_sem] theorem ft_szT_24 : szT Try.prog 24 = some 1 := by kernel_rfl
@[go_sem] theorem ft_szT_3 : szT Try.prog 3 = some 1 := by kernel_rfl
@[go_sem] theorem ft_szT_5 : szT Try.prog 5 = some 1 := by kernel_rfl
@[go_sem] theorem ft_szT_50 : szT Try.prog 50 = some 5 := by kernel_rfl
@[go_sem] theorem ft_szT_59 : szT Try.prog 59 = some 1 := by kernel_rfl
@[go_sem] theorem ft_szT_63 : szT Try.prog 63 = some 10 := by kernel_rfl
@[go_sem] theorem ft_szT_77 : szT Try.prog 77 = some 1 := by kernel_rfl
@[go_sem] theorem ft_szT_80 : szT Try.prog 80 = some 1 := by kernel_rfl
@[go_sem] theorem ft_szT_85 : szT Try.prog 85 = some 2 := by kernel_rfl
@[go_sem] theorem ft_zeroL_104 : zeroL Try.prog 104 = some [.int .i64 0, .int .i64 0, .int .i64 0] := by kernel_rfl
@[go_sem] theorem ft_zeroL_122 : zeroL Try.prog 122 = some [.int .i64 0, .int .i64 0, .int .i64 0, .int .i64 0, .int .i64 0] := by kernel_rfl
@[go_sem] theorem ft_zeroL_125 : zeroL Try.prog 125 = some [.bool false, .bool false] := by kernel_rfl
@[go_sem] theorem ft_zeroL_2 : zeroL Try.prog 2 = some [.int .i64 0] := by kernel_rfl
@[go_sem] theorem ft_zeroL_22 : zeroL Try.prog 22 = some [.slice none 0 0] := by kernel_rfl
@[go_sem] theorem ft_zeroL_24 : zeroL Try.prog 24 = some [.int .i64 0] := by kernel_rfl
@[go_sem] theorem ft_zeroL_35 : zeroL Try.prog 35 = some [.int .i64 0, .int .i64 0, .int .i64 0] := by kernel_rfl
@[go_sem] theorem ft_zeroL_50 : zeroL Try.prog 50 = some [.int .u8 0, .int .i64 0, .int .i64 0, .int .i64 0, .int .i64 0] := by kernel_rfl
@[go_sem] theorem ft_zeroL_61 : zeroL Try.prog 61 = some [.int .u8 0, .int .i64 0, .int .i64 0] := by kernel_rfl
@[go_sem] theorem ft_zeroL_63 : zeroL Try.prog 63 = some [.int .u8 0, .slice none 0 0, .slice none 0 0, .bool false, .slice none 0 0, .int .u8 0, .int .i64 0, .int .i64 0, .bool false, .int .u8 0] := by kernel_rfl
@[go_sem] theorem ft_zeroL_77 : zeroL Try.prog 77 = some [.slice none 0 0] := by kernel_rfl
@[go_sem] theorem ft_zeroL_80 : zeroL Try.prog 80 = some [.slice none 0 0] := by kernel_rfl
@[go_sem] theorem ft_zeroL_85 : zeroL Try.prog 85 = some [.slice none 0 0, .bool false] := by kernel_rfl
end Go.Proofs.Yteohklfoggiojaa
