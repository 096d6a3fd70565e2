/- Closed facts on the types of this seat's program, printed by a program; each is met by the kernel's own run. -/
import Derived.Test.YtmooelhocanlnaaAbsD
import Derived.Test.YtmooelhocanlnaaProg
import Derived.KernelRfl
namespace Go.Proofs.Ytmooelhocanlnaa
open Go.AL
theorem mo_fact : Try.prog.follows .mixedOrders = true := by kernel_rfl
@[go_sem] theorem ft_apT_146 : apT Try.prog 146 = some (4, 1, 1) := by kernel_rfl
@[go_sem] theorem ft_apT_154 : apT Try.prog 154 = some (165, 3, 24) := by kernel_rfl
@[go_sem] theorem ft_apT_22 : apT Try.prog 22 = some (71, 5, 40) := by kernel_rfl
@[go_sem] theorem ft_apT_23 : apT Try.prog 23 = some (3, 1, 8) := by kernel_rfl
@[go_sem] theorem ft_apT_45 : apT Try.prog 45 = some (67, 11, 88) := by kernel_rfl
@[go_sem] theorem ft_apT_46 : apT Try.prog 46 = some (2, 1, 8) := by kernel_rfl
@[go_sem] theorem ft_apT_47 : apT Try.prog 47 = some (113, 11, 88) := by kernel_rfl
@[go_sem] theorem ft_apT_48 : apT Try.prog 48 = some (107, 5, 40) := by kernel_rfl
@[go_sem] theorem ft_apT_49 : apT Try.prog 49 = some (60, 5, 40) := by kernel_rfl
@[go_sem] theorem ft_apT_50 : apT Try.prog 50 = some (29, 3, 24) := by kernel_rfl
@[go_sem] theorem ft_arS_111 : arS Try.prog 111 = some (2, 4) := by kernel_rfl
@[go_sem] theorem ft_arS_161 : arS Try.prog 161 = some (2, 1) := by kernel_rfl
@[go_sem] theorem ft_arS_95 : arS Try.prog 95 = some (5, 1) := by kernel_rfl
@[go_sem] theorem ft_bldPl_110 : bldPl Try.prog 110 = some [(0, 1), (1, 1), (2, 1), (3, 1)] := by kernel_rfl
@[go_sem] theorem ft_bldPl_119 : bldPl Try.prog 119 = some [(0, 1), (1, 1)] := by kernel_rfl
@[go_sem] theorem ft_bldPl_161 : bldPl Try.prog 161 = some [(0, 1), (1, 1)] := by kernel_rfl
@[go_sem] theorem ft_bldPl_165 : bldPl Try.prog 165 = some [(0, 1), (1, 1), (2, 1)] := by kernel_rfl
@[go_sem] theorem ft_bldPl_25 : bldPl Try.prog 25 = some [(0, 1), (1, 1), (2, 1)] := by kernel_rfl
@[go_sem] theorem ft_bldPl_27 : bldPl Try.prog 27 = some [(0, 1), (1, 1), (2, 1), (3, 1), (4, 1), (5, 3), (8, 1), (9, 1)] := by kernel_rfl
@[go_sem] theorem ft_bldPl_29 : bldPl Try.prog 29 = some [(0, 1), (1, 1), (2, 1)] := by kernel_rfl
@[go_sem] theorem ft_bldPl_44 : bldPl Try.prog 44 = some [(0, 1), (1, 1)] := by kernel_rfl
@[go_sem] theorem ft_bldPl_52 : bldPl Try.prog 52 = some [(0, 2), (2, 1), (3, 1), (4, 1), (5, 1), (6, 1), (7, 1), (8, 1)] := by kernel_rfl
@[go_sem] theorem ft_bldPl_62 : bldPl Try.prog 62 = some [(0, 1), (1, 3), (4, 1), (5, 5)] := by kernel_rfl
@[go_sem] theorem ft_bldPl_67 : bldPl Try.prog 67 = some [(0, 1), (1, 10)] := by kernel_rfl
@[go_sem] theorem ft_bldPl_71 : bldPl Try.prog 71 = some [(0, 1), (1, 1), (2, 1), (3, 1), (4, 1)] := by kernel_rfl
@[go_sem] theorem ft_bldPl_95 : bldPl Try.prog 95 = some [(0, 1), (1, 1), (2, 1), (3, 1), (4, 1)] := by kernel_rfl
@[go_sem] theorem ft_boolT_4 : boolT Try.prog 4 = true := by kernel_rfl
@[go_sem] theorem ft_cvT_150_3 : cvT Try.prog 150 3 = some .i64 := by kernel_rfl
@[go_sem] theorem ft_cvT_2_150 : cvT Try.prog 2 150 = some .u64 := by kernel_rfl
@[go_sem] theorem ft_elS_144 : elS Try.prog 144 = some 2 := by kernel_rfl
@[go_sem] theorem ft_elS_146 : elS Try.prog 146 = some 1 := by kernel_rfl
@[go_sem] theorem ft_elS_154 : elS Try.prog 154 = some 3 := by kernel_rfl
@[go_sem] theorem ft_elS_22 : elS Try.prog 22 = some 5 := by kernel_rfl
@[go_sem] theorem ft_elS_23 : elS Try.prog 23 = some 1 := by kernel_rfl
@[go_sem] theorem ft_elS_45 : elS Try.prog 45 = some 11 := by kernel_rfl
@[go_sem] theorem ft_elS_46 : elS Try.prog 46 = some 1 := by kernel_rfl
@[go_sem] theorem ft_elS_47 : elS Try.prog 47 = some 11 := by kernel_rfl
@[go_sem] theorem ft_elS_48 : elS Try.prog 48 = some 5 := by kernel_rfl
@[go_sem] theorem ft_elS_49 : elS Try.prog 49 = some 5 := by kernel_rfl
@[go_sem] theorem ft_elS_50 : elS Try.prog 50 = some 3 := by kernel_rfl
@[go_sem] theorem ft_elS_73 : elS Try.prog 73 = some 10 := by kernel_rfl
@[go_sem] theorem ft_eqT_110 : eqT Try.prog 110 = some [some .i, some .i, some .i, some .i] := by kernel_rfl
@[go_sem] theorem ft_eqT_29 : eqT Try.prog 29 = some [some .i, some .i, some .i] := by kernel_rfl
@[go_sem] theorem ft_eqT_44 : eqT Try.prog 44 = some [some .i, some .i] := by kernel_rfl
@[go_sem] theorem ft_eqT_62 : eqT Try.prog 62 = some [some .i, some .i, some .i, some .i, some .i, some .i, some .i, some .i, some .i, some .i] := by kernel_rfl
@[go_sem] theorem ft_eqT_67 : eqT Try.prog 67 = some [some .i, some .i, some .i, some .i, some .i, some .i, some .i, some .i, some .i, some .i, some .i] := by kernel_rfl
@[go_sem] theorem ft_eqT_71 : eqT Try.prog 71 = some [some .i, some .i, some .i, some .i, some .i] := by kernel_rfl
@[go_sem] theorem ft_fldO_107_0 : fldO Try.prog 107 0 = some 0 := by kernel_rfl
@[go_sem] theorem ft_fldO_107_1 : fldO Try.prog 107 1 = some 1 := by kernel_rfl
@[go_sem] theorem ft_fldO_107_2 : fldO Try.prog 107 2 = some 2 := by kernel_rfl
@[go_sem] theorem ft_fldO_110_0 : fldO Try.prog 110 0 = some 0 := by kernel_rfl
@[go_sem] theorem ft_fldO_110_1 : fldO Try.prog 110 1 = some 1 := by kernel_rfl
@[go_sem] theorem ft_fldO_110_2 : fldO Try.prog 110 2 = some 2 := by kernel_rfl
@[go_sem] theorem ft_fldO_110_3 : fldO Try.prog 110 3 = some 3 := by kernel_rfl
@[go_sem] theorem ft_fldO_113_0 : fldO Try.prog 113 0 = some 0 := by kernel_rfl
@[go_sem] theorem ft_fldO_113_1 : fldO Try.prog 113 1 = some 1 := by kernel_rfl
@[go_sem] theorem ft_fldO_113_2 : fldO Try.prog 113 2 = some 3 := by kernel_rfl
@[go_sem] theorem ft_fldO_119_0 : fldO Try.prog 119 0 = some 0 := by kernel_rfl
@[go_sem] theorem ft_fldO_119_1 : fldO Try.prog 119 1 = some 1 := by kernel_rfl
@[go_sem] theorem ft_fldO_165_0 : fldO Try.prog 165 0 = some 0 := by kernel_rfl
@[go_sem] theorem ft_fldO_165_1 : fldO Try.prog 165 1 = some 1 := by kernel_rfl
@[go_sem] theorem ft_fldO_165_2 : fldO Try.prog 165 2 = some 2 := by kernel_rfl
@[go_sem] theorem ft_fldO_25_0 : fldO Try.prog 25 0 = some 0 := by kernel_rfl
@[go_sem] theorem ft_fldO_25_1 : fldO Try.prog 25 1 = some 1 := by kernel_rfl
@[go_sem] theorem ft_fldO_25_2 : fldO Try.prog 25 2 = some 2 := by kernel_rfl
@[go_sem] theorem ft_fldO_27_0 : fldO Try.prog 27 0 = some 0 := by kernel_rfl
@[go_sem] theorem ft_fldO_27_1 : fldO Try.prog 27 1 = some 1 := by kernel_rfl
@[go_sem] theorem ft_fldO_27_2 : fldO Try.prog 27 2 = some 2 := by kernel_rfl
@[go_sem] theorem ft_fldO_27_3 : fldO Try.prog 27 3 = some 3 := by kernel_rfl
@[go_sem] theorem ft_fldO_27_4 : fldO Try.prog 27 4 = some 4 := by kernel_rfl
@[go_sem] theorem ft_fldO_27_5 : fldO Try.prog 27 5 = some 5 := by kernel_rfl
@[go_sem] theorem ft_fldO_27_6 : fldO Try.prog 27 6 = some 8 := by kernel_rfl
@[go_sem] theorem ft_fldO_27_7 : fldO Try.prog 27 7 = some 9 := by kernel_rfl
@[go_sem] theorem ft_fldO_29_0 : fldO Try.prog 29 0 = some 0 := by kernel_rfl
@[go_sem] theorem ft_fldO_29_1 : fldO Try.prog 29 1 = some 1 := by kernel_rfl
@[go_sem] theorem ft_fldO_29_2 : fldO Try.prog 29 2 = some 2 := by kernel_rfl
@[go_sem] theorem ft_fldO_44_0 : fldO Try.prog 44 0 = some 0 := by kernel_rfl
@[go_sem] theorem ft_fldO_44_1 : fldO Try.prog 44 1 = some 1 := by kernel_rfl
@[go_sem] theorem ft_fldO_52_0 : fldO Try.prog 52 0 = some 0 := by kernel_rfl
@[go_sem] theorem ft_fldO_52_1 : fldO Try.prog 52 1 = some 2 := by kernel_rfl
@[go_sem] theorem ft_fldO_52_2 : fldO Try.prog 52 2 = some 3 := by kernel_rfl
@[go_sem] theorem ft_fldO_52_3 : fldO Try.prog 52 3 = some 4 := by kernel_rfl
@[go_sem] theorem ft_fldO_52_4 : fldO Try.prog 52 4 = some 5 := by kernel_rfl
@[go_sem] theorem ft_fldO_52_5 : fldO Try.prog 52 5 = some 6 := by kernel_rfl
@[go_sem] theorem ft_fldO_52_6 : fldO Try.prog 52 6 = some 7 := by kernel_rfl
@[go_sem] theorem ft_fldO_52_7 : fldO Try.prog 52 7 = some 8 := by kernel_rfl
@[go_sem] theorem ft_fldO_57_0 : fldO Try.prog 57 0 = some 0 := by kernel_rfl
@[go_sem] theorem ft_fldO_57_1 : fldO Try.prog 57 1 = some 1 := by kernel_rfl
@[go_sem] theorem ft_fldO_60_1 : fldO Try.prog 60 1 = some 1 := by kernel_rfl
@[go_sem] theorem ft_fldO_62_0 : fldO Try.prog 62 0 = some 0 := by kernel_rfl
@[go_sem] theorem ft_fldO_62_1 : fldO Try.prog 62 1 = some 1 := by kernel_rfl
@[go_sem] theorem ft_fldO_62_2 : fldO Try.prog 62 2 = some 4 := by kernel_rfl
@[go_sem] theorem ft_fldO_62_3 : fldO Try.prog 62 3 = some 5 := by kernel_rfl
@[go_sem] theorem ft_fldO_67_0 : fldO Try.prog 67 0 = some 0 := by kernel_rfl
@[go_sem] theorem ft_fldO_67_1 : fldO Try.prog 67 1 = some 1 := by kernel_rfl
@[go_sem] theorem ft_fldO_71_0 : fldO Try.prog 71 0 = some 0 := by kernel_rfl
@[go_sem] theorem ft_fldO_71_1 : fldO Try.prog 71 1 = some 1 := by kernel_rfl
@[go_sem] theorem ft_fldO_71_2 : fldO Try.prog 71 2 = some 2 := by kernel_rfl
@[go_sem] theorem ft_fldO_71_3 : fldO Try.prog 71 3 = some 3 := by kernel_rfl
@[go_sem] theorem ft_fldO_71_4 : fldO Try.prog 71 4 = some 4 := by kernel_rfl
@[go_sem] theorem ft_ldT_107 : ldT Try.prog 107 = some (some 5) := by kernel_rfl
@[go_sem] theorem ft_ldT_110 : ldT Try.prog 110 = some (some 4) := by kernel_rfl
@[go_sem] theorem ft_ldT_113 : ldT Try.prog 113 = some (some 11) := by kernel_rfl
@[go_sem] theorem ft_ldT_117 : ldT Try.prog 117 = some (none) := by kernel_rfl
@[go_sem] theorem ft_ldT_119 : ldT Try.prog 119 = some (some 2) := by kernel_rfl
@[go_sem] theorem ft_ldT_146 : ldT Try.prog 146 = some (none) := by kernel_rfl
@[go_sem] theorem ft_ldT_165 : ldT Try.prog 165 = some (some 3) := by kernel_rfl
@[go_sem] theorem ft_ldT_2 : ldT Try.prog 2 = some (none) := by kernel_rfl
@[go_sem] theorem ft_ldT_22 : ldT Try.prog 22 = some (none) := by kernel_rfl
@[go_sem] theorem ft_ldT_23 : ldT Try.prog 23 = some (none) := by kernel_rfl
@[go_sem] theorem ft_ldT_25 : ldT Try.prog 25 = some (some 3) := by kernel_rfl
@[go_sem] theorem ft_ldT_27 : ldT Try.prog 27 = some (some 10) := by kernel_rfl
@[go_sem] theorem ft_ldT_29 : ldT Try.prog 29 = some (some 3) := by kernel_rfl
@[go_sem] theorem ft_ldT_3 : ldT Try.prog 3 = some (none) := by kernel_rfl
@[go_sem] theorem ft_ldT_4 : ldT Try.prog 4 = some (none) := by kernel_rfl
@[go_sem] theorem ft_ldT_44 : ldT Try.prog 44 = some (some 2) := by kernel_rfl
@[go_sem] theorem ft_ldT_45 : ldT Try.prog 45 = some (none) := by kernel_rfl
@[go_sem] theorem ft_ldT_46 : ldT Try.prog 46 = some (none) := by kernel_rfl
@[go_sem] theorem ft_ldT_47 : ldT Try.prog 47 = some (none) := by kernel_rfl
@[go_sem] theorem ft_ldT_48 : ldT Try.prog 48 = some (none) := by kernel_rfl
@[go_sem] theorem ft_ldT_49 : ldT Try.prog 49 = some (none) := by kernel_rfl
@[go_sem] theorem ft_ldT_5 : ldT Try.prog 5 = some (none) := by kernel_rfl
@[go_sem] theorem ft_ldT_50 : ldT Try.prog 50 = some (none) := by kernel_rfl
@[go_sem] theorem ft_ldT_52 : ldT Try.prog 52 = some (some 9) := by kernel_rfl
@[go_sem] theorem ft_ldT_57 : ldT Try.prog 57 = some (some 2) := by kernel_rfl
@[go_sem] theorem ft_ldT_60 : ldT Try.prog 60 = some (some 5) := by kernel_rfl
@[go_sem] theorem ft_ldT_62 : ldT Try.prog 62 = some (some 10) := by kernel_rfl
@[go_sem] theorem ft_ldT_67 : ldT Try.prog 67 = some (some 11) := by kernel_rfl
@[go_sem] theorem ft_ldT_71 : ldT Try.prog 71 = some (some 5) := by kernel_rfl
@[go_sem] theorem ft_szT_107 : szT Try.prog 107 = some 5 := by kernel_rfl
@[go_sem] theorem ft_szT_113 : szT Try.prog 113 = some 11 := by kernel_rfl
@[go_sem] theorem ft_szT_119 : szT Try.prog 119 = some 2 := by kernel_rfl
@[go_sem] theorem ft_szT_146 : szT Try.prog 146 = some 1 := by kernel_rfl
@[go_sem] theorem ft_szT_161 : szT Try.prog 161 = some 2 := by kernel_rfl
@[go_sem] theorem ft_szT_165 : szT Try.prog 165 = some 3 := by kernel_rfl
@[go_sem] theorem ft_szT_2 : szT Try.prog 2 = some 1 := by kernel_rfl
@[go_sem] theorem ft_szT_22 : szT Try.prog 22 = some 1 := by kernel_rfl
@[go_sem] theorem ft_szT_27 : szT Try.prog 27 = some 10 := by kernel_rfl
@[go_sem] theorem ft_szT_29 : szT Try.prog 29 = some 3 := by kernel_rfl
@[go_sem] theorem ft_szT_3 : szT Try.prog 3 = some 1 := by kernel_rfl
@[go_sem] theorem ft_szT_4 : szT Try.prog 4 = some 1 := by kernel_rfl
@[go_sem] theorem ft_szT_45 : szT Try.prog 45 = some 1 := by kernel_rfl
@[go_sem] theorem ft_szT_46 : szT Try.prog 46 = some 1 := by kernel_rfl
@[go_sem] theorem ft_szT_47 : szT Try.prog 47 = some 1 := by kernel_rfl
@[go_sem] theorem ft_szT_48 : szT Try.prog 48 = some 1 := by kernel_rfl
@[go_sem] theorem ft_szT_49 : szT Try.prog 49 = some 1 := by kernel_rfl
@[go_sem] theorem ft_szT_5 : szT Try.prog 5 = some 1 := by kernel_rfl
@[go_sem] theorem ft_szT_50 : szT Try.prog 50 = some 1 := by kernel_rfl
@[go_sem] theorem ft_szT_52 : szT Try.prog 52 = some 9 := by kernel_rfl
@[go_sem] theorem ft_szT_57 : szT Try.prog 57 = some 2 := by kernel_rfl
@[go_sem] theorem ft_szT_60 : szT Try.prog 60 = some 5 := by kernel_rfl
@[go_sem] theorem ft_szT_62 : szT Try.prog 62 = some 10 := by kernel_rfl
@[go_sem] theorem ft_szT_67 : szT Try.prog 67 = some 11 := by kernel_rfl
@[go_sem] theorem ft_szT_71 : szT Try.prog 71 = some 5 := by kernel_rfl
@[go_sem] theorem ft_szT_95 : szT Try.prog 95 = some 5 := by kernel_rfl
@[go_sem] theorem ft_zeroL_107 : zeroL Try.prog 107 = some [.bool false, .int .i64 0, .int .i64 0, .int .i64 0, .int .i64 0] := by kernel_rfl
@[go_sem] theorem ft_zeroL_110 : zeroL Try.prog 110 = some [.int .i64 0, .int .i64 0, .int .i64 0, .int .i64 0] := by kernel_rfl
@[go_sem] theorem ft_zeroL_113 : zeroL Try.prog 113 = some [.int .i64 0, .int .i64 0, .int .i64 0, .int .i64 0, .int .i64 0, .int .i64 0, .int .i64 0, .int .i64 0, .int .i64 0, .int .i64 0, .int .i64 0] := by kernel_rfl
@[go_sem] theorem ft_zeroL_146 : zeroL Try.prog 146 = some [.slice none 0 0] := by kernel_rfl
@[go_sem] theorem ft_zeroL_161 : zeroL Try.prog 161 = some [.bool false, .bool false] := by kernel_rfl
@[go_sem] theorem ft_zeroL_165 : zeroL Try.prog 165 = some [.int .i64 0, .int .i64 0, .int .i64 0] := by kernel_rfl
@[go_sem] theorem ft_zeroL_2 : zeroL Try.prog 2 = some [.int .i64 0] := by kernel_rfl
@[go_sem] theorem ft_zeroL_25 : zeroL Try.prog 25 = some [.int .u8 0, .int .i64 0, .int .i64 0] := by kernel_rfl
@[go_sem] theorem ft_zeroL_27 : zeroL Try.prog 27 = some [.int .u8 0, .slice none 0 0, .slice none 0 0, .bool false, .slice none 0 0, .int .u8 0, .int .i64 0, .int .i64 0, .bool false, .int .u8 0] := by kernel_rfl
@[go_sem] theorem ft_zeroL_29 : zeroL Try.prog 29 = some [.int .i64 0, .int .i64 0, .int .i64 0] := by kernel_rfl
@[go_sem] theorem ft_zeroL_44 : zeroL Try.prog 44 = some [.int .u8 0, .int .i64 0] := by kernel_rfl
@[go_sem] theorem ft_zeroL_52 : zeroL Try.prog 52 = some [.int .u8 0, .int .i64 0, .int .i64 0, .slice none 0 0, .slice none 0 0, .slice none 0 0, .slice none 0 0, .slice none 0 0, .slice none 0 0] := by kernel_rfl
@[go_sem] theorem ft_zeroL_57 : zeroL Try.prog 57 = some [.int .i64 0, .int .i64 0] := by kernel_rfl
@[go_sem] theorem ft_zeroL_60 : zeroL Try.prog 60 = some [.int .i64 0, .int .i64 0, .int .i64 0, .int .i64 0, .int .i64 0] := by kernel_rfl
@[go_sem] theorem ft_zeroL_62 : zeroL Try.prog 62 = some [.int .u8 0, .int .i64 0, .int .i64 0, .int .i64 0, .int .i64 0, .int .i64 0, .int .i64 0, .int .i64 0, .int .i64 0, .int .i64 0] := by kernel_rfl
@[go_sem] theorem ft_zeroL_67 : zeroL Try.prog 67 = some [.int .i64 0, .int .u8 0, .int .i64 0, .int .i64 0, .int .i64 0, .int .i64 0, .int .i64 0, .int .i64 0, .int .i64 0, .int .i64 0, .int .i64 0] := by kernel_rfl
@[go_sem] theorem ft_zeroL_71 : zeroL Try.prog 71 = some [.int .u8 0, .int .i64 0, .int .i64 0, .int .i64 0, .int .i64 0] := by kernel_rfl
@[go_sem] theorem ft_zeroL_95 : zeroL Try.prog 95 = some [.int .i64 0, .int .i64 0, .int .i64 0, .int .i64 0, .int .i64 0] := by kernel_rfl
end Go.Proofs.Ytmooelhocanlnaa
