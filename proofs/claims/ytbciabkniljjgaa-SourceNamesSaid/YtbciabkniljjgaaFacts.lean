/- Closed facts on the types of this seat's program, printed by a program; each is met by the kernel's own run. -/
import Derived.Test.YtbciabkniljjgaaAbsD
import Derived.Test.YtbciabkniljjgaaProg
import Derived.KernelRfl
namespace Go.Proofs.Ytbciabkniljjgaa
open Go.AL
theorem mo_fact : Try.prog.follows .mixedOrders = true := by kernel_rfl
@[go_sem] theorem ft_apT_22 : apT Try.prog 22 = some (46, 5, 40) := by kernel_rfl
@[go_sem] theorem ft_apT_25 : apT Try.prog 25 = some (73, 11, 88) := by kernel_rfl
@[go_sem] theorem ft_apT_26 : apT Try.prog 26 = some (2, 1, 8) := by kernel_rfl
@[go_sem] theorem ft_apT_27 : apT Try.prog 27 = some (91, 11, 88) := by kernel_rfl
@[go_sem] theorem ft_apT_28 : apT Try.prog 28 = some (53, 5, 40) := by kernel_rfl
@[go_sem] theorem ft_apT_29 : apT Try.prog 29 = some (44, 3, 24) := by kernel_rfl
@[go_sem] theorem ft_apT_40 : apT Try.prog 40 = some (55, 10, 80) := by kernel_rfl
@[go_sem] theorem ft_apT_98 : apT Try.prog 98 = some (3, 1, 8) := by kernel_rfl
@[go_sem] theorem ft_arS_89 : arS Try.prog 89 = some (2, 4) := by kernel_rfl
@[go_sem] theorem ft_bldPl_24 : bldPl Try.prog 24 = some [(0, 1), (1, 1)] := by kernel_rfl
@[go_sem] theorem ft_bldPl_31 : bldPl Try.prog 31 = some [(0, 2), (2, 1), (3, 1), (4, 1), (5, 1), (6, 1), (7, 1), (8, 1)] := by kernel_rfl
@[go_sem] theorem ft_bldPl_44 : bldPl Try.prog 44 = some [(0, 1), (1, 1), (2, 1)] := by kernel_rfl
@[go_sem] theorem ft_bldPl_46 : bldPl Try.prog 46 = some [(0, 1), (1, 1), (2, 3)] := by kernel_rfl
@[go_sem] theorem ft_bldPl_55 : bldPl Try.prog 55 = some [(0, 1), (1, 3), (4, 1), (5, 5)] := by kernel_rfl
@[go_sem] theorem ft_bldPl_73 : bldPl Try.prog 73 = some [(0, 1), (1, 10)] := by kernel_rfl
@[go_sem] theorem ft_bldPl_88 : bldPl Try.prog 88 = some [(0, 1), (1, 1), (2, 1), (3, 1)] := by kernel_rfl
@[go_sem] theorem ft_boolT_4 : boolT Try.prog 4 = true := by kernel_rfl
@[go_sem] theorem ft_elS_22 : elS Try.prog 22 = some 5 := by kernel_rfl
@[go_sem] theorem ft_elS_25 : elS Try.prog 25 = some 11 := by kernel_rfl
@[go_sem] theorem ft_elS_26 : elS Try.prog 26 = some 1 := by kernel_rfl
@[go_sem] theorem ft_elS_27 : elS Try.prog 27 = some 11 := by kernel_rfl
@[go_sem] theorem ft_elS_28 : elS Try.prog 28 = some 5 := by kernel_rfl
@[go_sem] theorem ft_elS_29 : elS Try.prog 29 = some 3 := by kernel_rfl
@[go_sem] theorem ft_elS_40 : elS Try.prog 40 = some 10 := by kernel_rfl
@[go_sem] theorem ft_elS_98 : elS Try.prog 98 = some 1 := by kernel_rfl
@[go_sem] theorem ft_eqT_24 : eqT Try.prog 24 = some [some .i, some .i] := by kernel_rfl
@[go_sem] theorem ft_eqT_44 : eqT Try.prog 44 = some [some .i, some .i, some .i] := by kernel_rfl
@[go_sem] theorem ft_eqT_46 : eqT Try.prog 46 = some [some .b, some .i, some .i, some .i, some .i] := by kernel_rfl
@[go_sem] theorem ft_eqT_53 : eqT Try.prog 53 = some [some .i, some .i, some .i, some .i, some .i] := by kernel_rfl
@[go_sem] theorem ft_eqT_55 : eqT Try.prog 55 = some [some .i, some .i, some .i, some .i, some .i, some .i, some .i, some .i, some .i, some .i] := by kernel_rfl
@[go_sem] theorem ft_eqT_73 : eqT Try.prog 73 = some [some .i, some .i, some .i, some .i, some .i, some .i, some .i, some .i, some .i, some .i, some .i] := by kernel_rfl
@[go_sem] theorem ft_eqT_88 : eqT Try.prog 88 = some [some .i, some .i, some .i, some .i] := by kernel_rfl
@[go_sem] theorem ft_eqT_91 : eqT Try.prog 91 = some [some .i, some .i, some .i, some .i, some .i, some .i, some .i, some .i, some .i, some .i, some .i] := by kernel_rfl
@[go_sem] theorem ft_fldO_24_0 : fldO Try.prog 24 0 = some 0 := by kernel_rfl
@[go_sem] theorem ft_fldO_24_1 : fldO Try.prog 24 1 = some 1 := by kernel_rfl
@[go_sem] theorem ft_fldO_31_0 : fldO Try.prog 31 0 = some 0 := by kernel_rfl
@[go_sem] theorem ft_fldO_31_1 : fldO Try.prog 31 1 = some 2 := by kernel_rfl
@[go_sem] theorem ft_fldO_31_2 : fldO Try.prog 31 2 = some 3 := by kernel_rfl
@[go_sem] theorem ft_fldO_31_3 : fldO Try.prog 31 3 = some 4 := by kernel_rfl
@[go_sem] theorem ft_fldO_31_4 : fldO Try.prog 31 4 = some 5 := by kernel_rfl
@[go_sem] theorem ft_fldO_31_5 : fldO Try.prog 31 5 = some 6 := by kernel_rfl
@[go_sem] theorem ft_fldO_31_6 : fldO Try.prog 31 6 = some 7 := by kernel_rfl
@[go_sem] theorem ft_fldO_31_7 : fldO Try.prog 31 7 = some 8 := by kernel_rfl
@[go_sem] theorem ft_fldO_44_0 : fldO Try.prog 44 0 = some 0 := by kernel_rfl
@[go_sem] theorem ft_fldO_44_1 : fldO Try.prog 44 1 = some 1 := by kernel_rfl
@[go_sem] theorem ft_fldO_46_0 : fldO Try.prog 46 0 = some 0 := by kernel_rfl
@[go_sem] theorem ft_fldO_46_1 : fldO Try.prog 46 1 = some 1 := by kernel_rfl
@[go_sem] theorem ft_fldO_46_2 : fldO Try.prog 46 2 = some 2 := by kernel_rfl
@[go_sem] theorem ft_fldO_50_0 : fldO Try.prog 50 0 = some 0 := by kernel_rfl
@[go_sem] theorem ft_fldO_50_1 : fldO Try.prog 50 1 = some 1 := by kernel_rfl
@[go_sem] theorem ft_fldO_53_1 : fldO Try.prog 53 1 = some 1 := by kernel_rfl
@[go_sem] theorem ft_fldO_55_0 : fldO Try.prog 55 0 = some 0 := by kernel_rfl
@[go_sem] theorem ft_fldO_55_1 : fldO Try.prog 55 1 = some 1 := by kernel_rfl
@[go_sem] theorem ft_fldO_55_2 : fldO Try.prog 55 2 = some 4 := by kernel_rfl
@[go_sem] theorem ft_fldO_55_3 : fldO Try.prog 55 3 = some 5 := by kernel_rfl
@[go_sem] theorem ft_fldO_73_0 : fldO Try.prog 73 0 = some 0 := by kernel_rfl
@[go_sem] theorem ft_fldO_73_1 : fldO Try.prog 73 1 = some 1 := by kernel_rfl
@[go_sem] theorem ft_fldO_88_0 : fldO Try.prog 88 0 = some 0 := by kernel_rfl
@[go_sem] theorem ft_fldO_88_1 : fldO Try.prog 88 1 = some 1 := by kernel_rfl
@[go_sem] theorem ft_fldO_88_2 : fldO Try.prog 88 2 = some 2 := by kernel_rfl
@[go_sem] theorem ft_fldO_88_3 : fldO Try.prog 88 3 = some 3 := by kernel_rfl
@[go_sem] theorem ft_fldO_91_0 : fldO Try.prog 91 0 = some 0 := by kernel_rfl
@[go_sem] theorem ft_fldO_91_1 : fldO Try.prog 91 1 = some 1 := by kernel_rfl
@[go_sem] theorem ft_fldO_91_2 : fldO Try.prog 91 2 = some 3 := by kernel_rfl
@[go_sem] theorem ft_ldT_2 : ldT Try.prog 2 = some (none) := by kernel_rfl
@[go_sem] theorem ft_ldT_22 : ldT Try.prog 22 = some (none) := by kernel_rfl
@[go_sem] theorem ft_ldT_24 : ldT Try.prog 24 = some (some 2) := by kernel_rfl
@[go_sem] theorem ft_ldT_25 : ldT Try.prog 25 = some (none) := by kernel_rfl
@[go_sem] theorem ft_ldT_26 : ldT Try.prog 26 = some (none) := by kernel_rfl
@[go_sem] theorem ft_ldT_27 : ldT Try.prog 27 = some (none) := by kernel_rfl
@[go_sem] theorem ft_ldT_28 : ldT Try.prog 28 = some (none) := by kernel_rfl
@[go_sem] theorem ft_ldT_29 : ldT Try.prog 29 = some (none) := by kernel_rfl
@[go_sem] theorem ft_ldT_3 : ldT Try.prog 3 = some (none) := by kernel_rfl
@[go_sem] theorem ft_ldT_31 : ldT Try.prog 31 = some (some 9) := by kernel_rfl
@[go_sem] theorem ft_ldT_4 : ldT Try.prog 4 = some (none) := by kernel_rfl
@[go_sem] theorem ft_ldT_40 : ldT Try.prog 40 = some (none) := by kernel_rfl
@[go_sem] theorem ft_ldT_44 : ldT Try.prog 44 = some (some 3) := by kernel_rfl
@[go_sem] theorem ft_ldT_46 : ldT Try.prog 46 = some (some 5) := by kernel_rfl
@[go_sem] theorem ft_ldT_5 : ldT Try.prog 5 = some (none) := by kernel_rfl
@[go_sem] theorem ft_ldT_50 : ldT Try.prog 50 = some (some 2) := by kernel_rfl
@[go_sem] theorem ft_ldT_53 : ldT Try.prog 53 = some (some 5) := by kernel_rfl
@[go_sem] theorem ft_ldT_55 : ldT Try.prog 55 = some (some 10) := by kernel_rfl
@[go_sem] theorem ft_ldT_73 : ldT Try.prog 73 = some (some 11) := by kernel_rfl
@[go_sem] theorem ft_ldT_88 : ldT Try.prog 88 = some (some 4) := by kernel_rfl
@[go_sem] theorem ft_ldT_91 : ldT Try.prog 91 = some (some 11) := by kernel_rfl
@[go_sem] theorem ft_szT_2 : szT Try.prog 2 = some 1 := by kernel_rfl
@[go_sem] theorem ft_szT_22 : szT Try.prog 22 = some 1 := by kernel_rfl
@[go_sem] theorem ft_szT_25 : szT Try.prog 25 = some 1 := by kernel_rfl
@[go_sem] theorem ft_szT_26 : szT Try.prog 26 = some 1 := by kernel_rfl
@[go_sem] theorem ft_szT_27 : szT Try.prog 27 = some 1 := by kernel_rfl
@[go_sem] theorem ft_szT_28 : szT Try.prog 28 = some 1 := by kernel_rfl
@[go_sem] theorem ft_szT_29 : szT Try.prog 29 = some 1 := by kernel_rfl
@[go_sem] theorem ft_szT_31 : szT Try.prog 31 = some 9 := by kernel_rfl
@[go_sem] theorem ft_szT_40 : szT Try.prog 40 = some 1 := by kernel_rfl
@[go_sem] theorem ft_szT_44 : szT Try.prog 44 = some 3 := by kernel_rfl
@[go_sem] theorem ft_szT_46 : szT Try.prog 46 = some 5 := by kernel_rfl
@[go_sem] theorem ft_szT_50 : szT Try.prog 50 = some 2 := by kernel_rfl
@[go_sem] theorem ft_szT_53 : szT Try.prog 53 = some 5 := by kernel_rfl
@[go_sem] theorem ft_szT_55 : szT Try.prog 55 = some 10 := by kernel_rfl
@[go_sem] theorem ft_szT_73 : szT Try.prog 73 = some 11 := by kernel_rfl
@[go_sem] theorem ft_szT_91 : szT Try.prog 91 = some 11 := by kernel_rfl
@[go_sem] theorem ft_zeroL_24 : zeroL Try.prog 24 = some [.int .u8 0, .int .i64 0] := by kernel_rfl
@[go_sem] theorem ft_zeroL_31 : zeroL Try.prog 31 = some [.int .u8 0, .int .i64 0, .int .i64 0, .slice none 0 0, .slice none 0 0, .slice none 0 0, .slice none 0 0, .slice none 0 0, .slice none 0 0] := by kernel_rfl
@[go_sem] theorem ft_zeroL_40 : zeroL Try.prog 40 = some [.slice none 0 0] := by kernel_rfl
@[go_sem] theorem ft_zeroL_44 : zeroL Try.prog 44 = some [.int .i64 0, .int .i64 0, .int .i64 0] := by kernel_rfl
@[go_sem] theorem ft_zeroL_46 : zeroL Try.prog 46 = some [.bool false, .int .i64 0, .int .i64 0, .int .i64 0, .int .i64 0] := by kernel_rfl
@[go_sem] theorem ft_zeroL_50 : zeroL Try.prog 50 = some [.int .i64 0, .int .i64 0] := by kernel_rfl
@[go_sem] theorem ft_zeroL_53 : zeroL Try.prog 53 = some [.int .i64 0, .int .i64 0, .int .i64 0, .int .i64 0, .int .i64 0] := by kernel_rfl
@[go_sem] theorem ft_zeroL_55 : zeroL Try.prog 55 = some [.int .u8 0, .int .i64 0, .int .i64 0, .int .i64 0, .int .i64 0, .int .i64 0, .int .i64 0, .int .i64 0, .int .i64 0, .int .i64 0] := by kernel_rfl
@[go_sem] theorem ft_zeroL_73 : zeroL Try.prog 73 = some [.int .i64 0, .int .u8 0, .int .i64 0, .int .i64 0, .int .i64 0, .int .i64 0, .int .i64 0, .int .i64 0, .int .i64 0, .int .i64 0, .int .i64 0] := by kernel_rfl
@[go_sem] theorem ft_zeroL_88 : zeroL Try.prog 88 = some [.int .i64 0, .int .i64 0, .int .i64 0, .int .i64 0] := by kernel_rfl
@[go_sem] theorem ft_zeroL_91 : zeroL Try.prog 91 = some [.int .i64 0, .int .i64 0, .int .i64 0, .int .i64 0, .int .i64 0, .int .i64 0, .int .i64 0, .int .i64 0, .int .i64 0, .int .i64 0, .int .i64 0] := by kernel_rfl
end Go.Proofs.Ytbciabkniljjgaa
