/- Closed facts on the types of this seat's program, printed by a program; each is met by the kernel's own run. -/
import Derived.Test.YtmooelhocanlnaaGreatAbsD
import Derived.Test.YtmooelhocanlnaaGreatProg
import Derived.KernelRfl
namespace Go.Proofs.YtmooelhocanlnaaGreat
open Go.AL
theorem mo_fact : Tryz.prog.follows .mixedOrders = true := by kernel_rfl
@[go_sem] theorem ft_apT_137 : apT Tryz.prog 137 = some (154, 3, 24) := by kernel_rfl
@[go_sem] theorem ft_apT_157 : apT Tryz.prog 157 = some (4, 1, 1) := by kernel_rfl
@[go_sem] theorem ft_apT_23 : apT Tryz.prog 23 = some (3, 1, 8) := by kernel_rfl
@[go_sem] theorem ft_apT_30 : apT Tryz.prog 30 = some (64, 11, 88) := by kernel_rfl
@[go_sem] theorem ft_apT_31 : apT Tryz.prog 31 = some (2, 1, 8) := by kernel_rfl
@[go_sem] theorem ft_apT_32 : apT Tryz.prog 32 = some (75, 11, 88) := by kernel_rfl
@[go_sem] theorem ft_apT_33 : apT Tryz.prog 33 = some (77, 5, 40) := by kernel_rfl
@[go_sem] theorem ft_apT_34 : apT Tryz.prog 34 = some (44, 5, 40) := by kernel_rfl
@[go_sem] theorem ft_apT_35 : apT Tryz.prog 35 = some (39, 3, 24) := by kernel_rfl
@[go_sem] theorem ft_arS_128 : arS Tryz.prog 128 = some (5, 1) := by kernel_rfl
@[go_sem] theorem ft_arS_170 : arS Tryz.prog 170 = some (2, 1) := by kernel_rfl
@[go_sem] theorem ft_arS_73 : arS Tryz.prog 73 = some (2, 4) := by kernel_rfl
@[go_sem] theorem ft_bldPl_123 : bldPl Tryz.prog 123 = some [(0, 1), (1, 1), (2, 1), (3, 1), (4, 1)] := by kernel_rfl
@[go_sem] theorem ft_bldPl_128 : bldPl Tryz.prog 128 = some [(0, 1), (1, 1), (2, 1), (3, 1), (4, 1)] := by kernel_rfl
@[go_sem] theorem ft_bldPl_154 : bldPl Tryz.prog 154 = some [(0, 1), (1, 1), (2, 1)] := by kernel_rfl
@[go_sem] theorem ft_bldPl_170 : bldPl Tryz.prog 170 = some [(0, 1), (1, 1)] := by kernel_rfl
@[go_sem] theorem ft_bldPl_29 : bldPl Tryz.prog 29 = some [(0, 1), (1, 1)] := by kernel_rfl
@[go_sem] theorem ft_bldPl_37 : bldPl Tryz.prog 37 = some [(0, 2), (2, 1), (3, 1), (4, 1), (5, 1), (6, 1), (7, 1), (8, 1)] := by kernel_rfl
@[go_sem] theorem ft_bldPl_39 : bldPl Tryz.prog 39 = some [(0, 1), (1, 1), (2, 1)] := by kernel_rfl
@[go_sem] theorem ft_bldPl_46 : bldPl Tryz.prog 46 = some [(0, 1), (1, 3), (4, 1), (5, 5)] := by kernel_rfl
@[go_sem] theorem ft_bldPl_64 : bldPl Tryz.prog 64 = some [(0, 1), (1, 10)] := by kernel_rfl
@[go_sem] theorem ft_bldPl_72 : bldPl Tryz.prog 72 = some [(0, 1), (1, 1), (2, 1), (3, 1)] := by kernel_rfl
@[go_sem] theorem ft_bldPl_98 : bldPl Tryz.prog 98 = some [(0, 1), (1, 1)] := by kernel_rfl
@[go_sem] theorem ft_boolT_4 : boolT Tryz.prog 4 = true := by kernel_rfl
@[go_sem] theorem ft_cvT_171_3 : cvT Tryz.prog 171 3 = some .i64 := by kernel_rfl
@[go_sem] theorem ft_cvT_2_171 : cvT Tryz.prog 2 171 = some .u64 := by kernel_rfl
@[go_sem] theorem ft_elS_121 : elS Tryz.prog 121 = some 2 := by kernel_rfl
@[go_sem] theorem ft_elS_137 : elS Tryz.prog 137 = some 3 := by kernel_rfl
@[go_sem] theorem ft_elS_157 : elS Tryz.prog 157 = some 1 := by kernel_rfl
@[go_sem] theorem ft_elS_22 : elS Tryz.prog 22 = some 5 := by kernel_rfl
@[go_sem] theorem ft_elS_23 : elS Tryz.prog 23 = some 1 := by kernel_rfl
@[go_sem] theorem ft_elS_30 : elS Tryz.prog 30 = some 11 := by kernel_rfl
@[go_sem] theorem ft_elS_31 : elS Tryz.prog 31 = some 1 := by kernel_rfl
@[go_sem] theorem ft_elS_32 : elS Tryz.prog 32 = some 11 := by kernel_rfl
@[go_sem] theorem ft_elS_33 : elS Tryz.prog 33 = some 5 := by kernel_rfl
@[go_sem] theorem ft_elS_34 : elS Tryz.prog 34 = some 5 := by kernel_rfl
@[go_sem] theorem ft_elS_35 : elS Tryz.prog 35 = some 3 := by kernel_rfl
@[go_sem] theorem ft_eqT_123 : eqT Tryz.prog 123 = some [some .i, some .i, some .i, some .i, some .i] := by kernel_rfl
@[go_sem] theorem ft_eqT_29 : eqT Tryz.prog 29 = some [some .i, some .i] := by kernel_rfl
@[go_sem] theorem ft_eqT_39 : eqT Tryz.prog 39 = some [some .i, some .i, some .i] := by kernel_rfl
@[go_sem] theorem ft_eqT_44 : eqT Tryz.prog 44 = some [some .i, some .i, some .i, some .i, some .i] := by kernel_rfl
@[go_sem] theorem ft_eqT_46 : eqT Tryz.prog 46 = some [some .i, some .i, some .i, some .i, some .i, some .i, some .i, some .i, some .i, some .i] := by kernel_rfl
@[go_sem] theorem ft_eqT_64 : eqT Tryz.prog 64 = some [some .i, some .i, some .i, some .i, some .i, some .i, some .i, some .i, some .i, some .i, some .i] := by kernel_rfl
@[go_sem] theorem ft_eqT_72 : eqT Tryz.prog 72 = some [some .i, some .i, some .i, some .i] := by kernel_rfl
@[go_sem] theorem ft_eqT_75 : eqT Tryz.prog 75 = some [some .i, some .i, some .i, some .i, some .i, some .i, some .i, some .i, some .i, some .i, some .i] := by kernel_rfl
@[go_sem] theorem ft_eqT_77 : eqT Tryz.prog 77 = some [some .b, some .i, some .i, some .i, some .i] := by kernel_rfl
@[go_sem] theorem ft_fldO_123_0 : fldO Tryz.prog 123 0 = some 0 := by kernel_rfl
@[go_sem] theorem ft_fldO_123_1 : fldO Tryz.prog 123 1 = some 1 := by kernel_rfl
@[go_sem] theorem ft_fldO_123_2 : fldO Tryz.prog 123 2 = some 2 := by kernel_rfl
@[go_sem] theorem ft_fldO_123_3 : fldO Tryz.prog 123 3 = some 3 := by kernel_rfl
@[go_sem] theorem ft_fldO_123_4 : fldO Tryz.prog 123 4 = some 4 := by kernel_rfl
@[go_sem] theorem ft_fldO_154_0 : fldO Tryz.prog 154 0 = some 0 := by kernel_rfl
@[go_sem] theorem ft_fldO_154_1 : fldO Tryz.prog 154 1 = some 1 := by kernel_rfl
@[go_sem] theorem ft_fldO_154_2 : fldO Tryz.prog 154 2 = some 2 := by kernel_rfl
@[go_sem] theorem ft_fldO_25_0 : fldO Tryz.prog 25 0 = some 0 := by kernel_rfl
@[go_sem] theorem ft_fldO_25_1 : fldO Tryz.prog 25 1 = some 1 := by kernel_rfl
@[go_sem] theorem ft_fldO_25_2 : fldO Tryz.prog 25 2 = some 2 := by kernel_rfl
@[go_sem] theorem ft_fldO_27_0 : fldO Tryz.prog 27 0 = some 0 := by kernel_rfl
@[go_sem] theorem ft_fldO_27_1 : fldO Tryz.prog 27 1 = some 1 := by kernel_rfl
@[go_sem] theorem ft_fldO_27_2 : fldO Tryz.prog 27 2 = some 2 := by kernel_rfl
@[go_sem] theorem ft_fldO_27_3 : fldO Tryz.prog 27 3 = some 3 := by kernel_rfl
@[go_sem] theorem ft_fldO_27_4 : fldO Tryz.prog 27 4 = some 4 := by kernel_rfl
@[go_sem] theorem ft_fldO_27_5 : fldO Tryz.prog 27 5 = some 5 := by kernel_rfl
@[go_sem] theorem ft_fldO_27_6 : fldO Tryz.prog 27 6 = some 8 := by kernel_rfl
@[go_sem] theorem ft_fldO_27_7 : fldO Tryz.prog 27 7 = some 9 := by kernel_rfl
@[go_sem] theorem ft_fldO_29_0 : fldO Tryz.prog 29 0 = some 0 := by kernel_rfl
@[go_sem] theorem ft_fldO_29_1 : fldO Tryz.prog 29 1 = some 1 := by kernel_rfl
@[go_sem] theorem ft_fldO_37_0 : fldO Tryz.prog 37 0 = some 0 := by kernel_rfl
@[go_sem] theorem ft_fldO_37_1 : fldO Tryz.prog 37 1 = some 2 := by kernel_rfl
@[go_sem] theorem ft_fldO_37_2 : fldO Tryz.prog 37 2 = some 3 := by kernel_rfl
@[go_sem] theorem ft_fldO_37_3 : fldO Tryz.prog 37 3 = some 4 := by kernel_rfl
@[go_sem] theorem ft_fldO_37_4 : fldO Tryz.prog 37 4 = some 5 := by kernel_rfl
@[go_sem] theorem ft_fldO_37_5 : fldO Tryz.prog 37 5 = some 6 := by kernel_rfl
@[go_sem] theorem ft_fldO_37_6 : fldO Tryz.prog 37 6 = some 7 := by kernel_rfl
@[go_sem] theorem ft_fldO_37_7 : fldO Tryz.prog 37 7 = some 8 := by kernel_rfl
@[go_sem] theorem ft_fldO_39_0 : fldO Tryz.prog 39 0 = some 0 := by kernel_rfl
@[go_sem] theorem ft_fldO_39_1 : fldO Tryz.prog 39 1 = some 1 := by kernel_rfl
@[go_sem] theorem ft_fldO_39_2 : fldO Tryz.prog 39 2 = some 2 := by kernel_rfl
@[go_sem] theorem ft_fldO_41_0 : fldO Tryz.prog 41 0 = some 0 := by kernel_rfl
@[go_sem] theorem ft_fldO_41_1 : fldO Tryz.prog 41 1 = some 1 := by kernel_rfl
@[go_sem] theorem ft_fldO_44_1 : fldO Tryz.prog 44 1 = some 1 := by kernel_rfl
@[go_sem] theorem ft_fldO_46_0 : fldO Tryz.prog 46 0 = some 0 := by kernel_rfl
@[go_sem] theorem ft_fldO_46_1 : fldO Tryz.prog 46 1 = some 1 := by kernel_rfl
@[go_sem] theorem ft_fldO_46_2 : fldO Tryz.prog 46 2 = some 4 := by kernel_rfl
@[go_sem] theorem ft_fldO_46_3 : fldO Tryz.prog 46 3 = some 5 := by kernel_rfl
@[go_sem] theorem ft_fldO_64_0 : fldO Tryz.prog 64 0 = some 0 := by kernel_rfl
@[go_sem] theorem ft_fldO_64_1 : fldO Tryz.prog 64 1 = some 1 := by kernel_rfl
@[go_sem] theorem ft_fldO_72_0 : fldO Tryz.prog 72 0 = some 0 := by kernel_rfl
@[go_sem] theorem ft_fldO_72_1 : fldO Tryz.prog 72 1 = some 1 := by kernel_rfl
@[go_sem] theorem ft_fldO_72_2 : fldO Tryz.prog 72 2 = some 2 := by kernel_rfl
@[go_sem] theorem ft_fldO_72_3 : fldO Tryz.prog 72 3 = some 3 := by kernel_rfl
@[go_sem] theorem ft_fldO_75_0 : fldO Tryz.prog 75 0 = some 0 := by kernel_rfl
@[go_sem] theorem ft_fldO_75_1 : fldO Tryz.prog 75 1 = some 1 := by kernel_rfl
@[go_sem] theorem ft_fldO_75_2 : fldO Tryz.prog 75 2 = some 3 := by kernel_rfl
@[go_sem] theorem ft_fldO_77_0 : fldO Tryz.prog 77 0 = some 0 := by kernel_rfl
@[go_sem] theorem ft_fldO_77_1 : fldO Tryz.prog 77 1 = some 1 := by kernel_rfl
@[go_sem] theorem ft_fldO_77_2 : fldO Tryz.prog 77 2 = some 2 := by kernel_rfl
@[go_sem] theorem ft_fldO_98_0 : fldO Tryz.prog 98 0 = some 0 := by kernel_rfl
@[go_sem] theorem ft_fldO_98_1 : fldO Tryz.prog 98 1 = some 1 := by kernel_rfl
@[go_sem] theorem ft_ldT_123 : ldT Tryz.prog 123 = some (some 5) := by kernel_rfl
@[go_sem] theorem ft_ldT_154 : ldT Tryz.prog 154 = some (some 3) := by kernel_rfl
@[go_sem] theorem ft_ldT_157 : ldT Tryz.prog 157 = some (none) := by kernel_rfl
@[go_sem] theorem ft_ldT_2 : ldT Tryz.prog 2 = some (none) := by kernel_rfl
@[go_sem] theorem ft_ldT_22 : ldT Tryz.prog 22 = some (none) := by kernel_rfl
@[go_sem] theorem ft_ldT_23 : ldT Tryz.prog 23 = some (none) := by kernel_rfl
@[go_sem] theorem ft_ldT_25 : ldT Tryz.prog 25 = some (some 3) := by kernel_rfl
@[go_sem] theorem ft_ldT_27 : ldT Tryz.prog 27 = some (some 10) := by kernel_rfl
@[go_sem] theorem ft_ldT_29 : ldT Tryz.prog 29 = some (some 2) := by kernel_rfl
@[go_sem] theorem ft_ldT_3 : ldT Tryz.prog 3 = some (none) := by kernel_rfl
@[go_sem] theorem ft_ldT_30 : ldT Tryz.prog 30 = some (none) := by kernel_rfl
@[go_sem] theorem ft_ldT_31 : ldT Tryz.prog 31 = some (none) := by kernel_rfl
@[go_sem] theorem ft_ldT_32 : ldT Tryz.prog 32 = some (none) := by kernel_rfl
@[go_sem] theorem ft_ldT_33 : ldT Tryz.prog 33 = some (none) := by kernel_rfl
@[go_sem] theorem ft_ldT_34 : ldT Tryz.prog 34 = some (none) := by kernel_rfl
@[go_sem] theorem ft_ldT_35 : ldT Tryz.prog 35 = some (none) := by kernel_rfl
@[go_sem] theorem ft_ldT_37 : ldT Tryz.prog 37 = some (some 9) := by kernel_rfl
@[go_sem] theorem ft_ldT_39 : ldT Tryz.prog 39 = some (some 3) := by kernel_rfl
@[go_sem] theorem ft_ldT_4 : ldT Tryz.prog 4 = some (none) := by kernel_rfl
@[go_sem] theorem ft_ldT_41 : ldT Tryz.prog 41 = some (some 2) := by kernel_rfl
@[go_sem] theorem ft_ldT_44 : ldT Tryz.prog 44 = some (some 5) := by kernel_rfl
@[go_sem] theorem ft_ldT_46 : ldT Tryz.prog 46 = some (some 10) := by kernel_rfl
@[go_sem] theorem ft_ldT_5 : ldT Tryz.prog 5 = some (none) := by kernel_rfl
@[go_sem] theorem ft_ldT_64 : ldT Tryz.prog 64 = some (some 11) := by kernel_rfl
@[go_sem] theorem ft_ldT_72 : ldT Tryz.prog 72 = some (some 4) := by kernel_rfl
@[go_sem] theorem ft_ldT_75 : ldT Tryz.prog 75 = some (some 11) := by kernel_rfl
@[go_sem] theorem ft_ldT_77 : ldT Tryz.prog 77 = some (some 5) := by kernel_rfl
@[go_sem] theorem ft_ldT_96 : ldT Tryz.prog 96 = some (none) := by kernel_rfl
@[go_sem] theorem ft_ldT_98 : ldT Tryz.prog 98 = some (some 2) := by kernel_rfl
@[go_sem] theorem ft_szT_123 : szT Tryz.prog 123 = some 5 := by kernel_rfl
@[go_sem] theorem ft_szT_128 : szT Tryz.prog 128 = some 5 := by kernel_rfl
@[go_sem] theorem ft_szT_154 : szT Tryz.prog 154 = some 3 := by kernel_rfl
@[go_sem] theorem ft_szT_157 : szT Tryz.prog 157 = some 1 := by kernel_rfl
@[go_sem] theorem ft_szT_170 : szT Tryz.prog 170 = some 2 := by kernel_rfl
@[go_sem] theorem ft_szT_2 : szT Tryz.prog 2 = some 1 := by kernel_rfl
@[go_sem] theorem ft_szT_3 : szT Tryz.prog 3 = some 1 := by kernel_rfl
@[go_sem] theorem ft_szT_30 : szT Tryz.prog 30 = some 1 := by kernel_rfl
@[go_sem] theorem ft_szT_31 : szT Tryz.prog 31 = some 1 := by kernel_rfl
@[go_sem] theorem ft_szT_32 : szT Tryz.prog 32 = some 1 := by kernel_rfl
@[go_sem] theorem ft_szT_33 : szT Tryz.prog 33 = some 1 := by kernel_rfl
@[go_sem] theorem ft_szT_34 : szT Tryz.prog 34 = some 1 := by kernel_rfl
@[go_sem] theorem ft_szT_35 : szT Tryz.prog 35 = some 1 := by kernel_rfl
@[go_sem] theorem ft_szT_37 : szT Tryz.prog 37 = some 9 := by kernel_rfl
@[go_sem] theorem ft_szT_39 : szT Tryz.prog 39 = some 3 := by kernel_rfl
@[go_sem] theorem ft_szT_41 : szT Tryz.prog 41 = some 2 := by kernel_rfl
@[go_sem] theorem ft_szT_44 : szT Tryz.prog 44 = some 5 := by kernel_rfl
@[go_sem] theorem ft_szT_46 : szT Tryz.prog 46 = some 10 := by kernel_rfl
@[go_sem] theorem ft_szT_64 : szT Tryz.prog 64 = some 11 := by kernel_rfl
@[go_sem] theorem ft_szT_75 : szT Tryz.prog 75 = some 11 := by kernel_rfl
@[go_sem] theorem ft_szT_77 : szT Tryz.prog 77 = some 5 := by kernel_rfl
@[go_sem] theorem ft_szT_98 : szT Tryz.prog 98 = some 2 := by kernel_rfl
@[go_sem] theorem ft_zeroL_123 : zeroL Tryz.prog 123 = some [.int .u8 0, .int .i64 0, .int .i64 0, .int .i64 0, .int .i64 0] := by kernel_rfl
@[go_sem] theorem ft_zeroL_128 : zeroL Tryz.prog 128 = some [.int .i64 0, .int .i64 0, .int .i64 0, .int .i64 0, .int .i64 0] := by kernel_rfl
@[go_sem] theorem ft_zeroL_154 : zeroL Tryz.prog 154 = some [.int .i64 0, .int .i64 0, .int .i64 0] := by kernel_rfl
@[go_sem] theorem ft_zeroL_157 : zeroL Tryz.prog 157 = some [.slice none 0 0] := by kernel_rfl
@[go_sem] theorem ft_zeroL_170 : zeroL Tryz.prog 170 = some [.bool false, .bool false] := by kernel_rfl
@[go_sem] theorem ft_zeroL_2 : zeroL Tryz.prog 2 = some [.int .i64 0] := by kernel_rfl
@[go_sem] theorem ft_zeroL_29 : zeroL Tryz.prog 29 = some [.int .u8 0, .int .i64 0] := by kernel_rfl
@[go_sem] theorem ft_zeroL_37 : zeroL Tryz.prog 37 = some [.int .u8 0, .int .i64 0, .int .i64 0, .slice none 0 0, .slice none 0 0, .slice none 0 0, .slice none 0 0, .slice none 0 0, .slice none 0 0] := by kernel_rfl
@[go_sem] theorem ft_zeroL_39 : zeroL Tryz.prog 39 = some [.int .i64 0, .int .i64 0, .int .i64 0] := by kernel_rfl
@[go_sem] theorem ft_zeroL_41 : zeroL Tryz.prog 41 = some [.int .i64 0, .int .i64 0] := by kernel_rfl
@[go_sem] theorem ft_zeroL_44 : zeroL Tryz.prog 44 = some [.int .i64 0, .int .i64 0, .int .i64 0, .int .i64 0, .int .i64 0] := by kernel_rfl
@[go_sem] theorem ft_zeroL_46 : zeroL Tryz.prog 46 = some [.int .u8 0, .int .i64 0, .int .i64 0, .int .i64 0, .int .i64 0, .int .i64 0, .int .i64 0, .int .i64 0, .int .i64 0, .int .i64 0] := by kernel_rfl
@[go_sem] theorem ft_zeroL_64 : zeroL Tryz.prog 64 = some [.int .i64 0, .int .u8 0, .int .i64 0, .int .i64 0, .int .i64 0, .int .i64 0, .int .i64 0, .int .i64 0, .int .i64 0, .int .i64 0, .int .i64 0] := by kernel_rfl
@[go_sem] theorem ft_zeroL_72 : zeroL Tryz.prog 72 = some [.int .i64 0, .int .i64 0, .int .i64 0, .int .i64 0] := by kernel_rfl
@[go_sem] theorem ft_zeroL_75 : zeroL Tryz.prog 75 = some [.int .i64 0, .int .i64 0, .int .i64 0, .int .i64 0, .int .i64 0, .int .i64 0, .int .i64 0, .int .i64 0, .int .i64 0, .int .i64 0, .int .i64 0] := by kernel_rfl
@[go_sem] theorem ft_zeroL_77 : zeroL Tryz.prog 77 = some [.bool false, .int .i64 0, .int .i64 0, .int .i64 0, .int .i64 0] := by kernel_rfl
end Go.Proofs.YtmooelhocanlnaaGreat
