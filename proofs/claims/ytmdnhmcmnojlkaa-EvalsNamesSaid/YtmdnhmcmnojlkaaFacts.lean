/- Closed facts on the types of this seat's program, printed by a program; each is met by the kernel's own run. -/
import Derived.Test.YtmdnhmcmnojlkaaAbsD
import Derived.Test.YtmdnhmcmnojlkaaProg
import Derived.KernelRfl
namespace Go.Proofs.Ytmdnhmcmnojlkaa
open Go.AL
theorem mo_fact : Try.prog.follows .mixedOrders = true := by kernel_rfl
@[go_sem] theorem ft_apT_22 : apT Try.prog 22 = some (38, 5, 40) := by kernel_rfl
@[go_sem] theorem ft_apT_27 : apT Try.prog 27 = some (4, 1, 1) := by kernel_rfl
@[go_sem] theorem ft_apT_30 : apT Try.prog 30 = some (2, 1, 8) := by kernel_rfl
@[go_sem] theorem ft_apT_44 : apT Try.prog 44 = some (22, 1, 24) := by kernel_rfl
@[go_sem] theorem ft_apT_78 : apT Try.prog 78 = some (3, 1, 8) := by kernel_rfl
@[go_sem] theorem ft_apT_82 : apT Try.prog 82 = some (86, 3, 24) := by kernel_rfl
@[go_sem] theorem ft_arS_67 : arS Try.prog 67 = some (5, 1) := by kernel_rfl
@[go_sem] theorem ft_arS_96 : arS Try.prog 96 = some (2, 1) := by kernel_rfl
@[go_sem] theorem ft_bldPl_24 : bldPl Try.prog 24 = some [(0, 1), (1, 1), (2, 1)] := by kernel_rfl
@[go_sem] theorem ft_bldPl_38 : bldPl Try.prog 38 = some [(0, 1), (1, 1), (2, 1), (3, 1), (4, 1)] := by kernel_rfl
@[go_sem] theorem ft_bldPl_67 : bldPl Try.prog 67 = some [(0, 1), (1, 1), (2, 1), (3, 1), (4, 1)] := by kernel_rfl
@[go_sem] theorem ft_bldPl_86 : bldPl Try.prog 86 = some [(0, 1), (1, 1), (2, 1)] := by kernel_rfl
@[go_sem] theorem ft_bldPl_96 : bldPl Try.prog 96 = some [(0, 1), (1, 1)] := by kernel_rfl
@[go_sem] theorem ft_boolT_4 : boolT Try.prog 4 = true := by kernel_rfl
@[go_sem] theorem ft_cvT_2_97 : cvT Try.prog 2 97 = some .u64 := by kernel_rfl
@[go_sem] theorem ft_cvT_97_3 : cvT Try.prog 97 3 = some .i64 := by kernel_rfl
@[go_sem] theorem ft_elS_22 : elS Try.prog 22 = some 5 := by kernel_rfl
@[go_sem] theorem ft_elS_27 : elS Try.prog 27 = some 1 := by kernel_rfl
@[go_sem] theorem ft_elS_30 : elS Try.prog 30 = some 1 := by kernel_rfl
@[go_sem] theorem ft_elS_44 : elS Try.prog 44 = some 1 := by kernel_rfl
@[go_sem] theorem ft_elS_78 : elS Try.prog 78 = some 1 := by kernel_rfl
@[go_sem] theorem ft_elS_82 : elS Try.prog 82 = some 3 := by kernel_rfl
@[go_sem] theorem ft_eqT_38 : eqT Try.prog 38 = some [some .i, some .i, some .i, some .i, some .i] := by kernel_rfl
@[go_sem] theorem ft_fldO_24_0 : fldO Try.prog 24 0 = some 0 := by kernel_rfl
@[go_sem] theorem ft_fldO_24_1 : fldO Try.prog 24 1 = some 1 := by kernel_rfl
@[go_sem] theorem ft_fldO_24_2 : fldO Try.prog 24 2 = some 2 := by kernel_rfl
@[go_sem] theorem ft_fldO_38_0 : fldO Try.prog 38 0 = some 0 := by kernel_rfl
@[go_sem] theorem ft_fldO_38_1 : fldO Try.prog 38 1 = some 1 := by kernel_rfl
@[go_sem] theorem ft_fldO_38_2 : fldO Try.prog 38 2 = some 2 := by kernel_rfl
@[go_sem] theorem ft_fldO_38_3 : fldO Try.prog 38 3 = some 3 := by kernel_rfl
@[go_sem] theorem ft_fldO_38_4 : fldO Try.prog 38 4 = some 4 := by kernel_rfl
@[go_sem] theorem ft_fldO_86_0 : fldO Try.prog 86 0 = some 0 := by kernel_rfl
@[go_sem] theorem ft_fldO_86_1 : fldO Try.prog 86 1 = some 1 := by kernel_rfl
@[go_sem] theorem ft_fldO_86_2 : fldO Try.prog 86 2 = some 2 := by kernel_rfl
@[go_sem] theorem ft_ldT_2 : ldT Try.prog 2 = some (none) := by kernel_rfl
@[go_sem] theorem ft_ldT_22 : ldT Try.prog 22 = some (none) := by kernel_rfl
@[go_sem] theorem ft_ldT_24 : ldT Try.prog 24 = some (some 3) := by kernel_rfl
@[go_sem] theorem ft_ldT_27 : ldT Try.prog 27 = some (none) := by kernel_rfl
@[go_sem] theorem ft_ldT_3 : ldT Try.prog 3 = some (none) := by kernel_rfl
@[go_sem] theorem ft_ldT_38 : ldT Try.prog 38 = some (some 5) := by kernel_rfl
@[go_sem] theorem ft_ldT_4 : ldT Try.prog 4 = some (none) := by kernel_rfl
@[go_sem] theorem ft_ldT_5 : ldT Try.prog 5 = some (none) := by kernel_rfl
@[go_sem] theorem ft_ldT_86 : ldT Try.prog 86 = some (some 3) := by kernel_rfl
@[go_sem] theorem ft_szT_2 : szT Try.prog 2 = some 1 := by kernel_rfl
@[go_sem] theorem ft_szT_27 : szT Try.prog 27 = some 1 := by kernel_rfl
@[go_sem] theorem ft_szT_3 : szT Try.prog 3 = some 1 := by kernel_rfl
@[go_sem] theorem ft_szT_38 : szT Try.prog 38 = some 5 := by kernel_rfl
@[go_sem] theorem ft_szT_67 : szT Try.prog 67 = some 5 := by kernel_rfl
@[go_sem] theorem ft_szT_86 : szT Try.prog 86 = some 3 := by kernel_rfl
@[go_sem] theorem ft_szT_96 : szT Try.prog 96 = some 2 := by kernel_rfl
@[go_sem] theorem ft_zeroL_2 : zeroL Try.prog 2 = some [.int .i64 0] := by kernel_rfl
@[go_sem] theorem ft_zeroL_24 : zeroL Try.prog 24 = some [.int .i64 0, .int .i64 0, .int .i64 0] := by kernel_rfl
@[go_sem] theorem ft_zeroL_27 : zeroL Try.prog 27 = some [.slice none 0 0] := by kernel_rfl
@[go_sem] theorem ft_zeroL_38 : zeroL Try.prog 38 = some [.int .u8 0, .int .i64 0, .int .i64 0, .int .i64 0, .int .i64 0] := by kernel_rfl
@[go_sem] theorem ft_zeroL_67 : zeroL Try.prog 67 = some [.int .i64 0, .int .i64 0, .int .i64 0, .int .i64 0, .int .i64 0] := by kernel_rfl
@[go_sem] theorem ft_zeroL_86 : zeroL Try.prog 86 = some [.int .i64 0, .int .i64 0, .int .i64 0] := by kernel_rfl
@[go_sem] theorem ft_zeroL_96 : zeroL Try.prog 96 = some [.bool false, .bool false] := by kernel_rfl
end Go.Proofs.Ytmdnhmcmnojlkaa
