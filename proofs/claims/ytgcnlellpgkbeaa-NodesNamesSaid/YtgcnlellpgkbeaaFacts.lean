/- Closed facts on the types of this seat's program, printed by a program; each is met by the kernel's own run. -/
import Derived.Test.YtgcnlellpgkbeaaAbsD
import Derived.Test.YtgcnlellpgkbeaaProg
import Derived.KernelRfl
namespace Go.Proofs.Ytgcnlellpgkbeaa
open Go.AL
theorem mo_fact : Try.prog.follows .mixedOrders = true := by kernel_rfl
@[go_sem] theorem ft_apT_22 : apT Try.prog 22 = some (31, 5, 40) := by kernel_rfl
@[go_sem] theorem ft_apT_50 : apT Try.prog 50 = some (22, 1, 24) := by kernel_rfl
@[go_sem] theorem ft_apT_51 : apT Try.prog 51 = some (4, 1, 1) := by kernel_rfl
@[go_sem] theorem ft_apT_67 : apT Try.prog 67 = some (3, 1, 8) := by kernel_rfl
@[go_sem] theorem ft_apT_70 : apT Try.prog 70 = some (74, 3, 24) := by kernel_rfl
@[go_sem] theorem ft_arS_86 : arS Try.prog 86 = some (2, 1) := by kernel_rfl
@[go_sem] theorem ft_bldPl_31 : bldPl Try.prog 31 = some [(0, 1), (1, 1), (2, 1), (3, 1), (4, 1)] := by kernel_rfl
@[go_sem] theorem ft_bldPl_74 : bldPl Try.prog 74 = some [(0, 1), (1, 1), (2, 1)] := by kernel_rfl
@[go_sem] theorem ft_bldPl_86 : bldPl Try.prog 86 = some [(0, 1), (1, 1)] := by kernel_rfl
@[go_sem] theorem ft_boolT_4 : boolT Try.prog 4 = true := by kernel_rfl
@[go_sem] theorem ft_cvT_3_5 : cvT Try.prog 3 5 = some .u8 := by kernel_rfl
@[go_sem] theorem ft_elS_22 : elS Try.prog 22 = some 5 := by kernel_rfl
@[go_sem] theorem ft_elS_50 : elS Try.prog 50 = some 1 := by kernel_rfl
@[go_sem] theorem ft_elS_51 : elS Try.prog 51 = some 1 := by kernel_rfl
@[go_sem] theorem ft_elS_67 : elS Try.prog 67 = some 1 := by kernel_rfl
@[go_sem] theorem ft_elS_70 : elS Try.prog 70 = some 3 := by kernel_rfl
@[go_sem] theorem ft_eqT_31 : eqT Try.prog 31 = some [some .i, some .i, some .i, some .i, some .i] := by kernel_rfl
@[go_sem] theorem ft_fldO_31_0 : fldO Try.prog 31 0 = some 0 := by kernel_rfl
@[go_sem] theorem ft_fldO_31_1 : fldO Try.prog 31 1 = some 1 := by kernel_rfl
@[go_sem] theorem ft_fldO_31_2 : fldO Try.prog 31 2 = some 2 := by kernel_rfl
@[go_sem] theorem ft_fldO_31_3 : fldO Try.prog 31 3 = some 3 := by kernel_rfl
@[go_sem] theorem ft_fldO_31_4 : fldO Try.prog 31 4 = some 4 := by kernel_rfl
@[go_sem] theorem ft_fldO_74_0 : fldO Try.prog 74 0 = some 0 := by kernel_rfl
@[go_sem] theorem ft_fldO_74_1 : fldO Try.prog 74 1 = some 1 := by kernel_rfl
@[go_sem] theorem ft_fldO_74_2 : fldO Try.prog 74 2 = some 2 := by kernel_rfl
@[go_sem] theorem ft_ldT_2 : ldT Try.prog 2 = some (none) := by kernel_rfl
@[go_sem] theorem ft_ldT_22 : ldT Try.prog 22 = some (none) := by kernel_rfl
@[go_sem] theorem ft_ldT_3 : ldT Try.prog 3 = some (none) := by kernel_rfl
@[go_sem] theorem ft_ldT_31 : ldT Try.prog 31 = some (some 5) := by kernel_rfl
@[go_sem] theorem ft_ldT_4 : ldT Try.prog 4 = some (none) := by kernel_rfl
@[go_sem] theorem ft_ldT_5 : ldT Try.prog 5 = some (none) := by kernel_rfl
@[go_sem] theorem ft_ldT_51 : ldT Try.prog 51 = some (none) := by kernel_rfl
@[go_sem] theorem ft_ldT_74 : ldT Try.prog 74 = some (some 3) := by kernel_rfl
@[go_sem] theorem ft_szT_2 : szT Try.prog 2 = some 1 := by kernel_rfl
@[go_sem] theorem ft_szT_3 : szT Try.prog 3 = some 1 := by kernel_rfl
@[go_sem] theorem ft_szT_31 : szT Try.prog 31 = some 5 := by kernel_rfl
@[go_sem] theorem ft_szT_5 : szT Try.prog 5 = some 1 := by kernel_rfl
@[go_sem] theorem ft_szT_51 : szT Try.prog 51 = some 1 := by kernel_rfl
@[go_sem] theorem ft_szT_74 : szT Try.prog 74 = some 3 := by kernel_rfl
@[go_sem] theorem ft_szT_86 : szT Try.prog 86 = some 2 := by kernel_rfl
@[go_sem] theorem ft_zeroL_31 : zeroL Try.prog 31 = some [.int .u8 0, .int .i64 0, .int .i64 0, .int .i64 0, .int .i64 0] := by kernel_rfl
@[go_sem] theorem ft_zeroL_51 : zeroL Try.prog 51 = some [.slice none 0 0] := by kernel_rfl
@[go_sem] theorem ft_zeroL_74 : zeroL Try.prog 74 = some [.int .i64 0, .int .i64 0, .int .i64 0] := by kernel_rfl
@[go_sem] theorem ft_zeroL_86 : zeroL Try.prog 86 = some [.bool false, .bool false] := by kernel_rfl
end Go.Proofs.Ytgcnlellpgkbeaa
