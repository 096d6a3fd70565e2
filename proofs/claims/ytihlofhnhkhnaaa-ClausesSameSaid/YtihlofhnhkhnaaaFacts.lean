/- Closed facts on the types of this seat's program, printed by a program; each is met by the kernel's own run. -/
import Derived.Test.YtihlofhnhkhnaaaAbsD
import Derived.Test.YtihlofhnhkhnaaaProg
import Derived.KernelRfl
namespace Go.Proofs.Ytihlofhnhkhnaaa
open Go.AL
theorem mo_fact : Try.prog.follows .mixedOrders = true := by kernel_rfl
@[go_sem] theorem ft_apT_24 : apT Try.prog 24 = some (3, 1, 8) := by kernel_rfl
@[go_sem] theorem ft_apT_41 : apT Try.prog 41 = some (57, 5, 40) := by kernel_rfl
@[go_sem] theorem ft_apT_59 : apT Try.prog 59 = some (23, 3, 24) := by kernel_rfl
@[go_sem] theorem ft_apT_62 : apT Try.prog 62 = some (9, 1, 16) := by kernel_rfl
@[go_sem] theorem ft_apT_68 : apT Try.prog 68 = some (82, 3, 24) := by kernel_rfl
@[go_sem] theorem ft_bldPl_23 : bldPl Try.prog 23 = some [(0, 1), (1, 1), (2, 1)] := by kernel_rfl
@[go_sem] theorem ft_bldPl_43 : bldPl Try.prog 43 = some [(0, 1), (1, 1), (2, 1), (3, 1), (4, 1), (5, 3), (8, 1), (9, 1)] := by kernel_rfl
@[go_sem] theorem ft_bldPl_57 : bldPl Try.prog 57 = some [(0, 1), (1, 1), (2, 1), (3, 1), (4, 1)] := by kernel_rfl
@[go_sem] theorem ft_bldPl_82 : bldPl Try.prog 82 = some [(0, 1), (1, 1), (2, 1)] := by kernel_rfl
@[go_sem] theorem ft_boolT_4 : boolT Try.prog 4 = true := by kernel_rfl
@[go_sem] theorem ft_elS_24 : elS Try.prog 24 = some 1 := by kernel_rfl
@[go_sem] theorem ft_elS_41 : elS Try.prog 41 = some 5 := by kernel_rfl
@[go_sem] theorem ft_elS_59 : elS Try.prog 59 = some 3 := by kernel_rfl
@[go_sem] theorem ft_elS_62 : elS Try.prog 62 = some 1 := by kernel_rfl
@[go_sem] theorem ft_elS_68 : elS Try.prog 68 = some 3 := by kernel_rfl
@[go_sem] theorem ft_eqT_23 : eqT Try.prog 23 = some [some .i, some .i, some .i] := by kernel_rfl
@[go_sem] theorem ft_eqT_57 : eqT Try.prog 57 = some [some .i, some .i, some .i, some .i, some .i] := by kernel_rfl
@[go_sem] theorem ft_fldO_23_0 : fldO Try.prog 23 0 = some 0 := by kernel_rfl
@[go_sem] theorem ft_fldO_23_1 : fldO Try.prog 23 1 = some 1 := by kernel_rfl
@[go_sem] theorem ft_fldO_23_2 : fldO Try.prog 23 2 = some 2 := by kernel_rfl
@[go_sem] theorem ft_fldO_43_0 : fldO Try.prog 43 0 = some 0 := by kernel_rfl
@[go_sem] theorem ft_fldO_43_1 : fldO Try.prog 43 1 = some 1 := by kernel_rfl
@[go_sem] theorem ft_fldO_43_2 : fldO Try.prog 43 2 = some 2 := by kernel_rfl
@[go_sem] theorem ft_fldO_43_3 : fldO Try.prog 43 3 = some 3 := by kernel_rfl
@[go_sem] theorem ft_fldO_43_4 : fldO Try.prog 43 4 = some 4 := by kernel_rfl
@[go_sem] theorem ft_fldO_43_5 : fldO Try.prog 43 5 = some 5 := by kernel_rfl
@[go_sem] theorem ft_fldO_43_6 : fldO Try.prog 43 6 = some 8 := by kernel_rfl
@[go_sem] theorem ft_fldO_43_7 : fldO Try.prog 43 7 = some 9 := by kernel_rfl
@[go_sem] theorem ft_fldO_57_0 : fldO Try.prog 57 0 = some 0 := by kernel_rfl
@[go_sem] theorem ft_fldO_57_1 : fldO Try.prog 57 1 = some 1 := by kernel_rfl
@[go_sem] theorem ft_fldO_57_2 : fldO Try.prog 57 2 = some 2 := by kernel_rfl
@[go_sem] theorem ft_fldO_57_3 : fldO Try.prog 57 3 = some 3 := by kernel_rfl
@[go_sem] theorem ft_fldO_57_4 : fldO Try.prog 57 4 = some 4 := by kernel_rfl
@[go_sem] theorem ft_fldO_82_0 : fldO Try.prog 82 0 = some 0 := by kernel_rfl
@[go_sem] theorem ft_fldO_82_1 : fldO Try.prog 82 1 = some 1 := by kernel_rfl
@[go_sem] theorem ft_fldO_82_2 : fldO Try.prog 82 2 = some 2 := by kernel_rfl
@[go_sem] theorem ft_ldT_2 : ldT Try.prog 2 = some (none) := by kernel_rfl
@[go_sem] theorem ft_ldT_23 : ldT Try.prog 23 = some (some 3) := by kernel_rfl
@[go_sem] theorem ft_ldT_24 : ldT Try.prog 24 = some (none) := by kernel_rfl
@[go_sem] theorem ft_ldT_3 : ldT Try.prog 3 = some (none) := by kernel_rfl
@[go_sem] theorem ft_ldT_4 : ldT Try.prog 4 = some (none) := by kernel_rfl
@[go_sem] theorem ft_ldT_41 : ldT Try.prog 41 = some (none) := by kernel_rfl
@[go_sem] theorem ft_ldT_43 : ldT Try.prog 43 = some (some 10) := by kernel_rfl
@[go_sem] theorem ft_ldT_5 : ldT Try.prog 5 = some (none) := by kernel_rfl
@[go_sem] theorem ft_ldT_57 : ldT Try.prog 57 = some (some 5) := by kernel_rfl
@[go_sem] theorem ft_ldT_82 : ldT Try.prog 82 = some (some 3) := by kernel_rfl
@[go_sem] theorem ft_ldT_9 : ldT Try.prog 9 = some (none) := by kernel_rfl
@[go_sem] theorem ft_strT_9 : rSl.strT Try.prog 9 = true := by kernel_rfl
@[go_sem] theorem ft_szT_2 : szT Try.prog 2 = some 1 := by kernel_rfl
@[go_sem] theorem ft_szT_23 : szT Try.prog 23 = some 3 := by kernel_rfl
@[go_sem] theorem ft_szT_24 : szT Try.prog 24 = some 1 := by kernel_rfl
@[go_sem] theorem ft_szT_3 : szT Try.prog 3 = some 1 := by kernel_rfl
@[go_sem] theorem ft_szT_4 : szT Try.prog 4 = some 1 := by kernel_rfl
@[go_sem] theorem ft_szT_41 : szT Try.prog 41 = some 1 := by kernel_rfl
@[go_sem] theorem ft_szT_43 : szT Try.prog 43 = some 10 := by kernel_rfl
@[go_sem] theorem ft_szT_5 : szT Try.prog 5 = some 1 := by kernel_rfl
@[go_sem] theorem ft_szT_57 : szT Try.prog 57 = some 5 := by kernel_rfl
@[go_sem] theorem ft_szT_82 : szT Try.prog 82 = some 3 := by kernel_rfl
@[go_sem] theorem ft_zeroL_23 : zeroL Try.prog 23 = some [.int .u8 0, .int .i64 0, .int .i64 0] := by kernel_rfl
@[go_sem] theorem ft_zeroL_43 : zeroL Try.prog 43 = some [.int .u8 0, .slice none 0 0, .slice none 0 0, .bool false, .slice none 0 0, .int .u8 0, .int .i64 0, .int .i64 0, .bool false, .int .u8 0] := by kernel_rfl
@[go_sem] theorem ft_zeroL_57 : zeroL Try.prog 57 = some [.int .u8 0, .int .i64 0, .int .i64 0, .int .i64 0, .int .i64 0] := by kernel_rfl
@[go_sem] theorem ft_zeroL_82 : zeroL Try.prog 82 = some [.int .i64 0, .int .i64 0, .int .i64 0] := by kernel_rfl
end Go.Proofs.Ytihlofhnhkhnaaa
