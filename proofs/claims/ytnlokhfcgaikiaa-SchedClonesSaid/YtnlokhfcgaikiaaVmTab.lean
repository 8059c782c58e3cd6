import Derived.Test.YtnlokhfcgaikiaaProg
import Derived.Test.YtnlokhfcgaikiaaVm17
import Derived.Test.YtnlokhfcgaikiaaVmX13
import Derived.WalkKit
import Derived.KernelRfl
namespace Go.Proofs.Ytnlokhfcgaikiaa
open Go Go.Vm
set_option linter.all false
set_option maxRecDepth 100000
@[simp] theorem ty1 : tyI Try.prog 1 = some (false, 1) := by kernel_rfl
@[simp] theorem el1 : elI Try.prog 1 = none := by kernel_rfl
@[simp] theorem zr1 : zroI Try.prog 1 = some [.v (.nilFunc)] := by kernel_rfl
@[simp] theorem ty2 : tyI Try.prog 2 = some (false, 1) := by kernel_rfl
@[simp] theorem el2 : elI Try.prog 2 = none := by kernel_rfl
@[simp] theorem zr2 : zroI Try.prog 2 = some [.v (.int .i64 0)] := by kernel_rfl
@[simp] theorem ub2 : Try.prog.underlying 2 = some (.int .i64) := by kernel_rfl
@[simp] theorem ty3 : tyI Try.prog 3 = some (false, 1) := by kernel_rfl
@[simp] theorem el3 : elI Try.prog 3 = none := by kernel_rfl
@[simp] theorem zr3 : zroI Try.prog 3 = some [.v (.int .i64 0)] := by kernel_rfl
@[simp] theorem ub3 : Try.prog.underlying 3 = some (.int .i64) := by kernel_rfl
@[simp] theorem ty4 : tyI Try.prog 4 = some (false, 1) := by kernel_rfl
@[simp] theorem el4 : elI Try.prog 4 = none := by kernel_rfl
@[simp] theorem zr4 : zroI Try.prog 4 = some [.v (.bool false)] := by kernel_rfl
@[simp] theorem ub4 : Try.prog.underlying 4 = some .bool := by kernel_rfl
@[simp] theorem ty5 : tyI Try.prog 5 = some (false, 1) := by kernel_rfl
@[simp] theorem el5 : elI Try.prog 5 = none := by kernel_rfl
@[simp] theorem zr5 : zroI Try.prog 5 = some [.v (.int .u8 0)] := by kernel_rfl
@[simp] theorem ub5 : Try.prog.underlying 5 = some (.int .u8) := by kernel_rfl
@[simp] theorem ty9 : tyI Try.prog 9 = some (false, 1) := by kernel_rfl
@[simp] theorem el9 : elI Try.prog 9 = none := by kernel_rfl
@[simp] theorem zr9 : zroI Try.prog 9 = some [.v (.string ⟨#[]⟩)] := by kernel_rfl
@[simp] theorem ub9 : Try.prog.underlying 9 = some .string := by kernel_rfl
@[simp] theorem ty20 : tyI Try.prog 20 = some (false, 1) := by kernel_rfl
@[simp] theorem el20 : elI Try.prog 20 = none := by kernel_rfl
@[simp] theorem zr20 : zroI Try.prog 20 = some [.v (.nilIface)] := by kernel_rfl
@[simp] theorem ty22 : tyI Try.prog 22 = some (false, 1) := by kernel_rfl
@[simp] theorem el22 : elI Try.prog 22 = some (29, 4, 32, #[.int .i64 0, .int .i64 0, .int .i64 0, .int .i64 0]) := by kernel_rfl
@[simp] theorem us22 : Try.prog.underlying 22 = some (.slice 29) := by kernel_rfl
@[simp] theorem zr22 : zroI Try.prog 22 = some [.sl true []] := by kernel_rfl
@[simp] theorem ty24 : tyI Try.prog 24 = some (false, 1) := by kernel_rfl
@[simp] theorem el24 : elI Try.prog 24 = none := by kernel_rfl
@[simp] theorem zr24 : zroI Try.prog 24 = some [.v (.pointer none)] := by kernel_rfl
@[simp] theorem up24 : Try.prog.underlying 24 = some (.pointer 81) := by kernel_rfl
@[simp] theorem ty27 : tyI Try.prog 27 = some (true, 2) := by kernel_rfl
@[simp] theorem el27 : elI Try.prog 27 = none := by kernel_rfl
@[simp] theorem fl27_0 : fldI Try.prog 27 0 = some (0, false, 1) := by kernel_rfl
@[simp] theorem fl27_1 : fldI Try.prog 27 1 = some (1, false, 1) := by kernel_rfl
@[simp] theorem pl27 : plcI Try.prog 27 = some [(0, 1), (1, 1)] := by kernel_rfl
@[simp] theorem zr27 : zroI Try.prog 27 = some [.v (.int .i64 0), .v (.int .i64 0)] := by kernel_rfl
@[simp] theorem ty29 : tyI Try.prog 29 = some (true, 4) := by kernel_rfl
@[simp] theorem el29 : elI Try.prog 29 = none := by kernel_rfl
@[simp] theorem fl29_0 : fldI Try.prog 29 0 = some (0, false, 1) := by kernel_rfl
@[simp] theorem fl29_1 : fldI Try.prog 29 1 = some (1, false, 1) := by kernel_rfl
@[simp] theorem fl29_2 : fldI Try.prog 29 2 = some (2, true, 2) := by kernel_rfl
@[simp] theorem pl29 : plcI Try.prog 29 = some [(0, 1), (1, 1), (2, 2)] := by kernel_rfl
@[simp] theorem zr29 : zroI Try.prog 29 = some [.v (.int .i64 0), .v (.int .i64 0), .v (.int .i64 0), .v (.int .i64 0)] := by kernel_rfl
@[simp] theorem ty30 : tyI Try.prog 30 = some (false, 1) := by kernel_rfl
@[simp] theorem el30 : elI Try.prog 30 = none := by kernel_rfl
@[simp] theorem zr30 : zroI Try.prog 30 = some [.v (.nilFunc)] := by kernel_rfl
@[simp] theorem ty31 : tyI Try.prog 31 = some (false, 1) := by kernel_rfl
@[simp] theorem el31 : elI Try.prog 31 = none := by kernel_rfl
@[simp] theorem zr31 : zroI Try.prog 31 = some [.v (.int .i64 0)] := by kernel_rfl
@[simp] theorem ub31 : Try.prog.underlying 31 = some (.int .i64) := by kernel_rfl
@[simp] theorem ty34 : tyI Try.prog 34 = some (true, 2) := by kernel_rfl
@[simp] theorem el34 : elI Try.prog 34 = none := by kernel_rfl
@[simp] theorem fl34_0 : fldI Try.prog 34 0 = some (0, false, 1) := by kernel_rfl
@[simp] theorem fl34_1 : fldI Try.prog 34 1 = some (1, false, 1) := by kernel_rfl
@[simp] theorem pl34 : plcI Try.prog 34 = some [(0, 1), (1, 1)] := by kernel_rfl
@[simp] theorem zr34 : zroI Try.prog 34 = some [.v (.int .i64 0), .v (.int .i64 0)] := by kernel_rfl
@[simp] theorem ty36 : tyI Try.prog 36 = some (true, 4) := by kernel_rfl
@[simp] theorem el36 : elI Try.prog 36 = none := by kernel_rfl
@[simp] theorem fl36_0 : fldI Try.prog 36 0 = some (0, false, 1) := by kernel_rfl
@[simp] theorem fl36_1 : fldI Try.prog 36 1 = some (1, false, 1) := by kernel_rfl
@[simp] theorem fl36_2 : fldI Try.prog 36 2 = some (2, true, 2) := by kernel_rfl
@[simp] theorem pl36 : plcI Try.prog 36 = some [(0, 1), (1, 1), (2, 2)] := by kernel_rfl
@[simp] theorem zr36 : zroI Try.prog 36 = some [.v (.int .i64 0), .v (.int .i64 0), .v (.int .i64 0), .v (.int .i64 0)] := by kernel_rfl
@[simp] theorem ty41 : tyI Try.prog 41 = some (false, 1) := by kernel_rfl
@[simp] theorem el41 : elI Try.prog 41 = some (45, 5, 40, #[.int .i64 0, .int .i64 0, .bool false, .int .i64 0, .int .i64 0]) := by kernel_rfl
@[simp] theorem us41 : Try.prog.underlying 41 = some (.slice 45) := by kernel_rfl
@[simp] theorem zr41 : zroI Try.prog 41 = some [.sl true []] := by kernel_rfl
@[simp] theorem ty42 : tyI Try.prog 42 = some (false, 1) := by kernel_rfl
@[simp] theorem el42 : elI Try.prog 42 = none := by kernel_rfl
@[simp] theorem zr42 : zroI Try.prog 42 = some [.v (.pointer none)] := by kernel_rfl
@[simp] theorem up42 : Try.prog.underlying 42 = some (.pointer 94) := by kernel_rfl
@[simp] theorem ty45 : tyI Try.prog 45 = some (true, 5) := by kernel_rfl
@[simp] theorem el45 : elI Try.prog 45 = none := by kernel_rfl
@[simp] theorem fl45_0 : fldI Try.prog 45 0 = some (0, false, 1) := by kernel_rfl
@[simp] theorem fl45_1 : fldI Try.prog 45 1 = some (1, false, 1) := by kernel_rfl
@[simp] theorem fl45_2 : fldI Try.prog 45 2 = some (2, false, 1) := by kernel_rfl
@[simp] theorem fl45_3 : fldI Try.prog 45 3 = some (3, true, 2) := by kernel_rfl
@[simp] theorem pl45 : plcI Try.prog 45 = some [(0, 1), (1, 1), (2, 1), (3, 2)] := by kernel_rfl
@[simp] theorem zr45 : zroI Try.prog 45 = some [.v (.int .i64 0), .v (.int .i64 0), .v (.bool false), .v (.int .i64 0), .v (.int .i64 0)] := by kernel_rfl
@[simp] theorem ty46 : tyI Try.prog 46 = some (false, 1) := by kernel_rfl
@[simp] theorem el46 : elI Try.prog 46 = some (115, 4, 32, #[.int .i64 0, .int .i64 0, .int .i64 0, .int .i64 0]) := by kernel_rfl
@[simp] theorem us46 : Try.prog.underlying 46 = some (.slice 115) := by kernel_rfl
@[simp] theorem zr46 : zroI Try.prog 46 = some [.sl true []] := by kernel_rfl
@[simp] theorem ty48 : tyI Try.prog 48 = some (true, 3) := by kernel_rfl
@[simp] theorem el48 : elI Try.prog 48 = none := by kernel_rfl
@[simp] theorem fl48_0 : fldI Try.prog 48 0 = some (0, false, 1) := by kernel_rfl
@[simp] theorem fl48_1 : fldI Try.prog 48 1 = some (1, false, 1) := by kernel_rfl
@[simp] theorem fl48_2 : fldI Try.prog 48 2 = some (2, false, 1) := by kernel_rfl
@[simp] theorem pl48 : plcI Try.prog 48 = some [(0, 1), (1, 1), (2, 1)] := by kernel_rfl
@[simp] theorem zr48 : zroI Try.prog 48 = some [.v (.int .i64 0), .v (.int .i64 0), .sl true []] := by kernel_rfl
@[simp] theorem ty49 : tyI Try.prog 49 = some (false, 1) := by kernel_rfl
@[simp] theorem el49 : elI Try.prog 49 = some (130, 4, 32, #[.int .i64 0, .int .i64 0, .int .i64 0, .int .i64 0]) := by kernel_rfl
@[simp] theorem us49 : Try.prog.underlying 49 = some (.slice 130) := by kernel_rfl
@[simp] theorem zr49 : zroI Try.prog 49 = some [.sl true []] := by kernel_rfl
@[simp] theorem ty51 : tyI Try.prog 51 = some (true, 3) := by kernel_rfl
@[simp] theorem el51 : elI Try.prog 51 = none := by kernel_rfl
@[simp] theorem fl51_0 : fldI Try.prog 51 0 = some (0, false, 1) := by kernel_rfl
@[simp] theorem fl51_1 : fldI Try.prog 51 1 = some (1, false, 1) := by kernel_rfl
@[simp] theorem fl51_2 : fldI Try.prog 51 2 = some (2, false, 1) := by kernel_rfl
@[simp] theorem pl51 : plcI Try.prog 51 = some [(0, 1), (1, 1), (2, 1)] := by kernel_rfl
@[simp] theorem zr51 : zroI Try.prog 51 = some [.v (.int .i64 0), .v (.int .i64 0), .sl true []] := by kernel_rfl
@[simp] theorem ty53 : tyI Try.prog 53 = some (true, 8) := by kernel_rfl
@[simp] theorem el53 : elI Try.prog 53 = none := by kernel_rfl
@[simp] theorem fl53_0 : fldI Try.prog 53 0 = some (0, false, 1) := by kernel_rfl
@[simp] theorem fl53_1 : fldI Try.prog 53 1 = some (1, false, 1) := by kernel_rfl
@[simp] theorem fl53_2 : fldI Try.prog 53 2 = some (2, true, 3) := by kernel_rfl
@[simp] theorem fl53_3 : fldI Try.prog 53 3 = some (5, true, 3) := by kernel_rfl
@[simp] theorem pl53 : plcI Try.prog 53 = some [(0, 1), (1, 1), (2, 3), (5, 3)] := by kernel_rfl
@[simp] theorem zr53 : zroI Try.prog 53 = some [.v (.int .i64 0), .v (.int .i64 0), .v (.int .i64 0), .v (.int .i64 0), .sl true [], .v (.int .i64 0), .v (.int .i64 0), .sl true []] := by kernel_rfl
@[simp] theorem ty57 : tyI Try.prog 57 = some (false, 1) := by kernel_rfl
@[simp] theorem el57 : elI Try.prog 57 = some (34, 2, 16, #[.int .i64 0, .int .i64 0]) := by kernel_rfl
@[simp] theorem us57 : Try.prog.underlying 57 = some (.slice 34) := by kernel_rfl
@[simp] theorem zr57 : zroI Try.prog 57 = some [.sl true []] := by kernel_rfl
@[simp] theorem ty66 : tyI Try.prog 66 = some (false, 1) := by kernel_rfl
@[simp] theorem el66 : elI Try.prog 66 = some (36, 4, 32, #[.int .i64 0, .int .i64 0, .int .i64 0, .int .i64 0]) := by kernel_rfl
@[simp] theorem us66 : Try.prog.underlying 66 = some (.slice 36) := by kernel_rfl
@[simp] theorem zr66 : zroI Try.prog 66 = some [.sl true []] := by kernel_rfl
@[simp] theorem ty76 : tyI Try.prog 76 = some (false, 1) := by kernel_rfl
@[simp] theorem el76 : elI Try.prog 76 = none := by kernel_rfl
@[simp] theorem zr76 : zroI Try.prog 76 = some [.v (.pointer none)] := by kernel_rfl
@[simp] theorem up76 : Try.prog.underlying 76 = some (.pointer 79) := by kernel_rfl
@[simp] theorem ty77 : tyI Try.prog 77 = some (false, 1) := by kernel_rfl
@[simp] theorem el77 : elI Try.prog 77 = none := by kernel_rfl
@[simp] theorem zr77 : zroI Try.prog 77 = some [.v (.map none)] := by kernel_rfl
@[simp] theorem ty79 : tyI Try.prog 79 = some (true, 2) := by kernel_rfl
@[simp] theorem el79 : elI Try.prog 79 = none := by kernel_rfl
@[simp] theorem fl79_0 : fldI Try.prog 79 0 = some (0, false, 1) := by kernel_rfl
@[simp] theorem fl79_1 : fldI Try.prog 79 1 = some (1, false, 1) := by kernel_rfl
@[simp] theorem pl79 : plcI Try.prog 79 = some [(0, 1), (1, 1)] := by kernel_rfl
@[simp] theorem zr79 : zroI Try.prog 79 = some [.sl true [], .v (.map none)] := by kernel_rfl
@[simp] theorem ty81 : tyI Try.prog 81 = some (true, 3) := by kernel_rfl
@[simp] theorem el81 : elI Try.prog 81 = none := by kernel_rfl
@[simp] theorem fl81_0 : fldI Try.prog 81 0 = some (0, false, 1) := by kernel_rfl
@[simp] theorem fl81_1 : fldI Try.prog 81 1 = some (1, false, 1) := by kernel_rfl
@[simp] theorem fl81_2 : fldI Try.prog 81 2 = some (2, false, 1) := by kernel_rfl
@[simp] theorem pl81 : plcI Try.prog 81 = some [(0, 1), (1, 1), (2, 1)] := by kernel_rfl
@[simp] theorem zr81 : zroI Try.prog 81 = some [.v (.int .i64 0), .v (.int .i64 0), .v (.pointer none)] := by kernel_rfl
@[simp] theorem ty87 : tyI Try.prog 87 = some (true, 2) := by kernel_rfl
@[simp] theorem el87 : elI Try.prog 87 = none := by kernel_rfl
@[simp] theorem fl87_0 : fldI Try.prog 87 0 = some (0, false, 1) := by kernel_rfl
@[simp] theorem fl87_1 : fldI Try.prog 87 1 = some (1, false, 1) := by kernel_rfl
@[simp] theorem pl87 : plcI Try.prog 87 = some [(0, 1), (1, 1)] := by kernel_rfl
@[simp] theorem zr87 : zroI Try.prog 87 = some [.v (.bool false), .v (.int .i64 0)] := by kernel_rfl
@[simp] theorem ty91 : tyI Try.prog 91 = some (false, 1) := by kernel_rfl
@[simp] theorem el91 : elI Try.prog 91 = none := by kernel_rfl
@[simp] theorem zr91 : zroI Try.prog 91 = some [.v (.pointer none)] := by kernel_rfl
@[simp] theorem up91 : Try.prog.underlying 91 = some (.pointer 147) := by kernel_rfl
@[simp] theorem ty94 : tyI Try.prog 94 = some (true, 4) := by kernel_rfl
@[simp] theorem el94 : elI Try.prog 94 = none := by kernel_rfl
@[simp] theorem fl94_0 : fldI Try.prog 94 0 = some (0, false, 1) := by kernel_rfl
@[simp] theorem fl94_1 : fldI Try.prog 94 1 = some (1, false, 1) := by kernel_rfl
@[simp] theorem fl94_2 : fldI Try.prog 94 2 = some (2, false, 1) := by kernel_rfl
@[simp] theorem fl94_3 : fldI Try.prog 94 3 = some (3, false, 1) := by kernel_rfl
@[simp] theorem pl94 : plcI Try.prog 94 = some [(0, 1), (1, 1), (2, 1), (3, 1)] := by kernel_rfl
@[simp] theorem zr94 : zroI Try.prog 94 = some [.v (.int .i64 0), .v (.int .i64 0), .v (.pointer none), .v (.pointer none)] := by kernel_rfl
@[simp] theorem ty95 : tyI Try.prog 95 = some (true, 2) := by kernel_rfl
@[simp] theorem el95 : elI Try.prog 95 = none := by kernel_rfl
@[simp] theorem fl95_0 : fldI Try.prog 95 0 = some (0, false, 1) := by kernel_rfl
@[simp] theorem fl95_1 : fldI Try.prog 95 1 = some (1, false, 1) := by kernel_rfl
@[simp] theorem pl95 : plcI Try.prog 95 = some [(0, 1), (1, 1)] := by kernel_rfl
@[simp] theorem zr95 : zroI Try.prog 95 = some [.v (.bool false), .v (.int .i64 0)] := by kernel_rfl
@[simp] theorem ty100 : tyI Try.prog 100 = some (false, 1) := by kernel_rfl
@[simp] theorem el100 : elI Try.prog 100 = some (27, 2, 16, #[.int .i64 0, .int .i64 0]) := by kernel_rfl
@[simp] theorem us100 : Try.prog.underlying 100 = some (.slice 27) := by kernel_rfl
@[simp] theorem zr100 : zroI Try.prog 100 = some [.sl true []] := by kernel_rfl
@[simp] theorem ty107 : tyI Try.prog 107 = some (false, 1) := by kernel_rfl
@[simp] theorem el107 : elI Try.prog 107 = some (110, 4, 32, #[.int .i64 0, .int .i64 0, .int .i64 0, .int .i64 0]) := by kernel_rfl
@[simp] theorem us107 : Try.prog.underlying 107 = some (.slice 110) := by kernel_rfl
@[simp] theorem zr107 : zroI Try.prog 107 = some [.sl true []] := by kernel_rfl
@[simp] theorem ty110 : tyI Try.prog 110 = some (true, 4) := by kernel_rfl
@[simp] theorem el110 : elI Try.prog 110 = none := by kernel_rfl
@[simp] theorem fl110_0 : fldI Try.prog 110 0 = some (0, false, 1) := by kernel_rfl
@[simp] theorem fl110_1 : fldI Try.prog 110 1 = some (1, false, 1) := by kernel_rfl
@[simp] theorem fl110_2 : fldI Try.prog 110 2 = some (2, true, 2) := by kernel_rfl
@[simp] theorem pl110 : plcI Try.prog 110 = some [(0, 1), (1, 1), (2, 2)] := by kernel_rfl
@[simp] theorem zr110 : zroI Try.prog 110 = some [.v (.int .i64 0), .v (.int .i64 0), .v (.int .i64 0), .v (.int .i64 0)] := by kernel_rfl
@[simp] theorem ty115 : tyI Try.prog 115 = some (true, 4) := by kernel_rfl
@[simp] theorem el115 : elI Try.prog 115 = none := by kernel_rfl
@[simp] theorem fl115_0 : fldI Try.prog 115 0 = some (0, false, 1) := by kernel_rfl
@[simp] theorem fl115_1 : fldI Try.prog 115 1 = some (1, false, 1) := by kernel_rfl
@[simp] theorem fl115_2 : fldI Try.prog 115 2 = some (2, true, 2) := by kernel_rfl
@[simp] theorem pl115 : plcI Try.prog 115 = some [(0, 1), (1, 1), (2, 2)] := by kernel_rfl
@[simp] theorem zr115 : zroI Try.prog 115 = some [.v (.int .i64 0), .v (.int .i64 0), .v (.int .i64 0), .v (.int .i64 0)] := by kernel_rfl
@[simp] theorem ty120 : tyI Try.prog 120 = some (false, 1) := by kernel_rfl
@[simp] theorem el120 : elI Try.prog 120 = none := by kernel_rfl
@[simp] theorem zr120 : zroI Try.prog 120 = some [.v (.nilFunc)] := by kernel_rfl
@[simp] theorem ty121 : tyI Try.prog 121 = some (false, 1) := by kernel_rfl
@[simp] theorem el121 : elI Try.prog 121 = none := by kernel_rfl
@[simp] theorem zr121 : zroI Try.prog 121 = some [.v (.nilFunc)] := by kernel_rfl
@[simp] theorem ty123 : tyI Try.prog 123 = some (false, 1) := by kernel_rfl
@[simp] theorem el123 : elI Try.prog 123 = none := by kernel_rfl
@[simp] theorem zr123 : zroI Try.prog 123 = some [.v (.nilFunc)] := by kernel_rfl
@[simp] theorem ty126 : tyI Try.prog 126 = some (false, 1) := by kernel_rfl
@[simp] theorem el126 : elI Try.prog 126 = some (132, 6, 48, #[.bool false, .int .i64 0, .int .i64 0, .int .i64 0, .int .i64 0, .int .i64 0]) := by kernel_rfl
@[simp] theorem us126 : Try.prog.underlying 126 = some (.slice 132) := by kernel_rfl
@[simp] theorem zr126 : zroI Try.prog 126 = some [.sl true []] := by kernel_rfl
@[simp] theorem ty130 : tyI Try.prog 130 = some (true, 4) := by kernel_rfl
@[simp] theorem el130 : elI Try.prog 130 = none := by kernel_rfl
@[simp] theorem fl130_0 : fldI Try.prog 130 0 = some (0, false, 1) := by kernel_rfl
@[simp] theorem fl130_1 : fldI Try.prog 130 1 = some (1, false, 1) := by kernel_rfl
@[simp] theorem fl130_2 : fldI Try.prog 130 2 = some (2, true, 2) := by kernel_rfl
@[simp] theorem pl130 : plcI Try.prog 130 = some [(0, 1), (1, 1), (2, 2)] := by kernel_rfl
@[simp] theorem zr130 : zroI Try.prog 130 = some [.v (.int .i64 0), .v (.int .i64 0), .v (.int .i64 0), .v (.int .i64 0)] := by kernel_rfl
@[simp] theorem ty132 : tyI Try.prog 132 = some (true, 6) := by kernel_rfl
@[simp] theorem el132 : elI Try.prog 132 = none := by kernel_rfl
@[simp] theorem fl132_0 : fldI Try.prog 132 0 = some (0, true, 2) := by kernel_rfl
@[simp] theorem fl132_1 : fldI Try.prog 132 1 = some (2, true, 2) := by kernel_rfl
@[simp] theorem fl132_2 : fldI Try.prog 132 2 = some (4, false, 1) := by kernel_rfl
@[simp] theorem fl132_3 : fldI Try.prog 132 3 = some (5, false, 1) := by kernel_rfl
@[simp] theorem pl132 : plcI Try.prog 132 = some [(0, 2), (2, 2), (4, 1), (5, 1)] := by kernel_rfl
@[simp] theorem zr132 : zroI Try.prog 132 = some [.v (.bool false), .v (.int .i64 0), .v (.int .i64 0), .v (.int .i64 0), .v (.int .i64 0), .v (.int .i64 0)] := by kernel_rfl
@[simp] theorem ty135 : tyI Try.prog 135 = some (false, 1) := by kernel_rfl
@[simp] theorem el135 : elI Try.prog 135 = none := by kernel_rfl
@[simp] theorem zr135 : zroI Try.prog 135 = some [.v (.nilIface)] := by kernel_rfl
@[simp] theorem ty143 : tyI Try.prog 143 = some (false, 1) := by kernel_rfl
@[simp] theorem el143 : elI Try.prog 143 = none := by kernel_rfl
@[simp] theorem zr143 : zroI Try.prog 143 = some [.v (.nilFunc)] := by kernel_rfl
@[simp] theorem ty145 : tyI Try.prog 145 = some (true, 2) := by kernel_rfl
@[simp] theorem el145 : elI Try.prog 145 = none := by kernel_rfl
@[simp] theorem ar145 : arrI Try.prog 145 = some (2, 1) := by kernel_rfl
@[simp] theorem pl145 : plcI Try.prog 145 = some [(0, 1), (1, 1)] := by kernel_rfl
@[simp] theorem zr145 : zroI Try.prog 145 = some [.sl true [], .sl true []] := by kernel_rfl
@[simp] theorem ty147 : tyI Try.prog 147 = some (true, 4) := by kernel_rfl
@[simp] theorem el147 : elI Try.prog 147 = none := by kernel_rfl
@[simp] theorem fl147_0 : fldI Try.prog 147 0 = some (0, false, 1) := by kernel_rfl
@[simp] theorem fl147_1 : fldI Try.prog 147 1 = some (1, false, 1) := by kernel_rfl
@[simp] theorem fl147_2 : fldI Try.prog 147 2 = some (2, true, 2) := by kernel_rfl
@[simp] theorem pl147 : plcI Try.prog 147 = some [(0, 1), (1, 1), (2, 2)] := by kernel_rfl
@[simp] theorem zr147 : zroI Try.prog 147 = some [.v (.int .i64 0), .v (.int .i64 0), .sl true [], .sl true []] := by kernel_rfl
@[simp] theorem ty154 : tyI Try.prog 154 = some (false, 1) := by kernel_rfl
@[simp] theorem el154 : elI Try.prog 154 = some (107, 1, 24, #[.slice none 0 0]) := by kernel_rfl
@[simp] theorem us154 : Try.prog.underlying 154 = some (.slice 107) := by kernel_rfl
@[simp] theorem zr154 : zroI Try.prog 154 = some [.sl true []] := by kernel_rfl
@[simp] theorem ty157 : tyI Try.prog 157 = some (false, 1) := by kernel_rfl
@[simp] theorem el157 : elI Try.prog 157 = none := by kernel_rfl
@[simp] theorem zr157 : zroI Try.prog 157 = some [.v (.nilFunc)] := by kernel_rfl
@[simp] theorem ty162 : tyI Try.prog 162 = some (false, 1) := by kernel_rfl
@[simp] theorem el162 : elI Try.prog 162 = none := by kernel_rfl
@[simp] theorem zr162 : zroI Try.prog 162 = some [.v (.nilFunc)] := by kernel_rfl
@[simp] theorem ty166 : tyI Try.prog 166 = some (false, 1) := by kernel_rfl
@[simp] theorem el166 : elI Try.prog 166 = none := by kernel_rfl
@[simp] theorem zr166 : zroI Try.prog 166 = some [.v (.int .u64 0)] := by kernel_rfl
@[simp] theorem ub166 : Try.prog.underlying 166 = some (.int .u64) := by kernel_rfl
@[simp] theorem ty167 : tyI Try.prog 167 = some (false, 1) := by kernel_rfl
@[simp] theorem el167 : elI Try.prog 167 = some (3, 1, 8, #[.int .i64 0]) := by kernel_rfl
@[simp] theorem us167 : Try.prog.underlying 167 = some (.slice 3) := by kernel_rfl
@[simp] theorem zr167 : zroI Try.prog 167 = some [.sl true []] := by kernel_rfl
@[simp] theorem ty171 : tyI Try.prog 171 = some (false, 1) := by kernel_rfl
@[simp] theorem el171 : elI Try.prog 171 = none := by kernel_rfl
@[simp] theorem zr171 : zroI Try.prog 171 = some [.v (.int .i64 0)] := by kernel_rfl
@[simp] theorem ub171 : Try.prog.underlying 171 = some (.int .i64) := by kernel_rfl
@[simp] theorem ty178 : tyI Try.prog 178 = some (false, 1) := by kernel_rfl
@[simp] theorem el178 : elI Try.prog 178 = none := by kernel_rfl
@[simp] theorem zr178 : zroI Try.prog 178 = some [.v (.int .u32 0)] := by kernel_rfl
@[simp] theorem ub178 : Try.prog.underlying 178 = some (.int .u32) := by kernel_rfl
@[simp] theorem ty180 : tyI Try.prog 180 = some (false, 1) := by kernel_rfl
@[simp] theorem el180 : elI Try.prog 180 = none := by kernel_rfl
@[simp] theorem zr180 : zroI Try.prog 180 = some [.v (.int .u64 0)] := by kernel_rfl
@[simp] theorem ub180 : Try.prog.underlying 180 = some (.int .u64) := by kernel_rfl
@[simp] theorem ty182 : tyI Try.prog 182 = some (false, 1) := by kernel_rfl
@[simp] theorem el182 : elI Try.prog 182 = none := by kernel_rfl
@[simp] theorem zr182 : zroI Try.prog 182 = some [.v (.int .u64 0)] := by kernel_rfl
@[simp] theorem ub182 : Try.prog.underlying 182 = some (.int .u64) := by kernel_rfl
@[simp] theorem ty186 : tyI Try.prog 186 = some (false, 1) := by kernel_rfl
@[simp] theorem el186 : elI Try.prog 186 = none := by kernel_rfl
@[simp] theorem zr186 : zroI Try.prog 186 = some [.v (.pointer none)] := by kernel_rfl
@[simp] theorem up186 : Try.prog.underlying 186 = some (.pointer 3) := by kernel_rfl
@[simp] theorem ty188 : tyI Try.prog 188 = some (false, 1) := by kernel_rfl
@[simp] theorem el188 : elI Try.prog 188 = none := by kernel_rfl
@[simp] theorem zr188 : zroI Try.prog 188 = some [.v (.pointer none)] := by kernel_rfl
@[simp] theorem up188 : Try.prog.underlying 188 = some (.pointer 182) := by kernel_rfl
@[simp] theorem mp77 : mpI Try.prog 77 = some (.int .i64, .int .i64 0) := by kernel_rfl
@[simp] theorem zm77 : zmD (.int .i64 0) = .v (.int .i64 0) := rfl
@[simp] theorem if9 : ifI Try.prog 9 = some false := by kernel_rfl
@[simp] theorem if36 : ifI Try.prog 36 = some false := by kernel_rfl
@[simp] theorem if76 : ifI Try.prog 76 = some false := by kernel_rfl
theorem mi76_Len : MethodIs Try.prog 76 "Len" 34 := fun v args w => by kernel_rfl
theorem mi76_Less : MethodIs Try.prog 76 "Less" 118 := fun v args w => by kernel_rfl
theorem mi76_Pop : MethodIs Try.prog 76 "Pop" 119 := fun v args w => by kernel_rfl
theorem mi76_Push : MethodIs Try.prog 76 "Push" 120 := fun v args w => by kernel_rfl
theorem mi76_Swap : MethodIs Try.prog 76 "Swap" 121 := fun v args w => by kernel_rfl
@[simp] theorem eg27 : Try.prog.eqGuardType Try.prog.depth 27 = false := by kernel_rfl
theorem ei27 (d : Nat) (a0 : Int) (a1 : Int) (b0 : Int) (b1 : Int) (w : World) : (Op.equalIn (d + 2) 27 (.agg #[.int .i64 a0, .int .i64 a1]) (.agg #[.int .i64 b0, .int .i64 b1])).run Try.prog w = .ok ((a0 == b0) && (a1 == b1)) w := by
 have hS : Try.prog.underlying 27 = some (.struct (Try.prog.fieldsOf 27)) := by kernel_rfl
 have hp : Try.prog.stoodInHeld 27 = false := by kernel_rfl
 rw [show d + 2 = (d + 1) + 1 from rfl, run_equalIn_agg w (d + 1) 27 _ _ hS hp]
 simp only [Program.fieldsOf, Try.underlying27]
 have ia3 := Try.isAgg3
 have iz3 := Try.sizeOf3
 have iu3 := Try.underlying3
 go_simp
 by_cases e0 : a0 = b0 <;> by_cases e1 : a1 = b1 <;> simp [e0, e1, bytesEq_iff]
theorem ae27 (a0 : Int) (a1 : Int) (b0 : Int) (b1 : Int) : AggEq Try.prog 27 [.v (.int .i64 a0), .v (.int .i64 a1)] [.v (.int .i64 b0), .v (.int .i64 b1)] ((a0 == b0) && (a1 == b1)) :=
 ⟨[.int .i64 a0, .int .i64 a1], [.int .i64 b0, .int .i64 b1], rfl, rfl, fun w => ei27 9998 a0 a1 b0 b1 w⟩
@[simp] theorem aq27 (a0 : Int) (a1 : Int) (b0 : Int) (b1 : Int) (K : Bool → Prop) : vcAgg Try.prog 27 [.v (.int .i64 a0), .v (.int .i64 a1)] [.v (.int .i64 b0), .v (.int .i64 b1)] K = K ((a0 == b0) && (a1 == b1)) := vcAgg_iff (ae27 a0 a1 b0 b1)
@[simp] theorem eg36 : Try.prog.eqGuardType Try.prog.depth 36 = false := by kernel_rfl
theorem ei34 (d : Nat) (a0 : Int) (a1 : Int) (b0 : Int) (b1 : Int) (w : World) : (Op.equalIn (d + 2) 34 (.agg #[.int .i64 a0, .int .i64 a1]) (.agg #[.int .i64 b0, .int .i64 b1])).run Try.prog w = .ok ((a0 == b0) && (a1 == b1)) w := by
 have hS : Try.prog.underlying 34 = some (.struct (Try.prog.fieldsOf 34)) := by kernel_rfl
 have hp : Try.prog.stoodInHeld 34 = false := by kernel_rfl
 rw [show d + 2 = (d + 1) + 1 from rfl, run_equalIn_agg w (d + 1) 34 _ _ hS hp]
 simp only [Program.fieldsOf, Try.underlying34]
 have ia3 := Try.isAgg3
 have iz3 := Try.sizeOf3
 have iu3 := Try.underlying3
 go_simp
 by_cases e0 : a0 = b0 <;> by_cases e1 : a1 = b1 <;> simp [e0, e1, bytesEq_iff]
theorem ei36 (d : Nat) (a0 : Int) (a1 : Int) (a2 : Int) (a3 : Int) (b0 : Int) (b1 : Int) (b2 : Int) (b3 : Int) (w : World) : (Op.equalIn (d + 3) 36 (.agg #[.int .i64 a0, .int .i64 a1, .int .i64 a2, .int .i64 a3]) (.agg #[.int .i64 b0, .int .i64 b1, .int .i64 b2, .int .i64 b3])).run Try.prog w = .ok ((a0 == b0) && (a1 == b1) && (a2 == b2) && (a3 == b3)) w := by
 have hS : Try.prog.underlying 36 = some (.struct (Try.prog.fieldsOf 36)) := by kernel_rfl
 have hp : Try.prog.stoodInHeld 36 = false := by kernel_rfl
 rw [show d + 3 = (d + 2) + 1 from rfl, run_equalIn_agg w (d + 2) 36 _ _ hS hp]
 simp only [Program.fieldsOf, Try.underlying36]
 have ia3 := Try.isAgg3
 have iz3 := Try.sizeOf3
 have iu3 := Try.underlying3
 have ia34 := Try.isAgg34
 have iz34 := Try.sizeOf34
 go_simp
 by_cases e0 : a0 = b0 <;> by_cases e1 : a1 = b1 <;> by_cases e2 : a2 = b2 <;> by_cases e3 : a3 = b3 <;> simp [e0, e1, e2, e3, bytesEq_iff]
theorem ae36 (a0 : Int) (a1 : Int) (a2 : Int) (a3 : Int) (b0 : Int) (b1 : Int) (b2 : Int) (b3 : Int) : AggEq Try.prog 36 [.v (.int .i64 a0), .v (.int .i64 a1), .v (.int .i64 a2), .v (.int .i64 a3)] [.v (.int .i64 b0), .v (.int .i64 b1), .v (.int .i64 b2), .v (.int .i64 b3)] ((a0 == b0) && (a1 == b1) && (a2 == b2) && (a3 == b3)) :=
 ⟨[.int .i64 a0, .int .i64 a1, .int .i64 a2, .int .i64 a3], [.int .i64 b0, .int .i64 b1, .int .i64 b2, .int .i64 b3], rfl, rfl, fun w => ei36 9997 a0 a1 a2 a3 b0 b1 b2 b3 w⟩
@[simp] theorem aq36 (a0 : Int) (a1 : Int) (a2 : Int) (a3 : Int) (b0 : Int) (b1 : Int) (b2 : Int) (b3 : Int) (K : Bool → Prop) : vcAgg Try.prog 36 [.v (.int .i64 a0), .v (.int .i64 a1), .v (.int .i64 a2), .v (.int .i64 a3)] [.v (.int .i64 b0), .v (.int .i64 b1), .v (.int .i64 b2), .v (.int .i64 b3)] K = K ((a0 == b0) && (a1 == b1) && (a2 == b2) && (a3 == b3)) := vcAgg_iff (ae36 a0 a1 a2 a3 b0 b1 b2 b3)
@[simp] theorem eg87 : Try.prog.eqGuardType Try.prog.depth 87 = false := by kernel_rfl
theorem ei87 (d : Nat) (a0 : Bool) (a1 : Int) (b0 : Bool) (b1 : Int) (w : World) : (Op.equalIn (d + 2) 87 (.agg #[.bool a0, .int .i64 a1]) (.agg #[.bool b0, .int .i64 b1])).run Try.prog w = .ok ((a0 == b0) && (a1 == b1)) w := by
 have hS : Try.prog.underlying 87 = some (.struct (Try.prog.fieldsOf 87)) := by kernel_rfl
 have hp : Try.prog.stoodInHeld 87 = false := by kernel_rfl
 rw [show d + 2 = (d + 1) + 1 from rfl, run_equalIn_agg w (d + 1) 87 _ _ hS hp]
 simp only [Program.fieldsOf, Try.underlying87]
 have ia3 := Try.isAgg3
 have iz3 := Try.sizeOf3
 have iu3 := Try.underlying3
 have ia4 := Try.isAgg4
 have iz4 := Try.sizeOf4
 have iu4 := Try.underlying4
 go_simp
 by_cases e0 : a0 = b0 <;> by_cases e1 : a1 = b1 <;> simp [e0, e1, bytesEq_iff]
theorem ae87 (a0 : Bool) (a1 : Int) (b0 : Bool) (b1 : Int) : AggEq Try.prog 87 [.v (.bool a0), .v (.int .i64 a1)] [.v (.bool b0), .v (.int .i64 b1)] ((a0 == b0) && (a1 == b1)) :=
 ⟨[.bool a0, .int .i64 a1], [.bool b0, .int .i64 b1], rfl, rfl, fun w => ei87 9998 a0 a1 b0 b1 w⟩
@[simp] theorem aq87 (a0 : Bool) (a1 : Int) (b0 : Bool) (b1 : Int) (K : Bool → Prop) : vcAgg Try.prog 87 [.v (.bool a0), .v (.int .i64 a1)] [.v (.bool b0), .v (.int .i64 b1)] K = K ((a0 == b0) && (a1 == b1)) := vcAgg_iff (ae87 a0 a1 b0 b1)
@[simp] theorem eg95 : Try.prog.eqGuardType Try.prog.depth 95 = false := by kernel_rfl
theorem ei95 (d : Nat) (a0 : Bool) (a1 : Int) (b0 : Bool) (b1 : Int) (w : World) : (Op.equalIn (d + 2) 95 (.agg #[.bool a0, .int .i64 a1]) (.agg #[.bool b0, .int .i64 b1])).run Try.prog w = .ok ((a0 == b0) && (a1 == b1)) w := by
 have hS : Try.prog.underlying 95 = some (.struct (Try.prog.fieldsOf 95)) := by kernel_rfl
 have hp : Try.prog.stoodInHeld 95 = false := by kernel_rfl
 rw [show d + 2 = (d + 1) + 1 from rfl, run_equalIn_agg w (d + 1) 95 _ _ hS hp]
 simp only [Program.fieldsOf, Try.underlying95]
 have ia3 := Try.isAgg3
 have iz3 := Try.sizeOf3
 have iu3 := Try.underlying3
 have ia4 := Try.isAgg4
 have iz4 := Try.sizeOf4
 have iu4 := Try.underlying4
 go_simp
 by_cases e0 : a0 = b0 <;> by_cases e1 : a1 = b1 <;> simp [e0, e1, bytesEq_iff]
theorem ae95 (a0 : Bool) (a1 : Int) (b0 : Bool) (b1 : Int) : AggEq Try.prog 95 [.v (.bool a0), .v (.int .i64 a1)] [.v (.bool b0), .v (.int .i64 b1)] ((a0 == b0) && (a1 == b1)) :=
 ⟨[.bool a0, .int .i64 a1], [.bool b0, .int .i64 b1], rfl, rfl, fun w => ei95 9998 a0 a1 b0 b1 w⟩
@[simp] theorem aq95 (a0 : Bool) (a1 : Int) (b0 : Bool) (b1 : Int) (K : Bool → Prop) : vcAgg Try.prog 95 [.v (.bool a0), .v (.int .i64 a1)] [.v (.bool b0), .v (.int .i64 b1)] K = K ((a0 == b0) && (a1 == b1)) := vcAgg_iff (ae95 a0 a1 b0 b1)
@[simp] theorem eg115 : Try.prog.eqGuardType Try.prog.depth 115 = false := by kernel_rfl
theorem ei115 (d : Nat) (a0 : Int) (a1 : Int) (a2 : Int) (a3 : Int) (b0 : Int) (b1 : Int) (b2 : Int) (b3 : Int) (w : World) : (Op.equalIn (d + 3) 115 (.agg #[.int .i64 a0, .int .i64 a1, .int .i64 a2, .int .i64 a3]) (.agg #[.int .i64 b0, .int .i64 b1, .int .i64 b2, .int .i64 b3])).run Try.prog w = .ok ((a0 == b0) && (a1 == b1) && (a2 == b2) && (a3 == b3)) w := by
 have hS : Try.prog.underlying 115 = some (.struct (Try.prog.fieldsOf 115)) := by kernel_rfl
 have hp : Try.prog.stoodInHeld 115 = false := by kernel_rfl
 rw [show d + 3 = (d + 2) + 1 from rfl, run_equalIn_agg w (d + 2) 115 _ _ hS hp]
 simp only [Program.fieldsOf, Try.underlying115]
 have ia3 := Try.isAgg3
 have iz3 := Try.sizeOf3
 have iu3 := Try.underlying3
 have ia27 := Try.isAgg27
 have iz27 := Try.sizeOf27
 go_simp
 by_cases e0 : a0 = b0 <;> by_cases e1 : a1 = b1 <;> by_cases e2 : a2 = b2 <;> by_cases e3 : a3 = b3 <;> simp [e0, e1, e2, e3, bytesEq_iff]
theorem ae115 (a0 : Int) (a1 : Int) (a2 : Int) (a3 : Int) (b0 : Int) (b1 : Int) (b2 : Int) (b3 : Int) : AggEq Try.prog 115 [.v (.int .i64 a0), .v (.int .i64 a1), .v (.int .i64 a2), .v (.int .i64 a3)] [.v (.int .i64 b0), .v (.int .i64 b1), .v (.int .i64 b2), .v (.int .i64 b3)] ((a0 == b0) && (a1 == b1) && (a2 == b2) && (a3 == b3)) :=
 ⟨[.int .i64 a0, .int .i64 a1, .int .i64 a2, .int .i64 a3], [.int .i64 b0, .int .i64 b1, .int .i64 b2, .int .i64 b3], rfl, rfl, fun w => ei115 9997 a0 a1 a2 a3 b0 b1 b2 b3 w⟩
@[simp] theorem aq115 (a0 : Int) (a1 : Int) (a2 : Int) (a3 : Int) (b0 : Int) (b1 : Int) (b2 : Int) (b3 : Int) (K : Bool → Prop) : vcAgg Try.prog 115 [.v (.int .i64 a0), .v (.int .i64 a1), .v (.int .i64 a2), .v (.int .i64 a3)] [.v (.int .i64 b0), .v (.int .i64 b1), .v (.int .i64 b2), .v (.int .i64 b3)] K = K ((a0 == b0) && (a1 == b1) && (a2 == b2) && (a3 == b3)) := vcAgg_iff (ae115 a0 a1 a2 a3 b0 b1 b2 b3)
@[simp] theorem eg132 : Try.prog.eqGuardType Try.prog.depth 132 = false := by kernel_rfl
theorem ei132 (d : Nat) (a0 : Bool) (a1 : Int) (a2 : Int) (a3 : Int) (a4 : Int) (a5 : Int) (b0 : Bool) (b1 : Int) (b2 : Int) (b3 : Int) (b4 : Int) (b5 : Int) (w : World) : (Op.equalIn (d + 3) 132 (.agg #[.bool a0, .int .i64 a1, .int .i64 a2, .int .i64 a3, .int .i64 a4, .int .i64 a5]) (.agg #[.bool b0, .int .i64 b1, .int .i64 b2, .int .i64 b3, .int .i64 b4, .int .i64 b5])).run Try.prog w = .ok ((a0 == b0) && (a1 == b1) && (a2 == b2) && (a3 == b3) && (a4 == b4) && (a5 == b5)) w := by
 have hS : Try.prog.underlying 132 = some (.struct (Try.prog.fieldsOf 132)) := by kernel_rfl
 have hp : Try.prog.stoodInHeld 132 = false := by kernel_rfl
 rw [show d + 3 = (d + 2) + 1 from rfl, run_equalIn_agg w (d + 2) 132 _ _ hS hp]
 simp only [Program.fieldsOf, Try.underlying132]
 have ia3 := Try.isAgg3
 have iz3 := Try.sizeOf3
 have iu3 := Try.underlying3
 have ia34 := Try.isAgg34
 have iz34 := Try.sizeOf34
 have ia87 := Try.isAgg87
 have iz87 := Try.sizeOf87
 go_simp
 by_cases e0 : a0 = b0 <;> by_cases e1 : a1 = b1 <;> by_cases e2 : a2 = b2 <;> by_cases e3 : a3 = b3 <;> by_cases e4 : a4 = b4 <;> by_cases e5 : a5 = b5 <;> simp [e0, e1, e2, e3, e4, e5, bytesEq_iff]
theorem ae132 (a0 : Bool) (a1 : Int) (a2 : Int) (a3 : Int) (a4 : Int) (a5 : Int) (b0 : Bool) (b1 : Int) (b2 : Int) (b3 : Int) (b4 : Int) (b5 : Int) : AggEq Try.prog 132 [.v (.bool a0), .v (.int .i64 a1), .v (.int .i64 a2), .v (.int .i64 a3), .v (.int .i64 a4), .v (.int .i64 a5)] [.v (.bool b0), .v (.int .i64 b1), .v (.int .i64 b2), .v (.int .i64 b3), .v (.int .i64 b4), .v (.int .i64 b5)] ((a0 == b0) && (a1 == b1) && (a2 == b2) && (a3 == b3) && (a4 == b4) && (a5 == b5)) :=
 ⟨[.bool a0, .int .i64 a1, .int .i64 a2, .int .i64 a3, .int .i64 a4, .int .i64 a5], [.bool b0, .int .i64 b1, .int .i64 b2, .int .i64 b3, .int .i64 b4, .int .i64 b5], rfl, rfl, fun w => ei132 9997 a0 a1 a2 a3 a4 a5 b0 b1 b2 b3 b4 b5 w⟩
@[simp] theorem aq132 (a0 : Bool) (a1 : Int) (a2 : Int) (a3 : Int) (a4 : Int) (a5 : Int) (b0 : Bool) (b1 : Int) (b2 : Int) (b3 : Int) (b4 : Int) (b5 : Int) (K : Bool → Prop) : vcAgg Try.prog 132 [.v (.bool a0), .v (.int .i64 a1), .v (.int .i64 a2), .v (.int .i64 a3), .v (.int .i64 a4), .v (.int .i64 a5)] [.v (.bool b0), .v (.int .i64 b1), .v (.int .i64 b2), .v (.int .i64 b3), .v (.int .i64 b4), .v (.int .i64 b5)] K = K ((a0 == b0) && (a1 == b1) && (a2 == b2) && (a3 == b3) && (a4 == b4) && (a5 == b5)) := vcAgg_iff (ae132 a0 a1 a2 a3 a4 a5 b0 b1 b2 b3 b4 b5)
end Go.Proofs.Ytnlokhfcgaikiaa
