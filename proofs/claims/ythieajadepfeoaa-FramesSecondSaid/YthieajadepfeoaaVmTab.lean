/- The tables of the types that this seat's functions use, read off the program by the kernel. Written by a program of ours. -/
import Derived.Test.YthieajadepfeoaaProg
import Derived.Test.YthieajadepfeoaaVm17
import Derived.WalkKit
import Derived.KernelRfl
namespace Go.Proofs.Ythieajadepfeoaa
open Go Go.Vm
set_option maxRecDepth 100000
@[simp] theorem ty1 : tyI Try.prog 1 = some (false, 1) := by kernel_rfl
@[simp] theorem el1 : elI Try.prog 1 = none := by kernel_rfl
@[simp] theorem zr1 : zroI Try.prog 1 = some [.v (.nilFunc)] := by kernel_rfl
@[simp] theorem ty2 : tyI Try.prog 2 = some (false, 1) := by kernel_rfl
@[simp] theorem el2 : elI Try.prog 2 = none := by kernel_rfl
@[simp] theorem zr2 : zroI Try.prog 2 = some [.v (.int .i64 0)] := by kernel_rfl
@[simp] theorem ub2 : Try.prog.underlying 2 = some (.int .i64) := by kernel_rfl
@[simp] theorem ty3 : tyI Try.prog 3 = some (false, 1) := by kernel_rfl
@[simp] theorem el3 : elI Try.prog 3 = none := by kernel_rfl
@[simp] theorem zr3 : zroI Try.prog 3 = some [.v (.int .i64 0)] := by kernel_rfl
@[simp] theorem ub3 : Try.prog.underlying 3 = some (.int .i64) := by kernel_rfl
@[simp] theorem ty4 : tyI Try.prog 4 = some (false, 1) := by kernel_rfl
@[simp] theorem el4 : elI Try.prog 4 = none := by kernel_rfl
@[simp] theorem zr4 : zroI Try.prog 4 = some [.v (.bool false)] := by kernel_rfl
@[simp] theorem ub4 : Try.prog.underlying 4 = some .bool := by kernel_rfl
@[simp] theorem ty5 : tyI Try.prog 5 = some (false, 1) := by kernel_rfl
@[simp] theorem el5 : elI Try.prog 5 = none := by kernel_rfl
@[simp] theorem zr5 : zroI Try.prog 5 = some [.v (.int .u8 0)] := by kernel_rfl
@[simp] theorem ub5 : Try.prog.underlying 5 = some (.int .u8) := by kernel_rfl
@[simp] theorem ty6 : tyI Try.prog 6 = some (false, 1) := by kernel_rfl
@[simp] theorem el6 : elI Try.prog 6 = none := by kernel_rfl
@[simp] theorem zr6 : zroI Try.prog 6 = some [.v (.int .u8 0)] := by kernel_rfl
@[simp] theorem ub6 : Try.prog.underlying 6 = some (.int .u8) := by kernel_rfl
@[simp] theorem ty9 : tyI Try.prog 9 = some (false, 1) := by kernel_rfl
@[simp] theorem el9 : elI Try.prog 9 = none := by kernel_rfl
@[simp] theorem zr9 : zroI Try.prog 9 = some [.v (.string ⟨#[]⟩)] := by kernel_rfl
@[simp] theorem ub9 : Try.prog.underlying 9 = some .string := by kernel_rfl
@[simp] theorem ty10 : tyI Try.prog 10 = some (false, 1) := by kernel_rfl
@[simp] theorem el10 : elI Try.prog 10 = none := by kernel_rfl
@[simp] theorem zr10 : zroI Try.prog 10 = some [.v (.string ⟨#[]⟩)] := by kernel_rfl
@[simp] theorem ub10 : Try.prog.underlying 10 = some .string := by kernel_rfl
@[simp] theorem ty20 : tyI Try.prog 20 = some (false, 1) := by kernel_rfl
@[simp] theorem el20 : elI Try.prog 20 = none := by kernel_rfl
@[simp] theorem zr20 : zroI Try.prog 20 = some [.v (.nilIface)] := by kernel_rfl
@[simp] theorem ty22 : tyI Try.prog 22 = some (false, 1) := by kernel_rfl
@[simp] theorem el22 : elI Try.prog 22 = some (9, 1, 16, #[.string ⟨#[]⟩]) := by kernel_rfl
@[simp] theorem us22 : Try.prog.underlying 22 = some (.slice 9) := by kernel_rfl
@[simp] theorem zr22 : zroI Try.prog 22 = some [.sl true []] := by kernel_rfl
@[simp] theorem ty23 : tyI Try.prog 23 = some (false, 1) := by kernel_rfl
@[simp] theorem el23 : elI Try.prog 23 = some (27, 2, 24, #[.bool false, .string ⟨#[]⟩]) := by kernel_rfl
@[simp] theorem us23 : Try.prog.underlying 23 = some (.slice 27) := by kernel_rfl
@[simp] theorem zr23 : zroI Try.prog 23 = some [.sl true []] := by kernel_rfl
@[simp] theorem ty27 : tyI Try.prog 27 = some (true, 2) := by kernel_rfl
@[simp] theorem el27 : elI Try.prog 27 = none := by kernel_rfl
@[simp] theorem fl27_0 : fldI Try.prog 27 0 = some (0, false, 1) := by kernel_rfl
@[simp] theorem fl27_1 : fldI Try.prog 27 1 = some (1, false, 1) := by kernel_rfl
@[simp] theorem pl27 : plcI Try.prog 27 = some [(0, 1), (1, 1)] := by kernel_rfl
@[simp] theorem zr27 : zroI Try.prog 27 = some [.v (.bool false), .v (.string ⟨#[]⟩)] := by kernel_rfl
@[simp] theorem ty32 : tyI Try.prog 32 = some (false, 1) := by kernel_rfl
@[simp] theorem el32 : elI Try.prog 32 = some (66, 2, 24, #[.bool false, .string ⟨#[]⟩]) := by kernel_rfl
@[simp] theorem us32 : Try.prog.underlying 32 = some (.slice 66) := by kernel_rfl
@[simp] theorem zr32 : zroI Try.prog 32 = some [.sl true []] := by kernel_rfl
@[simp] theorem ty35 : tyI Try.prog 35 = some (false, 1) := by kernel_rfl
@[simp] theorem el35 : elI Try.prog 35 = some (43, 4, 32, #[.int .i64 0, .int .i64 0, .int .i64 0, .int .i64 0]) := by kernel_rfl
@[simp] theorem us35 : Try.prog.underlying 35 = some (.slice 43) := by kernel_rfl
@[simp] theorem zr35 : zroI Try.prog 35 = some [.sl true []] := by kernel_rfl
@[simp] theorem ty36 : tyI Try.prog 36 = some (false, 1) := by kernel_rfl
@[simp] theorem el36 : elI Try.prog 36 = none := by kernel_rfl
@[simp] theorem zr36 : zroI Try.prog 36 = some [.v (.pointer none)] := by kernel_rfl
@[simp] theorem up36 : Try.prog.underlying 36 = some (.pointer 95) := by kernel_rfl
@[simp] theorem ty38 : tyI Try.prog 38 = some (false, 1) := by kernel_rfl
@[simp] theorem el38 : elI Try.prog 38 = some (3, 1, 8, #[.int .i64 0]) := by kernel_rfl
@[simp] theorem us38 : Try.prog.underlying 38 = some (.slice 3) := by kernel_rfl
@[simp] theorem zr38 : zroI Try.prog 38 = some [.sl true []] := by kernel_rfl
@[simp] theorem ty39 : tyI Try.prog 39 = some (false, 1) := by kernel_rfl
@[simp] theorem el39 : elI Try.prog 39 = some (4, 1, 1, #[.bool false]) := by kernel_rfl
@[simp] theorem us39 : Try.prog.underlying 39 = some (.slice 4) := by kernel_rfl
@[simp] theorem zr39 : zroI Try.prog 39 = some [.sl true []] := by kernel_rfl
@[simp] theorem ty41 : tyI Try.prog 41 = some (true, 2) := by kernel_rfl
@[simp] theorem el41 : elI Try.prog 41 = none := by kernel_rfl
@[simp] theorem fl41_0 : fldI Try.prog 41 0 = some (0, false, 1) := by kernel_rfl
@[simp] theorem fl41_1 : fldI Try.prog 41 1 = some (1, false, 1) := by kernel_rfl
@[simp] theorem pl41 : plcI Try.prog 41 = some [(0, 1), (1, 1)] := by kernel_rfl
@[simp] theorem zr41 : zroI Try.prog 41 = some [.v (.int .i64 0), .v (.int .i64 0)] := by kernel_rfl
@[simp] theorem ty43 : tyI Try.prog 43 = some (true, 4) := by kernel_rfl
@[simp] theorem el43 : elI Try.prog 43 = none := by kernel_rfl
@[simp] theorem fl43_0 : fldI Try.prog 43 0 = some (0, false, 1) := by kernel_rfl
@[simp] theorem fl43_1 : fldI Try.prog 43 1 = some (1, false, 1) := by kernel_rfl
@[simp] theorem fl43_2 : fldI Try.prog 43 2 = some (2, true, 2) := by kernel_rfl
@[simp] theorem pl43 : plcI Try.prog 43 = some [(0, 1), (1, 1), (2, 2)] := by kernel_rfl
@[simp] theorem zr43 : zroI Try.prog 43 = some [.v (.int .i64 0), .v (.int .i64 0), .v (.int .i64 0), .v (.int .i64 0)] := by kernel_rfl
@[simp] theorem ty44 : tyI Try.prog 44 = some (false, 1) := by kernel_rfl
@[simp] theorem el44 : elI Try.prog 44 = none := by kernel_rfl
@[simp] theorem zr44 : zroI Try.prog 44 = some [.v (.int .i64 0)] := by kernel_rfl
@[simp] theorem ub44 : Try.prog.underlying 44 = some (.int .i64) := by kernel_rfl
@[simp] theorem ty47 : tyI Try.prog 47 = some (true, 2) := by kernel_rfl
@[simp] theorem el47 : elI Try.prog 47 = none := by kernel_rfl
@[simp] theorem fl47_0 : fldI Try.prog 47 0 = some (0, false, 1) := by kernel_rfl
@[simp] theorem fl47_1 : fldI Try.prog 47 1 = some (1, false, 1) := by kernel_rfl
@[simp] theorem pl47 : plcI Try.prog 47 = some [(0, 1), (1, 1)] := by kernel_rfl
@[simp] theorem zr47 : zroI Try.prog 47 = some [.v (.int .i64 0), .v (.int .i64 0)] := by kernel_rfl
@[simp] theorem ty49 : tyI Try.prog 49 = some (false, 1) := by kernel_rfl
@[simp] theorem el49 : elI Try.prog 49 = some (52, 4, 32, #[.int .i64 0, .int .i64 0, .int .i64 0, .int .i64 0]) := by kernel_rfl
@[simp] theorem us49 : Try.prog.underlying 49 = some (.slice 52) := by kernel_rfl
@[simp] theorem zr49 : zroI Try.prog 49 = some [.sl true []] := by kernel_rfl
@[simp] theorem ty52 : tyI Try.prog 52 = some (true, 4) := by kernel_rfl
@[simp] theorem el52 : elI Try.prog 52 = none := by kernel_rfl
@[simp] theorem fl52_0 : fldI Try.prog 52 0 = some (0, false, 1) := by kernel_rfl
@[simp] theorem fl52_1 : fldI Try.prog 52 1 = some (1, false, 1) := by kernel_rfl
@[simp] theorem fl52_2 : fldI Try.prog 52 2 = some (2, true, 2) := by kernel_rfl
@[simp] theorem pl52 : plcI Try.prog 52 = some [(0, 1), (1, 1), (2, 2)] := by kernel_rfl
@[simp] theorem zr52 : zroI Try.prog 52 = some [.v (.int .i64 0), .v (.int .i64 0), .v (.int .i64 0), .v (.int .i64 0)] := by kernel_rfl
@[simp] theorem ty55 : tyI Try.prog 55 = some (false, 1) := by kernel_rfl
@[simp] theorem el55 : elI Try.prog 55 = some (105, 4, 32, #[.int .i64 0, .int .i64 0, .int .i64 0, .int .i64 0]) := by kernel_rfl
@[simp] theorem us55 : Try.prog.underlying 55 = some (.slice 105) := by kernel_rfl
@[simp] theorem zr55 : zroI Try.prog 55 = some [.sl true []] := by kernel_rfl
@[simp] theorem ty57 : tyI Try.prog 57 = some (true, 3) := by kernel_rfl
@[simp] theorem el57 : elI Try.prog 57 = none := by kernel_rfl
@[simp] theorem fl57_0 : fldI Try.prog 57 0 = some (0, false, 1) := by kernel_rfl
@[simp] theorem fl57_1 : fldI Try.prog 57 1 = some (1, false, 1) := by kernel_rfl
@[simp] theorem fl57_2 : fldI Try.prog 57 2 = some (2, false, 1) := by kernel_rfl
@[simp] theorem pl57 : plcI Try.prog 57 = some [(0, 1), (1, 1), (2, 1)] := by kernel_rfl
@[simp] theorem zr57 : zroI Try.prog 57 = some [.v (.int .i64 0), .v (.int .i64 0), .sl true []] := by kernel_rfl
@[simp] theorem ty66 : tyI Try.prog 66 = some (true, 2) := by kernel_rfl
@[simp] theorem el66 : elI Try.prog 66 = none := by kernel_rfl
@[simp] theorem fl66_0 : fldI Try.prog 66 0 = some (0, false, 1) := by kernel_rfl
@[simp] theorem fl66_1 : fldI Try.prog 66 1 = some (1, false, 1) := by kernel_rfl
@[simp] theorem pl66 : plcI Try.prog 66 = some [(0, 1), (1, 1)] := by kernel_rfl
@[simp] theorem zr66 : zroI Try.prog 66 = some [.v (.bool false), .v (.string ⟨#[]⟩)] := by kernel_rfl
@[simp] theorem ty71 : tyI Try.prog 71 = some (false, 1) := by kernel_rfl
@[simp] theorem el71 : elI Try.prog 71 = some (78, 5, 40, #[.int .i64 0, .int .i64 0, .int .i64 0, .int .i64 0, .bool false]) := by kernel_rfl
@[simp] theorem us71 : Try.prog.underlying 71 = some (.slice 78) := by kernel_rfl
@[simp] theorem zr71 : zroI Try.prog 71 = some [.sl true []] := by kernel_rfl
@[simp] theorem ty73 : tyI Try.prog 73 = some (true, 4) := by kernel_rfl
@[simp] theorem el73 : elI Try.prog 73 = none := by kernel_rfl
@[simp] theorem fl73_0 : fldI Try.prog 73 0 = some (0, false, 1) := by kernel_rfl
@[simp] theorem fl73_1 : fldI Try.prog 73 1 = some (1, false, 1) := by kernel_rfl
@[simp] theorem fl73_2 : fldI Try.prog 73 2 = some (2, false, 1) := by kernel_rfl
@[simp] theorem fl73_3 : fldI Try.prog 73 3 = some (3, false, 1) := by kernel_rfl
@[simp] theorem pl73 : plcI Try.prog 73 = some [(0, 1), (1, 1), (2, 1), (3, 1)] := by kernel_rfl
@[simp] theorem zr73 : zroI Try.prog 73 = some [.v (.int .i64 0), .v (.int .i64 0), .v (.int .i64 0), .v (.int .i64 0)] := by kernel_rfl
@[simp] theorem ty75 : tyI Try.prog 75 = some (true, 6) := by kernel_rfl
@[simp] theorem el75 : elI Try.prog 75 = none := by kernel_rfl
@[simp] theorem fl75_0 : fldI Try.prog 75 0 = some (0, true, 4) := by kernel_rfl
@[simp] theorem fl75_1 : fldI Try.prog 75 1 = some (4, false, 1) := by kernel_rfl
@[simp] theorem fl75_2 : fldI Try.prog 75 2 = some (5, false, 1) := by kernel_rfl
@[simp] theorem pl75 : plcI Try.prog 75 = some [(0, 4), (4, 1), (5, 1)] := by kernel_rfl
@[simp] theorem zr75 : zroI Try.prog 75 = some [.v (.int .i64 0), .v (.int .i64 0), .v (.int .i64 0), .v (.int .i64 0), .v (.int .i64 0), .v (.int .i64 0)] := by kernel_rfl
@[simp] theorem ty78 : tyI Try.prog 78 = some (true, 5) := by kernel_rfl
@[simp] theorem el78 : elI Try.prog 78 = none := by kernel_rfl
@[simp] theorem fl78_0 : fldI Try.prog 78 0 = some (0, false, 1) := by kernel_rfl
@[simp] theorem fl78_1 : fldI Try.prog 78 1 = some (1, false, 1) := by kernel_rfl
@[simp] theorem fl78_2 : fldI Try.prog 78 2 = some (2, false, 1) := by kernel_rfl
@[simp] theorem fl78_3 : fldI Try.prog 78 3 = some (3, false, 1) := by kernel_rfl
@[simp] theorem fl78_4 : fldI Try.prog 78 4 = some (4, false, 1) := by kernel_rfl
@[simp] theorem pl78 : plcI Try.prog 78 = some [(0, 1), (1, 1), (2, 1), (3, 1), (4, 1)] := by kernel_rfl
@[simp] theorem zr78 : zroI Try.prog 78 = some [.v (.int .i64 0), .v (.int .i64 0), .v (.int .i64 0), .v (.int .i64 0), .v (.bool false)] := by kernel_rfl
@[simp] theorem ty81 : tyI Try.prog 81 = some (true, 12) := by kernel_rfl
@[simp] theorem el81 : elI Try.prog 81 = none := by kernel_rfl
@[simp] theorem fl81_0 : fldI Try.prog 81 0 = some (0, true, 6) := by kernel_rfl
@[simp] theorem fl81_1 : fldI Try.prog 81 1 = some (6, false, 1) := by kernel_rfl
@[simp] theorem fl81_2 : fldI Try.prog 81 2 = some (7, false, 1) := by kernel_rfl
@[simp] theorem fl81_3 : fldI Try.prog 81 3 = some (8, false, 1) := by kernel_rfl
@[simp] theorem fl81_4 : fldI Try.prog 81 4 = some (9, false, 1) := by kernel_rfl
@[simp] theorem fl81_5 : fldI Try.prog 81 5 = some (10, false, 1) := by kernel_rfl
@[simp] theorem fl81_6 : fldI Try.prog 81 6 = some (11, false, 1) := by kernel_rfl
@[simp] theorem pl81 : plcI Try.prog 81 = some [(0, 6), (6, 1), (7, 1), (8, 1), (9, 1), (10, 1), (11, 1)] := by kernel_rfl
@[simp] theorem zr81 : zroI Try.prog 81 = some [.v (.int .i64 0), .v (.int .i64 0), .v (.int .i64 0), .v (.int .i64 0), .v (.int .i64 0), .v (.int .i64 0), .sl true [], .v (.int .i64 0), .v (.int .i64 0), .v (.bool false), .v (.bool false), .v (.bool false)] := by kernel_rfl
@[simp] theorem ty85 : tyI Try.prog 85 = some (true, 4) := by kernel_rfl
@[simp] theorem el85 : elI Try.prog 85 = none := by kernel_rfl
@[simp] theorem fl85_0 : fldI Try.prog 85 0 = some (0, false, 1) := by kernel_rfl
@[simp] theorem fl85_1 : fldI Try.prog 85 1 = some (1, false, 1) := by kernel_rfl
@[simp] theorem fl85_2 : fldI Try.prog 85 2 = some (2, false, 1) := by kernel_rfl
@[simp] theorem fl85_3 : fldI Try.prog 85 3 = some (3, false, 1) := by kernel_rfl
@[simp] theorem pl85 : plcI Try.prog 85 = some [(0, 1), (1, 1), (2, 1), (3, 1)] := by kernel_rfl
@[simp] theorem zr85 : zroI Try.prog 85 = some [.v (.int .i64 0), .v (.int .i64 0), .v (.int .i64 0), .v (.int .i64 0)] := by kernel_rfl
@[simp] theorem ty89 : tyI Try.prog 89 = some (true, 6) := by kernel_rfl
@[simp] theorem el89 : elI Try.prog 89 = none := by kernel_rfl
@[simp] theorem fl89_0 : fldI Try.prog 89 0 = some (0, true, 4) := by kernel_rfl
@[simp] theorem fl89_1 : fldI Try.prog 89 1 = some (4, false, 1) := by kernel_rfl
@[simp] theorem fl89_2 : fldI Try.prog 89 2 = some (5, false, 1) := by kernel_rfl
@[simp] theorem pl89 : plcI Try.prog 89 = some [(0, 4), (4, 1), (5, 1)] := by kernel_rfl
@[simp] theorem zr89 : zroI Try.prog 89 = some [.v (.int .i64 0), .v (.int .i64 0), .v (.int .i64 0), .v (.int .i64 0), .v (.int .i64 0), .v (.int .i64 0)] := by kernel_rfl
@[simp] theorem ty93 : tyI Try.prog 93 = some (true, 2) := by kernel_rfl
@[simp] theorem el93 : elI Try.prog 93 = none := by kernel_rfl
@[simp] theorem ar93 : arrI Try.prog 93 = some (2, 1) := by kernel_rfl
@[simp] theorem pl93 : plcI Try.prog 93 = some [(0, 1), (1, 1)] := by kernel_rfl
@[simp] theorem zr93 : zroI Try.prog 93 = some [.sl true [], .sl true []] := by kernel_rfl
@[simp] theorem ty95 : tyI Try.prog 95 = some (true, 4) := by kernel_rfl
@[simp] theorem el95 : elI Try.prog 95 = none := by kernel_rfl
@[simp] theorem fl95_0 : fldI Try.prog 95 0 = some (0, false, 1) := by kernel_rfl
@[simp] theorem fl95_1 : fldI Try.prog 95 1 = some (1, false, 1) := by kernel_rfl
@[simp] theorem fl95_2 : fldI Try.prog 95 2 = some (2, true, 2) := by kernel_rfl
@[simp] theorem pl95 : plcI Try.prog 95 = some [(0, 1), (1, 1), (2, 2)] := by kernel_rfl
@[simp] theorem zr95 : zroI Try.prog 95 = some [.v (.int .i64 0), .v (.int .i64 0), .sl true [], .sl true []] := by kernel_rfl
@[simp] theorem ty97 : tyI Try.prog 97 = some (false, 1) := by kernel_rfl
@[simp] theorem el97 : elI Try.prog 97 = none := by kernel_rfl
@[simp] theorem zr97 : zroI Try.prog 97 = some [.v (.nilFunc)] := by kernel_rfl
@[simp] theorem ty98 : tyI Try.prog 98 = some (false, 1) := by kernel_rfl
@[simp] theorem el98 : elI Try.prog 98 = some (49, 1, 24, #[.slice none 0 0]) := by kernel_rfl
@[simp] theorem us98 : Try.prog.underlying 98 = some (.slice 49) := by kernel_rfl
@[simp] theorem zr98 : zroI Try.prog 98 = some [.sl true []] := by kernel_rfl
@[simp] theorem ty105 : tyI Try.prog 105 = some (true, 4) := by kernel_rfl
@[simp] theorem el105 : elI Try.prog 105 = none := by kernel_rfl
@[simp] theorem fl105_0 : fldI Try.prog 105 0 = some (0, false, 1) := by kernel_rfl
@[simp] theorem fl105_1 : fldI Try.prog 105 1 = some (1, false, 1) := by kernel_rfl
@[simp] theorem fl105_2 : fldI Try.prog 105 2 = some (2, true, 2) := by kernel_rfl
@[simp] theorem pl105 : plcI Try.prog 105 = some [(0, 1), (1, 1), (2, 2)] := by kernel_rfl
@[simp] theorem zr105 : zroI Try.prog 105 = some [.v (.int .i64 0), .v (.int .i64 0), .v (.int .i64 0), .v (.int .i64 0)] := by kernel_rfl
@[simp] theorem ty109 : tyI Try.prog 109 = some (false, 1) := by kernel_rfl
@[simp] theorem el109 : elI Try.prog 109 = none := by kernel_rfl
@[simp] theorem zr109 : zroI Try.prog 109 = some [.v (.nilFunc)] := by kernel_rfl
@[simp] theorem ty115 : tyI Try.prog 115 = some (false, 1) := by kernel_rfl
@[simp] theorem el115 : elI Try.prog 115 = some (38, 1, 24, #[.slice none 0 0]) := by kernel_rfl
@[simp] theorem us115 : Try.prog.underlying 115 = some (.slice 38) := by kernel_rfl
@[simp] theorem zr115 : zroI Try.prog 115 = some [.sl true []] := by kernel_rfl
@[simp] theorem eg27 : Try.prog.eqGuardType Try.prog.depth 27 = false := by kernel_rfl
theorem ei27 (d : Nat) (a0 : Bool) (a1 : ByteArray) (b0 : Bool) (b1 : ByteArray) (w : World) : (Op.equalIn (d + 2) 27 (.agg #[.bool a0, .string a1]) (.agg #[.bool b0, .string b1])).run Try.prog w = .ok ((a0 == b0) && (decide (a1 = b1))) w := by
  have hS : Try.prog.underlying 27 = some (.struct (Try.prog.fieldsOf 27)) := by kernel_rfl
  have hp : Try.prog.stoodInHeld 27 = false := by kernel_rfl
  rw [show d + 2 = (d + 1) + 1 from rfl, run_equalIn_agg w (d + 1) 27 _ _ hS hp]
  simp only [Program.fieldsOf, Try.underlying27]
  have ia4 := Try.isAgg4
  have iz4 := Try.sizeOf4
  have iu4 := Try.underlying4
  have ia9 := Try.isAgg9
  have iz9 := Try.sizeOf9
  have iu9 := Try.underlying9
  go_simp
  by_cases e0 : a0 = b0 <;> by_cases e1 : a1 = b1 <;> simp [e0, e1, bytesEq_iff]
theorem ae27 (a0 : Bool) (a1 : ByteArray) (b0 : Bool) (b1 : ByteArray) : AggEq Try.prog 27 [.v (.bool a0), .v (.string a1)] [.v (.bool b0), .v (.string b1)] ((a0 == b0) && (decide (a1 = b1))) :=
  ⟨[.bool a0, .string a1], [.bool b0, .string b1], rfl, rfl, fun w => ei27 9998 a0 a1 b0 b1 w⟩
@[simp] theorem aq27 (a0 : Bool) (a1 : ByteArray) (b0 : Bool) (b1 : ByteArray) (K : Bool → Prop) : vcAgg Try.prog 27 [.v (.bool a0), .v (.string a1)] [.v (.bool b0), .v (.string b1)] K = K ((a0 == b0) && (decide (a1 = b1))) := vcAgg_iff (ae27 a0 a1 b0 b1)
@[simp] theorem eg52 : Try.prog.eqGuardType Try.prog.depth 52 = false := by kernel_rfl
theorem ei47 (d : Nat) (a0 : Int) (a1 : Int) (b0 : Int) (b1 : Int) (w : World) : (Op.equalIn (d + 2) 47 (.agg #[.int .i64 a0, .int .i64 a1]) (.agg #[.int .i64 b0, .int .i64 b1])).run Try.prog w = .ok ((a0 == b0) && (a1 == b1)) w := by
  have hS : Try.prog.underlying 47 = some (.struct (Try.prog.fieldsOf 47)) := by kernel_rfl
  have hp : Try.prog.stoodInHeld 47 = false := by kernel_rfl
  rw [show d + 2 = (d + 1) + 1 from rfl, run_equalIn_agg w (d + 1) 47 _ _ hS hp]
  simp only [Program.fieldsOf, Try.underlying47]
  have ia3 := Try.isAgg3
  have iz3 := Try.sizeOf3
  have iu3 := Try.underlying3
  go_simp
  by_cases e0 : a0 = b0 <;> by_cases e1 : a1 = b1 <;> simp [e0, e1, bytesEq_iff]
theorem ei52 (d : Nat) (a0 : Int) (a1 : Int) (a2 : Int) (a3 : Int) (b0 : Int) (b1 : Int) (b2 : Int) (b3 : Int) (w : World) : (Op.equalIn (d + 3) 52 (.agg #[.int .i64 a0, .int .i64 a1, .int .i64 a2, .int .i64 a3]) (.agg #[.int .i64 b0, .int .i64 b1, .int .i64 b2, .int .i64 b3])).run Try.prog w = .ok ((a0 == b0) && (a1 == b1) && (a2 == b2) && (a3 == b3)) w := by
  have hS : Try.prog.underlying 52 = some (.struct (Try.prog.fieldsOf 52)) := by kernel_rfl
  have hp : Try.prog.stoodInHeld 52 = false := by kernel_rfl
  rw [show d + 3 = (d + 2) + 1 from rfl, run_equalIn_agg w (d + 2) 52 _ _ hS hp]
  simp only [Program.fieldsOf, Try.underlying52]
  have ia3 := Try.isAgg3
  have iz3 := Try.sizeOf3
  have iu3 := Try.underlying3
  have ia47 := Try.isAgg47
  have iz47 := Try.sizeOf47
  go_simp
  by_cases e0 : a0 = b0 <;> by_cases e1 : a1 = b1 <;> by_cases e2 : a2 = b2 <;> by_cases e3 : a3 = b3 <;> simp [e0, e1, e2, e3, bytesEq_iff]
theorem ae52 (a0 : Int) (a1 : Int) (a2 : Int) (a3 : Int) (b0 : Int) (b1 : Int) (b2 : Int) (b3 : Int) : AggEq Try.prog 52 [.v (.int .i64 a0), .v (.int .i64 a1), .v (.int .i64 a2), .v (.int .i64 a3)] [.v (.int .i64 b0), .v (.int .i64 b1), .v (.int .i64 b2), .v (.int .i64 b3)] ((a0 == b0) && (a1 == b1) && (a2 == b2) && (a3 == b3)) :=
  ⟨[.int .i64 a0, .int .i64 a1, .int .i64 a2, .int .i64 a3], [.int .i64 b0, .int .i64 b1, .int .i64 b2, .int .i64 b3], rfl, rfl, fun w => ei52 9997 a0 a1 a2 a3 b0 b1 b2 b3 w⟩
@[simp] theorem aq52 (a0 : Int) (a1 : Int) (a2 : Int) (a3 : Int) (b0 : Int) (b1 : Int) (b2 : Int) (b3 : Int) (K : Bool → Prop) : vcAgg Try.prog 52 [.v (.int .i64 a0), .v (.int .i64 a1), .v (.int .i64 a2), .v (.int .i64 a3)] [.v (.int .i64 b0), .v (.int .i64 b1), .v (.int .i64 b2), .v (.int .i64 b3)] K = K ((a0 == b0) && (a1 == b1) && (a2 == b2) && (a3 == b3)) := vcAgg_iff (ae52 a0 a1 a2 a3 b0 b1 b2 b3)
@[simp] theorem eg66 : Try.prog.eqGuardType Try.prog.depth 66 = false := by kernel_rfl
theorem ei66 (d : Nat) (a0 : Bool) (a1 : ByteArray) (b0 : Bool) (b1 : ByteArray) (w : World) : (Op.equalIn (d + 2) 66 (.agg #[.bool a0, .string a1]) (.agg #[.bool b0, .string b1])).run Try.prog w = .ok ((a0 == b0) && (decide (a1 = b1))) w := by
  have hS : Try.prog.underlying 66 = some (.struct (Try.prog.fieldsOf 66)) := by kernel_rfl
  have hp : Try.prog.stoodInHeld 66 = false := by kernel_rfl
  rw [show d + 2 = (d + 1) + 1 from rfl, run_equalIn_agg w (d + 1) 66 _ _ hS hp]
  simp only [Program.fieldsOf, Try.underlying66]
  have ia4 := Try.isAgg4
  have iz4 := Try.sizeOf4
  have iu4 := Try.underlying4
  have ia9 := Try.isAgg9
  have iz9 := Try.sizeOf9
  have iu9 := Try.underlying9
  go_simp
  by_cases e0 : a0 = b0 <;> by_cases e1 : a1 = b1 <;> simp [e0, e1, bytesEq_iff]
theorem ae66 (a0 : Bool) (a1 : ByteArray) (b0 : Bool) (b1 : ByteArray) : AggEq Try.prog 66 [.v (.bool a0), .v (.string a1)] [.v (.bool b0), .v (.string b1)] ((a0 == b0) && (decide (a1 = b1))) :=
  ⟨[.bool a0, .string a1], [.bool b0, .string b1], rfl, rfl, fun w => ei66 9998 a0 a1 b0 b1 w⟩
@[simp] theorem aq66 (a0 : Bool) (a1 : ByteArray) (b0 : Bool) (b1 : ByteArray) (K : Bool → Prop) : vcAgg Try.prog 66 [.v (.bool a0), .v (.string a1)] [.v (.bool b0), .v (.string b1)] K = K ((a0 == b0) && (decide (a1 = b1))) := vcAgg_iff (ae66 a0 a1 b0 b1)
@[simp] theorem eg89 : Try.prog.eqGuardType Try.prog.depth 89 = false := by kernel_rfl
theorem ei85 (d : Nat) (a0 : Int) (a1 : Int) (a2 : Int) (a3 : Int) (b0 : Int) (b1 : Int) (b2 : Int) (b3 : Int) (w : World) : (Op.equalIn (d + 2) 85 (.agg #[.int .i64 a0, .int .i64 a1, .int .i64 a2, .int .i64 a3]) (.agg #[.int .i64 b0, .int .i64 b1, .int .i64 b2, .int .i64 b3])).run Try.prog w = .ok ((a0 == b0) && (a1 == b1) && (a2 == b2) && (a3 == b3)) w := by
  have hS : Try.prog.underlying 85 = some (.struct (Try.prog.fieldsOf 85)) := by kernel_rfl
  have hp : Try.prog.stoodInHeld 85 = false := by kernel_rfl
  rw [show d + 2 = (d + 1) + 1 from rfl, run_equalIn_agg w (d + 1) 85 _ _ hS hp]
  simp only [Program.fieldsOf, Try.underlying85]
  have ia3 := Try.isAgg3
  have iz3 := Try.sizeOf3
  have iu3 := Try.underlying3
  go_simp
  by_cases e0 : a0 = b0 <;> by_cases e1 : a1 = b1 <;> by_cases e2 : a2 = b2 <;> by_cases e3 : a3 = b3 <;> simp [e0, e1, e2, e3, bytesEq_iff]
theorem ei89 (d : Nat) (a0 : Int) (a1 : Int) (a2 : Int) (a3 : Int) (a4 : Int) (a5 : Int) (b0 : Int) (b1 : Int) (b2 : Int) (b3 : Int) (b4 : Int) (b5 : Int) (w : World) : (Op.equalIn (d + 3) 89 (.agg #[.int .i64 a0, .int .i64 a1, .int .i64 a2, .int .i64 a3, .int .i64 a4, .int .i64 a5]) (.agg #[.int .i64 b0, .int .i64 b1, .int .i64 b2, .int .i64 b3, .int .i64 b4, .int .i64 b5])).run Try.prog w = .ok ((a0 == b0) && (a1 == b1) && (a2 == b2) && (a3 == b3) && (a4 == b4) && (a5 == b5)) w := by
  have hS : Try.prog.underlying 89 = some (.struct (Try.prog.fieldsOf 89)) := by kernel_rfl
  have hp : Try.prog.stoodInHeld 89 = false := by kernel_rfl
  rw [show d + 3 = (d + 2) + 1 from rfl, run_equalIn_agg w (d + 2) 89 _ _ hS hp]
  simp only [Program.fieldsOf, Try.underlying89]
  have ia3 := Try.isAgg3
  have iz3 := Try.sizeOf3
  have iu3 := Try.underlying3
  have ia85 := Try.isAgg85
  have iz85 := Try.sizeOf85
  go_simp
  by_cases e0 : a0 = b0 <;> by_cases e1 : a1 = b1 <;> by_cases e2 : a2 = b2 <;> by_cases e3 : a3 = b3 <;> by_cases e4 : a4 = b4 <;> by_cases e5 : a5 = b5 <;> simp [e0, e1, e2, e3, e4, e5, bytesEq_iff]
theorem ae89 (a0 : Int) (a1 : Int) (a2 : Int) (a3 : Int) (a4 : Int) (a5 : Int) (b0 : Int) (b1 : Int) (b2 : Int) (b3 : Int) (b4 : Int) (b5 : Int) : AggEq Try.prog 89 [.v (.int .i64 a0), .v (.int .i64 a1), .v (.int .i64 a2), .v (.int .i64 a3), .v (.int .i64 a4), .v (.int .i64 a5)] [.v (.int .i64 b0), .v (.int .i64 b1), .v (.int .i64 b2), .v (.int .i64 b3), .v (.int .i64 b4), .v (.int .i64 b5)] ((a0 == b0) && (a1 == b1) && (a2 == b2) && (a3 == b3) && (a4 == b4) && (a5 == b5)) :=
  ⟨[.int .i64 a0, .int .i64 a1, .int .i64 a2, .int .i64 a3, .int .i64 a4, .int .i64 a5], [.int .i64 b0, .int .i64 b1, .int .i64 b2, .int .i64 b3, .int .i64 b4, .int .i64 b5], rfl, rfl, fun w => ei89 9997 a0 a1 a2 a3 a4 a5 b0 b1 b2 b3 b4 b5 w⟩
@[simp] theorem aq89 (a0 : Int) (a1 : Int) (a2 : Int) (a3 : Int) (a4 : Int) (a5 : Int) (b0 : Int) (b1 : Int) (b2 : Int) (b3 : Int) (b4 : Int) (b5 : Int) (K : Bool → Prop) : vcAgg Try.prog 89 [.v (.int .i64 a0), .v (.int .i64 a1), .v (.int .i64 a2), .v (.int .i64 a3), .v (.int .i64 a4), .v (.int .i64 a5)] [.v (.int .i64 b0), .v (.int .i64 b1), .v (.int .i64 b2), .v (.int .i64 b3), .v (.int .i64 b4), .v (.int .i64 b5)] K = K ((a0 == b0) && (a1 == b1) && (a2 == b2) && (a3 == b3) && (a4 == b4) && (a5 == b5)) := vcAgg_iff (ae89 a0 a1 a2 a3 a4 a5 b0 b1 b2 b3 b4 b5)
@[simp] theorem eg105 : Try.prog.eqGuardType Try.prog.depth 105 = false := by kernel_rfl
theorem ei41 (d : Nat) (a0 : Int) (a1 : Int) (b0 : Int) (b1 : Int) (w : World) : (Op.equalIn (d + 2) 41 (.agg #[.int .i64 a0, .int .i64 a1]) (.agg #[.int .i64 b0, .int .i64 b1])).run Try.prog w = .ok ((a0 == b0) && (a1 == b1)) w := by
  have hS : Try.prog.underlying 41 = some (.struct (Try.prog.fieldsOf 41)) := by kernel_rfl
  have hp : Try.prog.stoodInHeld 41 = false := by kernel_rfl
  rw [show d + 2 = (d + 1) + 1 from rfl, run_equalIn_agg w (d + 1) 41 _ _ hS hp]
  simp only [Program.fieldsOf, Try.underlying41]
  have ia3 := Try.isAgg3
  have iz3 := Try.sizeOf3
  have iu3 := Try.underlying3
  go_simp
  by_cases e0 : a0 = b0 <;> by_cases e1 : a1 = b1 <;> simp [e0, e1, bytesEq_iff]
theorem ei105 (d : Nat) (a0 : Int) (a1 : Int) (a2 : Int) (a3 : Int) (b0 : Int) (b1 : Int) (b2 : Int) (b3 : Int) (w : World) : (Op.equalIn (d + 3) 105 (.agg #[.int .i64 a0, .int .i64 a1, .int .i64 a2, .int .i64 a3]) (.agg #[.int .i64 b0, .int .i64 b1, .int .i64 b2, .int .i64 b3])).run Try.prog w = .ok ((a0 == b0) && (a1 == b1) && (a2 == b2) && (a3 == b3)) w := by
  have hS : Try.prog.underlying 105 = some (.struct (Try.prog.fieldsOf 105)) := by kernel_rfl
  have hp : Try.prog.stoodInHeld 105 = false := by kernel_rfl
  rw [show d + 3 = (d + 2) + 1 from rfl, run_equalIn_agg w (d + 2) 105 _ _ hS hp]
  simp only [Program.fieldsOf, Try.underlying105]
  have ia3 := Try.isAgg3
  have iz3 := Try.sizeOf3
  have iu3 := Try.underlying3
  have ia41 := Try.isAgg41
  have iz41 := Try.sizeOf41
  go_simp
  by_cases e0 : a0 = b0 <;> by_cases e1 : a1 = b1 <;> by_cases e2 : a2 = b2 <;> by_cases e3 : a3 = b3 <;> simp [e0, e1, e2, e3, bytesEq_iff]
theorem ae105 (a0 : Int) (a1 : Int) (a2 : Int) (a3 : Int) (b0 : Int) (b1 : Int) (b2 : Int) (b3 : Int) : AggEq Try.prog 105 [.v (.int .i64 a0), .v (.int .i64 a1), .v (.int .i64 a2), .v (.int .i64 a3)] [.v (.int .i64 b0), .v (.int .i64 b1), .v (.int .i64 b2), .v (.int .i64 b3)] ((a0 == b0) && (a1 == b1) && (a2 == b2) && (a3 == b3)) :=
  ⟨[.int .i64 a0, .int .i64 a1, .int .i64 a2, .int .i64 a3], [.int .i64 b0, .int .i64 b1, .int .i64 b2, .int .i64 b3], rfl, rfl, fun w => ei105 9997 a0 a1 a2 a3 b0 b1 b2 b3 w⟩
@[simp] theorem aq105 (a0 : Int) (a1 : Int) (a2 : Int) (a3 : Int) (b0 : Int) (b1 : Int) (b2 : Int) (b3 : Int) (K : Bool → Prop) : vcAgg Try.prog 105 [.v (.int .i64 a0), .v (.int .i64 a1), .v (.int .i64 a2), .v (.int .i64 a3)] [.v (.int .i64 b0), .v (.int .i64 b1), .v (.int .i64 b2), .v (.int .i64 b3)] K = K ((a0 == b0) && (a1 == b1) && (a2 == b2) && (a3 == b3)) := vcAgg_iff (ae105 a0 a1 a2 a3 b0 b1 b2 b3)
end Go.Proofs.Ythieajadepfeoaa
