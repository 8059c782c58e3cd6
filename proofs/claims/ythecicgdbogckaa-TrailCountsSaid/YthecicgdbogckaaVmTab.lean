/- The tables of the types that this seat's functions use, read off the program by the kernel. Written by a program of ours. -/
import Derived.Test.YthecicgdbogckaaProg
import Derived.Test.YthecicgdbogckaaVm17
import Derived.Test.YthecicgdbogckaaVmX13
import Derived.WalkKit
import Derived.KernelRfl
namespace Go.Proofs.Ythecicgdbogckaa
open Go Go.Vm
set_option linter.all false
set_option maxRecDepth 100000
@[simp] theorem ty1 : tyI Try.prog 1 = some (false, 1) := by kernel_rfl
@[simp] theorem el1 : elI Try.prog 1 = none := by kernel_rfl
@[simp] theorem zr1 : zroI Try.prog 1 = some [.v (.nilFunc)] := by kernel_rfl
@[simp] theorem ty2 : tyI Try.prog 2 = some (false, 1) := by kernel_rfl
@[simp] theorem el2 : elI Try.prog 2 = none := by kernel_rfl
@[simp] theorem zr2 : zroI Try.prog 2 = some [.v (.int .i64 0)] := by kernel_rfl
@[simp] theorem ub2 : Try.prog.underlying 2 = some (.int .i64) := by kernel_rfl
@[simp] theorem ty3 : tyI Try.prog 3 = some (false, 1) := by kernel_rfl
@[simp] theorem el3 : elI Try.prog 3 = none := by kernel_rfl
@[simp] theorem zr3 : zroI Try.prog 3 = some [.v (.int .i64 0)] := by kernel_rfl
@[simp] theorem ub3 : Try.prog.underlying 3 = some (.int .i64) := by kernel_rfl
@[simp] theorem ty4 : tyI Try.prog 4 = some (false, 1) := by kernel_rfl
@[simp] theorem el4 : elI Try.prog 4 = none := by kernel_rfl
@[simp] theorem zr4 : zroI Try.prog 4 = some [.v (.bool false)] := by kernel_rfl
@[simp] theorem ub4 : Try.prog.underlying 4 = some .bool := by kernel_rfl
@[simp] theorem ty5 : tyI Try.prog 5 = some (false, 1) := by kernel_rfl
@[simp] theorem el5 : elI Try.prog 5 = none := by kernel_rfl
@[simp] theorem zr5 : zroI Try.prog 5 = some [.v (.int .u8 0)] := by kernel_rfl
@[simp] theorem ub5 : Try.prog.underlying 5 = some (.int .u8) := by kernel_rfl
@[simp] theorem ty6 : tyI Try.prog 6 = some (false, 1) := by kernel_rfl
@[simp] theorem el6 : elI Try.prog 6 = none := by kernel_rfl
@[simp] theorem zr6 : zroI Try.prog 6 = some [.v (.int .u8 0)] := by kernel_rfl
@[simp] theorem ub6 : Try.prog.underlying 6 = some (.int .u8) := by kernel_rfl
@[simp] theorem ty7 : tyI Try.prog 7 = some (true, 4) := by kernel_rfl
@[simp] theorem el7 : elI Try.prog 7 = none := by kernel_rfl
@[simp] theorem fl7_0 : fldI Try.prog 7 0 = some (0, false, 1) := by kernel_rfl
@[simp] theorem fl7_1 : fldI Try.prog 7 1 = some (1, false, 1) := by kernel_rfl
@[simp] theorem fl7_2 : fldI Try.prog 7 2 = some (2, false, 1) := by kernel_rfl
@[simp] theorem fl7_3 : fldI Try.prog 7 3 = some (3, false, 1) := by kernel_rfl
@[simp] theorem pl7 : plcI Try.prog 7 = some [(0, 1), (1, 1), (2, 1), (3, 1)] := by kernel_rfl
@[simp] theorem zr7 : zroI Try.prog 7 = some [.v (.int .i64 0), .v (.int .i64 0), .v (.bool false), .v (.int .u8 0)] := by kernel_rfl
@[simp] theorem ty8 : tyI Try.prog 8 = some (true, 4) := by kernel_rfl
@[simp] theorem el8 : elI Try.prog 8 = none := by kernel_rfl
@[simp] theorem fl8_0 : fldI Try.prog 8 0 = some (0, false, 1) := by kernel_rfl
@[simp] theorem fl8_1 : fldI Try.prog 8 1 = some (1, false, 1) := by kernel_rfl
@[simp] theorem fl8_2 : fldI Try.prog 8 2 = some (2, false, 1) := by kernel_rfl
@[simp] theorem fl8_3 : fldI Try.prog 8 3 = some (3, false, 1) := by kernel_rfl
@[simp] theorem pl8 : plcI Try.prog 8 = some [(0, 1), (1, 1), (2, 1), (3, 1)] := by kernel_rfl
@[simp] theorem zr8 : zroI Try.prog 8 = some [.v (.int .i64 0), .v (.int .i64 0), .v (.bool false), .v (.int .u8 0)] := by kernel_rfl
@[simp] theorem ty9 : tyI Try.prog 9 = some (false, 1) := by kernel_rfl
@[simp] theorem el9 : elI Try.prog 9 = none := by kernel_rfl
@[simp] theorem zr9 : zroI Try.prog 9 = some [.v (.string ⟨#[]⟩)] := by kernel_rfl
@[simp] theorem ub9 : Try.prog.underlying 9 = some .string := by kernel_rfl
@[simp] theorem ty22 : tyI Try.prog 22 = some (false, 1) := by kernel_rfl
@[simp] theorem el22 : elI Try.prog 22 = some (25, 6, 64, #[.int .i64 0, .int .i64 0, .int .i64 0, .int .i64 0, .string ⟨#[]⟩, .string ⟨#[]⟩]) := by kernel_rfl
@[simp] theorem us22 : Try.prog.underlying 22 = some (.slice 25) := by kernel_rfl
@[simp] theorem zr22 : zroI Try.prog 22 = some [.sl true []] := by kernel_rfl
@[simp] theorem ty25 : tyI Try.prog 25 = some (true, 6) := by kernel_rfl
@[simp] theorem el25 : elI Try.prog 25 = none := by kernel_rfl
@[simp] theorem fl25_0 : fldI Try.prog 25 0 = some (0, false, 1) := by kernel_rfl
@[simp] theorem fl25_1 : fldI Try.prog 25 1 = some (1, false, 1) := by kernel_rfl
@[simp] theorem fl25_2 : fldI Try.prog 25 2 = some (2, false, 1) := by kernel_rfl
@[simp] theorem fl25_3 : fldI Try.prog 25 3 = some (3, false, 1) := by kernel_rfl
@[simp] theorem fl25_4 : fldI Try.prog 25 4 = some (4, false, 1) := by kernel_rfl
@[simp] theorem fl25_5 : fldI Try.prog 25 5 = some (5, false, 1) := by kernel_rfl
@[simp] theorem pl25 : plcI Try.prog 25 = some [(0, 1), (1, 1), (2, 1), (3, 1), (4, 1), (5, 1)] := by kernel_rfl
@[simp] theorem zr25 : zroI Try.prog 25 = some [.v (.int .i64 0), .v (.int .i64 0), .v (.int .i64 0), .v (.int .i64 0), .v (.string ⟨#[]⟩), .v (.string ⟨#[]⟩)] := by kernel_rfl
@[simp] theorem ty28 : tyI Try.prog 28 = some (false, 1) := by kernel_rfl
@[simp] theorem el28 : elI Try.prog 28 = some (80, 14, 176, #[.int .i64 0, .int .i64 0, .string ⟨#[]⟩, .string ⟨#[]⟩, .string ⟨#[]⟩, .slice none 0 0, .slice none 0 0, .slice none 0 0, .int .i64 0, .int .i64 0, .int .i64 0, .int .i64 0, .bool false, .bool false]) := by kernel_rfl
@[simp] theorem us28 : Try.prog.underlying 28 = some (.slice 80) := by kernel_rfl
@[simp] theorem zr28 : zroI Try.prog 28 = some [.sl true []] := by kernel_rfl
@[simp] theorem ty29 : tyI Try.prog 29 = some (false, 1) := by kernel_rfl
@[simp] theorem el29 : elI Try.prog 29 = some (9, 1, 16, #[.string ⟨#[]⟩]) := by kernel_rfl
@[simp] theorem us29 : Try.prog.underlying 29 = some (.slice 9) := by kernel_rfl
@[simp] theorem zr29 : zroI Try.prog 29 = some [.sl true []] := by kernel_rfl
@[simp] theorem ty30 : tyI Try.prog 30 = some (false, 1) := by kernel_rfl
@[simp] theorem el30 : elI Try.prog 30 = some (87, 2, 32, #[.string ⟨#[]⟩, .string ⟨#[]⟩]) := by kernel_rfl
@[simp] theorem us30 : Try.prog.underlying 30 = some (.slice 87) := by kernel_rfl
@[simp] theorem zr30 : zroI Try.prog 30 = some [.sl true []] := by kernel_rfl
@[simp] theorem ty31 : tyI Try.prog 31 = some (false, 1) := by kernel_rfl
@[simp] theorem el31 : elI Try.prog 31 = some (87, 2, 32, #[.string ⟨#[]⟩, .string ⟨#[]⟩]) := by kernel_rfl
@[simp] theorem us31 : Try.prog.underlying 31 = some (.slice 87) := by kernel_rfl
@[simp] theorem zr31 : zroI Try.prog 31 = some [.sl true []] := by kernel_rfl
@[simp] theorem ty32 : tyI Try.prog 32 = some (false, 1) := by kernel_rfl
@[simp] theorem el32 : elI Try.prog 32 = some (68, 2, 24, #[.string ⟨#[]⟩, .int .i64 0]) := by kernel_rfl
@[simp] theorem us32 : Try.prog.underlying 32 = some (.slice 68) := by kernel_rfl
@[simp] theorem zr32 : zroI Try.prog 32 = some [.sl true []] := by kernel_rfl
@[simp] theorem ty33 : tyI Try.prog 33 = some (false, 1) := by kernel_rfl
@[simp] theorem el33 : elI Try.prog 33 = some (68, 2, 24, #[.string ⟨#[]⟩, .int .i64 0]) := by kernel_rfl
@[simp] theorem us33 : Try.prog.underlying 33 = some (.slice 68) := by kernel_rfl
@[simp] theorem zr33 : zroI Try.prog 33 = some [.sl true []] := by kernel_rfl
@[simp] theorem ty34 : tyI Try.prog 34 = some (false, 1) := by kernel_rfl
@[simp] theorem el34 : elI Try.prog 34 = some (36, 8, 144, #[.int .i64 0, .int .i64 0, .string ⟨#[]⟩, .string ⟨#[]⟩, .slice none 0 0, .slice none 0 0, .slice none 0 0, .slice none 0 0]) := by kernel_rfl
@[simp] theorem us34 : Try.prog.underlying 34 = some (.slice 36) := by kernel_rfl
@[simp] theorem zr34 : zroI Try.prog 34 = some [.sl true []] := by kernel_rfl
@[simp] theorem ty36 : tyI Try.prog 36 = some (true, 8) := by kernel_rfl
@[simp] theorem el36 : elI Try.prog 36 = none := by kernel_rfl
@[simp] theorem fl36_0 : fldI Try.prog 36 0 = some (0, false, 1) := by kernel_rfl
@[simp] theorem fl36_1 : fldI Try.prog 36 1 = some (1, false, 1) := by kernel_rfl
@[simp] theorem fl36_2 : fldI Try.prog 36 2 = some (2, false, 1) := by kernel_rfl
@[simp] theorem fl36_3 : fldI Try.prog 36 3 = some (3, false, 1) := by kernel_rfl
@[simp] theorem fl36_4 : fldI Try.prog 36 4 = some (4, false, 1) := by kernel_rfl
@[simp] theorem fl36_5 : fldI Try.prog 36 5 = some (5, false, 1) := by kernel_rfl
@[simp] theorem fl36_6 : fldI Try.prog 36 6 = some (6, false, 1) := by kernel_rfl
@[simp] theorem fl36_7 : fldI Try.prog 36 7 = some (7, false, 1) := by kernel_rfl
@[simp] theorem pl36 : plcI Try.prog 36 = some [(0, 1), (1, 1), (2, 1), (3, 1), (4, 1), (5, 1), (6, 1), (7, 1)] := by kernel_rfl
@[simp] theorem zr36 : zroI Try.prog 36 = some [.v (.int .i64 0), .v (.int .i64 0), .v (.string ⟨#[]⟩), .v (.string ⟨#[]⟩), .sl true [], .sl true [], .sl true [], .sl true []] := by kernel_rfl
@[simp] theorem ty39 : tyI Try.prog 39 = some (false, 1) := by kernel_rfl
@[simp] theorem el39 : elI Try.prog 39 = some (78, 2, 32, #[.string ⟨#[]⟩, .string ⟨#[]⟩]) := by kernel_rfl
@[simp] theorem us39 : Try.prog.underlying 39 = some (.slice 78) := by kernel_rfl
@[simp] theorem zr39 : zroI Try.prog 39 = some [.sl true []] := by kernel_rfl
@[simp] theorem ty40 : tyI Try.prog 40 = some (false, 1) := by kernel_rfl
@[simp] theorem el40 : elI Try.prog 40 = some (117, 2, 24, #[.string ⟨#[]⟩, .int .i64 0]) := by kernel_rfl
@[simp] theorem us40 : Try.prog.underlying 40 = some (.slice 117) := by kernel_rfl
@[simp] theorem zr40 : zroI Try.prog 40 = some [.sl true []] := by kernel_rfl
@[simp] theorem ty42 : tyI Try.prog 42 = some (true, 6) := by kernel_rfl
@[simp] theorem el42 : elI Try.prog 42 = none := by kernel_rfl
@[simp] theorem fl42_0 : fldI Try.prog 42 0 = some (0, false, 1) := by kernel_rfl
@[simp] theorem fl42_1 : fldI Try.prog 42 1 = some (1, false, 1) := by kernel_rfl
@[simp] theorem fl42_2 : fldI Try.prog 42 2 = some (2, false, 1) := by kernel_rfl
@[simp] theorem fl42_3 : fldI Try.prog 42 3 = some (3, false, 1) := by kernel_rfl
@[simp] theorem fl42_4 : fldI Try.prog 42 4 = some (4, false, 1) := by kernel_rfl
@[simp] theorem fl42_5 : fldI Try.prog 42 5 = some (5, false, 1) := by kernel_rfl
@[simp] theorem pl42 : plcI Try.prog 42 = some [(0, 1), (1, 1), (2, 1), (3, 1), (4, 1), (5, 1)] := by kernel_rfl
@[simp] theorem zr42 : zroI Try.prog 42 = some [.v (.int .i64 0), .v (.int .i64 0), .v (.int .i64 0), .v (.int .i64 0), .v (.bool false), .v (.bool false)] := by kernel_rfl
@[simp] theorem ty43 : tyI Try.prog 43 = some (false, 1) := by kernel_rfl
@[simp] theorem el43 : elI Try.prog 43 = some (45, 14, 192, #[.int .i64 0, .string ⟨#[]⟩, .string ⟨#[]⟩, .string ⟨#[]⟩, .slice none 0 0, .slice none 0 0, .slice none 0 0, .int .i64 0, .int .i64 0, .int .i64 0, .int .i64 0, .bool false, .bool false, .slice none 0 0]) := by kernel_rfl
@[simp] theorem us43 : Try.prog.underlying 43 = some (.slice 45) := by kernel_rfl
@[simp] theorem zr43 : zroI Try.prog 43 = some [.sl true []] := by kernel_rfl
@[simp] theorem ty45 : tyI Try.prog 45 = some (true, 14) := by kernel_rfl
@[simp] theorem el45 : elI Try.prog 45 = none := by kernel_rfl
@[simp] theorem fl45_0 : fldI Try.prog 45 0 = some (0, false, 1) := by kernel_rfl
@[simp] theorem fl45_1 : fldI Try.prog 45 1 = some (1, false, 1) := by kernel_rfl
@[simp] theorem fl45_2 : fldI Try.prog 45 2 = some (2, false, 1) := by kernel_rfl
@[simp] theorem fl45_3 : fldI Try.prog 45 3 = some (3, false, 1) := by kernel_rfl
@[simp] theorem fl45_4 : fldI Try.prog 45 4 = some (4, false, 1) := by kernel_rfl
@[simp] theorem fl45_5 : fldI Try.prog 45 5 = some (5, false, 1) := by kernel_rfl
@[simp] theorem fl45_6 : fldI Try.prog 45 6 = some (6, false, 1) := by kernel_rfl
@[simp] theorem fl45_7 : fldI Try.prog 45 7 = some (7, true, 6) := by kernel_rfl
@[simp] theorem fl45_8 : fldI Try.prog 45 8 = some (13, false, 1) := by kernel_rfl
@[simp] theorem pl45 : plcI Try.prog 45 = some [(0, 1), (1, 1), (2, 1), (3, 1), (4, 1), (5, 1), (6, 1), (7, 6), (13, 1)] := by kernel_rfl
@[simp] theorem zr45 : zroI Try.prog 45 = some [.v (.int .i64 0), .v (.string ⟨#[]⟩), .v (.string ⟨#[]⟩), .v (.string ⟨#[]⟩), .sl true [], .sl true [], .sl true [], .v (.int .i64 0), .v (.int .i64 0), .v (.int .i64 0), .v (.int .i64 0), .v (.bool false), .v (.bool false), .sl true []] := by kernel_rfl
@[simp] theorem ty49 : tyI Try.prog 49 = some (false, 1) := by kernel_rfl
@[simp] theorem el49 : elI Try.prog 49 = some (90, 5, 40, #[.int .i64 0, .int .i64 0, .int .i64 0, .int .i64 0, .int .i64 0]) := by kernel_rfl
@[simp] theorem us49 : Try.prog.underlying 49 = some (.slice 90) := by kernel_rfl
@[simp] theorem zr49 : zroI Try.prog 49 = some [.sl true []] := by kernel_rfl
@[simp] theorem ty50 : tyI Try.prog 50 = some (false, 1) := by kernel_rfl
@[simp] theorem el50 : elI Try.prog 50 = some (90, 5, 40, #[.int .i64 0, .int .i64 0, .int .i64 0, .int .i64 0, .int .i64 0]) := by kernel_rfl
@[simp] theorem us50 : Try.prog.underlying 50 = some (.slice 90) := by kernel_rfl
@[simp] theorem zr50 : zroI Try.prog 50 = some [.sl true []] := by kernel_rfl
@[simp] theorem ty55 : tyI Try.prog 55 = some (false, 1) := by kernel_rfl
@[simp] theorem el55 : elI Try.prog 55 = none := by kernel_rfl
@[simp] theorem zr55 : zroI Try.prog 55 = some [.v (.pointer none)] := by kernel_rfl
@[simp] theorem up55 : Try.prog.underlying 55 = some (.pointer 99) := by kernel_rfl
@[simp] theorem ty57 : tyI Try.prog 57 = some (false, 1) := by kernel_rfl
@[simp] theorem el57 : elI Try.prog 57 = none := by kernel_rfl
@[simp] theorem zr57 : zroI Try.prog 57 = some [.v (.pointer none)] := by kernel_rfl
@[simp] theorem up57 : Try.prog.underlying 57 = some (.pointer 60) := by kernel_rfl
@[simp] theorem ty60 : tyI Try.prog 60 = some (true, 2) := by kernel_rfl
@[simp] theorem el60 : elI Try.prog 60 = none := by kernel_rfl
@[simp] theorem fl60_0 : fldI Try.prog 60 0 = some (0, false, 1) := by kernel_rfl
@[simp] theorem fl60_1 : fldI Try.prog 60 1 = some (1, false, 1) := by kernel_rfl
@[simp] theorem pl60 : plcI Try.prog 60 = some [(0, 1), (1, 1)] := by kernel_rfl
@[simp] theorem zr60 : zroI Try.prog 60 = some [.v (.pointer none), .sl true []] := by kernel_rfl
@[simp] theorem ty61 : tyI Try.prog 61 = some (false, 1) := by kernel_rfl
@[simp] theorem el61 : elI Try.prog 61 = none := by kernel_rfl
@[simp] theorem zr61 : zroI Try.prog 61 = some [.v (.int .i64 0)] := by kernel_rfl
@[simp] theorem ub61 : Try.prog.underlying 61 = some (.int .i64) := by kernel_rfl
@[simp] theorem ty68 : tyI Try.prog 68 = some (true, 2) := by kernel_rfl
@[simp] theorem el68 : elI Try.prog 68 = none := by kernel_rfl
@[simp] theorem fl68_0 : fldI Try.prog 68 0 = some (0, false, 1) := by kernel_rfl
@[simp] theorem fl68_1 : fldI Try.prog 68 1 = some (1, false, 1) := by kernel_rfl
@[simp] theorem pl68 : plcI Try.prog 68 = some [(0, 1), (1, 1)] := by kernel_rfl
@[simp] theorem zr68 : zroI Try.prog 68 = some [.v (.string ⟨#[]⟩), .v (.int .i64 0)] := by kernel_rfl
@[simp] theorem ty70 : tyI Try.prog 70 = some (true, 4) := by kernel_rfl
@[simp] theorem el70 : elI Try.prog 70 = none := by kernel_rfl
@[simp] theorem fl70_0 : fldI Try.prog 70 0 = some (0, false, 1) := by kernel_rfl
@[simp] theorem fl70_1 : fldI Try.prog 70 1 = some (1, false, 1) := by kernel_rfl
@[simp] theorem fl70_2 : fldI Try.prog 70 2 = some (2, false, 1) := by kernel_rfl
@[simp] theorem fl70_3 : fldI Try.prog 70 3 = some (3, false, 1) := by kernel_rfl
@[simp] theorem pl70 : plcI Try.prog 70 = some [(0, 1), (1, 1), (2, 1), (3, 1)] := by kernel_rfl
@[simp] theorem zr70 : zroI Try.prog 70 = some [.v (.int .i64 0), .v (.int .i64 0), .v (.int .i64 0), .v (.int .i64 0)] := by kernel_rfl
@[simp] theorem ty74 : tyI Try.prog 74 = some (true, 2) := by kernel_rfl
@[simp] theorem el74 : elI Try.prog 74 = none := by kernel_rfl
@[simp] theorem fl74_0 : fldI Try.prog 74 0 = some (0, false, 1) := by kernel_rfl
@[simp] theorem fl74_1 : fldI Try.prog 74 1 = some (1, false, 1) := by kernel_rfl
@[simp] theorem pl74 : plcI Try.prog 74 = some [(0, 1), (1, 1)] := by kernel_rfl
@[simp] theorem zr74 : zroI Try.prog 74 = some [.v (.int .i64 0), .v (.int .i64 0)] := by kernel_rfl
@[simp] theorem ty78 : tyI Try.prog 78 = some (true, 2) := by kernel_rfl
@[simp] theorem el78 : elI Try.prog 78 = none := by kernel_rfl
@[simp] theorem fl78_0 : fldI Try.prog 78 0 = some (0, false, 1) := by kernel_rfl
@[simp] theorem fl78_1 : fldI Try.prog 78 1 = some (1, false, 1) := by kernel_rfl
@[simp] theorem pl78 : plcI Try.prog 78 = some [(0, 1), (1, 1)] := by kernel_rfl
@[simp] theorem zr78 : zroI Try.prog 78 = some [.v (.string ⟨#[]⟩), .v (.string ⟨#[]⟩)] := by kernel_rfl
@[simp] theorem ty80 : tyI Try.prog 80 = some (true, 14) := by kernel_rfl
@[simp] theorem el80 : elI Try.prog 80 = none := by kernel_rfl
@[simp] theorem fl80_0 : fldI Try.prog 80 0 = some (0, false, 1) := by kernel_rfl
@[simp] theorem fl80_1 : fldI Try.prog 80 1 = some (1, false, 1) := by kernel_rfl
@[simp] theorem fl80_2 : fldI Try.prog 80 2 = some (2, false, 1) := by kernel_rfl
@[simp] theorem fl80_3 : fldI Try.prog 80 3 = some (3, false, 1) := by kernel_rfl
@[simp] theorem fl80_4 : fldI Try.prog 80 4 = some (4, false, 1) := by kernel_rfl
@[simp] theorem fl80_5 : fldI Try.prog 80 5 = some (5, false, 1) := by kernel_rfl
@[simp] theorem fl80_6 : fldI Try.prog 80 6 = some (6, false, 1) := by kernel_rfl
@[simp] theorem fl80_7 : fldI Try.prog 80 7 = some (7, false, 1) := by kernel_rfl
@[simp] theorem fl80_8 : fldI Try.prog 80 8 = some (8, true, 6) := by kernel_rfl
@[simp] theorem pl80 : plcI Try.prog 80 = some [(0, 1), (1, 1), (2, 1), (3, 1), (4, 1), (5, 1), (6, 1), (7, 1), (8, 6)] := by kernel_rfl
@[simp] theorem zr80 : zroI Try.prog 80 = some [.v (.int .i64 0), .v (.int .i64 0), .v (.string ⟨#[]⟩), .v (.string ⟨#[]⟩), .v (.string ⟨#[]⟩), .sl true [], .sl true [], .sl true [], .v (.int .i64 0), .v (.int .i64 0), .v (.int .i64 0), .v (.int .i64 0), .v (.bool false), .v (.bool false)] := by kernel_rfl
@[simp] theorem ty87 : tyI Try.prog 87 = some (true, 2) := by kernel_rfl
@[simp] theorem el87 : elI Try.prog 87 = none := by kernel_rfl
@[simp] theorem fl87_0 : fldI Try.prog 87 0 = some (0, false, 1) := by kernel_rfl
@[simp] theorem fl87_1 : fldI Try.prog 87 1 = some (1, false, 1) := by kernel_rfl
@[simp] theorem pl87 : plcI Try.prog 87 = some [(0, 1), (1, 1)] := by kernel_rfl
@[simp] theorem zr87 : zroI Try.prog 87 = some [.v (.string ⟨#[]⟩), .v (.string ⟨#[]⟩)] := by kernel_rfl
@[simp] theorem ty90 : tyI Try.prog 90 = some (true, 5) := by kernel_rfl
@[simp] theorem el90 : elI Try.prog 90 = none := by kernel_rfl
@[simp] theorem fl90_0 : fldI Try.prog 90 0 = some (0, false, 1) := by kernel_rfl
@[simp] theorem fl90_1 : fldI Try.prog 90 1 = some (1, true, 4) := by kernel_rfl
@[simp] theorem pl90 : plcI Try.prog 90 = some [(0, 1), (1, 4)] := by kernel_rfl
@[simp] theorem zr90 : zroI Try.prog 90 = some [.v (.int .i64 0), .v (.int .i64 0), .v (.int .i64 0), .v (.int .i64 0), .v (.int .i64 0)] := by kernel_rfl
@[simp] theorem ty91 : tyI Try.prog 91 = some (false, 1) := by kernel_rfl
@[simp] theorem el91 : elI Try.prog 91 = none := by kernel_rfl
@[simp] theorem zr91 : zroI Try.prog 91 = some [.v (.nilFunc)] := by kernel_rfl
@[simp] theorem ty97 : tyI Try.prog 97 = some (false, 1) := by kernel_rfl
@[simp] theorem el97 : elI Try.prog 97 = none := by kernel_rfl
@[simp] theorem zr97 : zroI Try.prog 97 = some [.v (.map none)] := by kernel_rfl
@[simp] theorem ty99 : tyI Try.prog 99 = some (true, 3) := by kernel_rfl
@[simp] theorem el99 : elI Try.prog 99 = none := by kernel_rfl
@[simp] theorem fl99_0 : fldI Try.prog 99 0 = some (0, false, 1) := by kernel_rfl
@[simp] theorem fl99_1 : fldI Try.prog 99 1 = some (1, false, 1) := by kernel_rfl
@[simp] theorem fl99_2 : fldI Try.prog 99 2 = some (2, false, 1) := by kernel_rfl
@[simp] theorem pl99 : plcI Try.prog 99 = some [(0, 1), (1, 1), (2, 1)] := by kernel_rfl
@[simp] theorem zr99 : zroI Try.prog 99 = some [.v (.int .i64 0), .v (.int .i64 0), .v (.map none)] := by kernel_rfl
@[simp] theorem ty100 : tyI Try.prog 100 = some (false, 1) := by kernel_rfl
@[simp] theorem el100 : elI Try.prog 100 = none := by kernel_rfl
@[simp] theorem zr100 : zroI Try.prog 100 = some [.v (.pointer none)] := by kernel_rfl
@[simp] theorem up100 : Try.prog.underlying 100 = some (.pointer 103) := by kernel_rfl
@[simp] theorem ty101 : tyI Try.prog 101 = some (false, 1) := by kernel_rfl
@[simp] theorem el101 : elI Try.prog 101 = some (3, 1, 8, #[.int .i64 0]) := by kernel_rfl
@[simp] theorem us101 : Try.prog.underlying 101 = some (.slice 3) := by kernel_rfl
@[simp] theorem zr101 : zroI Try.prog 101 = some [.sl true []] := by kernel_rfl
@[simp] theorem ty103 : tyI Try.prog 103 = some (true, 9) := by kernel_rfl
@[simp] theorem el103 : elI Try.prog 103 = none := by kernel_rfl
@[simp] theorem fl103_0 : fldI Try.prog 103 0 = some (0, false, 1) := by kernel_rfl
@[simp] theorem fl103_1 : fldI Try.prog 103 1 = some (1, false, 1) := by kernel_rfl
@[simp] theorem fl103_2 : fldI Try.prog 103 2 = some (2, false, 1) := by kernel_rfl
@[simp] theorem fl103_3 : fldI Try.prog 103 3 = some (3, false, 1) := by kernel_rfl
@[simp] theorem fl103_4 : fldI Try.prog 103 4 = some (4, false, 1) := by kernel_rfl
@[simp] theorem fl103_5 : fldI Try.prog 103 5 = some (5, false, 1) := by kernel_rfl
@[simp] theorem fl103_6 : fldI Try.prog 103 6 = some (6, false, 1) := by kernel_rfl
@[simp] theorem fl103_7 : fldI Try.prog 103 7 = some (7, false, 1) := by kernel_rfl
@[simp] theorem fl103_8 : fldI Try.prog 103 8 = some (8, false, 1) := by kernel_rfl
@[simp] theorem pl103 : plcI Try.prog 103 = some [(0, 1), (1, 1), (2, 1), (3, 1), (4, 1), (5, 1), (6, 1), (7, 1), (8, 1)] := by kernel_rfl
@[simp] theorem zr103 : zroI Try.prog 103 = some [.v (.int .i64 0), .v (.int .i64 0), .v (.string ⟨#[]⟩), .v (.string ⟨#[]⟩), .sl true [], .sl true [], .sl true [], .v (.int .i64 0), .sl true []] := by kernel_rfl
@[simp] theorem ty110 : tyI Try.prog 110 = some (false, 1) := by kernel_rfl
@[simp] theorem el110 : elI Try.prog 110 = some (126, 2, 16, #[.int .i64 0, .int .i64 0]) := by kernel_rfl
@[simp] theorem us110 : Try.prog.underlying 110 = some (.slice 126) := by kernel_rfl
@[simp] theorem zr110 : zroI Try.prog 110 = some [.sl true []] := by kernel_rfl
@[simp] theorem ty117 : tyI Try.prog 117 = some (true, 2) := by kernel_rfl
@[simp] theorem el117 : elI Try.prog 117 = none := by kernel_rfl
@[simp] theorem fl117_0 : fldI Try.prog 117 0 = some (0, false, 1) := by kernel_rfl
@[simp] theorem fl117_1 : fldI Try.prog 117 1 = some (1, false, 1) := by kernel_rfl
@[simp] theorem pl117 : plcI Try.prog 117 = some [(0, 1), (1, 1)] := by kernel_rfl
@[simp] theorem zr117 : zroI Try.prog 117 = some [.v (.string ⟨#[]⟩), .v (.int .i64 0)] := by kernel_rfl
@[simp] theorem ty126 : tyI Try.prog 126 = some (true, 2) := by kernel_rfl
@[simp] theorem el126 : elI Try.prog 126 = none := by kernel_rfl
@[simp] theorem fl126_0 : fldI Try.prog 126 0 = some (0, false, 1) := by kernel_rfl
@[simp] theorem fl126_1 : fldI Try.prog 126 1 = some (1, false, 1) := by kernel_rfl
@[simp] theorem pl126 : plcI Try.prog 126 = some [(0, 1), (1, 1)] := by kernel_rfl
@[simp] theorem zr126 : zroI Try.prog 126 = some [.v (.int .i64 0), .v (.int .i64 0)] := by kernel_rfl
@[simp] theorem ty131 : tyI Try.prog 131 = some (false, 1) := by kernel_rfl
@[simp] theorem el131 : elI Try.prog 131 = none := by kernel_rfl
@[simp] theorem zr131 : zroI Try.prog 131 = some [.v (.nilFunc)] := by kernel_rfl
@[simp] theorem ty133 : tyI Try.prog 133 = some (false, 1) := by kernel_rfl
@[simp] theorem el133 : elI Try.prog 133 = none := by kernel_rfl
@[simp] theorem zr133 : zroI Try.prog 133 = some [.v (.nilFunc)] := by kernel_rfl
@[simp] theorem ty139 : tyI Try.prog 139 = some (false, 1) := by kernel_rfl
@[simp] theorem el139 : elI Try.prog 139 = none := by kernel_rfl
@[simp] theorem zr139 : zroI Try.prog 139 = some [.v (.nilFunc)] := by kernel_rfl
@[simp] theorem ty140 : tyI Try.prog 140 = some (false, 1) := by kernel_rfl
@[simp] theorem el140 : elI Try.prog 140 = some (74, 2, 16, #[.int .i64 0, .int .i64 0]) := by kernel_rfl
@[simp] theorem us140 : Try.prog.underlying 140 = some (.slice 74) := by kernel_rfl
@[simp] theorem zr140 : zroI Try.prog 140 = some [.sl true []] := by kernel_rfl
@[simp] theorem ty148 : tyI Try.prog 148 = some (false, 1) := by kernel_rfl
@[simp] theorem el148 : elI Try.prog 148 = none := by kernel_rfl
@[simp] theorem zr148 : zroI Try.prog 148 = some [.v (.nilFunc)] := by kernel_rfl
@[simp] theorem ty152 : tyI Try.prog 152 = some (false, 1) := by kernel_rfl
@[simp] theorem el152 : elI Try.prog 152 = none := by kernel_rfl
@[simp] theorem zr152 : zroI Try.prog 152 = some [.v (.nilFunc)] := by kernel_rfl
@[simp] theorem ty159 : tyI Try.prog 159 = some (false, 1) := by kernel_rfl
@[simp] theorem el159 : elI Try.prog 159 = none := by kernel_rfl
@[simp] theorem zr159 : zroI Try.prog 159 = some [.v (.nilFunc)] := by kernel_rfl
@[simp] theorem ty163 : tyI Try.prog 163 = some (false, 1) := by kernel_rfl
@[simp] theorem el163 : elI Try.prog 163 = none := by kernel_rfl
@[simp] theorem zr163 : zroI Try.prog 163 = some [.v (.int .u64 0)] := by kernel_rfl
@[simp] theorem ub163 : Try.prog.underlying 163 = some (.int .u64) := by kernel_rfl
@[simp] theorem ty166 : tyI Try.prog 166 = some (false, 1) := by kernel_rfl
@[simp] theorem el166 : elI Try.prog 166 = none := by kernel_rfl
@[simp] theorem zr166 : zroI Try.prog 166 = some [.v (.nilFunc)] := by kernel_rfl
@[simp] theorem ty167 : tyI Try.prog 167 = some (false, 1) := by kernel_rfl
@[simp] theorem el167 : elI Try.prog 167 = none := by kernel_rfl
@[simp] theorem zr167 : zroI Try.prog 167 = some [.v (.pointer none)] := by kernel_rfl
@[simp] theorem up167 : Try.prog.underlying 167 = some (.pointer 169) := by kernel_rfl
@[simp] theorem ty169 : tyI Try.prog 169 = some (true, 6) := by kernel_rfl
@[simp] theorem el169 : elI Try.prog 169 = none := by kernel_rfl
@[simp] theorem fl169_0 : fldI Try.prog 169 0 = some (0, false, 1) := by kernel_rfl
@[simp] theorem fl169_1 : fldI Try.prog 169 1 = some (1, false, 1) := by kernel_rfl
@[simp] theorem fl169_2 : fldI Try.prog 169 2 = some (2, false, 1) := by kernel_rfl
@[simp] theorem fl169_3 : fldI Try.prog 169 3 = some (3, false, 1) := by kernel_rfl
@[simp] theorem fl169_4 : fldI Try.prog 169 4 = some (4, false, 1) := by kernel_rfl
@[simp] theorem fl169_5 : fldI Try.prog 169 5 = some (5, false, 1) := by kernel_rfl
@[simp] theorem pl169 : plcI Try.prog 169 = some [(0, 1), (1, 1), (2, 1), (3, 1), (4, 1), (5, 1)] := by kernel_rfl
@[simp] theorem zr169 : zroI Try.prog 169 = some [.v (.int .i64 0), .v (.int .i64 0), .v (.int .i64 0), .v (.int .i64 0), .v (.int .i64 0), .v (.bool false)] := by kernel_rfl
@[simp] theorem ty170 : tyI Try.prog 170 = some (false, 1) := by kernel_rfl
@[simp] theorem el170 : elI Try.prog 170 = none := by kernel_rfl
@[simp] theorem zr170 : zroI Try.prog 170 = some [.v (.nilFunc)] := by kernel_rfl
@[simp] theorem mp97 : mpI Try.prog 97 = some (.int .i64, .pointer none) := by kernel_rfl
@[simp] theorem zm97 : zmD (.pointer none) = .v (.pointer none) := rfl
@[simp] theorem eg25 : Try.prog.eqGuardType Try.prog.depth 25 = false := by kernel_rfl
theorem ei25 (d : Nat) (a0 : Int) (a1 : Int) (a2 : Int) (a3 : Int) (a4 : ByteArray) (a5 : ByteArray) (b0 : Int) (b1 : Int) (b2 : Int) (b3 : Int) (b4 : ByteArray) (b5 : ByteArray) (w : World) : (Op.equalIn (d + 2) 25 (.agg #[.int .i64 a0, .int .i64 a1, .int .i64 a2, .int .i64 a3, .string a4, .string a5]) (.agg #[.int .i64 b0, .int .i64 b1, .int .i64 b2, .int .i64 b3, .string b4, .string b5])).run Try.prog w = .ok ((a0 == b0) && (a1 == b1) && (a2 == b2) && (a3 == b3) && (decide (a4 = b4)) && (decide (a5 = b5))) w := by
  have hS : Try.prog.underlying 25 = some (.struct (Try.prog.fieldsOf 25)) := by kernel_rfl
  have hp : Try.prog.stoodInHeld 25 = false := by kernel_rfl
  rw [show d + 2 = (d + 1) + 1 from rfl, run_equalIn_agg w (d + 1) 25 _ _ hS hp]
  simp only [Program.fieldsOf, Try.underlying25]
  have ia3 := Try.isAgg3
  have iz3 := Try.sizeOf3
  have iu3 := Try.underlying3
  have ia9 := Try.isAgg9
  have iz9 := Try.sizeOf9
  have iu9 := Try.underlying9
  go_simp
  by_cases e0 : a0 = b0 <;> by_cases e1 : a1 = b1 <;> by_cases e2 : a2 = b2 <;> by_cases e3 : a3 = b3 <;> by_cases e4 : a4 = b4 <;> by_cases e5 : a5 = b5 <;> simp [e0, e1, e2, e3, e4, e5, bytesEq_iff]
theorem ae25 (a0 : Int) (a1 : Int) (a2 : Int) (a3 : Int) (a4 : ByteArray) (a5 : ByteArray) (b0 : Int) (b1 : Int) (b2 : Int) (b3 : Int) (b4 : ByteArray) (b5 : ByteArray) : AggEq Try.prog 25 [.v (.int .i64 a0), .v (.int .i64 a1), .v (.int .i64 a2), .v (.int .i64 a3), .v (.string a4), .v (.string a5)] [.v (.int .i64 b0), .v (.int .i64 b1), .v (.int .i64 b2), .v (.int .i64 b3), .v (.string b4), .v (.string b5)] ((a0 == b0) && (a1 == b1) && (a2 == b2) && (a3 == b3) && (decide (a4 = b4)) && (decide (a5 = b5))) :=
  ⟨[.int .i64 a0, .int .i64 a1, .int .i64 a2, .int .i64 a3, .string a4, .string a5], [.int .i64 b0, .int .i64 b1, .int .i64 b2, .int .i64 b3, .string b4, .string b5], rfl, rfl, fun w => ei25 9998 a0 a1 a2 a3 a4 a5 b0 b1 b2 b3 b4 b5 w⟩
@[simp] theorem aq25 (a0 : Int) (a1 : Int) (a2 : Int) (a3 : Int) (a4 : ByteArray) (a5 : ByteArray) (b0 : Int) (b1 : Int) (b2 : Int) (b3 : Int) (b4 : ByteArray) (b5 : ByteArray) (K : Bool → Prop) : vcAgg Try.prog 25 [.v (.int .i64 a0), .v (.int .i64 a1), .v (.int .i64 a2), .v (.int .i64 a3), .v (.string a4), .v (.string a5)] [.v (.int .i64 b0), .v (.int .i64 b1), .v (.int .i64 b2), .v (.int .i64 b3), .v (.string b4), .v (.string b5)] K = K ((a0 == b0) && (a1 == b1) && (a2 == b2) && (a3 == b3) && (decide (a4 = b4)) && (decide (a5 = b5))) := vcAgg_iff (ae25 a0 a1 a2 a3 a4 a5 b0 b1 b2 b3 b4 b5)
@[simp] theorem eg70 : Try.prog.eqGuardType Try.prog.depth 70 = false := by kernel_rfl
theorem ei70 (d : Nat) (a0 : Int) (a1 : Int) (a2 : Int) (a3 : Int) (b0 : Int) (b1 : Int) (b2 : Int) (b3 : Int) (w : World) : (Op.equalIn (d + 2) 70 (.agg #[.int .i64 a0, .int .i64 a1, .int .i64 a2, .int .i64 a3]) (.agg #[.int .i64 b0, .int .i64 b1, .int .i64 b2, .int .i64 b3])).run Try.prog w = .ok ((a0 == b0) && (a1 == b1) && (a2 == b2) && (a3 == b3)) w := by
  have hS : Try.prog.underlying 70 = some (.struct (Try.prog.fieldsOf 70)) := by kernel_rfl
  have hp : Try.prog.stoodInHeld 70 = false := by kernel_rfl
  rw [show d + 2 = (d + 1) + 1 from rfl, run_equalIn_agg w (d + 1) 70 _ _ hS hp]
  simp only [Program.fieldsOf, Try.underlying70]
  have ia3 := Try.isAgg3
  have iz3 := Try.sizeOf3
  have iu3 := Try.underlying3
  go_simp
  by_cases e0 : a0 = b0 <;> by_cases e1 : a1 = b1 <;> by_cases e2 : a2 = b2 <;> by_cases e3 : a3 = b3 <;> simp [e0, e1, e2, e3, bytesEq_iff]
theorem ae70 (a0 : Int) (a1 : Int) (a2 : Int) (a3 : Int) (b0 : Int) (b1 : Int) (b2 : Int) (b3 : Int) : AggEq Try.prog 70 [.v (.int .i64 a0), .v (.int .i64 a1), .v (.int .i64 a2), .v (.int .i64 a3)] [.v (.int .i64 b0), .v (.int .i64 b1), .v (.int .i64 b2), .v (.int .i64 b3)] ((a0 == b0) && (a1 == b1) && (a2 == b2) && (a3 == b3)) :=
  ⟨[.int .i64 a0, .int .i64 a1, .int .i64 a2, .int .i64 a3], [.int .i64 b0, .int .i64 b1, .int .i64 b2, .int .i64 b3], rfl, rfl, fun w => ei70 9998 a0 a1 a2 a3 b0 b1 b2 b3 w⟩
@[simp] theorem aq70 (a0 : Int) (a1 : Int) (a2 : Int) (a3 : Int) (b0 : Int) (b1 : Int) (b2 : Int) (b3 : Int) (K : Bool → Prop) : vcAgg Try.prog 70 [.v (.int .i64 a0), .v (.int .i64 a1), .v (.int .i64 a2), .v (.int .i64 a3)] [.v (.int .i64 b0), .v (.int .i64 b1), .v (.int .i64 b2), .v (.int .i64 b3)] K = K ((a0 == b0) && (a1 == b1) && (a2 == b2) && (a3 == b3)) := vcAgg_iff (ae70 a0 a1 a2 a3 b0 b1 b2 b3)
@[simp] theorem eg74 : Try.prog.eqGuardType Try.prog.depth 74 = false := by kernel_rfl
theorem ei74 (d : Nat) (a0 : Int) (a1 : Int) (b0 : Int) (b1 : Int) (w : World) : (Op.equalIn (d + 2) 74 (.agg #[.int .i64 a0, .int .i64 a1]) (.agg #[.int .i64 b0, .int .i64 b1])).run Try.prog w = .ok ((a0 == b0) && (a1 == b1)) w := by
  have hS : Try.prog.underlying 74 = some (.struct (Try.prog.fieldsOf 74)) := by kernel_rfl
  have hp : Try.prog.stoodInHeld 74 = false := by kernel_rfl
  rw [show d + 2 = (d + 1) + 1 from rfl, run_equalIn_agg w (d + 1) 74 _ _ hS hp]
  simp only [Program.fieldsOf, Try.underlying74]
  have ia3 := Try.isAgg3
  have iz3 := Try.sizeOf3
  have iu3 := Try.underlying3
  go_simp
  by_cases e0 : a0 = b0 <;> by_cases e1 : a1 = b1 <;> simp [e0, e1, bytesEq_iff]
theorem ae74 (a0 : Int) (a1 : Int) (b0 : Int) (b1 : Int) : AggEq Try.prog 74 [.v (.int .i64 a0), .v (.int .i64 a1)] [.v (.int .i64 b0), .v (.int .i64 b1)] ((a0 == b0) && (a1 == b1)) :=
  ⟨[.int .i64 a0, .int .i64 a1], [.int .i64 b0, .int .i64 b1], rfl, rfl, fun w => ei74 9998 a0 a1 b0 b1 w⟩
@[simp] theorem aq74 (a0 : Int) (a1 : Int) (b0 : Int) (b1 : Int) (K : Bool → Prop) : vcAgg Try.prog 74 [.v (.int .i64 a0), .v (.int .i64 a1)] [.v (.int .i64 b0), .v (.int .i64 b1)] K = K ((a0 == b0) && (a1 == b1)) := vcAgg_iff (ae74 a0 a1 b0 b1)
@[simp] theorem eg90 : Try.prog.eqGuardType Try.prog.depth 90 = false := by kernel_rfl
theorem ei90 (d : Nat) (a0 : Int) (a1 : Int) (a2 : Int) (a3 : Int) (a4 : Int) (b0 : Int) (b1 : Int) (b2 : Int) (b3 : Int) (b4 : Int) (w : World) : (Op.equalIn (d + 3) 90 (.agg #[.int .i64 a0, .int .i64 a1, .int .i64 a2, .int .i64 a3, .int .i64 a4]) (.agg #[.int .i64 b0, .int .i64 b1, .int .i64 b2, .int .i64 b3, .int .i64 b4])).run Try.prog w = .ok ((a0 == b0) && (a1 == b1) && (a2 == b2) && (a3 == b3) && (a4 == b4)) w := by
  have hS : Try.prog.underlying 90 = some (.struct (Try.prog.fieldsOf 90)) := by kernel_rfl
  have hp : Try.prog.stoodInHeld 90 = false := by kernel_rfl
  rw [show d + 3 = (d + 2) + 1 from rfl, run_equalIn_agg w (d + 2) 90 _ _ hS hp]
  simp only [Program.fieldsOf, Try.underlying90]
  have ia3 := Try.isAgg3
  have iz3 := Try.sizeOf3
  have iu3 := Try.underlying3
  have ia70 := Try.isAgg70
  have iz70 := Try.sizeOf70
  go_simp
  by_cases e0 : a0 = b0 <;> by_cases e1 : a1 = b1 <;> by_cases e2 : a2 = b2 <;> by_cases e3 : a3 = b3 <;> by_cases e4 : a4 = b4 <;> simp [e0, e1, e2, e3, e4, bytesEq_iff]
theorem ae90 (a0 : Int) (a1 : Int) (a2 : Int) (a3 : Int) (a4 : Int) (b0 : Int) (b1 : Int) (b2 : Int) (b3 : Int) (b4 : Int) : AggEq Try.prog 90 [.v (.int .i64 a0), .v (.int .i64 a1), .v (.int .i64 a2), .v (.int .i64 a3), .v (.int .i64 a4)] [.v (.int .i64 b0), .v (.int .i64 b1), .v (.int .i64 b2), .v (.int .i64 b3), .v (.int .i64 b4)] ((a0 == b0) && (a1 == b1) && (a2 == b2) && (a3 == b3) && (a4 == b4)) :=
  ⟨[.int .i64 a0, .int .i64 a1, .int .i64 a2, .int .i64 a3, .int .i64 a4], [.int .i64 b0, .int .i64 b1, .int .i64 b2, .int .i64 b3, .int .i64 b4], rfl, rfl, fun w => ei90 9997 a0 a1 a2 a3 a4 b0 b1 b2 b3 b4 w⟩
@[simp] theorem aq90 (a0 : Int) (a1 : Int) (a2 : Int) (a3 : Int) (a4 : Int) (b0 : Int) (b1 : Int) (b2 : Int) (b3 : Int) (b4 : Int) (K : Bool → Prop) : vcAgg Try.prog 90 [.v (.int .i64 a0), .v (.int .i64 a1), .v (.int .i64 a2), .v (.int .i64 a3), .v (.int .i64 a4)] [.v (.int .i64 b0), .v (.int .i64 b1), .v (.int .i64 b2), .v (.int .i64 b3), .v (.int .i64 b4)] K = K ((a0 == b0) && (a1 == b1) && (a2 == b2) && (a3 == b3) && (a4 == b4)) := vcAgg_iff (ae90 a0 a1 a2 a3 a4 b0 b1 b2 b3 b4)
end Go.Proofs.Ythecicgdbogckaa
