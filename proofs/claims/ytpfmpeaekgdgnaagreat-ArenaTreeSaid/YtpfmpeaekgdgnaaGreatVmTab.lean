import Derived.Test.YtpfmpeaekgdgnaaGreatProg
import Derived.Test.YtpfmpeaekgdgnaaGreatVm17
import Derived.Test.YtpfmpeaekgdgnaaGreatVmX13
import Derived.WalkKit
import Derived.KernelRfl
namespace Go.Proofs.YtpfmpeaekgdgnaaGreat
open Go Go.Vm
set_option linter.all false
set_option maxRecDepth 100000
@[simp] theorem ty1 : tyI Tryz.prog 1 = some (false, 1) := by kernel_rfl
@[simp] theorem el1 : elI Tryz.prog 1 = none := by kernel_rfl
@[simp] theorem zr1 : zroI Tryz.prog 1 = some [.v (.nilFunc)] := by kernel_rfl
@[simp] theorem ty2 : tyI Tryz.prog 2 = some (false, 1) := by kernel_rfl
@[simp] theorem el2 : elI Tryz.prog 2 = none := by kernel_rfl
@[simp] theorem zr2 : zroI Tryz.prog 2 = some [.v (.int .i64 0)] := by kernel_rfl
@[simp] theorem ub2 : Tryz.prog.underlying 2 = some (.int .i64) := by kernel_rfl
@[simp] theorem ty3 : tyI Tryz.prog 3 = some (false, 1) := by kernel_rfl
@[simp] theorem el3 : elI Tryz.prog 3 = none := by kernel_rfl
@[simp] theorem zr3 : zroI Tryz.prog 3 = some [.v (.int .i64 0)] := by kernel_rfl
@[simp] theorem ub3 : Tryz.prog.underlying 3 = some (.int .i64) := by kernel_rfl
@[simp] theorem ty4 : tyI Tryz.prog 4 = some (false, 1) := by kernel_rfl
@[simp] theorem el4 : elI Tryz.prog 4 = none := by kernel_rfl
@[simp] theorem zr4 : zroI Tryz.prog 4 = some [.v (.bool false)] := by kernel_rfl
@[simp] theorem ub4 : Tryz.prog.underlying 4 = some .bool := by kernel_rfl
@[simp] theorem ty5 : tyI Tryz.prog 5 = some (false, 1) := by kernel_rfl
@[simp] theorem el5 : elI Tryz.prog 5 = none := by kernel_rfl
@[simp] theorem zr5 : zroI Tryz.prog 5 = some [.v (.int .u8 0)] := by kernel_rfl
@[simp] theorem ub5 : Tryz.prog.underlying 5 = some (.int .u8) := by kernel_rfl
@[simp] theorem ty6 : tyI Tryz.prog 6 = some (false, 1) := by kernel_rfl
@[simp] theorem el6 : elI Tryz.prog 6 = none := by kernel_rfl
@[simp] theorem zr6 : zroI Tryz.prog 6 = some [.v (.int .u8 0)] := by kernel_rfl
@[simp] theorem ub6 : Tryz.prog.underlying 6 = some (.int .u8) := by kernel_rfl
@[simp] theorem ty7 : tyI Tryz.prog 7 = some (true, 4) := by kernel_rfl
@[simp] theorem el7 : elI Tryz.prog 7 = none := by kernel_rfl
@[simp] theorem fl7_0 : fldI Tryz.prog 7 0 = some (0, false, 1) := by kernel_rfl
@[simp] theorem fl7_1 : fldI Tryz.prog 7 1 = some (1, false, 1) := by kernel_rfl
@[simp] theorem fl7_2 : fldI Tryz.prog 7 2 = some (2, false, 1) := by kernel_rfl
@[simp] theorem fl7_3 : fldI Tryz.prog 7 3 = some (3, false, 1) := by kernel_rfl
@[simp] theorem pl7 : plcI Tryz.prog 7 = some [(0, 1), (1, 1), (2, 1), (3, 1)] := by kernel_rfl
@[simp] theorem zr7 : zroI Tryz.prog 7 = some [.v (.int .i64 0), .v (.int .i64 0), .v (.bool false), .v (.int .u8 0)] := by kernel_rfl
@[simp] theorem ty8 : tyI Tryz.prog 8 = some (true, 4) := by kernel_rfl
@[simp] theorem el8 : elI Tryz.prog 8 = none := by kernel_rfl
@[simp] theorem fl8_0 : fldI Tryz.prog 8 0 = some (0, false, 1) := by kernel_rfl
@[simp] theorem fl8_1 : fldI Tryz.prog 8 1 = some (1, false, 1) := by kernel_rfl
@[simp] theorem fl8_2 : fldI Tryz.prog 8 2 = some (2, false, 1) := by kernel_rfl
@[simp] theorem fl8_3 : fldI Tryz.prog 8 3 = some (3, false, 1) := by kernel_rfl
@[simp] theorem pl8 : plcI Tryz.prog 8 = some [(0, 1), (1, 1), (2, 1), (3, 1)] := by kernel_rfl
@[simp] theorem zr8 : zroI Tryz.prog 8 = some [.v (.int .i64 0), .v (.int .i64 0), .v (.bool false), .v (.int .u8 0)] := by kernel_rfl
@[simp] theorem ty9 : tyI Tryz.prog 9 = some (false, 1) := by kernel_rfl
@[simp] theorem el9 : elI Tryz.prog 9 = none := by kernel_rfl
@[simp] theorem zr9 : zroI Tryz.prog 9 = some [.v (.string ⟨#[]⟩)] := by kernel_rfl
@[simp] theorem ub9 : Tryz.prog.underlying 9 = some .string := by kernel_rfl
@[simp] theorem ty22 : tyI Tryz.prog 22 = some (false, 1) := by kernel_rfl
@[simp] theorem el22 : elI Tryz.prog 22 = some (33, 6, 64, #[.int .i64 0, .int .i64 0, .int .i64 0, .int .i64 0, .string ⟨#[]⟩, .string ⟨#[]⟩]) := by kernel_rfl
@[simp] theorem us22 : Tryz.prog.underlying 22 = some (.slice 33) := by kernel_rfl
@[simp] theorem zr22 : zroI Tryz.prog 22 = some [.sl true []] := by kernel_rfl
@[simp] theorem ty24 : tyI Tryz.prog 24 = some (false, 1) := by kernel_rfl
@[simp] theorem el24 : elI Tryz.prog 24 = none := by kernel_rfl
@[simp] theorem zr24 : zroI Tryz.prog 24 = some [.v (.pointer none)] := by kernel_rfl
@[simp] theorem up24 : Tryz.prog.underlying 24 = some (.pointer 91) := by kernel_rfl
@[simp] theorem ty26 : tyI Tryz.prog 26 = some (false, 1) := by kernel_rfl
@[simp] theorem el26 : elI Tryz.prog 26 = some (96, 9, 152, #[.int .i64 0, .int .i64 0, .string ⟨#[]⟩, .string ⟨#[]⟩, .slice none 0 0, .slice none 0 0, .slice none 0 0, .int .i64 0, .slice none 0 0]) := by kernel_rfl
@[simp] theorem us26 : Tryz.prog.underlying 26 = some (.slice 96) := by kernel_rfl
@[simp] theorem zr26 : zroI Tryz.prog 26 = some [.sl true []] := by kernel_rfl
@[simp] theorem ty28 : tyI Tryz.prog 28 = some (true, 3) := by kernel_rfl
@[simp] theorem el28 : elI Tryz.prog 28 = none := by kernel_rfl
@[simp] theorem fl28_0 : fldI Tryz.prog 28 0 = some (0, false, 1) := by kernel_rfl
@[simp] theorem fl28_1 : fldI Tryz.prog 28 1 = some (1, false, 1) := by kernel_rfl
@[simp] theorem fl28_2 : fldI Tryz.prog 28 2 = some (2, false, 1) := by kernel_rfl
@[simp] theorem pl28 : plcI Tryz.prog 28 = some [(0, 1), (1, 1), (2, 1)] := by kernel_rfl
@[simp] theorem zr28 : zroI Tryz.prog 28 = some [.v (.int .i64 0), .v (.int .i64 0), .sl true []] := by kernel_rfl
@[simp] theorem ty33 : tyI Tryz.prog 33 = some (true, 6) := by kernel_rfl
@[simp] theorem el33 : elI Tryz.prog 33 = none := by kernel_rfl
@[simp] theorem fl33_0 : fldI Tryz.prog 33 0 = some (0, false, 1) := by kernel_rfl
@[simp] theorem fl33_1 : fldI Tryz.prog 33 1 = some (1, false, 1) := by kernel_rfl
@[simp] theorem fl33_2 : fldI Tryz.prog 33 2 = some (2, false, 1) := by kernel_rfl
@[simp] theorem fl33_3 : fldI Tryz.prog 33 3 = some (3, false, 1) := by kernel_rfl
@[simp] theorem fl33_4 : fldI Tryz.prog 33 4 = some (4, false, 1) := by kernel_rfl
@[simp] theorem fl33_5 : fldI Tryz.prog 33 5 = some (5, false, 1) := by kernel_rfl
@[simp] theorem pl33 : plcI Tryz.prog 33 = some [(0, 1), (1, 1), (2, 1), (3, 1), (4, 1), (5, 1)] := by kernel_rfl
@[simp] theorem zr33 : zroI Tryz.prog 33 = some [.v (.int .i64 0), .v (.int .i64 0), .v (.int .i64 0), .v (.int .i64 0), .v (.string ⟨#[]⟩), .v (.string ⟨#[]⟩)] := by kernel_rfl
@[simp] theorem ty42 : tyI Tryz.prog 42 = some (false, 1) := by kernel_rfl
@[simp] theorem el42 : elI Tryz.prog 42 = some (9, 1, 16, #[.string ⟨#[]⟩]) := by kernel_rfl
@[simp] theorem us42 : Tryz.prog.underlying 42 = some (.slice 9) := by kernel_rfl
@[simp] theorem zr42 : zroI Tryz.prog 42 = some [.sl true []] := by kernel_rfl
@[simp] theorem ty43 : tyI Tryz.prog 43 = some (false, 1) := by kernel_rfl
@[simp] theorem el43 : elI Tryz.prog 43 = some (55, 2, 32, #[.string ⟨#[]⟩, .string ⟨#[]⟩]) := by kernel_rfl
@[simp] theorem us43 : Tryz.prog.underlying 43 = some (.slice 55) := by kernel_rfl
@[simp] theorem zr43 : zroI Tryz.prog 43 = some [.sl true []] := by kernel_rfl
@[simp] theorem ty44 : tyI Tryz.prog 44 = some (false, 1) := by kernel_rfl
@[simp] theorem el44 : elI Tryz.prog 44 = some (55, 2, 32, #[.string ⟨#[]⟩, .string ⟨#[]⟩]) := by kernel_rfl
@[simp] theorem us44 : Tryz.prog.underlying 44 = some (.slice 55) := by kernel_rfl
@[simp] theorem zr44 : zroI Tryz.prog 44 = some [.sl true []] := by kernel_rfl
@[simp] theorem ty45 : tyI Tryz.prog 45 = some (false, 1) := by kernel_rfl
@[simp] theorem el45 : elI Tryz.prog 45 = some (53, 2, 24, #[.string ⟨#[]⟩, .int .i64 0]) := by kernel_rfl
@[simp] theorem us45 : Tryz.prog.underlying 45 = some (.slice 53) := by kernel_rfl
@[simp] theorem zr45 : zroI Tryz.prog 45 = some [.sl true []] := by kernel_rfl
@[simp] theorem ty46 : tyI Tryz.prog 46 = some (false, 1) := by kernel_rfl
@[simp] theorem el46 : elI Tryz.prog 46 = some (53, 2, 24, #[.string ⟨#[]⟩, .int .i64 0]) := by kernel_rfl
@[simp] theorem us46 : Tryz.prog.underlying 46 = some (.slice 53) := by kernel_rfl
@[simp] theorem zr46 : zroI Tryz.prog 46 = some [.sl true []] := by kernel_rfl
@[simp] theorem ty47 : tyI Tryz.prog 47 = some (false, 1) := by kernel_rfl
@[simp] theorem el47 : elI Tryz.prog 47 = some (3, 1, 8, #[.int .i64 0]) := by kernel_rfl
@[simp] theorem us47 : Tryz.prog.underlying 47 = some (.slice 3) := by kernel_rfl
@[simp] theorem zr47 : zroI Tryz.prog 47 = some [.sl true []] := by kernel_rfl
@[simp] theorem ty49 : tyI Tryz.prog 49 = some (true, 9) := by kernel_rfl
@[simp] theorem el49 : elI Tryz.prog 49 = none := by kernel_rfl
@[simp] theorem fl49_0 : fldI Tryz.prog 49 0 = some (0, false, 1) := by kernel_rfl
@[simp] theorem fl49_1 : fldI Tryz.prog 49 1 = some (1, false, 1) := by kernel_rfl
@[simp] theorem fl49_2 : fldI Tryz.prog 49 2 = some (2, false, 1) := by kernel_rfl
@[simp] theorem fl49_3 : fldI Tryz.prog 49 3 = some (3, false, 1) := by kernel_rfl
@[simp] theorem fl49_4 : fldI Tryz.prog 49 4 = some (4, false, 1) := by kernel_rfl
@[simp] theorem fl49_5 : fldI Tryz.prog 49 5 = some (5, false, 1) := by kernel_rfl
@[simp] theorem fl49_6 : fldI Tryz.prog 49 6 = some (6, false, 1) := by kernel_rfl
@[simp] theorem fl49_7 : fldI Tryz.prog 49 7 = some (7, false, 1) := by kernel_rfl
@[simp] theorem fl49_8 : fldI Tryz.prog 49 8 = some (8, false, 1) := by kernel_rfl
@[simp] theorem pl49 : plcI Tryz.prog 49 = some [(0, 1), (1, 1), (2, 1), (3, 1), (4, 1), (5, 1), (6, 1), (7, 1), (8, 1)] := by kernel_rfl
@[simp] theorem zr49 : zroI Tryz.prog 49 = some [.v (.int .i64 0), .v (.int .i64 0), .v (.string ⟨#[]⟩), .v (.string ⟨#[]⟩), .sl true [], .sl true [], .sl true [], .v (.int .i64 0), .sl true []] := by kernel_rfl
@[simp] theorem ty53 : tyI Tryz.prog 53 = some (true, 2) := by kernel_rfl
@[simp] theorem el53 : elI Tryz.prog 53 = none := by kernel_rfl
@[simp] theorem fl53_0 : fldI Tryz.prog 53 0 = some (0, false, 1) := by kernel_rfl
@[simp] theorem fl53_1 : fldI Tryz.prog 53 1 = some (1, false, 1) := by kernel_rfl
@[simp] theorem pl53 : plcI Tryz.prog 53 = some [(0, 1), (1, 1)] := by kernel_rfl
@[simp] theorem zr53 : zroI Tryz.prog 53 = some [.v (.string ⟨#[]⟩), .v (.int .i64 0)] := by kernel_rfl
@[simp] theorem ty55 : tyI Tryz.prog 55 = some (true, 2) := by kernel_rfl
@[simp] theorem el55 : elI Tryz.prog 55 = none := by kernel_rfl
@[simp] theorem fl55_0 : fldI Tryz.prog 55 0 = some (0, false, 1) := by kernel_rfl
@[simp] theorem fl55_1 : fldI Tryz.prog 55 1 = some (1, false, 1) := by kernel_rfl
@[simp] theorem pl55 : plcI Tryz.prog 55 = some [(0, 1), (1, 1)] := by kernel_rfl
@[simp] theorem zr55 : zroI Tryz.prog 55 = some [.v (.string ⟨#[]⟩), .v (.string ⟨#[]⟩)] := by kernel_rfl
@[simp] theorem ty60 : tyI Tryz.prog 60 = some (false, 1) := by kernel_rfl
@[simp] theorem el60 : elI Tryz.prog 60 = none := by kernel_rfl
@[simp] theorem zr60 : zroI Tryz.prog 60 = some [.v (.pointer none)] := by kernel_rfl
@[simp] theorem up60 : Tryz.prog.underlying 60 = some (.pointer 74) := by kernel_rfl
@[simp] theorem ty62 : tyI Tryz.prog 62 = some (false, 1) := by kernel_rfl
@[simp] theorem el62 : elI Tryz.prog 62 = some (65, 6, 64, #[.int .i64 0, .int .i64 0, .int .i64 0, .int .i64 0, .string ⟨#[]⟩, .string ⟨#[]⟩]) := by kernel_rfl
@[simp] theorem us62 : Tryz.prog.underlying 62 = some (.slice 65) := by kernel_rfl
@[simp] theorem zr62 : zroI Tryz.prog 62 = some [.sl true []] := by kernel_rfl
@[simp] theorem ty65 : tyI Tryz.prog 65 = some (true, 6) := by kernel_rfl
@[simp] theorem el65 : elI Tryz.prog 65 = none := by kernel_rfl
@[simp] theorem fl65_0 : fldI Tryz.prog 65 0 = some (0, false, 1) := by kernel_rfl
@[simp] theorem fl65_1 : fldI Tryz.prog 65 1 = some (1, false, 1) := by kernel_rfl
@[simp] theorem fl65_2 : fldI Tryz.prog 65 2 = some (2, false, 1) := by kernel_rfl
@[simp] theorem fl65_3 : fldI Tryz.prog 65 3 = some (3, false, 1) := by kernel_rfl
@[simp] theorem fl65_4 : fldI Tryz.prog 65 4 = some (4, false, 1) := by kernel_rfl
@[simp] theorem fl65_5 : fldI Tryz.prog 65 5 = some (5, false, 1) := by kernel_rfl
@[simp] theorem pl65 : plcI Tryz.prog 65 = some [(0, 1), (1, 1), (2, 1), (3, 1), (4, 1), (5, 1)] := by kernel_rfl
@[simp] theorem zr65 : zroI Tryz.prog 65 = some [.v (.int .i64 0), .v (.int .i64 0), .v (.int .i64 0), .v (.int .i64 0), .v (.string ⟨#[]⟩), .v (.string ⟨#[]⟩)] := by kernel_rfl
@[simp] theorem ty68 : tyI Tryz.prog 68 = some (true, 6) := by kernel_rfl
@[simp] theorem el68 : elI Tryz.prog 68 = none := by kernel_rfl
@[simp] theorem fl68_0 : fldI Tryz.prog 68 0 = some (0, false, 1) := by kernel_rfl
@[simp] theorem fl68_1 : fldI Tryz.prog 68 1 = some (1, false, 1) := by kernel_rfl
@[simp] theorem fl68_2 : fldI Tryz.prog 68 2 = some (2, false, 1) := by kernel_rfl
@[simp] theorem fl68_3 : fldI Tryz.prog 68 3 = some (3, false, 1) := by kernel_rfl
@[simp] theorem fl68_4 : fldI Tryz.prog 68 4 = some (4, false, 1) := by kernel_rfl
@[simp] theorem fl68_5 : fldI Tryz.prog 68 5 = some (5, false, 1) := by kernel_rfl
@[simp] theorem pl68 : plcI Tryz.prog 68 = some [(0, 1), (1, 1), (2, 1), (3, 1), (4, 1), (5, 1)] := by kernel_rfl
@[simp] theorem zr68 : zroI Tryz.prog 68 = some [.v (.int .i64 0), .v (.int .i64 0), .v (.int .i64 0), .v (.int .i64 0), .v (.string ⟨#[]⟩), .v (.string ⟨#[]⟩)] := by kernel_rfl
@[simp] theorem ty74 : tyI Tryz.prog 74 = some (true, 2) := by kernel_rfl
@[simp] theorem el74 : elI Tryz.prog 74 = none := by kernel_rfl
@[simp] theorem fl74_0 : fldI Tryz.prog 74 0 = some (0, false, 1) := by kernel_rfl
@[simp] theorem fl74_1 : fldI Tryz.prog 74 1 = some (1, false, 1) := by kernel_rfl
@[simp] theorem pl74 : plcI Tryz.prog 74 = some [(0, 1), (1, 1)] := by kernel_rfl
@[simp] theorem zr74 : zroI Tryz.prog 74 = some [.v (.pointer none), .sl true []] := by kernel_rfl
@[simp] theorem ty76 : tyI Tryz.prog 76 = some (false, 1) := by kernel_rfl
@[simp] theorem el76 : elI Tryz.prog 76 = some (68, 6, 64, #[.int .i64 0, .int .i64 0, .int .i64 0, .int .i64 0, .string ⟨#[]⟩, .string ⟨#[]⟩]) := by kernel_rfl
@[simp] theorem us76 : Tryz.prog.underlying 76 = some (.slice 68) := by kernel_rfl
@[simp] theorem zr76 : zroI Tryz.prog 76 = some [.sl true []] := by kernel_rfl
@[simp] theorem ty77 : tyI Tryz.prog 77 = some (false, 1) := by kernel_rfl
@[simp] theorem el77 : elI Tryz.prog 77 = none := by kernel_rfl
@[simp] theorem zr77 : zroI Tryz.prog 77 = some [.v (.int .i64 0)] := by kernel_rfl
@[simp] theorem ub77 : Tryz.prog.underlying 77 = some (.int .i64) := by kernel_rfl
@[simp] theorem ty89 : tyI Tryz.prog 89 = some (false, 1) := by kernel_rfl
@[simp] theorem el89 : elI Tryz.prog 89 = none := by kernel_rfl
@[simp] theorem zr89 : zroI Tryz.prog 89 = some [.v (.map none)] := by kernel_rfl
@[simp] theorem ty91 : tyI Tryz.prog 91 = some (true, 3) := by kernel_rfl
@[simp] theorem el91 : elI Tryz.prog 91 = none := by kernel_rfl
@[simp] theorem fl91_0 : fldI Tryz.prog 91 0 = some (0, false, 1) := by kernel_rfl
@[simp] theorem fl91_1 : fldI Tryz.prog 91 1 = some (1, false, 1) := by kernel_rfl
@[simp] theorem fl91_2 : fldI Tryz.prog 91 2 = some (2, false, 1) := by kernel_rfl
@[simp] theorem pl91 : plcI Tryz.prog 91 = some [(0, 1), (1, 1), (2, 1)] := by kernel_rfl
@[simp] theorem zr91 : zroI Tryz.prog 91 = some [.v (.int .i64 0), .v (.int .i64 0), .v (.map none)] := by kernel_rfl
@[simp] theorem ty92 : tyI Tryz.prog 92 = some (false, 1) := by kernel_rfl
@[simp] theorem el92 : elI Tryz.prog 92 = none := by kernel_rfl
@[simp] theorem zr92 : zroI Tryz.prog 92 = some [.v (.pointer none)] := by kernel_rfl
@[simp] theorem up92 : Tryz.prog.underlying 92 = some (.pointer 49) := by kernel_rfl
@[simp] theorem ty93 : tyI Tryz.prog 93 = some (false, 1) := by kernel_rfl
@[simp] theorem el93 : elI Tryz.prog 93 = some (131, 2, 32, #[.string ⟨#[]⟩, .string ⟨#[]⟩]) := by kernel_rfl
@[simp] theorem us93 : Tryz.prog.underlying 93 = some (.slice 131) := by kernel_rfl
@[simp] theorem zr93 : zroI Tryz.prog 93 = some [.sl true []] := by kernel_rfl
@[simp] theorem ty94 : tyI Tryz.prog 94 = some (false, 1) := by kernel_rfl
@[simp] theorem el94 : elI Tryz.prog 94 = some (133, 2, 24, #[.string ⟨#[]⟩, .int .i64 0]) := by kernel_rfl
@[simp] theorem us94 : Tryz.prog.underlying 94 = some (.slice 133) := by kernel_rfl
@[simp] theorem zr94 : zroI Tryz.prog 94 = some [.sl true []] := by kernel_rfl
@[simp] theorem ty96 : tyI Tryz.prog 96 = some (true, 9) := by kernel_rfl
@[simp] theorem el96 : elI Tryz.prog 96 = none := by kernel_rfl
@[simp] theorem fl96_0 : fldI Tryz.prog 96 0 = some (0, false, 1) := by kernel_rfl
@[simp] theorem fl96_1 : fldI Tryz.prog 96 1 = some (1, false, 1) := by kernel_rfl
@[simp] theorem fl96_2 : fldI Tryz.prog 96 2 = some (2, false, 1) := by kernel_rfl
@[simp] theorem fl96_3 : fldI Tryz.prog 96 3 = some (3, false, 1) := by kernel_rfl
@[simp] theorem fl96_4 : fldI Tryz.prog 96 4 = some (4, false, 1) := by kernel_rfl
@[simp] theorem fl96_5 : fldI Tryz.prog 96 5 = some (5, false, 1) := by kernel_rfl
@[simp] theorem fl96_6 : fldI Tryz.prog 96 6 = some (6, false, 1) := by kernel_rfl
@[simp] theorem fl96_7 : fldI Tryz.prog 96 7 = some (7, false, 1) := by kernel_rfl
@[simp] theorem fl96_8 : fldI Tryz.prog 96 8 = some (8, false, 1) := by kernel_rfl
@[simp] theorem pl96 : plcI Tryz.prog 96 = some [(0, 1), (1, 1), (2, 1), (3, 1), (4, 1), (5, 1), (6, 1), (7, 1), (8, 1)] := by kernel_rfl
@[simp] theorem zr96 : zroI Tryz.prog 96 = some [.v (.int .i64 0), .v (.int .i64 0), .v (.string ⟨#[]⟩), .v (.string ⟨#[]⟩), .sl true [], .sl true [], .sl true [], .v (.int .i64 0), .sl true []] := by kernel_rfl
@[simp] theorem ty113 : tyI Tryz.prog 113 = some (false, 1) := by kernel_rfl
@[simp] theorem el113 : elI Tryz.prog 113 = none := by kernel_rfl
@[simp] theorem zr113 : zroI Tryz.prog 113 = some [.v (.nilFunc)] := by kernel_rfl
@[simp] theorem ty124 : tyI Tryz.prog 124 = some (false, 1) := by kernel_rfl
@[simp] theorem el124 : elI Tryz.prog 124 = none := by kernel_rfl
@[simp] theorem zr124 : zroI Tryz.prog 124 = some [.v (.nilFunc)] := by kernel_rfl
@[simp] theorem ty131 : tyI Tryz.prog 131 = some (true, 2) := by kernel_rfl
@[simp] theorem el131 : elI Tryz.prog 131 = none := by kernel_rfl
@[simp] theorem fl131_0 : fldI Tryz.prog 131 0 = some (0, false, 1) := by kernel_rfl
@[simp] theorem fl131_1 : fldI Tryz.prog 131 1 = some (1, false, 1) := by kernel_rfl
@[simp] theorem pl131 : plcI Tryz.prog 131 = some [(0, 1), (1, 1)] := by kernel_rfl
@[simp] theorem zr131 : zroI Tryz.prog 131 = some [.v (.string ⟨#[]⟩), .v (.string ⟨#[]⟩)] := by kernel_rfl
@[simp] theorem ty133 : tyI Tryz.prog 133 = some (true, 2) := by kernel_rfl
@[simp] theorem el133 : elI Tryz.prog 133 = none := by kernel_rfl
@[simp] theorem fl133_0 : fldI Tryz.prog 133 0 = some (0, false, 1) := by kernel_rfl
@[simp] theorem fl133_1 : fldI Tryz.prog 133 1 = some (1, false, 1) := by kernel_rfl
@[simp] theorem pl133 : plcI Tryz.prog 133 = some [(0, 1), (1, 1)] := by kernel_rfl
@[simp] theorem zr133 : zroI Tryz.prog 133 = some [.v (.string ⟨#[]⟩), .v (.int .i64 0)] := by kernel_rfl
@[simp] theorem ty147 : tyI Tryz.prog 147 = some (false, 1) := by kernel_rfl
@[simp] theorem el147 : elI Tryz.prog 147 = none := by kernel_rfl
@[simp] theorem zr147 : zroI Tryz.prog 147 = some [.v (.nilFunc)] := by kernel_rfl
@[simp] theorem ty150 : tyI Tryz.prog 150 = some (false, 1) := by kernel_rfl
@[simp] theorem el150 : elI Tryz.prog 150 = none := by kernel_rfl
@[simp] theorem zr150 : zroI Tryz.prog 150 = some [.v (.nilFunc)] := by kernel_rfl
@[simp] theorem ty153 : tyI Tryz.prog 153 = some (false, 1) := by kernel_rfl
@[simp] theorem el153 : elI Tryz.prog 153 = none := by kernel_rfl
@[simp] theorem zr153 : zroI Tryz.prog 153 = some [.v (.nilFunc)] := by kernel_rfl
@[simp] theorem ty168 : tyI Tryz.prog 168 = some (false, 1) := by kernel_rfl
@[simp] theorem el168 : elI Tryz.prog 168 = none := by kernel_rfl
@[simp] theorem zr168 : zroI Tryz.prog 168 = some [.v (.nilFunc)] := by kernel_rfl
@[simp] theorem ty170 : tyI Tryz.prog 170 = some (false, 1) := by kernel_rfl
@[simp] theorem el170 : elI Tryz.prog 170 = none := by kernel_rfl
@[simp] theorem zr170 : zroI Tryz.prog 170 = some [.v (.nilFunc)] := by kernel_rfl
@[simp] theorem ty174 : tyI Tryz.prog 174 = some (false, 1) := by kernel_rfl
@[simp] theorem el174 : elI Tryz.prog 174 = none := by kernel_rfl
@[simp] theorem zr174 : zroI Tryz.prog 174 = some [.v (.nilFunc)] := by kernel_rfl
@[simp] theorem ty178 : tyI Tryz.prog 178 = some (false, 1) := by kernel_rfl
@[simp] theorem el178 : elI Tryz.prog 178 = none := by kernel_rfl
@[simp] theorem zr178 : zroI Tryz.prog 178 = some [.v (.nilFunc)] := by kernel_rfl
@[simp] theorem ty185 : tyI Tryz.prog 185 = some (false, 1) := by kernel_rfl
@[simp] theorem el185 : elI Tryz.prog 185 = none := by kernel_rfl
@[simp] theorem zr185 : zroI Tryz.prog 185 = some [.v (.int .u64 0)] := by kernel_rfl
@[simp] theorem ub185 : Tryz.prog.underlying 185 = some (.int .u64) := by kernel_rfl
@[simp] theorem mp89 : mpI Tryz.prog 89 = some (.int .i64, .pointer none) := by kernel_rfl
@[simp] theorem zm89 : zmD (.pointer none) = .v (.pointer none) := rfl
@[simp] theorem eg53 : Tryz.prog.eqGuardType Tryz.prog.depth 53 = false := by kernel_rfl
theorem ei53 (d : Nat) (a0 : ByteArray) (a1 : Int) (b0 : ByteArray) (b1 : Int) (w : World) : (Op.equalIn (d + 2) 53 (.agg #[.string a0, .int .i64 a1]) (.agg #[.string b0, .int .i64 b1])).run Tryz.prog w = .ok ((decide (a0 = b0)) && (a1 == b1)) w := by
 have hS : Tryz.prog.underlying 53 = some (.struct (Tryz.prog.fieldsOf 53)) := by kernel_rfl
 have hp : Tryz.prog.stoodInHeld 53 = false := by kernel_rfl
 rw [show d + 2 = (d + 1) + 1 from rfl, run_equalIn_agg w (d + 1) 53 _ _ hS hp]
 simp only [Program.fieldsOf, Tryz.underlying53]
 have ia3 := Tryz.isAgg3
 have iz3 := Tryz.sizeOf3
 have iu3 := Tryz.underlying3
 have ia9 := Tryz.isAgg9
 have iz9 := Tryz.sizeOf9
 have iu9 := Tryz.underlying9
 go_simp
 by_cases e0 : a0 = b0 <;> by_cases e1 : a1 = b1 <;> simp [e0, e1, bytesEq_iff]
theorem ae53 (a0 : ByteArray) (a1 : Int) (b0 : ByteArray) (b1 : Int) : AggEq Tryz.prog 53 [.v (.string a0), .v (.int .i64 a1)] [.v (.string b0), .v (.int .i64 b1)] ((decide (a0 = b0)) && (a1 == b1)) :=
 ⟨[.string a0, .int .i64 a1], [.string b0, .int .i64 b1], rfl, rfl, fun w => ei53 9998 a0 a1 b0 b1 w⟩
@[simp] theorem aq53 (a0 : ByteArray) (a1 : Int) (b0 : ByteArray) (b1 : Int) (K : Bool → Prop) : vcAgg Tryz.prog 53 [.v (.string a0), .v (.int .i64 a1)] [.v (.string b0), .v (.int .i64 b1)] K = K ((decide (a0 = b0)) && (a1 == b1)) := vcAgg_iff (ae53 a0 a1 b0 b1)
@[simp] theorem eg55 : Tryz.prog.eqGuardType Tryz.prog.depth 55 = false := by kernel_rfl
theorem ei55 (d : Nat) (a0 : ByteArray) (a1 : ByteArray) (b0 : ByteArray) (b1 : ByteArray) (w : World) : (Op.equalIn (d + 2) 55 (.agg #[.string a0, .string a1]) (.agg #[.string b0, .string b1])).run Tryz.prog w = .ok ((decide (a0 = b0)) && (decide (a1 = b1))) w := by
 have hS : Tryz.prog.underlying 55 = some (.struct (Tryz.prog.fieldsOf 55)) := by kernel_rfl
 have hp : Tryz.prog.stoodInHeld 55 = false := by kernel_rfl
 rw [show d + 2 = (d + 1) + 1 from rfl, run_equalIn_agg w (d + 1) 55 _ _ hS hp]
 simp only [Program.fieldsOf, Tryz.underlying55]
 have ia9 := Tryz.isAgg9
 have iz9 := Tryz.sizeOf9
 have iu9 := Tryz.underlying9
 go_simp
 by_cases e0 : a0 = b0 <;> by_cases e1 : a1 = b1 <;> simp [e0, e1, bytesEq_iff]
theorem ae55 (a0 : ByteArray) (a1 : ByteArray) (b0 : ByteArray) (b1 : ByteArray) : AggEq Tryz.prog 55 [.v (.string a0), .v (.string a1)] [.v (.string b0), .v (.string b1)] ((decide (a0 = b0)) && (decide (a1 = b1))) :=
 ⟨[.string a0, .string a1], [.string b0, .string b1], rfl, rfl, fun w => ei55 9998 a0 a1 b0 b1 w⟩
@[simp] theorem aq55 (a0 : ByteArray) (a1 : ByteArray) (b0 : ByteArray) (b1 : ByteArray) (K : Bool → Prop) : vcAgg Tryz.prog 55 [.v (.string a0), .v (.string a1)] [.v (.string b0), .v (.string b1)] K = K ((decide (a0 = b0)) && (decide (a1 = b1))) := vcAgg_iff (ae55 a0 a1 b0 b1)
@[simp] theorem eg65 : Tryz.prog.eqGuardType Tryz.prog.depth 65 = false := by kernel_rfl
theorem ei65 (d : Nat) (a0 : Int) (a1 : Int) (a2 : Int) (a3 : Int) (a4 : ByteArray) (a5 : ByteArray) (b0 : Int) (b1 : Int) (b2 : Int) (b3 : Int) (b4 : ByteArray) (b5 : ByteArray) (w : World) : (Op.equalIn (d + 2) 65 (.agg #[.int .i64 a0, .int .i64 a1, .int .i64 a2, .int .i64 a3, .string a4, .string a5]) (.agg #[.int .i64 b0, .int .i64 b1, .int .i64 b2, .int .i64 b3, .string b4, .string b5])).run Tryz.prog w = .ok ((a0 == b0) && (a1 == b1) && (a2 == b2) && (a3 == b3) && (decide (a4 = b4)) && (decide (a5 = b5))) w := by
 have hS : Tryz.prog.underlying 65 = some (.struct (Tryz.prog.fieldsOf 65)) := by kernel_rfl
 have hp : Tryz.prog.stoodInHeld 65 = false := by kernel_rfl
 rw [show d + 2 = (d + 1) + 1 from rfl, run_equalIn_agg w (d + 1) 65 _ _ hS hp]
 simp only [Program.fieldsOf, Tryz.underlying65]
 have ia3 := Tryz.isAgg3
 have iz3 := Tryz.sizeOf3
 have iu3 := Tryz.underlying3
 have ia9 := Tryz.isAgg9
 have iz9 := Tryz.sizeOf9
 have iu9 := Tryz.underlying9
 go_simp
 by_cases e0 : a0 = b0 <;> by_cases e1 : a1 = b1 <;> by_cases e2 : a2 = b2 <;> by_cases e3 : a3 = b3 <;> by_cases e4 : a4 = b4 <;> by_cases e5 : a5 = b5 <;> simp [e0, e1, e2, e3, e4, e5, bytesEq_iff]
theorem ae65 (a0 : Int) (a1 : Int) (a2 : Int) (a3 : Int) (a4 : ByteArray) (a5 : ByteArray) (b0 : Int) (b1 : Int) (b2 : Int) (b3 : Int) (b4 : ByteArray) (b5 : ByteArray) : AggEq Tryz.prog 65 [.v (.int .i64 a0), .v (.int .i64 a1), .v (.int .i64 a2), .v (.int .i64 a3), .v (.string a4), .v (.string a5)] [.v (.int .i64 b0), .v (.int .i64 b1), .v (.int .i64 b2), .v (.int .i64 b3), .v (.string b4), .v (.string b5)] ((a0 == b0) && (a1 == b1) && (a2 == b2) && (a3 == b3) && (decide (a4 = b4)) && (decide (a5 = b5))) :=
 ⟨[.int .i64 a0, .int .i64 a1, .int .i64 a2, .int .i64 a3, .string a4, .string a5], [.int .i64 b0, .int .i64 b1, .int .i64 b2, .int .i64 b3, .string b4, .string b5], rfl, rfl, fun w => ei65 9998 a0 a1 a2 a3 a4 a5 b0 b1 b2 b3 b4 b5 w⟩
@[simp] theorem aq65 (a0 : Int) (a1 : Int) (a2 : Int) (a3 : Int) (a4 : ByteArray) (a5 : ByteArray) (b0 : Int) (b1 : Int) (b2 : Int) (b3 : Int) (b4 : ByteArray) (b5 : ByteArray) (K : Bool → Prop) : vcAgg Tryz.prog 65 [.v (.int .i64 a0), .v (.int .i64 a1), .v (.int .i64 a2), .v (.int .i64 a3), .v (.string a4), .v (.string a5)] [.v (.int .i64 b0), .v (.int .i64 b1), .v (.int .i64 b2), .v (.int .i64 b3), .v (.string b4), .v (.string b5)] K = K ((a0 == b0) && (a1 == b1) && (a2 == b2) && (a3 == b3) && (decide (a4 = b4)) && (decide (a5 = b5))) := vcAgg_iff (ae65 a0 a1 a2 a3 a4 a5 b0 b1 b2 b3 b4 b5)
@[simp] theorem eg133 : Tryz.prog.eqGuardType Tryz.prog.depth 133 = false := by kernel_rfl
theorem ei133 (d : Nat) (a0 : ByteArray) (a1 : Int) (b0 : ByteArray) (b1 : Int) (w : World) : (Op.equalIn (d + 2) 133 (.agg #[.string a0, .int .i64 a1]) (.agg #[.string b0, .int .i64 b1])).run Tryz.prog w = .ok ((decide (a0 = b0)) && (a1 == b1)) w := by
 have hS : Tryz.prog.underlying 133 = some (.struct (Tryz.prog.fieldsOf 133)) := by kernel_rfl
 have hp : Tryz.prog.stoodInHeld 133 = false := by kernel_rfl
 rw [show d + 2 = (d + 1) + 1 from rfl, run_equalIn_agg w (d + 1) 133 _ _ hS hp]
 simp only [Program.fieldsOf, Tryz.underlying133]
 have ia3 := Tryz.isAgg3
 have iz3 := Tryz.sizeOf3
 have iu3 := Tryz.underlying3
 have ia9 := Tryz.isAgg9
 have iz9 := Tryz.sizeOf9
 have iu9 := Tryz.underlying9
 go_simp
 by_cases e0 : a0 = b0 <;> by_cases e1 : a1 = b1 <;> simp [e0, e1, bytesEq_iff]
theorem ae133 (a0 : ByteArray) (a1 : Int) (b0 : ByteArray) (b1 : Int) : AggEq Tryz.prog 133 [.v (.string a0), .v (.int .i64 a1)] [.v (.string b0), .v (.int .i64 b1)] ((decide (a0 = b0)) && (a1 == b1)) :=
 ⟨[.string a0, .int .i64 a1], [.string b0, .int .i64 b1], rfl, rfl, fun w => ei133 9998 a0 a1 b0 b1 w⟩
@[simp] theorem aq133 (a0 : ByteArray) (a1 : Int) (b0 : ByteArray) (b1 : Int) (K : Bool → Prop) : vcAgg Tryz.prog 133 [.v (.string a0), .v (.int .i64 a1)] [.v (.string b0), .v (.int .i64 b1)] K = K ((decide (a0 = b0)) && (a1 == b1)) := vcAgg_iff (ae133 a0 a1 b0 b1)
end Go.Proofs.YtpfmpeaekgdgnaaGreat

