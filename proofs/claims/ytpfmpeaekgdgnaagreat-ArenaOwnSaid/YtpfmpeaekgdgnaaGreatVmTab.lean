import Derived.Test.YtpfmpeaekgdgnaaGreatProg
import Derived.Test.YtpfmpeaekgdgnaaGreatVm17
import Derived.Test.YtpfmpeaekgdgnaaGreatVmX13
import Derived.WalkKit
import Derived.KernelRfl
namespace Go.Proofs.YtpfmpeaekgdgnaaGreat
open Go Go.Vm
set_option linter.all false
set_option maxRecDepth 100000
@[simp] theorem ty1 : iM Tryz.prog 1 = some (false, 1) := by kernel_rfl
@[simp] theorem el1 : iC Tryz.prog 1 = none := by kernel_rfl
@[simp] theorem zr1 : eC Tryz.prog 1 = some [.v (.nilFunc)] := by kernel_rfl
@[simp] theorem ty2 : iM Tryz.prog 2 = some (false, 1) := by kernel_rfl
@[simp] theorem el2 : iC Tryz.prog 2 = none := by kernel_rfl
@[simp] theorem zr2 : eC Tryz.prog 2 = some [.v (.int .i64 0)] := by kernel_rfl
@[simp] theorem ub2 : Tryz.prog.underlying 2 = some (.int .i64) := by kernel_rfl
@[simp] theorem ty3 : iM Tryz.prog 3 = some (false, 1) := by kernel_rfl
@[simp] theorem el3 : iC Tryz.prog 3 = none := by kernel_rfl
@[simp] theorem zr3 : eC Tryz.prog 3 = some [.v (.int .i64 0)] := by kernel_rfl
@[simp] theorem ub3 : Tryz.prog.underlying 3 = some (.int .i64) := by kernel_rfl
@[simp] theorem ty4 : iM Tryz.prog 4 = some (false, 1) := by kernel_rfl
@[simp] theorem el4 : iC Tryz.prog 4 = none := by kernel_rfl
@[simp] theorem zr4 : eC Tryz.prog 4 = some [.v (.bool false)] := by kernel_rfl
@[simp] theorem ub4 : Tryz.prog.underlying 4 = some .bool := by kernel_rfl
@[simp] theorem ty5 : iM Tryz.prog 5 = some (false, 1) := by kernel_rfl
@[simp] theorem el5 : iC Tryz.prog 5 = none := by kernel_rfl
@[simp] theorem zr5 : eC Tryz.prog 5 = some [.v (.int .u8 0)] := by kernel_rfl
@[simp] theorem ub5 : Tryz.prog.underlying 5 = some (.int .u8) := by kernel_rfl
@[simp] theorem ty6 : iM Tryz.prog 6 = some (false, 1) := by kernel_rfl
@[simp] theorem el6 : iC Tryz.prog 6 = none := by kernel_rfl
@[simp] theorem zr6 : eC Tryz.prog 6 = some [.v (.int .u8 0)] := by kernel_rfl
@[simp] theorem ub6 : Tryz.prog.underlying 6 = some (.int .u8) := by kernel_rfl
@[simp] theorem ty7 : iM Tryz.prog 7 = some (true, 4) := by kernel_rfl
@[simp] theorem el7 : iC Tryz.prog 7 = none := by kernel_rfl
@[simp] theorem aFw : dK Tryz.prog 7 0 = some (0, false, 1) := by kernel_rfl
@[simp] theorem aF0 : dK Tryz.prog 7 1 = some (1, false, 1) := by kernel_rfl
@[simp] theorem aG4 : dK Tryz.prog 7 2 = some (2, false, 1) := by kernel_rfl
@[simp] theorem aFt : dK Tryz.prog 7 3 = some (3, false, 1) := by kernel_rfl
@[simp] theorem pl7 : oV Tryz.prog 7 = some [(0, 1), (1, 1), (2, 1), (3, 1)] := by kernel_rfl
@[simp] theorem zr7 : eC Tryz.prog 7 = some [.v (.int .i64 0), .v (.int .i64 0), .v (.bool false), .v (.int .u8 0)] := by kernel_rfl
@[simp] theorem ty8 : iM Tryz.prog 8 = some (true, 4) := by kernel_rfl
@[simp] theorem el8 : iC Tryz.prog 8 = none := by kernel_rfl
@[simp] theorem aHb : dK Tryz.prog 8 0 = some (0, false, 1) := by kernel_rfl
@[simp] theorem aG1 : dK Tryz.prog 8 1 = some (1, false, 1) := by kernel_rfl
@[simp] theorem aGj : dK Tryz.prog 8 2 = some (2, false, 1) := by kernel_rfl
@[simp] theorem aGq : dK Tryz.prog 8 3 = some (3, false, 1) := by kernel_rfl
@[simp] theorem pl8 : oV Tryz.prog 8 = some [(0, 1), (1, 1), (2, 1), (3, 1)] := by kernel_rfl
@[simp] theorem zr8 : eC Tryz.prog 8 = some [.v (.int .i64 0), .v (.int .i64 0), .v (.bool false), .v (.int .u8 0)] := by kernel_rfl
@[simp] theorem ty9 : iM Tryz.prog 9 = some (false, 1) := by kernel_rfl
@[simp] theorem el9 : iC Tryz.prog 9 = none := by kernel_rfl
@[simp] theorem zr9 : eC Tryz.prog 9 = some [.v (.string ⟨#[]⟩)] := by kernel_rfl
@[simp] theorem ub9 : Tryz.prog.underlying 9 = some .string := by kernel_rfl
@[simp] theorem aJ2 : iM Tryz.prog 22 = some (false, 1) := by kernel_rfl
@[simp] theorem aHg : iC Tryz.prog 22 = some (33, 6, 64, #[.int .i64 0, .int .i64 0, .int .i64 0, .int .i64 0, .string ⟨#[]⟩, .string ⟨#[]⟩]) := by kernel_rfl
@[simp] theorem aI6 : Tryz.prog.underlying 22 = some (.slice 33) := by kernel_rfl
@[simp] theorem aIl : eC Tryz.prog 22 = some [.sl true []] := by kernel_rfl
@[simp] theorem aH9 : iM Tryz.prog 24 = some (false, 1) := by kernel_rfl
@[simp] theorem aKm : iC Tryz.prog 24 = none := by kernel_rfl
@[simp] theorem aHx : eC Tryz.prog 24 = some [.v (.pointer none)] := by kernel_rfl
@[simp] theorem aHl : Tryz.prog.underlying 24 = some (.pointer 91) := by kernel_rfl
@[simp] theorem aKk : iM Tryz.prog 26 = some (false, 1) := by kernel_rfl
@[simp] theorem aIx : iC Tryz.prog 26 = some (96, 9, 152, #[.int .i64 0, .int .i64 0, .string ⟨#[]⟩, .string ⟨#[]⟩, .slice none 0 0, .slice none 0 0, .slice none 0 0, .int .i64 0, .slice none 0 0]) := by kernel_rfl
@[simp] theorem aHh : Tryz.prog.underlying 26 = some (.slice 96) := by kernel_rfl
@[simp] theorem aHn : eC Tryz.prog 26 = some [.sl true []] := by kernel_rfl
@[simp] theorem aJ9 : iM Tryz.prog 28 = some (true, 3) := by kernel_rfl
@[simp] theorem aJ0 : iC Tryz.prog 28 = none := by kernel_rfl
@[simp] theorem aE0 : dK Tryz.prog 28 0 = some (0, false, 1) := by kernel_rfl
@[simp] theorem aDt : dK Tryz.prog 28 1 = some (1, false, 1) := by kernel_rfl
@[simp] theorem aEi : dK Tryz.prog 28 2 = some (2, false, 1) := by kernel_rfl
@[simp] theorem aH7 : oV Tryz.prog 28 = some [(0, 1), (1, 1), (2, 1)] := by kernel_rfl
@[simp] theorem aJu : eC Tryz.prog 28 = some [.v (.int .i64 0), .v (.int .i64 0), .sl true []] := by kernel_rfl
@[simp] theorem aJq : iM Tryz.prog 33 = some (true, 6) := by kernel_rfl
@[simp] theorem aHv : iC Tryz.prog 33 = none := by kernel_rfl
@[simp] theorem aEq : dK Tryz.prog 33 0 = some (0, false, 1) := by kernel_rfl
@[simp] theorem aEj : dK Tryz.prog 33 1 = some (1, false, 1) := by kernel_rfl
@[simp] theorem aDq : dK Tryz.prog 33 2 = some (2, false, 1) := by kernel_rfl
@[simp] theorem aFb : dK Tryz.prog 33 3 = some (3, false, 1) := by kernel_rfl
@[simp] theorem aFm : dK Tryz.prog 33 4 = some (4, false, 1) := by kernel_rfl
@[simp] theorem aFo : dK Tryz.prog 33 5 = some (5, false, 1) := by kernel_rfl
@[simp] theorem aI9 : oV Tryz.prog 33 = some [(0, 1), (1, 1), (2, 1), (3, 1), (4, 1), (5, 1)] := by kernel_rfl
@[simp] theorem aJv : eC Tryz.prog 33 = some [.v (.int .i64 0), .v (.int .i64 0), .v (.int .i64 0), .v (.int .i64 0), .v (.string ⟨#[]⟩), .v (.string ⟨#[]⟩)] := by kernel_rfl
@[simp] theorem aIo : iM Tryz.prog 42 = some (false, 1) := by kernel_rfl
@[simp] theorem aHw : iC Tryz.prog 42 = some (9, 1, 16, #[.string ⟨#[]⟩]) := by kernel_rfl
@[simp] theorem aH3 : Tryz.prog.underlying 42 = some (.slice 9) := by kernel_rfl
@[simp] theorem aH5 : eC Tryz.prog 42 = some [.sl true []] := by kernel_rfl
@[simp] theorem aH8 : iM Tryz.prog 43 = some (false, 1) := by kernel_rfl
@[simp] theorem aE4 : iC Tryz.prog 43 = some (55, 2, 32, #[.string ⟨#[]⟩, .string ⟨#[]⟩]) := by kernel_rfl
@[simp] theorem aJx : Tryz.prog.underlying 43 = some (.slice 55) := by kernel_rfl
@[simp] theorem aJo : eC Tryz.prog 43 = some [.sl true []] := by kernel_rfl
@[simp] theorem aJ4 : iM Tryz.prog 44 = some (false, 1) := by kernel_rfl
@[simp] theorem aHt : iC Tryz.prog 44 = some (55, 2, 32, #[.string ⟨#[]⟩, .string ⟨#[]⟩]) := by kernel_rfl
@[simp] theorem aJn : Tryz.prog.underlying 44 = some (.slice 55) := by kernel_rfl
@[simp] theorem aIn : eC Tryz.prog 44 = some [.sl true []] := by kernel_rfl
@[simp] theorem aH0 : iM Tryz.prog 45 = some (false, 1) := by kernel_rfl
@[simp] theorem aFe : iC Tryz.prog 45 = some (53, 2, 24, #[.string ⟨#[]⟩, .int .i64 0]) := by kernel_rfl
@[simp] theorem aJw : Tryz.prog.underlying 45 = some (.slice 53) := by kernel_rfl
@[simp] theorem aIc : eC Tryz.prog 45 = some [.sl true []] := by kernel_rfl
@[simp] theorem aI0 : iM Tryz.prog 46 = some (false, 1) := by kernel_rfl
@[simp] theorem aKc : iC Tryz.prog 46 = some (53, 2, 24, #[.string ⟨#[]⟩, .int .i64 0]) := by kernel_rfl
@[simp] theorem aKg : Tryz.prog.underlying 46 = some (.slice 53) := by kernel_rfl
@[simp] theorem aJb : eC Tryz.prog 46 = some [.sl true []] := by kernel_rfl
@[simp] theorem aJ1 : iM Tryz.prog 47 = some (false, 1) := by kernel_rfl
@[simp] theorem aEn : iC Tryz.prog 47 = some (3, 1, 8, #[.int .i64 0]) := by kernel_rfl
@[simp] theorem aI8 : Tryz.prog.underlying 47 = some (.slice 3) := by kernel_rfl
@[simp] theorem aJ5 : eC Tryz.prog 47 = some [.sl true []] := by kernel_rfl
@[simp] theorem aIs : iM Tryz.prog 49 = some (true, 9) := by kernel_rfl
@[simp] theorem aHe : iC Tryz.prog 49 = none := by kernel_rfl
@[simp] theorem aFg : dK Tryz.prog 49 0 = some (0, false, 1) := by kernel_rfl
@[simp] theorem aFf : dK Tryz.prog 49 1 = some (1, false, 1) := by kernel_rfl
@[simp] theorem aDp : dK Tryz.prog 49 2 = some (2, false, 1) := by kernel_rfl
@[simp] theorem aD1 : dK Tryz.prog 49 3 = some (3, false, 1) := by kernel_rfl
@[simp] theorem aEs : dK Tryz.prog 49 4 = some (4, false, 1) := by kernel_rfl
@[simp] theorem aEc : dK Tryz.prog 49 5 = some (5, false, 1) := by kernel_rfl
@[simp] theorem aE8 : dK Tryz.prog 49 6 = some (6, false, 1) := by kernel_rfl
@[simp] theorem aEp : dK Tryz.prog 49 7 = some (7, false, 1) := by kernel_rfl
@[simp] theorem aFj : dK Tryz.prog 49 8 = some (8, false, 1) := by kernel_rfl
@[simp] theorem aH2 : oV Tryz.prog 49 = some [(0, 1), (1, 1), (2, 1), (3, 1), (4, 1), (5, 1), (6, 1), (7, 1), (8, 1)] := by kernel_rfl
@[simp] theorem aIu : eC Tryz.prog 49 = some [.v (.int .i64 0), .v (.int .i64 0), .v (.string ⟨#[]⟩), .v (.string ⟨#[]⟩), .sl true [], .sl true [], .sl true [], .v (.int .i64 0), .sl true []] := by kernel_rfl
@[simp] theorem aJj : iM Tryz.prog 53 = some (true, 2) := by kernel_rfl
@[simp] theorem aJp : iC Tryz.prog 53 = none := by kernel_rfl
@[simp] theorem aDz : dK Tryz.prog 53 0 = some (0, false, 1) := by kernel_rfl
@[simp] theorem aEf : dK Tryz.prog 53 1 = some (1, false, 1) := by kernel_rfl
@[simp] theorem aHk : oV Tryz.prog 53 = some [(0, 1), (1, 1)] := by kernel_rfl
@[simp] theorem aH4 : eC Tryz.prog 53 = some [.v (.string ⟨#[]⟩), .v (.int .i64 0)] := by kernel_rfl
@[simp] theorem aJk : iM Tryz.prog 55 = some (true, 2) := by kernel_rfl
@[simp] theorem aKh : iC Tryz.prog 55 = none := by kernel_rfl
@[simp] theorem aEr : dK Tryz.prog 55 0 = some (0, false, 1) := by kernel_rfl
@[simp] theorem aFl : dK Tryz.prog 55 1 = some (1, false, 1) := by kernel_rfl
@[simp] theorem aHq : oV Tryz.prog 55 = some [(0, 1), (1, 1)] := by kernel_rfl
@[simp] theorem aI2 : eC Tryz.prog 55 = some [.v (.string ⟨#[]⟩), .v (.string ⟨#[]⟩)] := by kernel_rfl
@[simp] theorem aJe : iM Tryz.prog 60 = some (false, 1) := by kernel_rfl
@[simp] theorem aJm : iC Tryz.prog 60 = none := by kernel_rfl
@[simp] theorem aJ6 : eC Tryz.prog 60 = some [.v (.pointer none)] := by kernel_rfl
@[simp] theorem aI4 : Tryz.prog.underlying 60 = some (.pointer 74) := by kernel_rfl
@[simp] theorem aJa : iM Tryz.prog 62 = some (false, 1) := by kernel_rfl
@[simp] theorem aHj : iC Tryz.prog 62 = some (65, 6, 64, #[.int .i64 0, .int .i64 0, .int .i64 0, .int .i64 0, .string ⟨#[]⟩, .string ⟨#[]⟩]) := by kernel_rfl
@[simp] theorem aKf : Tryz.prog.underlying 62 = some (.slice 65) := by kernel_rfl
@[simp] theorem aHd : eC Tryz.prog 62 = some [.sl true []] := by kernel_rfl
@[simp] theorem aIb : iM Tryz.prog 65 = some (true, 6) := by kernel_rfl
@[simp] theorem aIw : iC Tryz.prog 65 = none := by kernel_rfl
@[simp] theorem aEz : dK Tryz.prog 65 0 = some (0, false, 1) := by kernel_rfl
@[simp] theorem aFa : dK Tryz.prog 65 1 = some (1, false, 1) := by kernel_rfl
@[simp] theorem aEa : dK Tryz.prog 65 2 = some (2, false, 1) := by kernel_rfl
@[simp] theorem aDu : dK Tryz.prog 65 3 = some (3, false, 1) := by kernel_rfl
@[simp] theorem aDw : dK Tryz.prog 65 4 = some (4, false, 1) := by kernel_rfl
@[simp] theorem aDr : dK Tryz.prog 65 5 = some (5, false, 1) := by kernel_rfl
@[simp] theorem aId : oV Tryz.prog 65 = some [(0, 1), (1, 1), (2, 1), (3, 1), (4, 1), (5, 1)] := by kernel_rfl
@[simp] theorem aIv : eC Tryz.prog 65 = some [.v (.int .i64 0), .v (.int .i64 0), .v (.int .i64 0), .v (.int .i64 0), .v (.string ⟨#[]⟩), .v (.string ⟨#[]⟩)] := by kernel_rfl
@[simp] theorem aHi : iM Tryz.prog 68 = some (true, 6) := by kernel_rfl
@[simp] theorem aHr : iC Tryz.prog 68 = none := by kernel_rfl
@[simp] theorem aD9 : dK Tryz.prog 68 0 = some (0, false, 1) := by kernel_rfl
@[simp] theorem aDy : dK Tryz.prog 68 1 = some (1, false, 1) := by kernel_rfl
@[simp] theorem aD4 : dK Tryz.prog 68 2 = some (2, false, 1) := by kernel_rfl
@[simp] theorem aEg : dK Tryz.prog 68 3 = some (3, false, 1) := by kernel_rfl
@[simp] theorem aD0 : dK Tryz.prog 68 4 = some (4, false, 1) := by kernel_rfl
@[simp] theorem aEh : dK Tryz.prog 68 5 = some (5, false, 1) := by kernel_rfl
@[simp] theorem aHs : oV Tryz.prog 68 = some [(0, 1), (1, 1), (2, 1), (3, 1), (4, 1), (5, 1)] := by kernel_rfl
@[simp] theorem aKn : eC Tryz.prog 68 = some [.v (.int .i64 0), .v (.int .i64 0), .v (.int .i64 0), .v (.int .i64 0), .v (.string ⟨#[]⟩), .v (.string ⟨#[]⟩)] := by kernel_rfl
@[simp] theorem aHp : iM Tryz.prog 74 = some (true, 2) := by kernel_rfl
@[simp] theorem aKi : iC Tryz.prog 74 = none := by kernel_rfl
@[simp] theorem aFh : dK Tryz.prog 74 0 = some (0, false, 1) := by kernel_rfl
@[simp] theorem aD6 : dK Tryz.prog 74 1 = some (1, false, 1) := by kernel_rfl
@[simp] theorem aIz : oV Tryz.prog 74 = some [(0, 1), (1, 1)] := by kernel_rfl
@[simp] theorem aIg : eC Tryz.prog 74 = some [.v (.pointer none), .sl true []] := by kernel_rfl
@[simp] theorem aI1 : iM Tryz.prog 76 = some (false, 1) := by kernel_rfl
@[simp] theorem aIr : iC Tryz.prog 76 = some (68, 6, 64, #[.int .i64 0, .int .i64 0, .int .i64 0, .int .i64 0, .string ⟨#[]⟩, .string ⟨#[]⟩]) := by kernel_rfl
@[simp] theorem aJi : Tryz.prog.underlying 76 = some (.slice 68) := by kernel_rfl
@[simp] theorem aIp : eC Tryz.prog 76 = some [.sl true []] := by kernel_rfl
@[simp] theorem aI7 : iM Tryz.prog 77 = some (false, 1) := by kernel_rfl
@[simp] theorem aJ8 : iC Tryz.prog 77 = none := by kernel_rfl
@[simp] theorem aKe : eC Tryz.prog 77 = some [.v (.int .i64 0)] := by kernel_rfl
@[simp] theorem aKl : Tryz.prog.underlying 77 = some (.int .i64) := by kernel_rfl
@[simp] theorem aKa : iM Tryz.prog 89 = some (false, 1) := by kernel_rfl
@[simp] theorem aJy : iC Tryz.prog 89 = none := by kernel_rfl
@[simp] theorem aI5 : eC Tryz.prog 89 = some [.v (.map none)] := by kernel_rfl
@[simp] theorem aJh : iM Tryz.prog 91 = some (true, 3) := by kernel_rfl
@[simp] theorem aJl : iC Tryz.prog 91 = none := by kernel_rfl
@[simp] theorem aFc : dK Tryz.prog 91 0 = some (0, false, 1) := by kernel_rfl
@[simp] theorem aE6 : dK Tryz.prog 91 1 = some (1, false, 1) := by kernel_rfl
@[simp] theorem aFk : dK Tryz.prog 91 2 = some (2, false, 1) := by kernel_rfl
@[simp] theorem aJs : oV Tryz.prog 91 = some [(0, 1), (1, 1), (2, 1)] := by kernel_rfl
@[simp] theorem aIy : eC Tryz.prog 91 = some [.v (.int .i64 0), .v (.int .i64 0), .v (.map none)] := by kernel_rfl
@[simp] theorem aIm : iM Tryz.prog 92 = some (false, 1) := by kernel_rfl
@[simp] theorem aHo : iC Tryz.prog 92 = none := by kernel_rfl
@[simp] theorem aIe : eC Tryz.prog 92 = some [.v (.pointer none)] := by kernel_rfl
@[simp] theorem aIt : Tryz.prog.underlying 92 = some (.pointer 49) := by kernel_rfl
@[simp] theorem aKo : iM Tryz.prog 93 = some (false, 1) := by kernel_rfl
@[simp] theorem aI3 : iC Tryz.prog 93 = some (131, 2, 32, #[.string ⟨#[]⟩, .string ⟨#[]⟩]) := by kernel_rfl
@[simp] theorem aKb : Tryz.prog.underlying 93 = some (.slice 131) := by kernel_rfl
@[simp] theorem aIf : eC Tryz.prog 93 = some [.sl true []] := by kernel_rfl
@[simp] theorem aJz : iM Tryz.prog 94 = some (false, 1) := by kernel_rfl
@[simp] theorem aJ7 : iC Tryz.prog 94 = some (133, 2, 24, #[.string ⟨#[]⟩, .int .i64 0]) := by kernel_rfl
@[simp] theorem aIi : Tryz.prog.underlying 94 = some (.slice 133) := by kernel_rfl
@[simp] theorem aKp : eC Tryz.prog 94 = some [.sl true []] := by kernel_rfl
@[simp] theorem aH1 : iM Tryz.prog 96 = some (true, 9) := by kernel_rfl
@[simp] theorem aHm : iC Tryz.prog 96 = none := by kernel_rfl
@[simp] theorem aD8 : dK Tryz.prog 96 0 = some (0, false, 1) := by kernel_rfl
@[simp] theorem aEt : dK Tryz.prog 96 1 = some (1, false, 1) := by kernel_rfl
@[simp] theorem aFi : dK Tryz.prog 96 2 = some (2, false, 1) := by kernel_rfl
@[simp] theorem aE5 : dK Tryz.prog 96 3 = some (3, false, 1) := by kernel_rfl
@[simp] theorem aDx : dK Tryz.prog 96 4 = some (4, false, 1) := by kernel_rfl
@[simp] theorem aDs : dK Tryz.prog 96 5 = some (5, false, 1) := by kernel_rfl
@[simp] theorem aE3 : dK Tryz.prog 96 6 = some (6, false, 1) := by kernel_rfl
@[simp] theorem aD7 : dK Tryz.prog 96 7 = some (7, false, 1) := by kernel_rfl
@[simp] theorem aEe : dK Tryz.prog 96 8 = some (8, false, 1) := by kernel_rfl
@[simp] theorem aIq : oV Tryz.prog 96 = some [(0, 1), (1, 1), (2, 1), (3, 1), (4, 1), (5, 1), (6, 1), (7, 1), (8, 1)] := by kernel_rfl
@[simp] theorem aKd : eC Tryz.prog 96 = some [.v (.int .i64 0), .v (.int .i64 0), .v (.string ⟨#[]⟩), .v (.string ⟨#[]⟩), .sl true [], .sl true [], .sl true [], .v (.int .i64 0), .sl true []] := by kernel_rfl
@[simp] theorem aG6 : iM Tryz.prog 113 = some (false, 1) := by kernel_rfl
@[simp] theorem aG0 : iC Tryz.prog 113 = none := by kernel_rfl
@[simp] theorem aG9 : eC Tryz.prog 113 = some [.v (.nilFunc)] := by kernel_rfl
@[simp] theorem aFv : iM Tryz.prog 124 = some (false, 1) := by kernel_rfl
@[simp] theorem aF8 : iC Tryz.prog 124 = none := by kernel_rfl
@[simp] theorem aF6 : eC Tryz.prog 124 = some [.v (.nilFunc)] := by kernel_rfl
@[simp] theorem aGy : iM Tryz.prog 131 = some (true, 2) := by kernel_rfl
@[simp] theorem aF4 : iC Tryz.prog 131 = none := by kernel_rfl
@[simp] theorem aDk : dK Tryz.prog 131 0 = some (0, false, 1) := by kernel_rfl
@[simp] theorem aDg : dK Tryz.prog 131 1 = some (1, false, 1) := by kernel_rfl
@[simp] theorem aF9 : oV Tryz.prog 131 = some [(0, 1), (1, 1)] := by kernel_rfl
@[simp] theorem aF2 : eC Tryz.prog 131 = some [.v (.string ⟨#[]⟩), .v (.string ⟨#[]⟩)] := by kernel_rfl
@[simp] theorem aG8 : iM Tryz.prog 133 = some (true, 2) := by kernel_rfl
@[simp] theorem aGz : iC Tryz.prog 133 = none := by kernel_rfl
@[simp] theorem aDn : dK Tryz.prog 133 0 = some (0, false, 1) := by kernel_rfl
@[simp] theorem aDl : dK Tryz.prog 133 1 = some (1, false, 1) := by kernel_rfl
@[simp] theorem aGl : oV Tryz.prog 133 = some [(0, 1), (1, 1)] := by kernel_rfl
@[simp] theorem aGf : eC Tryz.prog 133 = some [.v (.string ⟨#[]⟩), .v (.int .i64 0)] := by kernel_rfl
@[simp] theorem aGk : iM Tryz.prog 147 = some (false, 1) := by kernel_rfl
@[simp] theorem aG3 : iC Tryz.prog 147 = none := by kernel_rfl
@[simp] theorem aFz : eC Tryz.prog 147 = some [.v (.nilFunc)] := by kernel_rfl
@[simp] theorem aFr : iM Tryz.prog 150 = some (false, 1) := by kernel_rfl
@[simp] theorem aGo : iC Tryz.prog 150 = none := by kernel_rfl
@[simp] theorem aGp : eC Tryz.prog 150 = some [.v (.nilFunc)] := by kernel_rfl
@[simp] theorem aGn : iM Tryz.prog 153 = some (false, 1) := by kernel_rfl
@[simp] theorem aGe : iC Tryz.prog 153 = none := by kernel_rfl
@[simp] theorem aGm : eC Tryz.prog 153 = some [.v (.nilFunc)] := by kernel_rfl
@[simp] theorem aGh : iM Tryz.prog 168 = some (false, 1) := by kernel_rfl
@[simp] theorem aHa : iC Tryz.prog 168 = none := by kernel_rfl
@[simp] theorem aGg : eC Tryz.prog 168 = some [.v (.nilFunc)] := by kernel_rfl
@[simp] theorem aGa : iM Tryz.prog 170 = some (false, 1) := by kernel_rfl
@[simp] theorem aGd : iC Tryz.prog 170 = none := by kernel_rfl
@[simp] theorem aFx : eC Tryz.prog 170 = some [.v (.nilFunc)] := by kernel_rfl
@[simp] theorem aF5 : iM Tryz.prog 174 = some (false, 1) := by kernel_rfl
@[simp] theorem aGx : iC Tryz.prog 174 = none := by kernel_rfl
@[simp] theorem aGt : eC Tryz.prog 174 = some [.v (.nilFunc)] := by kernel_rfl
@[simp] theorem aHc : iM Tryz.prog 178 = some (false, 1) := by kernel_rfl
@[simp] theorem aFs : iC Tryz.prog 178 = none := by kernel_rfl
@[simp] theorem aGi : eC Tryz.prog 178 = some [.v (.nilFunc)] := by kernel_rfl
@[simp] theorem aFq : iM Tryz.prog 185 = some (false, 1) := by kernel_rfl
@[simp] theorem aG5 : iC Tryz.prog 185 = none := by kernel_rfl
@[simp] theorem aG7 : eC Tryz.prog 185 = some [.v (.int .u64 0)] := by kernel_rfl
@[simp] theorem aFp : Tryz.prog.underlying 185 = some (.int .u64) := by kernel_rfl
@[simp] theorem aJd : Ri Tryz.prog 89 = some (.int .i64, .pointer none) := by kernel_rfl
@[simp] theorem aKj : zmD (.pointer none) = .v (.pointer none) := rfl
@[simp] theorem aHy : Tryz.prog.eqGuardType Tryz.prog.depth 53 = false := by kernel_rfl
theorem aFn (d : Nat) (a0 : ByteArray) (a1 : Int) (b0 : ByteArray) (b1 : Int) (w : World) : (Op.equalIn (d + 2) 53 (.agg #[.string a0, .int .i64 a1]) (.agg #[.string b0, .int .i64 b1])).run Tryz.prog w = .ok ((decide (a0 = b0)) && (a1 == b1)) w := by
 have hS : Tryz.prog.underlying 53 = some (.struct (Tryz.prog.fieldsOf 53)) := by kernel_rfl
 have hp : Tryz.prog.stoodInHeld 53 = false := by kernel_rfl
 rw [show d + 2 = (d + 1) + 1 from rfl, run_equalIn_agg w (d + 1) 53 _ _ hS hp];simp only [Program.fieldsOf, Tryz.underlying53];have ia3 := Tryz.isAgg3;have iz3 := Tryz.sizeOf3;have iu3 := Tryz.underlying3;have ia9 := Tryz.isAgg9;have iz9 := Tryz.sizeOf9;have iu9 := Tryz.underlying9
 go_simp
 by_cases e0 : a0 = b0 <;> by_cases e1 : a1 = b1 <;> simp [e0, e1, lE]
theorem aEk (a0 : ByteArray) (a1 : Int) (b0 : ByteArray) (b1 : Int) : wJ Tryz.prog 53 [.v (.string a0), .v (.int .i64 a1)] [.v (.string b0), .v (.int .i64 b1)] ((decide (a0 = b0)) && (a1 == b1)) :=
 ⟨[.string a0, .int .i64 a1], [.string b0, .int .i64 b1], rfl, rfl, fun w => aFn 9998 a0 a1 b0 b1 w⟩
@[simp] theorem aJc (a0 : ByteArray) (a1 : Int) (b0 : ByteArray) (b1 : Int) (K : Bool → Prop) : nT Tryz.prog 53 [.v (.string a0), .v (.int .i64 a1)] [.v (.string b0), .v (.int .i64 b1)] K = K ((decide (a0 = b0)) && (a1 == b1)) := oU (aEk a0 a1 b0 b1)
@[simp] theorem aJg : Tryz.prog.eqGuardType Tryz.prog.depth 55 = false := by kernel_rfl
theorem aE9 (d : Nat) (a0 : ByteArray) (a1 : ByteArray) (b0 : ByteArray) (b1 : ByteArray) (w : World) : (Op.equalIn (d + 2) 55 (.agg #[.string a0, .string a1]) (.agg #[.string b0, .string b1])).run Tryz.prog w = .ok ((decide (a0 = b0)) && (decide (a1 = b1))) w := by
 have hS : Tryz.prog.underlying 55 = some (.struct (Tryz.prog.fieldsOf 55)) := by kernel_rfl
 have hp : Tryz.prog.stoodInHeld 55 = false := by kernel_rfl
 rw [show d + 2 = (d + 1) + 1 from rfl, run_equalIn_agg w (d + 1) 55 _ _ hS hp];simp only [Program.fieldsOf, Tryz.underlying55];have ia9 := Tryz.isAgg9;have iz9 := Tryz.sizeOf9;have iu9 := Tryz.underlying9
 go_simp
 by_cases e0 : a0 = b0 <;> by_cases e1 : a1 = b1 <;> simp [e0, e1, lE]
theorem aE7 (a0 : ByteArray) (a1 : ByteArray) (b0 : ByteArray) (b1 : ByteArray) : wJ Tryz.prog 55 [.v (.string a0), .v (.string a1)] [.v (.string b0), .v (.string b1)] ((decide (a0 = b0)) && (decide (a1 = b1))) :=
 ⟨[.string a0, .string a1], [.string b0, .string b1], rfl, rfl, fun w => aE9 9998 a0 a1 b0 b1 w⟩
@[simp] theorem aJ3 (a0 : ByteArray) (a1 : ByteArray) (b0 : ByteArray) (b1 : ByteArray) (K : Bool → Prop) : nT Tryz.prog 55 [.v (.string a0), .v (.string a1)] [.v (.string b0), .v (.string b1)] K = K ((decide (a0 = b0)) && (decide (a1 = b1))) := oU (aE7 a0 a1 b0 b1)
@[simp] theorem aHu : Tryz.prog.eqGuardType Tryz.prog.depth 65 = false := by kernel_rfl
theorem aEx (d : Nat) (a0 : Int) (a1 : Int) (a2 : Int) (a3 : Int) (a4 : ByteArray) (a5 : ByteArray) (b0 : Int) (b1 : Int) (b2 : Int) (b3 : Int) (b4 : ByteArray) (b5 : ByteArray) (w : World) : (Op.equalIn (d + 2) 65 (.agg #[.int .i64 a0, .int .i64 a1, .int .i64 a2, .int .i64 a3, .string a4, .string a5]) (.agg #[.int .i64 b0, .int .i64 b1, .int .i64 b2, .int .i64 b3, .string b4, .string b5])).run Tryz.prog w = .ok ((a0 == b0) && (a1 == b1) && (a2 == b2) && (a3 == b3) && (decide (a4 = b4)) && (decide (a5 = b5))) w := by
 have hS : Tryz.prog.underlying 65 = some (.struct (Tryz.prog.fieldsOf 65)) := by kernel_rfl
 have hp : Tryz.prog.stoodInHeld 65 = false := by kernel_rfl
 rw [show d + 2 = (d + 1) + 1 from rfl, run_equalIn_agg w (d + 1) 65 _ _ hS hp];simp only [Program.fieldsOf, Tryz.underlying65];have ia3 := Tryz.isAgg3;have iz3 := Tryz.sizeOf3;have iu3 := Tryz.underlying3;have ia9 := Tryz.isAgg9;have iz9 := Tryz.sizeOf9;have iu9 := Tryz.underlying9
 go_simp
 by_cases e0 : a0 = b0 <;> by_cases e1 : a1 = b1 <;> by_cases e2 : a2 = b2 <;> by_cases e3 : a3 = b3 <;> by_cases e4 : a4 = b4 <;> by_cases e5 : a5 = b5 <;> simp [e0, e1, e2, e3, e4, e5, lE]
theorem aEv (a0 : Int) (a1 : Int) (a2 : Int) (a3 : Int) (a4 : ByteArray) (a5 : ByteArray) (b0 : Int) (b1 : Int) (b2 : Int) (b3 : Int) (b4 : ByteArray) (b5 : ByteArray) : wJ Tryz.prog 65 [.v (.int .i64 a0), .v (.int .i64 a1), .v (.int .i64 a2), .v (.int .i64 a3), .v (.string a4), .v (.string a5)] [.v (.int .i64 b0), .v (.int .i64 b1), .v (.int .i64 b2), .v (.int .i64 b3), .v (.string b4), .v (.string b5)] ((a0 == b0) && (a1 == b1) && (a2 == b2) && (a3 == b3) && (decide (a4 = b4)) && (decide (a5 = b5))) :=
 ⟨[.int .i64 a0, .int .i64 a1, .int .i64 a2, .int .i64 a3, .string a4, .string a5], [.int .i64 b0, .int .i64 b1, .int .i64 b2, .int .i64 b3, .string b4, .string b5], rfl, rfl, fun w => aEx 9998 a0 a1 a2 a3 a4 a5 b0 b1 b2 b3 b4 b5 w⟩
@[simp] theorem aHz (a0 : Int) (a1 : Int) (a2 : Int) (a3 : Int) (a4 : ByteArray) (a5 : ByteArray) (b0 : Int) (b1 : Int) (b2 : Int) (b3 : Int) (b4 : ByteArray) (b5 : ByteArray) (K : Bool → Prop) : nT Tryz.prog 65 [.v (.int .i64 a0), .v (.int .i64 a1), .v (.int .i64 a2), .v (.int .i64 a3), .v (.string a4), .v (.string a5)] [.v (.int .i64 b0), .v (.int .i64 b1), .v (.int .i64 b2), .v (.int .i64 b3), .v (.string b4), .v (.string b5)] K = K ((a0 == b0) && (a1 == b1) && (a2 == b2) && (a3 == b3) && (decide (a4 = b4)) && (decide (a5 = b5))) := oU (aEv a0 a1 a2 a3 a4 a5 b0 b1 b2 b3 b4 b5)
@[simp] theorem aGw : Tryz.prog.eqGuardType Tryz.prog.depth 133 = false := by kernel_rfl
theorem aCk (d : Nat) (a0 : ByteArray) (a1 : Int) (b0 : ByteArray) (b1 : Int) (w : World) : (Op.equalIn (d + 2) 133 (.agg #[.string a0, .int .i64 a1]) (.agg #[.string b0, .int .i64 b1])).run Tryz.prog w = .ok ((decide (a0 = b0)) && (a1 == b1)) w := by
 have hS : Tryz.prog.underlying 133 = some (.struct (Tryz.prog.fieldsOf 133)) := by kernel_rfl
 have hp : Tryz.prog.stoodInHeld 133 = false := by kernel_rfl
 rw [show d + 2 = (d + 1) + 1 from rfl, run_equalIn_agg w (d + 1) 133 _ _ hS hp];simp only [Program.fieldsOf, Tryz.underlying133];have ia3 := Tryz.isAgg3;have iz3 := Tryz.sizeOf3;have iu3 := Tryz.underlying3;have ia9 := Tryz.isAgg9;have iz9 := Tryz.sizeOf9;have iu9 := Tryz.underlying9
 go_simp
 by_cases e0 : a0 = b0 <;> by_cases e1 : a1 = b1 <;> simp [e0, e1, lE]
theorem aCi (a0 : ByteArray) (a1 : Int) (b0 : ByteArray) (b1 : Int) : wJ Tryz.prog 133 [.v (.string a0), .v (.int .i64 a1)] [.v (.string b0), .v (.int .i64 b1)] ((decide (a0 = b0)) && (a1 == b1)) :=
 ⟨[.string a0, .int .i64 a1], [.string b0, .int .i64 b1], rfl, rfl, fun w => aCk 9998 a0 a1 b0 b1 w⟩
@[simp] theorem aGv (a0 : ByteArray) (a1 : Int) (b0 : ByteArray) (b1 : Int) (K : Bool → Prop) : nT Tryz.prog 133 [.v (.string a0), .v (.int .i64 a1)] [.v (.string b0), .v (.int .i64 b1)] K = K ((decide (a0 = b0)) && (a1 == b1)) := oU (aCi a0 a1 b0 b1)
end Go.Proofs.YtpfmpeaekgdgnaaGreat

