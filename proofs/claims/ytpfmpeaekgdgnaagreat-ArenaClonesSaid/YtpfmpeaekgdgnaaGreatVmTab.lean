import Derived.Test.YtpfmpeaekgdgnaaGreatProg
import Derived.Test.YtpfmpeaekgdgnaaGreatVm17
import Derived.Test.YtpfmpeaekgdgnaaGreatVmX13
import Derived.WalkKit
import Derived.KernelRfl
namespace Go.Proofs.YtpfmpeaekgdgnaaGreat
open Go Go.Vm
set_option linter.all false
set_option maxRecDepth 100000
@[simp] theorem ty1 : iQ Tryz.prog 1 = some (false, 1) := by kernel_rfl
@[simp] theorem el1 : iF Tryz.prog 1 = none := by kernel_rfl
@[simp] theorem zr1 : eK Tryz.prog 1 = some [.v (.nilFunc)] := by kernel_rfl
@[simp] theorem ty2 : iQ Tryz.prog 2 = some (false, 1) := by kernel_rfl
@[simp] theorem el2 : iF Tryz.prog 2 = none := by kernel_rfl
@[simp] theorem zr2 : eK Tryz.prog 2 = some [.v (.int .i64 0)] := by kernel_rfl
@[simp] theorem ub2 : Tryz.prog.underlying 2 = some (.int .i64) := by kernel_rfl
@[simp] theorem ty3 : iQ Tryz.prog 3 = some (false, 1) := by kernel_rfl
@[simp] theorem el3 : iF Tryz.prog 3 = none := by kernel_rfl
@[simp] theorem zr3 : eK Tryz.prog 3 = some [.v (.int .i64 0)] := by kernel_rfl
@[simp] theorem ub3 : Tryz.prog.underlying 3 = some (.int .i64) := by kernel_rfl
@[simp] theorem ty4 : iQ Tryz.prog 4 = some (false, 1) := by kernel_rfl
@[simp] theorem el4 : iF Tryz.prog 4 = none := by kernel_rfl
@[simp] theorem zr4 : eK Tryz.prog 4 = some [.v (.bool false)] := by kernel_rfl
@[simp] theorem ub4 : Tryz.prog.underlying 4 = some .bool := by kernel_rfl
@[simp] theorem ty5 : iQ Tryz.prog 5 = some (false, 1) := by kernel_rfl
@[simp] theorem el5 : iF Tryz.prog 5 = none := by kernel_rfl
@[simp] theorem zr5 : eK Tryz.prog 5 = some [.v (.int .u8 0)] := by kernel_rfl
@[simp] theorem ub5 : Tryz.prog.underlying 5 = some (.int .u8) := by kernel_rfl
@[simp] theorem ty6 : iQ Tryz.prog 6 = some (false, 1) := by kernel_rfl
@[simp] theorem el6 : iF Tryz.prog 6 = none := by kernel_rfl
@[simp] theorem zr6 : eK Tryz.prog 6 = some [.v (.int .u8 0)] := by kernel_rfl
@[simp] theorem ub6 : Tryz.prog.underlying 6 = some (.int .u8) := by kernel_rfl
@[simp] theorem ty7 : iQ Tryz.prog 7 = some (true, 4) := by kernel_rfl
@[simp] theorem el7 : iF Tryz.prog 7 = none := by kernel_rfl
@[simp] theorem aHc : dM Tryz.prog 7 0 = some (0, false, 1) := by kernel_rfl
@[simp] theorem aH7 : dM Tryz.prog 7 1 = some (1, false, 1) := by kernel_rfl
@[simp] theorem aIf : dM Tryz.prog 7 2 = some (2, false, 1) := by kernel_rfl
@[simp] theorem aHw : dM Tryz.prog 7 3 = some (3, false, 1) := by kernel_rfl
@[simp] theorem pl7 : pK Tryz.prog 7 = some [(0, 1), (1, 1), (2, 1), (3, 1)] := by kernel_rfl
@[simp] theorem zr7 : eK Tryz.prog 7 = some [.v (.int .i64 0), .v (.int .i64 0), .v (.bool false), .v (.int .u8 0)] := by kernel_rfl
@[simp] theorem ty8 : iQ Tryz.prog 8 = some (true, 4) := by kernel_rfl
@[simp] theorem el8 : iF Tryz.prog 8 = none := by kernel_rfl
@[simp] theorem aHt : dM Tryz.prog 8 0 = some (0, false, 1) := by kernel_rfl
@[simp] theorem aId : dM Tryz.prog 8 1 = some (1, false, 1) := by kernel_rfl
@[simp] theorem aH5 : dM Tryz.prog 8 2 = some (2, false, 1) := by kernel_rfl
@[simp] theorem aHy : dM Tryz.prog 8 3 = some (3, false, 1) := by kernel_rfl
@[simp] theorem pl8 : pK Tryz.prog 8 = some [(0, 1), (1, 1), (2, 1), (3, 1)] := by kernel_rfl
@[simp] theorem zr8 : eK Tryz.prog 8 = some [.v (.int .i64 0), .v (.int .i64 0), .v (.bool false), .v (.int .u8 0)] := by kernel_rfl
@[simp] theorem ty9 : iQ Tryz.prog 9 = some (false, 1) := by kernel_rfl
@[simp] theorem el9 : iF Tryz.prog 9 = none := by kernel_rfl
@[simp] theorem zr9 : eK Tryz.prog 9 = some [.v (.string ⟨#[]⟩)] := by kernel_rfl
@[simp] theorem ub9 : Tryz.prog.underlying 9 = some .string := by kernel_rfl
@[simp] theorem aKx : iQ Tryz.prog 22 = some (false, 1) := by kernel_rfl
@[simp] theorem aI2 : iF Tryz.prog 22 = some (33, 6, 64, #[.int .i64 0, .int .i64 0, .int .i64 0, .int .i64 0, .string ⟨#[]⟩, .string ⟨#[]⟩]) := by kernel_rfl
@[simp] theorem aK5 : Tryz.prog.underlying 22 = some (.slice 33) := by kernel_rfl
@[simp] theorem aKf : eK Tryz.prog 22 = some [.sl true []] := by kernel_rfl
@[simp] theorem aIz : iQ Tryz.prog 24 = some (false, 1) := by kernel_rfl
@[simp] theorem aLw : iF Tryz.prog 24 = none := by kernel_rfl
@[simp] theorem aJ8 : eK Tryz.prog 24 = some [.v (.pointer none)] := by kernel_rfl
@[simp] theorem aJe : Tryz.prog.underlying 24 = some (.pointer 91) := by kernel_rfl
@[simp] theorem aI9 : iQ Tryz.prog 26 = some (false, 1) := by kernel_rfl
@[simp] theorem aLk : iF Tryz.prog 26 = some (96, 9, 152, #[.int .i64 0, .int .i64 0, .string ⟨#[]⟩, .string ⟨#[]⟩, .slice none 0 0, .slice none 0 0, .slice none 0 0, .int .i64 0, .slice none 0 0]) := by kernel_rfl
@[simp] theorem aJ2 : Tryz.prog.underlying 26 = some (.slice 96) := by kernel_rfl
@[simp] theorem aLq : eK Tryz.prog 26 = some [.sl true []] := by kernel_rfl
@[simp] theorem aLc : iQ Tryz.prog 28 = some (true, 3) := by kernel_rfl
@[simp] theorem aJf : iF Tryz.prog 28 = none := by kernel_rfl
@[simp] theorem aGc : dM Tryz.prog 28 0 = some (0, false, 1) := by kernel_rfl
@[simp] theorem aF6 : dM Tryz.prog 28 1 = some (1, false, 1) := by kernel_rfl
@[simp] theorem aFk : dM Tryz.prog 28 2 = some (2, false, 1) := by kernel_rfl
@[simp] theorem aIm : pK Tryz.prog 28 = some [(0, 1), (1, 1), (2, 1)] := by kernel_rfl
@[simp] theorem aK9 : eK Tryz.prog 28 = some [.v (.int .i64 0), .v (.int .i64 0), .sl true []] := by kernel_rfl
@[simp] theorem aLl : iQ Tryz.prog 33 = some (true, 6) := by kernel_rfl
@[simp] theorem aLs : iF Tryz.prog 33 = none := by kernel_rfl
@[simp] theorem aFy : dM Tryz.prog 33 0 = some (0, false, 1) := by kernel_rfl
@[simp] theorem aE4 : dM Tryz.prog 33 1 = some (1, false, 1) := by kernel_rfl
@[simp] theorem aGe : dM Tryz.prog 33 2 = some (2, false, 1) := by kernel_rfl
@[simp] theorem aE9 : dM Tryz.prog 33 3 = some (3, false, 1) := by kernel_rfl
@[simp] theorem aGm : dM Tryz.prog 33 4 = some (4, false, 1) := by kernel_rfl
@[simp] theorem aFc : dM Tryz.prog 33 5 = some (5, false, 1) := by kernel_rfl
@[simp] theorem aI6 : pK Tryz.prog 33 = some [(0, 1), (1, 1), (2, 1), (3, 1), (4, 1), (5, 1)] := by kernel_rfl
@[simp] theorem aJr : eK Tryz.prog 33 = some [.v (.int .i64 0), .v (.int .i64 0), .v (.int .i64 0), .v (.int .i64 0), .v (.string ⟨#[]⟩), .v (.string ⟨#[]⟩)] := by kernel_rfl
@[simp] theorem aJw : iQ Tryz.prog 42 = some (false, 1) := by kernel_rfl
@[simp] theorem aJz : iF Tryz.prog 42 = some (9, 1, 16, #[.string ⟨#[]⟩]) := by kernel_rfl
@[simp] theorem aIp : Tryz.prog.underlying 42 = some (.slice 9) := by kernel_rfl
@[simp] theorem aJg : eK Tryz.prog 42 = some [.sl true []] := by kernel_rfl
@[simp] theorem aJ5 : iQ Tryz.prog 43 = some (false, 1) := by kernel_rfl
@[simp] theorem aE1 : iF Tryz.prog 43 = some (55, 2, 32, #[.string ⟨#[]⟩, .string ⟨#[]⟩]) := by kernel_rfl
@[simp] theorem aKw : Tryz.prog.underlying 43 = some (.slice 55) := by kernel_rfl
@[simp] theorem aI4 : eK Tryz.prog 43 = some [.sl true []] := by kernel_rfl
@[simp] theorem aJd : iQ Tryz.prog 44 = some (false, 1) := by kernel_rfl
@[simp] theorem aJ6 : iF Tryz.prog 44 = some (55, 2, 32, #[.string ⟨#[]⟩, .string ⟨#[]⟩]) := by kernel_rfl
@[simp] theorem aJx : Tryz.prog.underlying 44 = some (.slice 55) := by kernel_rfl
@[simp] theorem aLt : eK Tryz.prog 44 = some [.sl true []] := by kernel_rfl
@[simp] theorem aI5 : iQ Tryz.prog 45 = some (false, 1) := by kernel_rfl
@[simp] theorem aEw : iF Tryz.prog 45 = some (53, 2, 24, #[.string ⟨#[]⟩, .int .i64 0]) := by kernel_rfl
@[simp] theorem aKy : Tryz.prog.underlying 45 = some (.slice 53) := by kernel_rfl
@[simp] theorem aKj : eK Tryz.prog 45 = some [.sl true []] := by kernel_rfl
@[simp] theorem aKr : iQ Tryz.prog 46 = some (false, 1) := by kernel_rfl
@[simp] theorem aJ3 : iF Tryz.prog 46 = some (53, 2, 24, #[.string ⟨#[]⟩, .int .i64 0]) := by kernel_rfl
@[simp] theorem aJh : Tryz.prog.underlying 46 = some (.slice 53) := by kernel_rfl
@[simp] theorem aKb : eK Tryz.prog 46 = some [.sl true []] := by kernel_rfl
@[simp] theorem aIl : iQ Tryz.prog 47 = some (false, 1) := by kernel_rfl
@[simp] theorem aFu : iF Tryz.prog 47 = some (3, 1, 8, #[.int .i64 0]) := by kernel_rfl
@[simp] theorem aJ0 : Tryz.prog.underlying 47 = some (.slice 3) := by kernel_rfl
@[simp] theorem aKk : eK Tryz.prog 47 = some [.sl true []] := by kernel_rfl
@[simp] theorem aK2 : iQ Tryz.prog 49 = some (true, 9) := by kernel_rfl
@[simp] theorem aKo : iF Tryz.prog 49 = none := by kernel_rfl
@[simp] theorem aFe : dM Tryz.prog 49 0 = some (0, false, 1) := by kernel_rfl
@[simp] theorem aGj : dM Tryz.prog 49 1 = some (1, false, 1) := by kernel_rfl
@[simp] theorem aEy : dM Tryz.prog 49 2 = some (2, false, 1) := by kernel_rfl
@[simp] theorem aEt : dM Tryz.prog 49 3 = some (3, false, 1) := by kernel_rfl
@[simp] theorem aGg : dM Tryz.prog 49 4 = some (4, false, 1) := by kernel_rfl
@[simp] theorem aE7 : dM Tryz.prog 49 5 = some (5, false, 1) := by kernel_rfl
@[simp] theorem aE2 : dM Tryz.prog 49 6 = some (6, false, 1) := by kernel_rfl
@[simp] theorem aFg : dM Tryz.prog 49 7 = some (7, false, 1) := by kernel_rfl
@[simp] theorem aFb : dM Tryz.prog 49 8 = some (8, false, 1) := by kernel_rfl
@[simp] theorem aJ4 : pK Tryz.prog 49 = some [(0, 1), (1, 1), (2, 1), (3, 1), (4, 1), (5, 1), (6, 1), (7, 1), (8, 1)] := by kernel_rfl
@[simp] theorem aLa : eK Tryz.prog 49 = some [.v (.int .i64 0), .v (.int .i64 0), .v (.string ⟨#[]⟩), .v (.string ⟨#[]⟩), .sl true [], .sl true [], .sl true [], .v (.int .i64 0), .sl true []] := by kernel_rfl
@[simp] theorem aIk : iQ Tryz.prog 53 = some (true, 2) := by kernel_rfl
@[simp] theorem aKs : iF Tryz.prog 53 = none := by kernel_rfl
@[simp] theorem aFp : dM Tryz.prog 53 0 = some (0, false, 1) := by kernel_rfl
@[simp] theorem aGh : dM Tryz.prog 53 1 = some (1, false, 1) := by kernel_rfl
@[simp] theorem aJu : pK Tryz.prog 53 = some [(0, 1), (1, 1)] := by kernel_rfl
@[simp] theorem aIq : eK Tryz.prog 53 = some [.v (.string ⟨#[]⟩), .v (.int .i64 0)] := by kernel_rfl
@[simp] theorem aKz : iQ Tryz.prog 55 = some (true, 2) := by kernel_rfl
@[simp] theorem aJ7 : iF Tryz.prog 55 = none := by kernel_rfl
@[simp] theorem aF3 : dM Tryz.prog 55 0 = some (0, false, 1) := by kernel_rfl
@[simp] theorem aGb : dM Tryz.prog 55 1 = some (1, false, 1) := by kernel_rfl
@[simp] theorem aIx : pK Tryz.prog 55 = some [(0, 1), (1, 1)] := by kernel_rfl
@[simp] theorem aJp : eK Tryz.prog 55 = some [.v (.string ⟨#[]⟩), .v (.string ⟨#[]⟩)] := by kernel_rfl
@[simp] theorem aJa : iQ Tryz.prog 60 = some (false, 1) := by kernel_rfl
@[simp] theorem aI1 : iF Tryz.prog 60 = none := by kernel_rfl
@[simp] theorem aIu : eK Tryz.prog 60 = some [.v (.pointer none)] := by kernel_rfl
@[simp] theorem aIw : Tryz.prog.underlying 60 = some (.pointer 74) := by kernel_rfl
@[simp] theorem aKc : iQ Tryz.prog 62 = some (false, 1) := by kernel_rfl
@[simp] theorem aLg : iF Tryz.prog 62 = some (65, 6, 64, #[.int .i64 0, .int .i64 0, .int .i64 0, .int .i64 0, .string ⟨#[]⟩, .string ⟨#[]⟩]) := by kernel_rfl
@[simp] theorem aK6 : Tryz.prog.underlying 62 = some (.slice 65) := by kernel_rfl
@[simp] theorem aIj : eK Tryz.prog 62 = some [.sl true []] := by kernel_rfl
@[simp] theorem aKl : iQ Tryz.prog 65 = some (true, 6) := by kernel_rfl
@[simp] theorem aJj : iF Tryz.prog 65 = none := by kernel_rfl
@[simp] theorem aGo : dM Tryz.prog 65 0 = some (0, false, 1) := by kernel_rfl
@[simp] theorem aFj : dM Tryz.prog 65 1 = some (1, false, 1) := by kernel_rfl
@[simp] theorem aFq : dM Tryz.prog 65 2 = some (2, false, 1) := by kernel_rfl
@[simp] theorem aFf : dM Tryz.prog 65 3 = some (3, false, 1) := by kernel_rfl
@[simp] theorem aFw : dM Tryz.prog 65 4 = some (4, false, 1) := by kernel_rfl
@[simp] theorem aFh : dM Tryz.prog 65 5 = some (5, false, 1) := by kernel_rfl
@[simp] theorem aLm : pK Tryz.prog 65 = some [(0, 1), (1, 1), (2, 1), (3, 1), (4, 1), (5, 1)] := by kernel_rfl
@[simp] theorem aIr : eK Tryz.prog 65 = some [.v (.int .i64 0), .v (.int .i64 0), .v (.int .i64 0), .v (.int .i64 0), .v (.string ⟨#[]⟩), .v (.string ⟨#[]⟩)] := by kernel_rfl
@[simp] theorem aIs : iQ Tryz.prog 68 = some (true, 6) := by kernel_rfl
@[simp] theorem aIg : iF Tryz.prog 68 = none := by kernel_rfl
@[simp] theorem aFr : dM Tryz.prog 68 0 = some (0, false, 1) := by kernel_rfl
@[simp] theorem aFx : dM Tryz.prog 68 1 = some (1, false, 1) := by kernel_rfl
@[simp] theorem aFl : dM Tryz.prog 68 2 = some (2, false, 1) := by kernel_rfl
@[simp] theorem aGl : dM Tryz.prog 68 3 = some (3, false, 1) := by kernel_rfl
@[simp] theorem aF1 : dM Tryz.prog 68 4 = some (4, false, 1) := by kernel_rfl
@[simp] theorem aF8 : dM Tryz.prog 68 5 = some (5, false, 1) := by kernel_rfl
@[simp] theorem aJk : pK Tryz.prog 68 = some [(0, 1), (1, 1), (2, 1), (3, 1), (4, 1), (5, 1)] := by kernel_rfl
@[simp] theorem aK3 : eK Tryz.prog 68 = some [.v (.int .i64 0), .v (.int .i64 0), .v (.int .i64 0), .v (.int .i64 0), .v (.string ⟨#[]⟩), .v (.string ⟨#[]⟩)] := by kernel_rfl
@[simp] theorem aK7 : iQ Tryz.prog 74 = some (true, 2) := by kernel_rfl
@[simp] theorem aKq : iF Tryz.prog 74 = none := by kernel_rfl
@[simp] theorem aF7 : dM Tryz.prog 74 0 = some (0, false, 1) := by kernel_rfl
@[simp] theorem aE0 : dM Tryz.prog 74 1 = some (1, false, 1) := by kernel_rfl
@[simp] theorem aJn : pK Tryz.prog 74 = some [(0, 1), (1, 1)] := by kernel_rfl
@[simp] theorem aJc : eK Tryz.prog 74 = some [.v (.pointer none), .sl true []] := by kernel_rfl
@[simp] theorem aKe : iQ Tryz.prog 76 = some (false, 1) := by kernel_rfl
@[simp] theorem aIy : iF Tryz.prog 76 = some (68, 6, 64, #[.int .i64 0, .int .i64 0, .int .i64 0, .int .i64 0, .string ⟨#[]⟩, .string ⟨#[]⟩]) := by kernel_rfl
@[simp] theorem aJo : Tryz.prog.underlying 76 = some (.slice 68) := by kernel_rfl
@[simp] theorem aIt : eK Tryz.prog 76 = some [.sl true []] := by kernel_rfl
@[simp] theorem aKm : iQ Tryz.prog 77 = some (false, 1) := by kernel_rfl
@[simp] theorem aJt : iF Tryz.prog 77 = none := by kernel_rfl
@[simp] theorem aJb : eK Tryz.prog 77 = some [.v (.int .i64 0)] := by kernel_rfl
@[simp] theorem aLi : Tryz.prog.underlying 77 = some (.int .i64) := by kernel_rfl
@[simp] theorem aLb : iQ Tryz.prog 89 = some (false, 1) := by kernel_rfl
@[simp] theorem aKa : iF Tryz.prog 89 = none := by kernel_rfl
@[simp] theorem aK1 : eK Tryz.prog 89 = some [.v (.map none)] := by kernel_rfl
@[simp] theorem aLd : iQ Tryz.prog 91 = some (true, 3) := by kernel_rfl
@[simp] theorem aKg : iF Tryz.prog 91 = none := by kernel_rfl
@[simp] theorem aF2 : dM Tryz.prog 91 0 = some (0, false, 1) := by kernel_rfl
@[simp] theorem aE3 : dM Tryz.prog 91 1 = some (1, false, 1) := by kernel_rfl
@[simp] theorem aFt : dM Tryz.prog 91 2 = some (2, false, 1) := by kernel_rfl
@[simp] theorem aKp : pK Tryz.prog 91 = some [(0, 1), (1, 1), (2, 1)] := by kernel_rfl
@[simp] theorem aLo : eK Tryz.prog 91 = some [.v (.int .i64 0), .v (.int .i64 0), .v (.map none)] := by kernel_rfl
@[simp] theorem aKh : iQ Tryz.prog 92 = some (false, 1) := by kernel_rfl
@[simp] theorem aLn : iF Tryz.prog 92 = none := by kernel_rfl
@[simp] theorem aLh : eK Tryz.prog 92 = some [.v (.pointer none)] := by kernel_rfl
@[simp] theorem aKn : Tryz.prog.underlying 92 = some (.pointer 49) := by kernel_rfl
@[simp] theorem aJs : iQ Tryz.prog 93 = some (false, 1) := by kernel_rfl
@[simp] theorem aJv : iF Tryz.prog 93 = some (131, 2, 32, #[.string ⟨#[]⟩, .string ⟨#[]⟩]) := by kernel_rfl
@[simp] theorem aIv : Tryz.prog.underlying 93 = some (.slice 131) := by kernel_rfl
@[simp] theorem aJ9 : eK Tryz.prog 93 = some [.sl true []] := by kernel_rfl
@[simp] theorem aIo : iQ Tryz.prog 94 = some (false, 1) := by kernel_rfl
@[simp] theorem aLr : iF Tryz.prog 94 = some (133, 2, 24, #[.string ⟨#[]⟩, .int .i64 0]) := by kernel_rfl
@[simp] theorem aLe : Tryz.prog.underlying 94 = some (.slice 133) := by kernel_rfl
@[simp] theorem aIh : eK Tryz.prog 94 = some [.sl true []] := by kernel_rfl
@[simp] theorem aIn : iQ Tryz.prog 96 = some (true, 9) := by kernel_rfl
@[simp] theorem aLp : iF Tryz.prog 96 = none := by kernel_rfl
@[simp] theorem aFo : dM Tryz.prog 96 0 = some (0, false, 1) := by kernel_rfl
@[simp] theorem aGd : dM Tryz.prog 96 1 = some (1, false, 1) := by kernel_rfl
@[simp] theorem aGf : dM Tryz.prog 96 2 = some (2, false, 1) := by kernel_rfl
@[simp] theorem aFi : dM Tryz.prog 96 3 = some (3, false, 1) := by kernel_rfl
@[simp] theorem aEu : dM Tryz.prog 96 4 = some (4, false, 1) := by kernel_rfl
@[simp] theorem aEx : dM Tryz.prog 96 5 = some (5, false, 1) := by kernel_rfl
@[simp] theorem aF4 : dM Tryz.prog 96 6 = some (6, false, 1) := by kernel_rfl
@[simp] theorem aEv : dM Tryz.prog 96 7 = some (7, false, 1) := by kernel_rfl
@[simp] theorem aGi : dM Tryz.prog 96 8 = some (8, false, 1) := by kernel_rfl
@[simp] theorem aK8 : pK Tryz.prog 96 = some [(0, 1), (1, 1), (2, 1), (3, 1), (4, 1), (5, 1), (6, 1), (7, 1), (8, 1)] := by kernel_rfl
@[simp] theorem aKv : eK Tryz.prog 96 = some [.v (.int .i64 0), .v (.int .i64 0), .v (.string ⟨#[]⟩), .v (.string ⟨#[]⟩), .sl true [], .sl true [], .sl true [], .v (.int .i64 0), .sl true []] := by kernel_rfl
@[simp] theorem aHv : iQ Tryz.prog 113 = some (false, 1) := by kernel_rfl
@[simp] theorem aH9 : iF Tryz.prog 113 = none := by kernel_rfl
@[simp] theorem aG5 : eK Tryz.prog 113 = some [.v (.nilFunc)] := by kernel_rfl
@[simp] theorem aG6 : iQ Tryz.prog 124 = some (false, 1) := by kernel_rfl
@[simp] theorem aG1 : iF Tryz.prog 124 = none := by kernel_rfl
@[simp] theorem aHf : eK Tryz.prog 124 = some [.v (.nilFunc)] := by kernel_rfl
@[simp] theorem aHa : iQ Tryz.prog 131 = some (true, 2) := by kernel_rfl
@[simp] theorem aHj : iF Tryz.prog 131 = none := by kernel_rfl
@[simp] theorem aEl : dM Tryz.prog 131 0 = some (0, false, 1) := by kernel_rfl
@[simp] theorem aEo : dM Tryz.prog 131 1 = some (1, false, 1) := by kernel_rfl
@[simp] theorem aIa : pK Tryz.prog 131 = some [(0, 1), (1, 1)] := by kernel_rfl
@[simp] theorem aGy : eK Tryz.prog 131 = some [.v (.string ⟨#[]⟩), .v (.string ⟨#[]⟩)] := by kernel_rfl
@[simp] theorem aGt : iQ Tryz.prog 133 = some (true, 2) := by kernel_rfl
@[simp] theorem aH6 : iF Tryz.prog 133 = none := by kernel_rfl
@[simp] theorem aEr : dM Tryz.prog 133 0 = some (0, false, 1) := by kernel_rfl
@[simp] theorem aEq : dM Tryz.prog 133 1 = some (1, false, 1) := by kernel_rfl
@[simp] theorem aHx : pK Tryz.prog 133 = some [(0, 1), (1, 1)] := by kernel_rfl
@[simp] theorem aHq : eK Tryz.prog 133 = some [.v (.string ⟨#[]⟩), .v (.int .i64 0)] := by kernel_rfl
@[simp] theorem aHi : iQ Tryz.prog 147 = some (false, 1) := by kernel_rfl
@[simp] theorem aHm : iF Tryz.prog 147 = none := by kernel_rfl
@[simp] theorem aGu : eK Tryz.prog 147 = some [.v (.nilFunc)] := by kernel_rfl
@[simp] theorem aHg : iQ Tryz.prog 150 = some (false, 1) := by kernel_rfl
@[simp] theorem aIb : iF Tryz.prog 150 = none := by kernel_rfl
@[simp] theorem aG0 : eK Tryz.prog 150 = some [.v (.nilFunc)] := by kernel_rfl
@[simp] theorem aG2 : iQ Tryz.prog 153 = some (false, 1) := by kernel_rfl
@[simp] theorem aHd : iF Tryz.prog 153 = none := by kernel_rfl
@[simp] theorem aHe : eK Tryz.prog 153 = some [.v (.nilFunc)] := by kernel_rfl
@[simp] theorem aHp : iQ Tryz.prog 168 = some (false, 1) := by kernel_rfl
@[simp] theorem aH3 : iF Tryz.prog 168 = none := by kernel_rfl
@[simp] theorem aH8 : eK Tryz.prog 168 = some [.v (.nilFunc)] := by kernel_rfl
@[simp] theorem aGr : iQ Tryz.prog 170 = some (false, 1) := by kernel_rfl
@[simp] theorem aG9 : iF Tryz.prog 170 = none := by kernel_rfl
@[simp] theorem aHz : eK Tryz.prog 170 = some [.v (.nilFunc)] := by kernel_rfl
@[simp] theorem aGw : iQ Tryz.prog 174 = some (false, 1) := by kernel_rfl
@[simp] theorem aG4 : iF Tryz.prog 174 = none := by kernel_rfl
@[simp] theorem aH0 : eK Tryz.prog 174 = some [.v (.nilFunc)] := by kernel_rfl
@[simp] theorem aHk : iQ Tryz.prog 178 = some (false, 1) := by kernel_rfl
@[simp] theorem aGz : iF Tryz.prog 178 = none := by kernel_rfl
@[simp] theorem aHn : eK Tryz.prog 178 = some [.v (.nilFunc)] := by kernel_rfl
@[simp] theorem aHr : iQ Tryz.prog 185 = some (false, 1) := by kernel_rfl
@[simp] theorem aH1 : iF Tryz.prog 185 = none := by kernel_rfl
@[simp] theorem aIc : eK Tryz.prog 185 = some [.v (.int .u64 0)] := by kernel_rfl
@[simp] theorem aH4 : Tryz.prog.underlying 185 = some (.int .u64) := by kernel_rfl
@[simp] theorem aKi : Ul Tryz.prog 89 = some (.int .i64, .pointer none) := by kernel_rfl
@[simp] theorem aKd : zmD (.pointer none) = .v (.pointer none) := rfl
@[simp] theorem aLf : Tryz.prog.eqGuardType Tryz.prog.depth 53 = false := by kernel_rfl
theorem aFm (d : Nat) (a0 : ByteArray) (a1 : Int) (b0 : ByteArray) (b1 : Int) (w : World) : (Op.equalIn (d + 2) 53 (.agg #[.string a0, .int .i64 a1]) (.agg #[.string b0, .int .i64 b1])).run Tryz.prog w = .ok ((decide (a0 = b0)) && (a1 == b1)) w := by
 have hS : Tryz.prog.underlying 53 = some (.struct (Tryz.prog.fieldsOf 53)) := by kernel_rfl
 have hp : Tryz.prog.stoodInHeld 53 = false := by kernel_rfl
 rw [show d + 2 = (d + 1) + 1 from rfl, run_equalIn_agg w (d + 1) 53 _ _ hS hp];simp only [Program.fieldsOf, Tryz.underlying53];have ia3 := Tryz.isAgg3;have iz3 := Tryz.sizeOf3;have iu3 := Tryz.underlying3;have ia9 := Tryz.isAgg9;have iz9 := Tryz.sizeOf9;have iu9 := Tryz.underlying9
 go_simp
 by_cases e0 : a0 = b0 <;> by_cases e1 : a1 = b1 <;> simp [e0, e1, lE]
theorem aF0 (a0 : ByteArray) (a1 : Int) (b0 : ByteArray) (b1 : Int) : xU Tryz.prog 53 [.v (.string a0), .v (.int .i64 a1)] [.v (.string b0), .v (.int .i64 b1)] ((decide (a0 = b0)) && (a1 == b1)) :=
 ⟨[.string a0, .int .i64 a1], [.string b0, .int .i64 b1], rfl, rfl, fun w => aFm 9998 a0 a1 b0 b1 w⟩
@[simp] theorem aJ1 (a0 : ByteArray) (a1 : Int) (b0 : ByteArray) (b1 : Int) (K : Bool → Prop) : nW Tryz.prog 53 [.v (.string a0), .v (.int .i64 a1)] [.v (.string b0), .v (.int .i64 b1)] K = K ((decide (a0 = b0)) && (a1 == b1)) := oN (aF0 a0 a1 b0 b1)
@[simp] theorem aI7 : Tryz.prog.eqGuardType Tryz.prog.depth 55 = false := by kernel_rfl
theorem aFd (d : Nat) (a0 : ByteArray) (a1 : ByteArray) (b0 : ByteArray) (b1 : ByteArray) (w : World) : (Op.equalIn (d + 2) 55 (.agg #[.string a0, .string a1]) (.agg #[.string b0, .string b1])).run Tryz.prog w = .ok ((decide (a0 = b0)) && (decide (a1 = b1))) w := by
 have hS : Tryz.prog.underlying 55 = some (.struct (Tryz.prog.fieldsOf 55)) := by kernel_rfl
 have hp : Tryz.prog.stoodInHeld 55 = false := by kernel_rfl
 rw [show d + 2 = (d + 1) + 1 from rfl, run_equalIn_agg w (d + 1) 55 _ _ hS hp];simp only [Program.fieldsOf, Tryz.underlying55];have ia9 := Tryz.isAgg9;have iz9 := Tryz.sizeOf9;have iu9 := Tryz.underlying9
 go_simp
 by_cases e0 : a0 = b0 <;> by_cases e1 : a1 = b1 <;> simp [e0, e1, lE]
theorem aF5 (a0 : ByteArray) (a1 : ByteArray) (b0 : ByteArray) (b1 : ByteArray) : xU Tryz.prog 55 [.v (.string a0), .v (.string a1)] [.v (.string b0), .v (.string b1)] ((decide (a0 = b0)) && (decide (a1 = b1))) :=
 ⟨[.string a0, .string a1], [.string b0, .string b1], rfl, rfl, fun w => aFd 9998 a0 a1 b0 b1 w⟩
@[simp] theorem aI3 (a0 : ByteArray) (a1 : ByteArray) (b0 : ByteArray) (b1 : ByteArray) (K : Bool → Prop) : nW Tryz.prog 55 [.v (.string a0), .v (.string a1)] [.v (.string b0), .v (.string b1)] K = K ((decide (a0 = b0)) && (decide (a1 = b1))) := oN (aF5 a0 a1 b0 b1)
@[simp] theorem aI8 : Tryz.prog.eqGuardType Tryz.prog.depth 65 = false := by kernel_rfl
theorem aGa (d : Nat) (a0 : Int) (a1 : Int) (a2 : Int) (a3 : Int) (a4 : ByteArray) (a5 : ByteArray) (b0 : Int) (b1 : Int) (b2 : Int) (b3 : Int) (b4 : ByteArray) (b5 : ByteArray) (w : World) : (Op.equalIn (d + 2) 65 (.agg #[.int .i64 a0, .int .i64 a1, .int .i64 a2, .int .i64 a3, .string a4, .string a5]) (.agg #[.int .i64 b0, .int .i64 b1, .int .i64 b2, .int .i64 b3, .string b4, .string b5])).run Tryz.prog w = .ok ((a0 == b0) && (a1 == b1) && (a2 == b2) && (a3 == b3) && (decide (a4 = b4)) && (decide (a5 = b5))) w := by
 have hS : Tryz.prog.underlying 65 = some (.struct (Tryz.prog.fieldsOf 65)) := by kernel_rfl
 have hp : Tryz.prog.stoodInHeld 65 = false := by kernel_rfl
 rw [show d + 2 = (d + 1) + 1 from rfl, run_equalIn_agg w (d + 1) 65 _ _ hS hp];simp only [Program.fieldsOf, Tryz.underlying65];have ia3 := Tryz.isAgg3;have iz3 := Tryz.sizeOf3;have iu3 := Tryz.underlying3;have ia9 := Tryz.isAgg9;have iz9 := Tryz.sizeOf9;have iu9 := Tryz.underlying9
 go_simp
 by_cases e0 : a0 = b0 <;> by_cases e1 : a1 = b1 <;> by_cases e2 : a2 = b2 <;> by_cases e3 : a3 = b3 <;> by_cases e4 : a4 = b4 <;> by_cases e5 : a5 = b5 <;> simp [e0, e1, e2, e3, e4, e5, lE]
theorem aFv (a0 : Int) (a1 : Int) (a2 : Int) (a3 : Int) (a4 : ByteArray) (a5 : ByteArray) (b0 : Int) (b1 : Int) (b2 : Int) (b3 : Int) (b4 : ByteArray) (b5 : ByteArray) : xU Tryz.prog 65 [.v (.int .i64 a0), .v (.int .i64 a1), .v (.int .i64 a2), .v (.int .i64 a3), .v (.string a4), .v (.string a5)] [.v (.int .i64 b0), .v (.int .i64 b1), .v (.int .i64 b2), .v (.int .i64 b3), .v (.string b4), .v (.string b5)] ((a0 == b0) && (a1 == b1) && (a2 == b2) && (a3 == b3) && (decide (a4 = b4)) && (decide (a5 = b5))) :=
 ⟨[.int .i64 a0, .int .i64 a1, .int .i64 a2, .int .i64 a3, .string a4, .string a5], [.int .i64 b0, .int .i64 b1, .int .i64 b2, .int .i64 b3, .string b4, .string b5], rfl, rfl, fun w => aGa 9998 a0 a1 a2 a3 a4 a5 b0 b1 b2 b3 b4 b5 w⟩
@[simp] theorem aI0 (a0 : Int) (a1 : Int) (a2 : Int) (a3 : Int) (a4 : ByteArray) (a5 : ByteArray) (b0 : Int) (b1 : Int) (b2 : Int) (b3 : Int) (b4 : ByteArray) (b5 : ByteArray) (K : Bool → Prop) : nW Tryz.prog 65 [.v (.int .i64 a0), .v (.int .i64 a1), .v (.int .i64 a2), .v (.int .i64 a3), .v (.string a4), .v (.string a5)] [.v (.int .i64 b0), .v (.int .i64 b1), .v (.int .i64 b2), .v (.int .i64 b3), .v (.string b4), .v (.string b5)] K = K ((a0 == b0) && (a1 == b1) && (a2 == b2) && (a3 == b3) && (decide (a4 = b4)) && (decide (a5 = b5))) := oN (aFv a0 a1 a2 a3 a4 a5 b0 b1 b2 b3 b4 b5)
@[simp] theorem aHs : Tryz.prog.eqGuardType Tryz.prog.depth 133 = false := by kernel_rfl
theorem aEh (d : Nat) (a0 : ByteArray) (a1 : Int) (b0 : ByteArray) (b1 : Int) (w : World) : (Op.equalIn (d + 2) 133 (.agg #[.string a0, .int .i64 a1]) (.agg #[.string b0, .int .i64 b1])).run Tryz.prog w = .ok ((decide (a0 = b0)) && (a1 == b1)) w := by
 have hS : Tryz.prog.underlying 133 = some (.struct (Tryz.prog.fieldsOf 133)) := by kernel_rfl
 have hp : Tryz.prog.stoodInHeld 133 = false := by kernel_rfl
 rw [show d + 2 = (d + 1) + 1 from rfl, run_equalIn_agg w (d + 1) 133 _ _ hS hp];simp only [Program.fieldsOf, Tryz.underlying133];have ia3 := Tryz.isAgg3;have iz3 := Tryz.sizeOf3;have iu3 := Tryz.underlying3;have ia9 := Tryz.isAgg9;have iz9 := Tryz.sizeOf9;have iu9 := Tryz.underlying9
 go_simp
 by_cases e0 : a0 = b0 <;> by_cases e1 : a1 = b1 <;> simp [e0, e1, lE]
theorem aDs (a0 : ByteArray) (a1 : Int) (b0 : ByteArray) (b1 : Int) : xU Tryz.prog 133 [.v (.string a0), .v (.int .i64 a1)] [.v (.string b0), .v (.int .i64 b1)] ((decide (a0 = b0)) && (a1 == b1)) :=
 ⟨[.string a0, .int .i64 a1], [.string b0, .int .i64 b1], rfl, rfl, fun w => aEh 9998 a0 a1 b0 b1 w⟩
@[simp] theorem aGq (a0 : ByteArray) (a1 : Int) (b0 : ByteArray) (b1 : Int) (K : Bool → Prop) : nW Tryz.prog 133 [.v (.string a0), .v (.int .i64 a1)] [.v (.string b0), .v (.int .i64 b1)] K = K ((decide (a0 = b0)) && (a1 == b1)) := oN (aDs a0 a1 b0 b1)
end Go.Proofs.YtpfmpeaekgdgnaaGreat

