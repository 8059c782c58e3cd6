import Derived.Test.YtpfmpeaekgdgnaaGreatProg
import Derived.Test.YtpfmpeaekgdgnaaGreatVm17
import Derived.Test.YtpfmpeaekgdgnaaGreatVmX13
import Derived.WalkKit
import Derived.KernelRfl
namespace Go.Proofs.YtpfmpeaekgdgnaaGreat
open Go Go.Vm
set_option linter.all false
set_option maxRecDepth 100000
@[simp] theorem ty1 : iR Tryz.prog 1 = some (false, 1) := by kernel_rfl
@[simp] theorem el1 : iI Tryz.prog 1 = none := by kernel_rfl
@[simp] theorem zr1 : eG Tryz.prog 1 = some [.v (.nilFunc)] := by kernel_rfl
@[simp] theorem ty2 : iR Tryz.prog 2 = some (false, 1) := by kernel_rfl
@[simp] theorem el2 : iI Tryz.prog 2 = none := by kernel_rfl
@[simp] theorem zr2 : eG Tryz.prog 2 = some [.v (.int .i64 0)] := by kernel_rfl
@[simp] theorem ub2 : Tryz.prog.underlying 2 = some (.int .i64) := by kernel_rfl
@[simp] theorem ty3 : iR Tryz.prog 3 = some (false, 1) := by kernel_rfl
@[simp] theorem el3 : iI Tryz.prog 3 = none := by kernel_rfl
@[simp] theorem zr3 : eG Tryz.prog 3 = some [.v (.int .i64 0)] := by kernel_rfl
@[simp] theorem ub3 : Tryz.prog.underlying 3 = some (.int .i64) := by kernel_rfl
@[simp] theorem ty4 : iR Tryz.prog 4 = some (false, 1) := by kernel_rfl
@[simp] theorem el4 : iI Tryz.prog 4 = none := by kernel_rfl
@[simp] theorem zr4 : eG Tryz.prog 4 = some [.v (.bool false)] := by kernel_rfl
@[simp] theorem ub4 : Tryz.prog.underlying 4 = some .bool := by kernel_rfl
@[simp] theorem ty5 : iR Tryz.prog 5 = some (false, 1) := by kernel_rfl
@[simp] theorem el5 : iI Tryz.prog 5 = none := by kernel_rfl
@[simp] theorem zr5 : eG Tryz.prog 5 = some [.v (.int .u8 0)] := by kernel_rfl
@[simp] theorem ub5 : Tryz.prog.underlying 5 = some (.int .u8) := by kernel_rfl
@[simp] theorem ty6 : iR Tryz.prog 6 = some (false, 1) := by kernel_rfl
@[simp] theorem el6 : iI Tryz.prog 6 = none := by kernel_rfl
@[simp] theorem zr6 : eG Tryz.prog 6 = some [.v (.int .u8 0)] := by kernel_rfl
@[simp] theorem ub6 : Tryz.prog.underlying 6 = some (.int .u8) := by kernel_rfl
@[simp] theorem ty7 : iR Tryz.prog 7 = some (true, 4) := by kernel_rfl
@[simp] theorem el7 : iI Tryz.prog 7 = none := by kernel_rfl
@[simp] theorem aGu : dL Tryz.prog 7 0 = some (0, false, 1) := by kernel_rfl
@[simp] theorem aG2 : dL Tryz.prog 7 1 = some (1, false, 1) := by kernel_rfl
@[simp] theorem aHy : dL Tryz.prog 7 2 = some (2, false, 1) := by kernel_rfl
@[simp] theorem aHv : dL Tryz.prog 7 3 = some (3, false, 1) := by kernel_rfl
@[simp] theorem pl7 : pJ Tryz.prog 7 = some [(0, 1), (1, 1), (2, 1), (3, 1)] := by kernel_rfl
@[simp] theorem zr7 : eG Tryz.prog 7 = some [.v (.int .i64 0), .v (.int .i64 0), .v (.bool false), .v (.int .u8 0)] := by kernel_rfl
@[simp] theorem ty8 : iR Tryz.prog 8 = some (true, 4) := by kernel_rfl
@[simp] theorem el8 : iI Tryz.prog 8 = none := by kernel_rfl
@[simp] theorem aHs : dL Tryz.prog 8 0 = some (0, false, 1) := by kernel_rfl
@[simp] theorem aGv : dL Tryz.prog 8 1 = some (1, false, 1) := by kernel_rfl
@[simp] theorem aHq : dL Tryz.prog 8 2 = some (2, false, 1) := by kernel_rfl
@[simp] theorem aH0 : dL Tryz.prog 8 3 = some (3, false, 1) := by kernel_rfl
@[simp] theorem pl8 : pJ Tryz.prog 8 = some [(0, 1), (1, 1), (2, 1), (3, 1)] := by kernel_rfl
@[simp] theorem zr8 : eG Tryz.prog 8 = some [.v (.int .i64 0), .v (.int .i64 0), .v (.bool false), .v (.int .u8 0)] := by kernel_rfl
@[simp] theorem ty9 : iR Tryz.prog 9 = some (false, 1) := by kernel_rfl
@[simp] theorem el9 : iI Tryz.prog 9 = none := by kernel_rfl
@[simp] theorem zr9 : eG Tryz.prog 9 = some [.v (.string ⟨#[]⟩)] := by kernel_rfl
@[simp] theorem ub9 : Tryz.prog.underlying 9 = some .string := by kernel_rfl
@[simp] theorem aKw : iR Tryz.prog 22 = some (false, 1) := by kernel_rfl
@[simp] theorem aJ7 : iI Tryz.prog 22 = some (33, 6, 64, #[.int .i64 0, .int .i64 0, .int .i64 0, .int .i64 0, .string ⟨#[]⟩, .string ⟨#[]⟩]) := by kernel_rfl
@[simp] theorem aK7 : Tryz.prog.underlying 22 = some (.slice 33) := by kernel_rfl
@[simp] theorem aI6 : eG Tryz.prog 22 = some [.sl true []] := by kernel_rfl
@[simp] theorem aJg : iR Tryz.prog 24 = some (false, 1) := by kernel_rfl
@[simp] theorem aKr : iI Tryz.prog 24 = none := by kernel_rfl
@[simp] theorem aKc : eG Tryz.prog 24 = some [.v (.pointer none)] := by kernel_rfl
@[simp] theorem aJt : Tryz.prog.underlying 24 = some (.pointer 91) := by kernel_rfl
@[simp] theorem aJx : iR Tryz.prog 26 = some (false, 1) := by kernel_rfl
@[simp] theorem aKm : iI Tryz.prog 26 = some (96, 9, 152, #[.int .i64 0, .int .i64 0, .string ⟨#[]⟩, .string ⟨#[]⟩, .slice none 0 0, .slice none 0 0, .slice none 0 0, .int .i64 0, .slice none 0 0]) := by kernel_rfl
@[simp] theorem aI9 : Tryz.prog.underlying 26 = some (.slice 96) := by kernel_rfl
@[simp] theorem aJq : eG Tryz.prog 26 = some [.sl true []] := by kernel_rfl
@[simp] theorem aJ6 : iR Tryz.prog 28 = some (true, 3) := by kernel_rfl
@[simp] theorem aKz : iI Tryz.prog 28 = none := by kernel_rfl
@[simp] theorem aF8 : dL Tryz.prog 28 0 = some (0, false, 1) := by kernel_rfl
@[simp] theorem aFq : dL Tryz.prog 28 1 = some (1, false, 1) := by kernel_rfl
@[simp] theorem aFm : dL Tryz.prog 28 2 = some (2, false, 1) := by kernel_rfl
@[simp] theorem aIw : pJ Tryz.prog 28 = some [(0, 1), (1, 1), (2, 1)] := by kernel_rfl
@[simp] theorem aKt : eG Tryz.prog 28 = some [.v (.int .i64 0), .v (.int .i64 0), .sl true []] := by kernel_rfl
@[simp] theorem aJk : iR Tryz.prog 33 = some (true, 6) := by kernel_rfl
@[simp] theorem aJw : iI Tryz.prog 33 = none := by kernel_rfl
@[simp] theorem aGb : dL Tryz.prog 33 0 = some (0, false, 1) := by kernel_rfl
@[simp] theorem aGa : dL Tryz.prog 33 1 = some (1, false, 1) := by kernel_rfl
@[simp] theorem aFj : dL Tryz.prog 33 2 = some (2, false, 1) := by kernel_rfl
@[simp] theorem aF9 : dL Tryz.prog 33 3 = some (3, false, 1) := by kernel_rfl
@[simp] theorem aGo : dL Tryz.prog 33 4 = some (4, false, 1) := by kernel_rfl
@[simp] theorem aFs : dL Tryz.prog 33 5 = some (5, false, 1) := by kernel_rfl
@[simp] theorem aLg : pJ Tryz.prog 33 = some [(0, 1), (1, 1), (2, 1), (3, 1), (4, 1), (5, 1)] := by kernel_rfl
@[simp] theorem aKa : eG Tryz.prog 33 = some [.v (.int .i64 0), .v (.int .i64 0), .v (.int .i64 0), .v (.int .i64 0), .v (.string ⟨#[]⟩), .v (.string ⟨#[]⟩)] := by kernel_rfl
@[simp] theorem aJs : iR Tryz.prog 42 = some (false, 1) := by kernel_rfl
@[simp] theorem aK1 : iI Tryz.prog 42 = some (9, 1, 16, #[.string ⟨#[]⟩]) := by kernel_rfl
@[simp] theorem aIn : Tryz.prog.underlying 42 = some (.slice 9) := by kernel_rfl
@[simp] theorem aKu : eG Tryz.prog 42 = some [.sl true []] := by kernel_rfl
@[simp] theorem aIh : iR Tryz.prog 43 = some (false, 1) := by kernel_rfl
@[simp] theorem aGl : iI Tryz.prog 43 = some (55, 2, 32, #[.string ⟨#[]⟩, .string ⟨#[]⟩]) := by kernel_rfl
@[simp] theorem aI5 : Tryz.prog.underlying 43 = some (.slice 55) := by kernel_rfl
@[simp] theorem aIl : eG Tryz.prog 43 = some [.sl true []] := by kernel_rfl
@[simp] theorem aJ9 : iR Tryz.prog 44 = some (false, 1) := by kernel_rfl
@[simp] theorem aKf : iI Tryz.prog 44 = some (55, 2, 32, #[.string ⟨#[]⟩, .string ⟨#[]⟩]) := by kernel_rfl
@[simp] theorem aKy : Tryz.prog.underlying 44 = some (.slice 55) := by kernel_rfl
@[simp] theorem aKs : eG Tryz.prog 44 = some [.sl true []] := by kernel_rfl
@[simp] theorem aKi : iR Tryz.prog 45 = some (false, 1) := by kernel_rfl
@[simp] theorem aE0 : iI Tryz.prog 45 = some (53, 2, 24, #[.string ⟨#[]⟩, .int .i64 0]) := by kernel_rfl
@[simp] theorem aIq : Tryz.prog.underlying 45 = some (.slice 53) := by kernel_rfl
@[simp] theorem aJh : eG Tryz.prog 45 = some [.sl true []] := by kernel_rfl
@[simp] theorem aIt : iR Tryz.prog 46 = some (false, 1) := by kernel_rfl
@[simp] theorem aIy : iI Tryz.prog 46 = some (53, 2, 24, #[.string ⟨#[]⟩, .int .i64 0]) := by kernel_rfl
@[simp] theorem aLo : Tryz.prog.underlying 46 = some (.slice 53) := by kernel_rfl
@[simp] theorem aKl : eG Tryz.prog 46 = some [.sl true []] := by kernel_rfl
@[simp] theorem aJa : iR Tryz.prog 47 = some (false, 1) := by kernel_rfl
@[simp] theorem aF6 : iI Tryz.prog 47 = some (3, 1, 8, #[.int .i64 0]) := by kernel_rfl
@[simp] theorem aJf : Tryz.prog.underlying 47 = some (.slice 3) := by kernel_rfl
@[simp] theorem aLn : eG Tryz.prog 47 = some [.sl true []] := by kernel_rfl
@[simp] theorem aLl : iR Tryz.prog 49 = some (true, 9) := by kernel_rfl
@[simp] theorem aIu : iI Tryz.prog 49 = none := by kernel_rfl
@[simp] theorem aGe : dL Tryz.prog 49 0 = some (0, false, 1) := by kernel_rfl
@[simp] theorem aF2 : dL Tryz.prog 49 1 = some (1, false, 1) := by kernel_rfl
@[simp] theorem aEt : dL Tryz.prog 49 2 = some (2, false, 1) := by kernel_rfl
@[simp] theorem aEq : dL Tryz.prog 49 3 = some (3, false, 1) := by kernel_rfl
@[simp] theorem aFu : dL Tryz.prog 49 4 = some (4, false, 1) := by kernel_rfl
@[simp] theorem aEw : dL Tryz.prog 49 5 = some (5, false, 1) := by kernel_rfl
@[simp] theorem aE5 : dL Tryz.prog 49 6 = some (6, false, 1) := by kernel_rfl
@[simp] theorem aFh : dL Tryz.prog 49 7 = some (7, false, 1) := by kernel_rfl
@[simp] theorem aEs : dL Tryz.prog 49 8 = some (8, false, 1) := by kernel_rfl
@[simp] theorem aK5 : pJ Tryz.prog 49 = some [(0, 1), (1, 1), (2, 1), (3, 1), (4, 1), (5, 1), (6, 1), (7, 1), (8, 1)] := by kernel_rfl
@[simp] theorem aJv : eG Tryz.prog 49 = some [.v (.int .i64 0), .v (.int .i64 0), .v (.string ⟨#[]⟩), .v (.string ⟨#[]⟩), .sl true [], .sl true [], .sl true [], .v (.int .i64 0), .sl true []] := by kernel_rfl
@[simp] theorem aJz : iR Tryz.prog 53 = some (true, 2) := by kernel_rfl
@[simp] theorem aJ5 : iI Tryz.prog 53 = none := by kernel_rfl
@[simp] theorem aGg : dL Tryz.prog 53 0 = some (0, false, 1) := by kernel_rfl
@[simp] theorem aF4 : dL Tryz.prog 53 1 = some (1, false, 1) := by kernel_rfl
@[simp] theorem aJm : pJ Tryz.prog 53 = some [(0, 1), (1, 1)] := by kernel_rfl
@[simp] theorem aJo : eG Tryz.prog 53 = some [.v (.string ⟨#[]⟩), .v (.int .i64 0)] := by kernel_rfl
@[simp] theorem aI3 : iR Tryz.prog 55 = some (true, 2) := by kernel_rfl
@[simp] theorem aLb : iI Tryz.prog 55 = none := by kernel_rfl
@[simp] theorem aFe : dL Tryz.prog 55 0 = some (0, false, 1) := by kernel_rfl
@[simp] theorem aFc : dL Tryz.prog 55 1 = some (1, false, 1) := by kernel_rfl
@[simp] theorem aJ0 : pJ Tryz.prog 55 = some [(0, 1), (1, 1)] := by kernel_rfl
@[simp] theorem aIi : eG Tryz.prog 55 = some [.v (.string ⟨#[]⟩), .v (.string ⟨#[]⟩)] := by kernel_rfl
@[simp] theorem aLa : iR Tryz.prog 60 = some (false, 1) := by kernel_rfl
@[simp] theorem aIf : iI Tryz.prog 60 = none := by kernel_rfl
@[simp] theorem aKv : eG Tryz.prog 60 = some [.v (.pointer none)] := by kernel_rfl
@[simp] theorem aIx : Tryz.prog.underlying 60 = some (.pointer 74) := by kernel_rfl
@[simp] theorem aJj : iR Tryz.prog 62 = some (false, 1) := by kernel_rfl
@[simp] theorem aK2 : iI Tryz.prog 62 = some (65, 6, 64, #[.int .i64 0, .int .i64 0, .int .i64 0, .int .i64 0, .string ⟨#[]⟩, .string ⟨#[]⟩]) := by kernel_rfl
@[simp] theorem aIg : Tryz.prog.underlying 62 = some (.slice 65) := by kernel_rfl
@[simp] theorem aJy : eG Tryz.prog 62 = some [.sl true []] := by kernel_rfl
@[simp] theorem aI1 : iR Tryz.prog 65 = some (true, 6) := by kernel_rfl
@[simp] theorem aK8 : iI Tryz.prog 65 = none := by kernel_rfl
@[simp] theorem aEv : dL Tryz.prog 65 0 = some (0, false, 1) := by kernel_rfl
@[simp] theorem aFi : dL Tryz.prog 65 1 = some (1, false, 1) := by kernel_rfl
@[simp] theorem aEu : dL Tryz.prog 65 2 = some (2, false, 1) := by kernel_rfl
@[simp] theorem aFv : dL Tryz.prog 65 3 = some (3, false, 1) := by kernel_rfl
@[simp] theorem aFn : dL Tryz.prog 65 4 = some (4, false, 1) := by kernel_rfl
@[simp] theorem aFd : dL Tryz.prog 65 5 = some (5, false, 1) := by kernel_rfl
@[simp] theorem aJ8 : pJ Tryz.prog 65 = some [(0, 1), (1, 1), (2, 1), (3, 1), (4, 1), (5, 1)] := by kernel_rfl
@[simp] theorem aJc : eG Tryz.prog 65 = some [.v (.int .i64 0), .v (.int .i64 0), .v (.int .i64 0), .v (.int .i64 0), .v (.string ⟨#[]⟩), .v (.string ⟨#[]⟩)] := by kernel_rfl
@[simp] theorem aKk : iR Tryz.prog 68 = some (true, 6) := by kernel_rfl
@[simp] theorem aJl : iI Tryz.prog 68 = none := by kernel_rfl
@[simp] theorem aGd : dL Tryz.prog 68 0 = some (0, false, 1) := by kernel_rfl
@[simp] theorem aEx : dL Tryz.prog 68 1 = some (1, false, 1) := by kernel_rfl
@[simp] theorem aFp : dL Tryz.prog 68 2 = some (2, false, 1) := by kernel_rfl
@[simp] theorem aEp : dL Tryz.prog 68 3 = some (3, false, 1) := by kernel_rfl
@[simp] theorem aE7 : dL Tryz.prog 68 4 = some (4, false, 1) := by kernel_rfl
@[simp] theorem aFf : dL Tryz.prog 68 5 = some (5, false, 1) := by kernel_rfl
@[simp] theorem aLj : pJ Tryz.prog 68 = some [(0, 1), (1, 1), (2, 1), (3, 1), (4, 1), (5, 1)] := by kernel_rfl
@[simp] theorem aLs : eG Tryz.prog 68 = some [.v (.int .i64 0), .v (.int .i64 0), .v (.int .i64 0), .v (.int .i64 0), .v (.string ⟨#[]⟩), .v (.string ⟨#[]⟩)] := by kernel_rfl
@[simp] theorem aLp : iR Tryz.prog 74 = some (true, 2) := by kernel_rfl
@[simp] theorem aLq : iI Tryz.prog 74 = none := by kernel_rfl
@[simp] theorem aF1 : dL Tryz.prog 74 0 = some (0, false, 1) := by kernel_rfl
@[simp] theorem aGc : dL Tryz.prog 74 1 = some (1, false, 1) := by kernel_rfl
@[simp] theorem aIr : pJ Tryz.prog 74 = some [(0, 1), (1, 1)] := by kernel_rfl
@[simp] theorem aLr : eG Tryz.prog 74 = some [.v (.pointer none), .sl true []] := by kernel_rfl
@[simp] theorem aK6 : iR Tryz.prog 76 = some (false, 1) := by kernel_rfl
@[simp] theorem aJp : iI Tryz.prog 76 = some (68, 6, 64, #[.int .i64 0, .int .i64 0, .int .i64 0, .int .i64 0, .string ⟨#[]⟩, .string ⟨#[]⟩]) := by kernel_rfl
@[simp] theorem aJe : Tryz.prog.underlying 76 = some (.slice 68) := by kernel_rfl
@[simp] theorem aKx : eG Tryz.prog 76 = some [.sl true []] := by kernel_rfl
@[simp] theorem aKe : iR Tryz.prog 77 = some (false, 1) := by kernel_rfl
@[simp] theorem aIz : iI Tryz.prog 77 = none := by kernel_rfl
@[simp] theorem aKn : eG Tryz.prog 77 = some [.v (.int .i64 0)] := by kernel_rfl
@[simp] theorem aKj : Tryz.prog.underlying 77 = some (.int .i64) := by kernel_rfl
@[simp] theorem aJr : iR Tryz.prog 89 = some (false, 1) := by kernel_rfl
@[simp] theorem aLi : iI Tryz.prog 89 = none := by kernel_rfl
@[simp] theorem aJ3 : eG Tryz.prog 89 = some [.v (.map none)] := by kernel_rfl
@[simp] theorem aLc : iR Tryz.prog 91 = some (true, 3) := by kernel_rfl
@[simp] theorem aKq : iI Tryz.prog 91 = none := by kernel_rfl
@[simp] theorem aE6 : dL Tryz.prog 91 0 = some (0, false, 1) := by kernel_rfl
@[simp] theorem aE2 : dL Tryz.prog 91 1 = some (1, false, 1) := by kernel_rfl
@[simp] theorem aEy : dL Tryz.prog 91 2 = some (2, false, 1) := by kernel_rfl
@[simp] theorem aI0 : pJ Tryz.prog 91 = some [(0, 1), (1, 1), (2, 1)] := by kernel_rfl
@[simp] theorem aJd : eG Tryz.prog 91 = some [.v (.int .i64 0), .v (.int .i64 0), .v (.map none)] := by kernel_rfl
@[simp] theorem aLh : iR Tryz.prog 92 = some (false, 1) := by kernel_rfl
@[simp] theorem aKd : iI Tryz.prog 92 = none := by kernel_rfl
@[simp] theorem aI2 : eG Tryz.prog 92 = some [.v (.pointer none)] := by kernel_rfl
@[simp] theorem aJb : Tryz.prog.underlying 92 = some (.pointer 49) := by kernel_rfl
@[simp] theorem aLk : iR Tryz.prog 93 = some (false, 1) := by kernel_rfl
@[simp] theorem aK0 : iI Tryz.prog 93 = some (131, 2, 32, #[.string ⟨#[]⟩, .string ⟨#[]⟩]) := by kernel_rfl
@[simp] theorem aI7 : Tryz.prog.underlying 93 = some (.slice 131) := by kernel_rfl
@[simp] theorem aLe : eG Tryz.prog 93 = some [.sl true []] := by kernel_rfl
@[simp] theorem aKh : iR Tryz.prog 94 = some (false, 1) := by kernel_rfl
@[simp] theorem aKg : iI Tryz.prog 94 = some (133, 2, 24, #[.string ⟨#[]⟩, .int .i64 0]) := by kernel_rfl
@[simp] theorem aKp : Tryz.prog.underlying 94 = some (.slice 133) := by kernel_rfl
@[simp] theorem aJi : eG Tryz.prog 94 = some [.sl true []] := by kernel_rfl
@[simp] theorem aIo : iR Tryz.prog 96 = some (true, 9) := by kernel_rfl
@[simp] theorem aJ1 : iI Tryz.prog 96 = none := by kernel_rfl
@[simp] theorem aEr : dL Tryz.prog 96 0 = some (0, false, 1) := by kernel_rfl
@[simp] theorem aFg : dL Tryz.prog 96 1 = some (1, false, 1) := by kernel_rfl
@[simp] theorem aF7 : dL Tryz.prog 96 2 = some (2, false, 1) := by kernel_rfl
@[simp] theorem aF5 : dL Tryz.prog 96 3 = some (3, false, 1) := by kernel_rfl
@[simp] theorem aFt : dL Tryz.prog 96 4 = some (4, false, 1) := by kernel_rfl
@[simp] theorem aGm : dL Tryz.prog 96 5 = some (5, false, 1) := by kernel_rfl
@[simp] theorem aFr : dL Tryz.prog 96 6 = some (6, false, 1) := by kernel_rfl
@[simp] theorem aF3 : dL Tryz.prog 96 7 = some (7, false, 1) := by kernel_rfl
@[simp] theorem aFo : dL Tryz.prog 96 8 = some (8, false, 1) := by kernel_rfl
@[simp] theorem aIs : pJ Tryz.prog 96 = some [(0, 1), (1, 1), (2, 1), (3, 1), (4, 1), (5, 1), (6, 1), (7, 1), (8, 1)] := by kernel_rfl
@[simp] theorem aIj : eG Tryz.prog 96 = some [.v (.int .i64 0), .v (.int .i64 0), .v (.string ⟨#[]⟩), .v (.string ⟨#[]⟩), .sl true [], .sl true [], .sl true [], .v (.int .i64 0), .sl true []] := by kernel_rfl
@[simp] theorem aGx : iR Tryz.prog 113 = some (false, 1) := by kernel_rfl
@[simp] theorem aGw : iI Tryz.prog 113 = none := by kernel_rfl
@[simp] theorem aIe : eG Tryz.prog 113 = some [.v (.nilFunc)] := by kernel_rfl
@[simp] theorem aHk : iR Tryz.prog 124 = some (false, 1) := by kernel_rfl
@[simp] theorem aG9 : iI Tryz.prog 124 = none := by kernel_rfl
@[simp] theorem aGq : eG Tryz.prog 124 = some [.v (.nilFunc)] := by kernel_rfl
@[simp] theorem aHu : iR Tryz.prog 131 = some (true, 2) := by kernel_rfl
@[simp] theorem aGz : iI Tryz.prog 131 = none := by kernel_rfl
@[simp] theorem aEo : dL Tryz.prog 131 0 = some (0, false, 1) := by kernel_rfl
@[simp] theorem aEh : dL Tryz.prog 131 1 = some (1, false, 1) := by kernel_rfl
@[simp] theorem aIb : pJ Tryz.prog 131 = some [(0, 1), (1, 1)] := by kernel_rfl
@[simp] theorem aHt : eG Tryz.prog 131 = some [.v (.string ⟨#[]⟩), .v (.string ⟨#[]⟩)] := by kernel_rfl
@[simp] theorem aHg : iR Tryz.prog 133 = some (true, 2) := by kernel_rfl
@[simp] theorem aH9 : iI Tryz.prog 133 = none := by kernel_rfl
@[simp] theorem aEk : dL Tryz.prog 133 0 = some (0, false, 1) := by kernel_rfl
@[simp] theorem aEg : dL Tryz.prog 133 1 = some (1, false, 1) := by kernel_rfl
@[simp] theorem aG6 : pJ Tryz.prog 133 = some [(0, 1), (1, 1)] := by kernel_rfl
@[simp] theorem aHh : eG Tryz.prog 133 = some [.v (.string ⟨#[]⟩), .v (.int .i64 0)] := by kernel_rfl
@[simp] theorem aHx : iR Tryz.prog 147 = some (false, 1) := by kernel_rfl
@[simp] theorem aGp : iI Tryz.prog 147 = none := by kernel_rfl
@[simp] theorem aG3 : eG Tryz.prog 147 = some [.v (.nilFunc)] := by kernel_rfl
@[simp] theorem aHr : iR Tryz.prog 150 = some (false, 1) := by kernel_rfl
@[simp] theorem aG0 : iI Tryz.prog 150 = none := by kernel_rfl
@[simp] theorem aHc : eG Tryz.prog 150 = some [.v (.nilFunc)] := by kernel_rfl
@[simp] theorem aGy : iR Tryz.prog 153 = some (false, 1) := by kernel_rfl
@[simp] theorem aIc : iI Tryz.prog 153 = none := by kernel_rfl
@[simp] theorem aH1 : eG Tryz.prog 153 = some [.v (.nilFunc)] := by kernel_rfl
@[simp] theorem aGs : iR Tryz.prog 168 = some (false, 1) := by kernel_rfl
@[simp] theorem aGt : iI Tryz.prog 168 = none := by kernel_rfl
@[simp] theorem aGr : eG Tryz.prog 168 = some [.v (.nilFunc)] := by kernel_rfl
@[simp] theorem aHe : iR Tryz.prog 170 = some (false, 1) := by kernel_rfl
@[simp] theorem aH2 : iI Tryz.prog 170 = none := by kernel_rfl
@[simp] theorem aHa : eG Tryz.prog 170 = some [.v (.nilFunc)] := by kernel_rfl
@[simp] theorem aH7 : iR Tryz.prog 174 = some (false, 1) := by kernel_rfl
@[simp] theorem aHb : iI Tryz.prog 174 = none := by kernel_rfl
@[simp] theorem aHm : eG Tryz.prog 174 = some [.v (.nilFunc)] := by kernel_rfl
@[simp] theorem aId : iR Tryz.prog 178 = some (false, 1) := by kernel_rfl
@[simp] theorem aG8 : iI Tryz.prog 178 = none := by kernel_rfl
@[simp] theorem aIa : eG Tryz.prog 178 = some [.v (.nilFunc)] := by kernel_rfl
@[simp] theorem aG5 : iR Tryz.prog 185 = some (false, 1) := by kernel_rfl
@[simp] theorem aHo : iI Tryz.prog 185 = none := by kernel_rfl
@[simp] theorem aHd : eG Tryz.prog 185 = some [.v (.int .u64 0)] := by kernel_rfl
@[simp] theorem aHl : Tryz.prog.underlying 185 = some (.int .u64) := by kernel_rfl
@[simp] theorem aKb : Up Tryz.prog 89 = some (.int .i64, .pointer none) := by kernel_rfl
@[simp] theorem aK3 : zmD (.pointer none) = .v (.pointer none) := rfl
@[simp] theorem aI8 : Tryz.prog.eqGuardType Tryz.prog.depth 53 = false := by kernel_rfl
theorem aGk (d : Nat) (a0 : ByteArray) (a1 : Int) (b0 : ByteArray) (b1 : Int) (w : World) : (Op.equalIn (d + 2) 53 (.agg #[.string a0, .int .i64 a1]) (.agg #[.string b0, .int .i64 b1])).run Tryz.prog w = .ok ((decide (a0 = b0)) && (a1 == b1)) w := by
 have hS : Tryz.prog.underlying 53 = some (.struct (Tryz.prog.fieldsOf 53)) := by kernel_rfl
 have hp : Tryz.prog.stoodInHeld 53 = false := by kernel_rfl
 rw [show d + 2 = (d + 1) + 1 from rfl, run_equalIn_agg w (d + 1) 53 _ _ hS hp];simp only [Program.fieldsOf, Tryz.underlying53];have ia3 := Tryz.isAgg3;have iz3 := Tryz.sizeOf3;have iu3 := Tryz.underlying3;have ia9 := Tryz.isAgg9;have iz9 := Tryz.sizeOf9;have iu9 := Tryz.underlying9
 go_simp
 by_cases e0 : a0 = b0 <;> by_cases e1 : a1 = b1 <;> simp [e0, e1, lJ]
theorem aGj (a0 : ByteArray) (a1 : Int) (b0 : ByteArray) (b1 : Int) : vP Tryz.prog 53 [.v (.string a0), .v (.int .i64 a1)] [.v (.string b0), .v (.int .i64 b1)] ((decide (a0 = b0)) && (a1 == b1)) :=
 ⟨[.string a0, .int .i64 a1], [.string b0, .int .i64 b1], rfl, rfl, fun w => aGk 9998 a0 a1 b0 b1 w⟩
@[simp] theorem aJ2 (a0 : ByteArray) (a1 : Int) (b0 : ByteArray) (b1 : Int) (K : Bool → Prop) : nL Tryz.prog 53 [.v (.string a0), .v (.int .i64 a1)] [.v (.string b0), .v (.int .i64 b1)] K = K ((decide (a0 = b0)) && (a1 == b1)) := oR (aGj a0 a1 b0 b1)
@[simp] theorem aJ4 : Tryz.prog.eqGuardType Tryz.prog.depth 55 = false := by kernel_rfl
theorem aGh (d : Nat) (a0 : ByteArray) (a1 : ByteArray) (b0 : ByteArray) (b1 : ByteArray) (w : World) : (Op.equalIn (d + 2) 55 (.agg #[.string a0, .string a1]) (.agg #[.string b0, .string b1])).run Tryz.prog w = .ok ((decide (a0 = b0)) && (decide (a1 = b1))) w := by
 have hS : Tryz.prog.underlying 55 = some (.struct (Tryz.prog.fieldsOf 55)) := by kernel_rfl
 have hp : Tryz.prog.stoodInHeld 55 = false := by kernel_rfl
 rw [show d + 2 = (d + 1) + 1 from rfl, run_equalIn_agg w (d + 1) 55 _ _ hS hp];simp only [Program.fieldsOf, Tryz.underlying55];have ia9 := Tryz.isAgg9;have iz9 := Tryz.sizeOf9;have iu9 := Tryz.underlying9
 go_simp
 by_cases e0 : a0 = b0 <;> by_cases e1 : a1 = b1 <;> simp [e0, e1, lJ]
theorem aFk (a0 : ByteArray) (a1 : ByteArray) (b0 : ByteArray) (b1 : ByteArray) : vP Tryz.prog 55 [.v (.string a0), .v (.string a1)] [.v (.string b0), .v (.string b1)] ((decide (a0 = b0)) && (decide (a1 = b1))) :=
 ⟨[.string a0, .string a1], [.string b0, .string b1], rfl, rfl, fun w => aGh 9998 a0 a1 b0 b1 w⟩
@[simp] theorem aLd (a0 : ByteArray) (a1 : ByteArray) (b0 : ByteArray) (b1 : ByteArray) (K : Bool → Prop) : nL Tryz.prog 55 [.v (.string a0), .v (.string a1)] [.v (.string b0), .v (.string b1)] K = K ((decide (a0 = b0)) && (decide (a1 = b1))) := oR (aFk a0 a1 b0 b1)
@[simp] theorem aJu : Tryz.prog.eqGuardType Tryz.prog.depth 65 = false := by kernel_rfl
theorem aGn (d : Nat) (a0 : Int) (a1 : Int) (a2 : Int) (a3 : Int) (a4 : ByteArray) (a5 : ByteArray) (b0 : Int) (b1 : Int) (b2 : Int) (b3 : Int) (b4 : ByteArray) (b5 : ByteArray) (w : World) : (Op.equalIn (d + 2) 65 (.agg #[.int .i64 a0, .int .i64 a1, .int .i64 a2, .int .i64 a3, .string a4, .string a5]) (.agg #[.int .i64 b0, .int .i64 b1, .int .i64 b2, .int .i64 b3, .string b4, .string b5])).run Tryz.prog w = .ok ((a0 == b0) && (a1 == b1) && (a2 == b2) && (a3 == b3) && (decide (a4 = b4)) && (decide (a5 = b5))) w := by
 have hS : Tryz.prog.underlying 65 = some (.struct (Tryz.prog.fieldsOf 65)) := by kernel_rfl
 have hp : Tryz.prog.stoodInHeld 65 = false := by kernel_rfl
 rw [show d + 2 = (d + 1) + 1 from rfl, run_equalIn_agg w (d + 1) 65 _ _ hS hp];simp only [Program.fieldsOf, Tryz.underlying65];have ia3 := Tryz.isAgg3;have iz3 := Tryz.sizeOf3;have iu3 := Tryz.underlying3;have ia9 := Tryz.isAgg9;have iz9 := Tryz.sizeOf9;have iu9 := Tryz.underlying9
 go_simp
 by_cases e0 : a0 = b0 <;> by_cases e1 : a1 = b1 <;> by_cases e2 : a2 = b2 <;> by_cases e3 : a3 = b3 <;> by_cases e4 : a4 = b4 <;> by_cases e5 : a5 = b5 <;> simp [e0, e1, e2, e3, e4, e5, lJ]
theorem aFa (a0 : Int) (a1 : Int) (a2 : Int) (a3 : Int) (a4 : ByteArray) (a5 : ByteArray) (b0 : Int) (b1 : Int) (b2 : Int) (b3 : Int) (b4 : ByteArray) (b5 : ByteArray) : vP Tryz.prog 65 [.v (.int .i64 a0), .v (.int .i64 a1), .v (.int .i64 a2), .v (.int .i64 a3), .v (.string a4), .v (.string a5)] [.v (.int .i64 b0), .v (.int .i64 b1), .v (.int .i64 b2), .v (.int .i64 b3), .v (.string b4), .v (.string b5)] ((a0 == b0) && (a1 == b1) && (a2 == b2) && (a3 == b3) && (decide (a4 = b4)) && (decide (a5 = b5))) :=
 ⟨[.int .i64 a0, .int .i64 a1, .int .i64 a2, .int .i64 a3, .string a4, .string a5], [.int .i64 b0, .int .i64 b1, .int .i64 b2, .int .i64 b3, .string b4, .string b5], rfl, rfl, fun w => aGn 9998 a0 a1 a2 a3 a4 a5 b0 b1 b2 b3 b4 b5 w⟩
@[simp] theorem aLm (a0 : Int) (a1 : Int) (a2 : Int) (a3 : Int) (a4 : ByteArray) (a5 : ByteArray) (b0 : Int) (b1 : Int) (b2 : Int) (b3 : Int) (b4 : ByteArray) (b5 : ByteArray) (K : Bool → Prop) : nL Tryz.prog 65 [.v (.int .i64 a0), .v (.int .i64 a1), .v (.int .i64 a2), .v (.int .i64 a3), .v (.string a4), .v (.string a5)] [.v (.int .i64 b0), .v (.int .i64 b1), .v (.int .i64 b2), .v (.int .i64 b3), .v (.string b4), .v (.string b5)] K = K ((a0 == b0) && (a1 == b1) && (a2 == b2) && (a3 == b3) && (decide (a4 = b4)) && (decide (a5 = b5))) := oR (aFa a0 a1 a2 a3 a4 a5 b0 b1 b2 b3 b4 b5)
@[simp] theorem aH6 : Tryz.prog.eqGuardType Tryz.prog.depth 133 = false := by kernel_rfl
theorem aD9 (d : Nat) (a0 : ByteArray) (a1 : Int) (b0 : ByteArray) (b1 : Int) (w : World) : (Op.equalIn (d + 2) 133 (.agg #[.string a0, .int .i64 a1]) (.agg #[.string b0, .int .i64 b1])).run Tryz.prog w = .ok ((decide (a0 = b0)) && (a1 == b1)) w := by
 have hS : Tryz.prog.underlying 133 = some (.struct (Tryz.prog.fieldsOf 133)) := by kernel_rfl
 have hp : Tryz.prog.stoodInHeld 133 = false := by kernel_rfl
 rw [show d + 2 = (d + 1) + 1 from rfl, run_equalIn_agg w (d + 1) 133 _ _ hS hp];simp only [Program.fieldsOf, Tryz.underlying133];have ia3 := Tryz.isAgg3;have iz3 := Tryz.sizeOf3;have iu3 := Tryz.underlying3;have ia9 := Tryz.isAgg9;have iz9 := Tryz.sizeOf9;have iu9 := Tryz.underlying9
 go_simp
 by_cases e0 : a0 = b0 <;> by_cases e1 : a1 = b1 <;> simp [e0, e1, lJ]
theorem aDi (a0 : ByteArray) (a1 : Int) (b0 : ByteArray) (b1 : Int) : vP Tryz.prog 133 [.v (.string a0), .v (.int .i64 a1)] [.v (.string b0), .v (.int .i64 b1)] ((decide (a0 = b0)) && (a1 == b1)) :=
 ⟨[.string a0, .int .i64 a1], [.string b0, .int .i64 b1], rfl, rfl, fun w => aD9 9998 a0 a1 b0 b1 w⟩
@[simp] theorem aH8 (a0 : ByteArray) (a1 : Int) (b0 : ByteArray) (b1 : Int) (K : Bool → Prop) : nL Tryz.prog 133 [.v (.string a0), .v (.int .i64 a1)] [.v (.string b0), .v (.int .i64 b1)] K = K ((decide (a0 = b0)) && (a1 == b1)) := oR (aDi a0 a1 b0 b1)
end Go.Proofs.YtpfmpeaekgdgnaaGreat

