import Derived.Test.YtighdhfgcdjmeaaGreatDoorProg
import Derived.Test.YtighdhfgcdjmeaaGreatDoorVm17
import Derived.Test.YtighdhfgcdjmeaaGreatDoorVmX13
import Derived.WalkKit
import Derived.KernelRfl
namespace Go.Proofs.YtighdhfgcdjmeaaGreatDoor
open Go Go.Vm
set_option linter.all false
set_option maxRecDepth 100000
@[simp] theorem ty1 : eT Tryz.prog 1 = some (false, 1) := by kernel_rfl
@[simp] theorem el1 : eR Tryz.prog 1 = none := by kernel_rfl
@[simp] theorem zr1 : cN Tryz.prog 1 = some [.v (.nilFunc)] := by kernel_rfl
@[simp] theorem ty2 : eT Tryz.prog 2 = some (false, 1) := by kernel_rfl
@[simp] theorem el2 : eR Tryz.prog 2 = none := by kernel_rfl
@[simp] theorem zr2 : cN Tryz.prog 2 = some [.v (.int .i64 0)] := by kernel_rfl
@[simp] theorem ub2 : Tryz.prog.underlying 2 = some (.int .i64) := by kernel_rfl
@[simp] theorem ty3 : eT Tryz.prog 3 = some (false, 1) := by kernel_rfl
@[simp] theorem el3 : eR Tryz.prog 3 = none := by kernel_rfl
@[simp] theorem zr3 : cN Tryz.prog 3 = some [.v (.int .i64 0)] := by kernel_rfl
@[simp] theorem ub3 : Tryz.prog.underlying 3 = some (.int .i64) := by kernel_rfl
@[simp] theorem ty4 : eT Tryz.prog 4 = some (false, 1) := by kernel_rfl
@[simp] theorem el4 : eR Tryz.prog 4 = none := by kernel_rfl
@[simp] theorem zr4 : cN Tryz.prog 4 = some [.v (.bool false)] := by kernel_rfl
@[simp] theorem ub4 : Tryz.prog.underlying 4 = some .bool := by kernel_rfl
@[simp] theorem ty5 : eT Tryz.prog 5 = some (false, 1) := by kernel_rfl
@[simp] theorem el5 : eR Tryz.prog 5 = none := by kernel_rfl
@[simp] theorem zr5 : cN Tryz.prog 5 = some [.v (.int .u8 0)] := by kernel_rfl
@[simp] theorem ub5 : Tryz.prog.underlying 5 = some (.int .u8) := by kernel_rfl
@[simp] theorem ty6 : eT Tryz.prog 6 = some (false, 1) := by kernel_rfl
@[simp] theorem el6 : eR Tryz.prog 6 = none := by kernel_rfl
@[simp] theorem zr6 : cN Tryz.prog 6 = some [.v (.int .u8 0)] := by kernel_rfl
@[simp] theorem ub6 : Tryz.prog.underlying 6 = some (.int .u8) := by kernel_rfl
@[simp] theorem ty7 : eT Tryz.prog 7 = some (true, 4) := by kernel_rfl
@[simp] theorem el7 : eR Tryz.prog 7 = none := by kernel_rfl
@[simp] theorem aBu : bY Tryz.prog 7 0 = some (0, false, 1) := by kernel_rfl
@[simp] theorem aBr : bY Tryz.prog 7 1 = some (1, false, 1) := by kernel_rfl
@[simp] theorem aAk : bY Tryz.prog 7 2 = some (2, false, 1) := by kernel_rfl
@[simp] theorem aAb : bY Tryz.prog 7 3 = some (3, false, 1) := by kernel_rfl
@[simp] theorem pl7 : jB Tryz.prog 7 = some [(0, 1), (1, 1), (2, 1), (3, 1)] := by kernel_rfl
@[simp] theorem zr7 : cN Tryz.prog 7 = some [.v (.int .i64 0), .v (.int .i64 0), .v (.bool false), .v (.int .u8 0)] := by kernel_rfl
@[simp] theorem ty8 : eT Tryz.prog 8 = some (true, 4) := by kernel_rfl
@[simp] theorem el8 : eR Tryz.prog 8 = none := by kernel_rfl
@[simp] theorem aAw : bY Tryz.prog 8 0 = some (0, false, 1) := by kernel_rfl
@[simp] theorem aA5 : bY Tryz.prog 8 1 = some (1, false, 1) := by kernel_rfl
@[simp] theorem Zd : bY Tryz.prog 8 2 = some (2, false, 1) := by kernel_rfl
@[simp] theorem Zz : bY Tryz.prog 8 3 = some (3, false, 1) := by kernel_rfl
@[simp] theorem pl8 : jB Tryz.prog 8 = some [(0, 1), (1, 1), (2, 1), (3, 1)] := by kernel_rfl
@[simp] theorem zr8 : cN Tryz.prog 8 = some [.v (.int .i64 0), .v (.int .i64 0), .v (.bool false), .v (.int .u8 0)] := by kernel_rfl
@[simp] theorem ty9 : eT Tryz.prog 9 = some (false, 1) := by kernel_rfl
@[simp] theorem el9 : eR Tryz.prog 9 = none := by kernel_rfl
@[simp] theorem zr9 : cN Tryz.prog 9 = some [.v (.string ⟨#[]⟩)] := by kernel_rfl
@[simp] theorem ub9 : Tryz.prog.underlying 9 = some .string := by kernel_rfl
@[simp] theorem aCh : eT Tryz.prog 20 = some (false, 1) := by kernel_rfl
@[simp] theorem aE6 : eR Tryz.prog 20 = none := by kernel_rfl
@[simp] theorem aEu : cN Tryz.prog 20 = some [.v (.nilIface)] := by kernel_rfl
@[simp] theorem aEm : eT Tryz.prog 21 = some (false, 1) := by kernel_rfl
@[simp] theorem aEk : eR Tryz.prog 21 = none := by kernel_rfl
@[simp] theorem aEp : cN Tryz.prog 21 = some [.v (.int .i32 0)] := by kernel_rfl
@[simp] theorem aGi : Tryz.prog.underlying 21 = some (.int .i32) := by kernel_rfl
@[simp] theorem aEt : eT Tryz.prog 22 = some (false, 1) := by kernel_rfl
@[simp] theorem aC7 : eR Tryz.prog 22 = some (73, 14, 176, #[.int .i64 0, .int .i64 0, .string ⟨#[]⟩, .string ⟨#[]⟩, .string ⟨#[]⟩, .slice none 0 0, .slice none 0 0, .slice none 0 0, .int .i64 0, .int .i64 0, .int .i64 0, .int .i64 0, .bool false, .bool false]) := by kernel_rfl
@[simp] theorem aDx : Tryz.prog.underlying 22 = some (.slice 73) := by kernel_rfl
@[simp] theorem aCd : cN Tryz.prog 22 = some [.sl true []] := by kernel_rfl
@[simp] theorem aFu : eT Tryz.prog 23 = some (false, 1) := by kernel_rfl
@[simp] theorem aB9 : eR Tryz.prog 23 = some (79, 5, 40, #[.int .i64 0, .int .i64 0, .int .i64 0, .int .i64 0, .int .i64 0]) := by kernel_rfl
@[simp] theorem aDj : Tryz.prog.underlying 23 = some (.slice 79) := by kernel_rfl
@[simp] theorem aD6 : cN Tryz.prog 23 = some [.sl true []] := by kernel_rfl
@[simp] theorem aFh : eT Tryz.prog 25 = some (false, 1) := by kernel_rfl
@[simp] theorem aCq : eR Tryz.prog 25 = some (9, 1, 16, #[.string ⟨#[]⟩]) := by kernel_rfl
@[simp] theorem aB0 : Tryz.prog.underlying 25 = some (.slice 9) := by kernel_rfl
@[simp] theorem aFq : cN Tryz.prog 25 = some [.sl true []] := by kernel_rfl
@[simp] theorem aC5 : eT Tryz.prog 26 = some (false, 1) := by kernel_rfl
@[simp] theorem Wf : eR Tryz.prog 26 = some (90, 2, 32, #[.string ⟨#[]⟩, .string ⟨#[]⟩]) := by kernel_rfl
@[simp] theorem aDb : Tryz.prog.underlying 26 = some (.slice 90) := by kernel_rfl
@[simp] theorem aFm : cN Tryz.prog 26 = some [.sl true []] := by kernel_rfl
@[simp] theorem aFt : eT Tryz.prog 27 = some (false, 1) := by kernel_rfl
@[simp] theorem aGg : eR Tryz.prog 27 = some (90, 2, 32, #[.string ⟨#[]⟩, .string ⟨#[]⟩]) := by kernel_rfl
@[simp] theorem aDd : Tryz.prog.underlying 27 = some (.slice 90) := by kernel_rfl
@[simp] theorem aBz : cN Tryz.prog 27 = some [.sl true []] := by kernel_rfl
@[simp] theorem aCv : eT Tryz.prog 28 = some (false, 1) := by kernel_rfl
@[simp] theorem Xt : eR Tryz.prog 28 = some (62, 2, 24, #[.string ⟨#[]⟩, .int .i64 0]) := by kernel_rfl
@[simp] theorem aD8 : Tryz.prog.underlying 28 = some (.slice 62) := by kernel_rfl
@[simp] theorem aD9 : cN Tryz.prog 28 = some [.sl true []] := by kernel_rfl
@[simp] theorem aFd : eT Tryz.prog 29 = some (false, 1) := by kernel_rfl
@[simp] theorem aEh : eR Tryz.prog 29 = some (62, 2, 24, #[.string ⟨#[]⟩, .int .i64 0]) := by kernel_rfl
@[simp] theorem aEc : Tryz.prog.underlying 29 = some (.slice 62) := by kernel_rfl
@[simp] theorem aB7 : cN Tryz.prog 29 = some [.sl true []] := by kernel_rfl
@[simp] theorem aCt : eT Tryz.prog 30 = some (false, 1) := by kernel_rfl
@[simp] theorem aDg : eR Tryz.prog 30 = some (32, 8, 144, #[.int .i64 0, .int .i64 0, .string ⟨#[]⟩, .string ⟨#[]⟩, .slice none 0 0, .slice none 0 0, .slice none 0 0, .slice none 0 0]) := by kernel_rfl
@[simp] theorem aEi : Tryz.prog.underlying 30 = some (.slice 32) := by kernel_rfl
@[simp] theorem aF0 : cN Tryz.prog 30 = some [.sl true []] := by kernel_rfl
@[simp] theorem aC8 : eT Tryz.prog 32 = some (true, 8) := by kernel_rfl
@[simp] theorem aD3 : eR Tryz.prog 32 = none := by kernel_rfl
@[simp] theorem Wb : bY Tryz.prog 32 0 = some (0, false, 1) := by kernel_rfl
@[simp] theorem Xu : bY Tryz.prog 32 1 = some (1, false, 1) := by kernel_rfl
@[simp] theorem Xw : bY Tryz.prog 32 2 = some (2, false, 1) := by kernel_rfl
@[simp] theorem Yd : bY Tryz.prog 32 3 = some (3, false, 1) := by kernel_rfl
@[simp] theorem Vt : bY Tryz.prog 32 4 = some (4, false, 1) := by kernel_rfl
@[simp] theorem Yv : bY Tryz.prog 32 5 = some (5, false, 1) := by kernel_rfl
@[simp] theorem Vp : bY Tryz.prog 32 6 = some (6, false, 1) := by kernel_rfl
@[simp] theorem Wo : bY Tryz.prog 32 7 = some (7, false, 1) := by kernel_rfl
@[simp] theorem aCr : jB Tryz.prog 32 = some [(0, 1), (1, 1), (2, 1), (3, 1), (4, 1), (5, 1), (6, 1), (7, 1)] := by kernel_rfl
@[simp] theorem aCw : cN Tryz.prog 32 = some [.v (.int .i64 0), .v (.int .i64 0), .v (.string ⟨#[]⟩), .v (.string ⟨#[]⟩), .sl true [], .sl true [], .sl true [], .sl true []] := by kernel_rfl
@[simp] theorem aF5 : eT Tryz.prog 35 = some (false, 1) := by kernel_rfl
@[simp] theorem aCb : eR Tryz.prog 35 = some (70, 2, 32, #[.string ⟨#[]⟩, .string ⟨#[]⟩]) := by kernel_rfl
@[simp] theorem aFv : Tryz.prog.underlying 35 = some (.slice 70) := by kernel_rfl
@[simp] theorem aF6 : cN Tryz.prog 35 = some [.sl true []] := by kernel_rfl
@[simp] theorem aDv : eT Tryz.prog 36 = some (false, 1) := by kernel_rfl
@[simp] theorem aF1 : eR Tryz.prog 36 = some (91, 2, 24, #[.string ⟨#[]⟩, .int .i64 0]) := by kernel_rfl
@[simp] theorem aFc : Tryz.prog.underlying 36 = some (.slice 91) := by kernel_rfl
@[simp] theorem aCe : cN Tryz.prog 36 = some [.sl true []] := by kernel_rfl
@[simp] theorem aDa : eT Tryz.prog 38 = some (true, 6) := by kernel_rfl
@[simp] theorem aDm : eR Tryz.prog 38 = none := by kernel_rfl
@[simp] theorem Xb : bY Tryz.prog 38 0 = some (0, false, 1) := by kernel_rfl
@[simp] theorem Wi : bY Tryz.prog 38 1 = some (1, false, 1) := by kernel_rfl
@[simp] theorem Yk : bY Tryz.prog 38 2 = some (2, false, 1) := by kernel_rfl
@[simp] theorem Xo : bY Tryz.prog 38 3 = some (3, false, 1) := by kernel_rfl
@[simp] theorem Ws : bY Tryz.prog 38 4 = some (4, false, 1) := by kernel_rfl
@[simp] theorem Xk : bY Tryz.prog 38 5 = some (5, false, 1) := by kernel_rfl
@[simp] theorem aEd : jB Tryz.prog 38 = some [(0, 1), (1, 1), (2, 1), (3, 1), (4, 1), (5, 1)] := by kernel_rfl
@[simp] theorem aGe : cN Tryz.prog 38 = some [.v (.int .i64 0), .v (.int .i64 0), .v (.int .i64 0), .v (.int .i64 0), .v (.bool false), .v (.bool false)] := by kernel_rfl
@[simp] theorem aEr : eT Tryz.prog 39 = some (false, 1) := by kernel_rfl
@[simp] theorem aFk : eR Tryz.prog 39 = some (41, 14, 192, #[.int .i64 0, .string ⟨#[]⟩, .string ⟨#[]⟩, .string ⟨#[]⟩, .slice none 0 0, .slice none 0 0, .slice none 0 0, .int .i64 0, .int .i64 0, .int .i64 0, .int .i64 0, .bool false, .bool false, .slice none 0 0]) := by kernel_rfl
@[simp] theorem aC1 : Tryz.prog.underlying 39 = some (.slice 41) := by kernel_rfl
@[simp] theorem aDn : cN Tryz.prog 39 = some [.sl true []] := by kernel_rfl
@[simp] theorem aCz : eT Tryz.prog 41 = some (true, 14) := by kernel_rfl
@[simp] theorem aF9 : eR Tryz.prog 41 = none := by kernel_rfl
@[simp] theorem Wz : bY Tryz.prog 41 0 = some (0, false, 1) := by kernel_rfl
@[simp] theorem Yg : bY Tryz.prog 41 1 = some (1, false, 1) := by kernel_rfl
@[simp] theorem Yx : bY Tryz.prog 41 2 = some (2, false, 1) := by kernel_rfl
@[simp] theorem Wu : bY Tryz.prog 41 3 = some (3, false, 1) := by kernel_rfl
@[simp] theorem Wm : bY Tryz.prog 41 4 = some (4, false, 1) := by kernel_rfl
@[simp] theorem Vu : bY Tryz.prog 41 5 = some (5, false, 1) := by kernel_rfl
@[simp] theorem Ya : bY Tryz.prog 41 6 = some (6, false, 1) := by kernel_rfl
@[simp] theorem Xl : bY Tryz.prog 41 7 = some (7, true, 6) := by kernel_rfl
@[simp] theorem Vq : bY Tryz.prog 41 8 = some (13, false, 1) := by kernel_rfl
@[simp] theorem aGa : jB Tryz.prog 41 = some [(0, 1), (1, 1), (2, 1), (3, 1), (4, 1), (5, 1), (6, 1), (7, 6), (13, 1)] := by kernel_rfl
@[simp] theorem aFz : cN Tryz.prog 41 = some [.v (.int .i64 0), .v (.string ⟨#[]⟩), .v (.string ⟨#[]⟩), .v (.string ⟨#[]⟩), .sl true [], .sl true [], .sl true [], .v (.int .i64 0), .v (.int .i64 0), .v (.int .i64 0), .v (.int .i64 0), .v (.bool false), .v (.bool false), .sl true []] := by kernel_rfl
@[simp] theorem aEb : eT Tryz.prog 43 = some (false, 1) := by kernel_rfl
@[simp] theorem Yw : eR Tryz.prog 43 = some (66, 5, 40, #[.int .i64 0, .int .i64 0, .int .i64 0, .int .i64 0, .int .i64 0]) := by kernel_rfl
@[simp] theorem aCn : Tryz.prog.underlying 43 = some (.slice 66) := by kernel_rfl
@[simp] theorem aF2 : cN Tryz.prog 43 = some [.sl true []] := by kernel_rfl
@[simp] theorem aFf : eT Tryz.prog 44 = some (false, 1) := by kernel_rfl
@[simp] theorem aCa : eR Tryz.prog 44 = some (66, 5, 40, #[.int .i64 0, .int .i64 0, .int .i64 0, .int .i64 0, .int .i64 0]) := by kernel_rfl
@[simp] theorem aE8 : Tryz.prog.underlying 44 = some (.slice 66) := by kernel_rfl
@[simp] theorem aDe : cN Tryz.prog 44 = some [.sl true []] := by kernel_rfl
@[simp] theorem aDl : eT Tryz.prog 47 = some (false, 1) := by kernel_rfl
@[simp] theorem aGb : eR Tryz.prog 47 = none := by kernel_rfl
@[simp] theorem aCy : cN Tryz.prog 47 = some [.v (.int .u64 0)] := by kernel_rfl
@[simp] theorem aCf : Tryz.prog.underlying 47 = some (.int .u64) := by kernel_rfl
@[simp] theorem aDr : eT Tryz.prog 51 = some (false, 1) := by kernel_rfl
@[simp] theorem aC6 : eR Tryz.prog 51 = some (53, 8, 144, #[.int .i64 0, .int .i64 0, .string ⟨#[]⟩, .string ⟨#[]⟩, .slice none 0 0, .slice none 0 0, .slice none 0 0, .slice none 0 0]) := by kernel_rfl
@[simp] theorem aB4 : Tryz.prog.underlying 51 = some (.slice 53) := by kernel_rfl
@[simp] theorem aB8 : cN Tryz.prog 51 = some [.sl true []] := by kernel_rfl
@[simp] theorem aE9 : eT Tryz.prog 53 = some (true, 8) := by kernel_rfl
@[simp] theorem aEe : eR Tryz.prog 53 = none := by kernel_rfl
@[simp] theorem Yt : bY Tryz.prog 53 0 = some (0, false, 1) := by kernel_rfl
@[simp] theorem Xv : bY Tryz.prog 53 1 = some (1, false, 1) := by kernel_rfl
@[simp] theorem Xg : bY Tryz.prog 53 2 = some (2, false, 1) := by kernel_rfl
@[simp] theorem Xz : bY Tryz.prog 53 3 = some (3, false, 1) := by kernel_rfl
@[simp] theorem Vz : bY Tryz.prog 53 4 = some (4, false, 1) := by kernel_rfl
@[simp] theorem Xj : bY Tryz.prog 53 5 = some (5, false, 1) := by kernel_rfl
@[simp] theorem Ys : bY Tryz.prog 53 6 = some (6, false, 1) := by kernel_rfl
@[simp] theorem Yu : bY Tryz.prog 53 7 = some (7, false, 1) := by kernel_rfl
@[simp] theorem aFn : jB Tryz.prog 53 = some [(0, 1), (1, 1), (2, 1), (3, 1), (4, 1), (5, 1), (6, 1), (7, 1)] := by kernel_rfl
@[simp] theorem aEf : cN Tryz.prog 53 = some [.v (.int .i64 0), .v (.int .i64 0), .v (.string ⟨#[]⟩), .v (.string ⟨#[]⟩), .sl true [], .sl true [], .sl true [], .sl true []] := by kernel_rfl
@[simp] theorem aEj : eT Tryz.prog 62 = some (true, 2) := by kernel_rfl
@[simp] theorem aD4 : eR Tryz.prog 62 = none := by kernel_rfl
@[simp] theorem Yp : bY Tryz.prog 62 0 = some (0, false, 1) := by kernel_rfl
@[simp] theorem Wp : bY Tryz.prog 62 1 = some (1, false, 1) := by kernel_rfl
@[simp] theorem aFs : jB Tryz.prog 62 = some [(0, 1), (1, 1)] := by kernel_rfl
@[simp] theorem aCm : cN Tryz.prog 62 = some [.v (.string ⟨#[]⟩), .v (.int .i64 0)] := by kernel_rfl
@[simp] theorem aBw : eT Tryz.prog 64 = some (true, 4) := by kernel_rfl
@[simp] theorem aE7 : eR Tryz.prog 64 = none := by kernel_rfl
@[simp] theorem Yy : bY Tryz.prog 64 0 = some (0, false, 1) := by kernel_rfl
@[simp] theorem Wt : bY Tryz.prog 64 1 = some (1, false, 1) := by kernel_rfl
@[simp] theorem Yc : bY Tryz.prog 64 2 = some (2, false, 1) := by kernel_rfl
@[simp] theorem Xs : bY Tryz.prog 64 3 = some (3, false, 1) := by kernel_rfl
@[simp] theorem aDp : jB Tryz.prog 64 = some [(0, 1), (1, 1), (2, 1), (3, 1)] := by kernel_rfl
@[simp] theorem aCk : cN Tryz.prog 64 = some [.v (.int .i64 0), .v (.int .i64 0), .v (.int .i64 0), .v (.int .i64 0)] := by kernel_rfl
@[simp] theorem aB1 : eT Tryz.prog 66 = some (true, 5) := by kernel_rfl
@[simp] theorem aCp : eR Tryz.prog 66 = none := by kernel_rfl
@[simp] theorem Wh : bY Tryz.prog 66 0 = some (0, false, 1) := by kernel_rfl
@[simp] theorem Vw : bY Tryz.prog 66 1 = some (1, true, 4) := by kernel_rfl
@[simp] theorem aDo : jB Tryz.prog 66 = some [(0, 1), (1, 4)] := by kernel_rfl
@[simp] theorem aD7 : cN Tryz.prog 66 = some [.v (.int .i64 0), .v (.int .i64 0), .v (.int .i64 0), .v (.int .i64 0), .v (.int .i64 0)] := by kernel_rfl
@[simp] theorem aEa : eT Tryz.prog 70 = some (true, 2) := by kernel_rfl
@[simp] theorem aEv : eR Tryz.prog 70 = none := by kernel_rfl
@[simp] theorem Wd : bY Tryz.prog 70 0 = some (0, false, 1) := by kernel_rfl
@[simp] theorem Yh : bY Tryz.prog 70 1 = some (1, false, 1) := by kernel_rfl
@[simp] theorem aEy : jB Tryz.prog 70 = some [(0, 1), (1, 1)] := by kernel_rfl
@[simp] theorem aFb : cN Tryz.prog 70 = some [.v (.string ⟨#[]⟩), .v (.string ⟨#[]⟩)] := by kernel_rfl
@[simp] theorem aCs : eT Tryz.prog 73 = some (true, 14) := by kernel_rfl
@[simp] theorem aCg : eR Tryz.prog 73 = none := by kernel_rfl
@[simp] theorem Ww : bY Tryz.prog 73 0 = some (0, false, 1) := by kernel_rfl
@[simp] theorem Wk : bY Tryz.prog 73 1 = some (1, false, 1) := by kernel_rfl
@[simp] theorem Xf : bY Tryz.prog 73 2 = some (2, false, 1) := by kernel_rfl
@[simp] theorem Wv : bY Tryz.prog 73 3 = some (3, false, 1) := by kernel_rfl
@[simp] theorem Yj : bY Tryz.prog 73 4 = some (4, false, 1) := by kernel_rfl
@[simp] theorem Wn : bY Tryz.prog 73 5 = some (5, false, 1) := by kernel_rfl
@[simp] theorem Ym : bY Tryz.prog 73 6 = some (6, false, 1) := by kernel_rfl
@[simp] theorem Wc : bY Tryz.prog 73 7 = some (7, false, 1) := by kernel_rfl
@[simp] theorem Xa : bY Tryz.prog 73 8 = some (8, true, 6) := by kernel_rfl
@[simp] theorem aEs : jB Tryz.prog 73 = some [(0, 1), (1, 1), (2, 1), (3, 1), (4, 1), (5, 1), (6, 1), (7, 1), (8, 6)] := by kernel_rfl
@[simp] theorem aE3 : cN Tryz.prog 73 = some [.v (.int .i64 0), .v (.int .i64 0), .v (.string ⟨#[]⟩), .v (.string ⟨#[]⟩), .v (.string ⟨#[]⟩), .sl true [], .sl true [], .sl true [], .v (.int .i64 0), .v (.int .i64 0), .v (.int .i64 0), .v (.int .i64 0), .v (.bool false), .v (.bool false)] := by kernel_rfl
@[simp] theorem aFg : eT Tryz.prog 77 = some (true, 4) := by kernel_rfl
@[simp] theorem aB2 : eR Tryz.prog 77 = none := by kernel_rfl
@[simp] theorem Vs : bY Tryz.prog 77 0 = some (0, false, 1) := by kernel_rfl
@[simp] theorem Xq : bY Tryz.prog 77 1 = some (1, false, 1) := by kernel_rfl
@[simp] theorem Yb : bY Tryz.prog 77 2 = some (2, false, 1) := by kernel_rfl
@[simp] theorem Vr : bY Tryz.prog 77 3 = some (3, false, 1) := by kernel_rfl
@[simp] theorem aEn : jB Tryz.prog 77 = some [(0, 1), (1, 1), (2, 1), (3, 1)] := by kernel_rfl
@[simp] theorem aFx : cN Tryz.prog 77 = some [.v (.int .i64 0), .v (.int .i64 0), .v (.int .i64 0), .v (.int .i64 0)] := by kernel_rfl
@[simp] theorem aBv : eT Tryz.prog 79 = some (true, 5) := by kernel_rfl
@[simp] theorem aGf : eR Tryz.prog 79 = none := by kernel_rfl
@[simp] theorem Vy : bY Tryz.prog 79 0 = some (0, false, 1) := by kernel_rfl
@[simp] theorem Xm : bY Tryz.prog 79 1 = some (1, true, 4) := by kernel_rfl
@[simp] theorem aEz : jB Tryz.prog 79 = some [(0, 1), (1, 4)] := by kernel_rfl
@[simp] theorem aCu : cN Tryz.prog 79 = some [.v (.int .i64 0), .v (.int .i64 0), .v (.int .i64 0), .v (.int .i64 0), .v (.int .i64 0)] := by kernel_rfl
@[simp] theorem aDi : eT Tryz.prog 83 = some (false, 1) := by kernel_rfl
@[simp] theorem aCc : eR Tryz.prog 83 = some (84, 1, 24, #[.slice none 0 0]) := by kernel_rfl
@[simp] theorem aF7 : Tryz.prog.underlying 83 = some (.slice 84) := by kernel_rfl
@[simp] theorem aC4 : cN Tryz.prog 83 = some [.sl true []] := by kernel_rfl
@[simp] theorem aFr : eT Tryz.prog 84 = some (false, 1) := by kernel_rfl
@[simp] theorem aFp : eR Tryz.prog 84 = some (5, 1, 1, #[.int .u8 0]) := by kernel_rfl
@[simp] theorem aB6 : Tryz.prog.underlying 84 = some (.slice 5) := by kernel_rfl
@[simp] theorem aD1 : cN Tryz.prog 84 = some [.sl true []] := by kernel_rfl
@[simp] theorem aCi : eT Tryz.prog 88 = some (false, 1) := by kernel_rfl
@[simp] theorem aBy : eR Tryz.prog 88 = none := by kernel_rfl
@[simp] theorem aDc : cN Tryz.prog 88 = some [.v (.nilFunc)] := by kernel_rfl
@[simp] theorem aB5 : eT Tryz.prog 90 = some (true, 2) := by kernel_rfl
@[simp] theorem aFj : eR Tryz.prog 90 = none := by kernel_rfl
@[simp] theorem Xn : bY Tryz.prog 90 0 = some (0, false, 1) := by kernel_rfl
@[simp] theorem Xe : bY Tryz.prog 90 1 = some (1, false, 1) := by kernel_rfl
@[simp] theorem aC2 : jB Tryz.prog 90 = some [(0, 1), (1, 1)] := by kernel_rfl
@[simp] theorem aF8 : cN Tryz.prog 90 = some [.v (.string ⟨#[]⟩), .v (.string ⟨#[]⟩)] := by kernel_rfl
@[simp] theorem aDw : eT Tryz.prog 91 = some (true, 2) := by kernel_rfl
@[simp] theorem aDh : eR Tryz.prog 91 = none := by kernel_rfl
@[simp] theorem Wg : bY Tryz.prog 91 0 = some (0, false, 1) := by kernel_rfl
@[simp] theorem Yi : bY Tryz.prog 91 1 = some (1, false, 1) := by kernel_rfl
@[simp] theorem aDt : jB Tryz.prog 91 = some [(0, 1), (1, 1)] := by kernel_rfl
@[simp] theorem aD5 : cN Tryz.prog 91 = some [.v (.string ⟨#[]⟩), .v (.int .i64 0)] := by kernel_rfl
@[simp] theorem aDq : eT Tryz.prog 93 = some (false, 1) := by kernel_rfl
@[simp] theorem aEw : eR Tryz.prog 93 = some (3, 1, 8, #[.int .i64 0]) := by kernel_rfl
@[simp] theorem aEl : Tryz.prog.underlying 93 = some (.slice 3) := by kernel_rfl
@[simp] theorem aDk : cN Tryz.prog 93 = some [.sl true []] := by kernel_rfl
@[simp] theorem aFi : eT Tryz.prog 95 = some (true, 2) := by kernel_rfl
@[simp] theorem aGd : eR Tryz.prog 95 = none := by kernel_rfl
@[simp] theorem Ye : bY Tryz.prog 95 0 = some (0, false, 1) := by kernel_rfl
@[simp] theorem Yf : bY Tryz.prog 95 1 = some (1, false, 1) := by kernel_rfl
@[simp] theorem aEq : jB Tryz.prog 95 = some [(0, 1), (1, 1)] := by kernel_rfl
@[simp] theorem aDy : cN Tryz.prog 95 = some [.sl true [], .sl true []] := by kernel_rfl
@[simp] theorem aAp : eT Tryz.prog 101 = some (false, 1) := by kernel_rfl
@[simp] theorem Yz : eR Tryz.prog 101 = none := by kernel_rfl
@[simp] theorem aBj : cN Tryz.prog 101 = some [.v (.nilFunc)] := by kernel_rfl
@[simp] theorem aAy : eT Tryz.prog 105 = some (false, 1) := by kernel_rfl
@[simp] theorem Zg : eR Tryz.prog 105 = none := by kernel_rfl
@[simp] theorem aAm : cN Tryz.prog 105 = some [.v (.pointer none)] := by kernel_rfl
@[simp] theorem aBa : Tryz.prog.underlying 105 = some (.pointer 107) := by kernel_rfl
@[simp] theorem aBk : eT Tryz.prog 107 = some (true, 2) := by kernel_rfl
@[simp] theorem aA2 : eR Tryz.prog 107 = none := by kernel_rfl
@[simp] theorem Vn : bY Tryz.prog 107 0 = some (0, false, 1) := by kernel_rfl
@[simp] theorem Vc : bY Tryz.prog 107 1 = some (1, false, 1) := by kernel_rfl
@[simp] theorem aBg : jB Tryz.prog 107 = some [(0, 1), (1, 1)] := by kernel_rfl
@[simp] theorem aBp : cN Tryz.prog 107 = some [.v (.pointer none), .sl true []] := by kernel_rfl
@[simp] theorem Zq : eT Tryz.prog 109 = some (false, 1) := by kernel_rfl
@[simp] theorem Zx : eR Tryz.prog 109 = none := by kernel_rfl
@[simp] theorem aBf : cN Tryz.prog 109 = some [.v (.nilIface)] := by kernel_rfl
@[simp] theorem aAo : eT Tryz.prog 142 = some (true, 256) := by kernel_rfl
@[simp] theorem Ze : eR Tryz.prog 142 = none := by kernel_rfl
@[simp] theorem Za : Ch Tryz.prog 142 = some (256, 1) := by kernel_rfl
@[simp] theorem aAn : eT Tryz.prog 146 = some (false, 1) := by kernel_rfl
@[simp] theorem aAh : eR Tryz.prog 146 = none := by kernel_rfl
@[simp] theorem Zo : cN Tryz.prog 146 = some [.v (.pointer none)] := by kernel_rfl
@[simp] theorem Zc : Tryz.prog.underlying 146 = some (.pointer 142) := by kernel_rfl
@[simp] theorem aAg : eT Tryz.prog 147 = some (false, 1) := by kernel_rfl
@[simp] theorem aAv : eR Tryz.prog 147 = none := by kernel_rfl
@[simp] theorem aAs : cN Tryz.prog 147 = some [.v (.pointer none)] := by kernel_rfl
@[simp] theorem aBe : Tryz.prog.underlying 147 = some (.pointer 5) := by kernel_rfl
@[simp] theorem Zb : eT Tryz.prog 150 = some (false, 1) := by kernel_rfl
@[simp] theorem aA7 : eR Tryz.prog 150 = none := by kernel_rfl
@[simp] theorem aA1 : cN Tryz.prog 150 = some [.v (.nilFunc)] := by kernel_rfl
@[simp] theorem Zw : eT Tryz.prog 153 = some (false, 1) := by kernel_rfl
@[simp] theorem Zm : eR Tryz.prog 153 = none := by kernel_rfl
@[simp] theorem aBh : cN Tryz.prog 153 = some [.v (.int .u32 0)] := by kernel_rfl
@[simp] theorem aAa : Tryz.prog.underlying 153 = some (.int .u32) := by kernel_rfl
@[simp] theorem Zn : eT Tryz.prog 156 = some (false, 1) := by kernel_rfl
@[simp] theorem aAx : eR Tryz.prog 156 = none := by kernel_rfl
@[simp] theorem aAf : cN Tryz.prog 156 = some [.v (.int .u64 0)] := by kernel_rfl
@[simp] theorem aBt : Tryz.prog.underlying 156 = some (.int .u64) := by kernel_rfl
@[simp] theorem aA0 : eT Tryz.prog 164 = some (false, 1) := by kernel_rfl
@[simp] theorem Zy : eR Tryz.prog 164 = none := by kernel_rfl
@[simp] theorem Zh : cN Tryz.prog 164 = some [.v (.nilFunc)] := by kernel_rfl
@[simp] theorem aAj : eT Tryz.prog 167 = some (false, 1) := by kernel_rfl
@[simp] theorem aAu : eR Tryz.prog 167 = none := by kernel_rfl
@[simp] theorem Zv : cN Tryz.prog 167 = some [.v (.pointer none)] := by kernel_rfl
@[simp] theorem aBc : eT Tryz.prog 174 = some (false, 1) := by kernel_rfl
@[simp] theorem Zl : eR Tryz.prog 174 = none := by kernel_rfl
@[simp] theorem aAl : cN Tryz.prog 174 = some [.v (.nilFunc)] := by kernel_rfl
@[simp] theorem aAd : eT Tryz.prog 187 = some (true, 256) := by kernel_rfl
@[simp] theorem aBq : eR Tryz.prog 187 = none := by kernel_rfl
@[simp] theorem aAe : Ch Tryz.prog 187 = some (256, 1) := by kernel_rfl
@[simp] theorem aA4 : eT Tryz.prog 189 = some (true, 2) := by kernel_rfl
@[simp] theorem aBi : eR Tryz.prog 189 = none := by kernel_rfl
@[simp] theorem Vd : bY Tryz.prog 189 0 = some (0, false, 1) := by kernel_rfl
@[simp] theorem Vl : bY Tryz.prog 189 1 = some (1, false, 1) := by kernel_rfl
@[simp] theorem aAi : jB Tryz.prog 189 = some [(0, 1), (1, 1)] := by kernel_rfl
@[simp] theorem aA9 : cN Tryz.prog 189 = some [.v (.int .u8 0), .v (.int .u8 0)] := by kernel_rfl
@[simp] theorem aBb : eT Tryz.prog 190 = some (true, 32) := by kernel_rfl
@[simp] theorem Zr : eR Tryz.prog 190 = none := by kernel_rfl
@[simp] theorem aAt : Ch Tryz.prog 190 = some (16, 2) := by kernel_rfl
@[simp] theorem Zp : jB Tryz.prog 190 = some [(0, 2), (2, 2), (4, 2), (6, 2), (8, 2), (10, 2), (12, 2), (14, 2), (16, 2), (18, 2), (20, 2), (22, 2), (24, 2), (26, 2), (28, 2), (30, 2)] := by kernel_rfl
@[simp] theorem aBo : cN Tryz.prog 190 = some [.v (.int .u8 0), .v (.int .u8 0), .v (.int .u8 0), .v (.int .u8 0), .v (.int .u8 0), .v (.int .u8 0), .v (.int .u8 0), .v (.int .u8 0), .v (.int .u8 0), .v (.int .u8 0), .v (.int .u8 0), .v (.int .u8 0), .v (.int .u8 0), .v (.int .u8 0), .v (.int .u8 0), .v (.int .u8 0), .v (.int .u8 0), .v (.int .u8 0), .v (.int .u8 0), .v (.int .u8 0), .v (.int .u8 0), .v (.int .u8 0), .v (.int .u8 0), .v (.int .u8 0), .v (.int .u8 0), .v (.int .u8 0), .v (.int .u8 0), .v (.int .u8 0), .v (.int .u8 0), .v (.int .u8 0), .v (.int .u8 0), .v (.int .u8 0)] := by kernel_rfl
@[simp] theorem if9 : Ul Tryz.prog 9 = some false := by kernel_rfl
@[simp] theorem aC9 : Tryz.prog.eqGuardType Tryz.prog.depth 77 = false := by kernel_rfl
theorem Wq (d : Nat) (a0 : Int) (a1 : Int) (a2 : Int) (a3 : Int) (b0 : Int) (b1 : Int) (b2 : Int) (b3 : Int) (w : World) : (Op.equalIn (d + 2) 77 (.agg #[.int .i64 a0, .int .i64 a1, .int .i64 a2, .int .i64 a3]) (.agg #[.int .i64 b0, .int .i64 b1, .int .i64 b2, .int .i64 b3])).run Tryz.prog w = .ok ((a0 == b0) && (a1 == b1) && (a2 == b2) && (a3 == b3)) w := by
 have hS : Tryz.prog.underlying 77 = some (.struct (Tryz.prog.fieldsOf 77)) := by kernel_rfl
 have hp : Tryz.prog.stoodInHeld 77 = false := by kernel_rfl
 rw [show d + 2 = (d + 1) + 1 from rfl, run_equalIn_agg w (d + 1) 77 _ _ hS hp];simp only [Program.fieldsOf, Tryz.underlying77];have ia3 := Tryz.isAgg3;have iz3 := Tryz.sizeOf3;have iu3 := Tryz.underlying3
 go_simp
 by_cases e0 : a0 = b0 <;> by_cases e1 : a1 = b1 <;> by_cases e2 : a2 = b2 <;> by_cases e3 : a3 = b3 <;> simp [e0, e1, e2, e3, xV]
theorem Xx (a0 : Int) (a1 : Int) (a2 : Int) (a3 : Int) (b0 : Int) (b1 : Int) (b2 : Int) (b3 : Int) : Dl Tryz.prog 77 [.v (.int .i64 a0), .v (.int .i64 a1), .v (.int .i64 a2), .v (.int .i64 a3)] [.v (.int .i64 b0), .v (.int .i64 b1), .v (.int .i64 b2), .v (.int .i64 b3)] ((a0 == b0) && (a1 == b1) && (a2 == b2) && (a3 == b3)) :=
 ⟨[.int .i64 a0, .int .i64 a1, .int .i64 a2, .int .i64 a3], [.int .i64 b0, .int .i64 b1, .int .i64 b2, .int .i64 b3], rfl, rfl, fun w => Wq 9998 a0 a1 a2 a3 b0 b1 b2 b3 w⟩
@[simp] theorem aFa (a0 : Int) (a1 : Int) (a2 : Int) (a3 : Int) (b0 : Int) (b1 : Int) (b2 : Int) (b3 : Int) (K : Bool → Prop) : qP Tryz.prog 77 [.v (.int .i64 a0), .v (.int .i64 a1), .v (.int .i64 a2), .v (.int .i64 a3)] [.v (.int .i64 b0), .v (.int .i64 b1), .v (.int .i64 b2), .v (.int .i64 b3)] K = K ((a0 == b0) && (a1 == b1) && (a2 == b2) && (a3 == b3)) := Fx (Xx a0 a1 a2 a3 b0 b1 b2 b3)
end Go.Proofs.YtighdhfgcdjmeaaGreatDoor

