import Derived.Test.YtighdhfgcdjmeaaGreatDoorProg
import Derived.Test.YtighdhfgcdjmeaaGreatDoorVm17
import Derived.Test.YtighdhfgcdjmeaaGreatDoorVmX13
import Derived.WalkKit
import Derived.KernelRfl
namespace Go.Proofs.YtighdhfgcdjmeaaGreatDoor
open Go Go.Vm
set_option linter.all false
set_option maxRecDepth 100000
@[simp] theorem ty1 : eR Tryz.prog 1 = some (false, 1) := by kernel_rfl
@[simp] theorem el1 : eP Tryz.prog 1 = none := by kernel_rfl
@[simp] theorem zr1 : cL Tryz.prog 1 = some [.v (.nilFunc)] := by kernel_rfl
@[simp] theorem ty2 : eR Tryz.prog 2 = some (false, 1) := by kernel_rfl
@[simp] theorem el2 : eP Tryz.prog 2 = none := by kernel_rfl
@[simp] theorem zr2 : cL Tryz.prog 2 = some [.v (.int .i64 0)] := by kernel_rfl
@[simp] theorem ub2 : Tryz.prog.underlying 2 = some (.int .i64) := by kernel_rfl
@[simp] theorem ty3 : eR Tryz.prog 3 = some (false, 1) := by kernel_rfl
@[simp] theorem el3 : eP Tryz.prog 3 = none := by kernel_rfl
@[simp] theorem zr3 : cL Tryz.prog 3 = some [.v (.int .i64 0)] := by kernel_rfl
@[simp] theorem ub3 : Tryz.prog.underlying 3 = some (.int .i64) := by kernel_rfl
@[simp] theorem ty4 : eR Tryz.prog 4 = some (false, 1) := by kernel_rfl
@[simp] theorem el4 : eP Tryz.prog 4 = none := by kernel_rfl
@[simp] theorem zr4 : cL Tryz.prog 4 = some [.v (.bool false)] := by kernel_rfl
@[simp] theorem ub4 : Tryz.prog.underlying 4 = some .bool := by kernel_rfl
@[simp] theorem ty5 : eR Tryz.prog 5 = some (false, 1) := by kernel_rfl
@[simp] theorem el5 : eP Tryz.prog 5 = none := by kernel_rfl
@[simp] theorem zr5 : cL Tryz.prog 5 = some [.v (.int .u8 0)] := by kernel_rfl
@[simp] theorem ub5 : Tryz.prog.underlying 5 = some (.int .u8) := by kernel_rfl
@[simp] theorem ty6 : eR Tryz.prog 6 = some (false, 1) := by kernel_rfl
@[simp] theorem el6 : eP Tryz.prog 6 = none := by kernel_rfl
@[simp] theorem zr6 : cL Tryz.prog 6 = some [.v (.int .u8 0)] := by kernel_rfl
@[simp] theorem ub6 : Tryz.prog.underlying 6 = some (.int .u8) := by kernel_rfl
@[simp] theorem ty7 : eR Tryz.prog 7 = some (true, 4) := by kernel_rfl
@[simp] theorem el7 : eP Tryz.prog 7 = none := by kernel_rfl
@[simp] theorem aBn : bW Tryz.prog 7 0 = some (0, false, 1) := by kernel_rfl
@[simp] theorem aBg : bW Tryz.prog 7 1 = some (1, false, 1) := by kernel_rfl
@[simp] theorem aA8 : bW Tryz.prog 7 2 = some (2, false, 1) := by kernel_rfl
@[simp] theorem aCs : bW Tryz.prog 7 3 = some (3, false, 1) := by kernel_rfl
@[simp] theorem pl7 : iU Tryz.prog 7 = some [(0, 1), (1, 1), (2, 1), (3, 1)] := by kernel_rfl
@[simp] theorem zr7 : cL Tryz.prog 7 = some [.v (.int .i64 0), .v (.int .i64 0), .v (.bool false), .v (.int .u8 0)] := by kernel_rfl
@[simp] theorem ty8 : eR Tryz.prog 8 = some (true, 4) := by kernel_rfl
@[simp] theorem el8 : eP Tryz.prog 8 = none := by kernel_rfl
@[simp] theorem aBf : bW Tryz.prog 8 0 = some (0, false, 1) := by kernel_rfl
@[simp] theorem aA9 : bW Tryz.prog 8 1 = some (1, false, 1) := by kernel_rfl
@[simp] theorem aCp : bW Tryz.prog 8 2 = some (2, false, 1) := by kernel_rfl
@[simp] theorem aCl : bW Tryz.prog 8 3 = some (3, false, 1) := by kernel_rfl
@[simp] theorem pl8 : iU Tryz.prog 8 = some [(0, 1), (1, 1), (2, 1), (3, 1)] := by kernel_rfl
@[simp] theorem zr8 : cL Tryz.prog 8 = some [.v (.int .i64 0), .v (.int .i64 0), .v (.bool false), .v (.int .u8 0)] := by kernel_rfl
@[simp] theorem ty9 : eR Tryz.prog 9 = some (false, 1) := by kernel_rfl
@[simp] theorem el9 : eP Tryz.prog 9 = none := by kernel_rfl
@[simp] theorem zr9 : cL Tryz.prog 9 = some [.v (.string ⟨#[]⟩)] := by kernel_rfl
@[simp] theorem ub9 : Tryz.prog.underlying 9 = some .string := by kernel_rfl
@[simp] theorem aC2 : eR Tryz.prog 20 = some (false, 1) := by kernel_rfl
@[simp] theorem aD2 : eP Tryz.prog 20 = none := by kernel_rfl
@[simp] theorem aFk : cL Tryz.prog 20 = some [.v (.nilIface)] := by kernel_rfl
@[simp] theorem aG4 : eR Tryz.prog 21 = some (false, 1) := by kernel_rfl
@[simp] theorem aDc : eP Tryz.prog 21 = none := by kernel_rfl
@[simp] theorem aHf : cL Tryz.prog 21 = some [.v (.int .i32 0)] := by kernel_rfl
@[simp] theorem aE5 : Tryz.prog.underlying 21 = some (.int .i32) := by kernel_rfl
@[simp] theorem aG3 : eR Tryz.prog 22 = some (false, 1) := by kernel_rfl
@[simp] theorem aG7 : eP Tryz.prog 22 = some (73, 14, 176, #[.int .i64 0, .int .i64 0, .string ⟨#[]⟩, .string ⟨#[]⟩, .string ⟨#[]⟩, .slice none 0 0, .slice none 0 0, .slice none 0 0, .int .i64 0, .int .i64 0, .int .i64 0, .int .i64 0, .bool false, .bool false]) := by kernel_rfl
@[simp] theorem aFs : Tryz.prog.underlying 22 = some (.slice 73) := by kernel_rfl
@[simp] theorem aEh : cL Tryz.prog 22 = some [.sl true []] := by kernel_rfl
@[simp] theorem aC3 : eR Tryz.prog 23 = some (false, 1) := by kernel_rfl
@[simp] theorem aHh : eP Tryz.prog 23 = some (79, 5, 40, #[.int .i64 0, .int .i64 0, .int .i64 0, .int .i64 0, .int .i64 0]) := by kernel_rfl
@[simp] theorem aF2 : Tryz.prog.underlying 23 = some (.slice 79) := by kernel_rfl
@[simp] theorem aEi : cL Tryz.prog 23 = some [.sl true []] := by kernel_rfl
@[simp] theorem aFi : eR Tryz.prog 25 = some (false, 1) := by kernel_rfl
@[simp] theorem aD3 : eP Tryz.prog 25 = some (9, 1, 16, #[.string ⟨#[]⟩]) := by kernel_rfl
@[simp] theorem aDd : Tryz.prog.underlying 25 = some (.slice 9) := by kernel_rfl
@[simp] theorem aE3 : cL Tryz.prog 25 = some [.sl true []] := by kernel_rfl
@[simp] theorem aDv : eR Tryz.prog 26 = some (false, 1) := by kernel_rfl
@[simp] theorem Zh : eP Tryz.prog 26 = some (90, 2, 32, #[.string ⟨#[]⟩, .string ⟨#[]⟩]) := by kernel_rfl
@[simp] theorem aF3 : Tryz.prog.underlying 26 = some (.slice 90) := by kernel_rfl
@[simp] theorem aEg : cL Tryz.prog 26 = some [.sl true []] := by kernel_rfl
@[simp] theorem aGs : eR Tryz.prog 27 = some (false, 1) := by kernel_rfl
@[simp] theorem aFx : eP Tryz.prog 27 = some (90, 2, 32, #[.string ⟨#[]⟩, .string ⟨#[]⟩]) := by kernel_rfl
@[simp] theorem aEd : Tryz.prog.underlying 27 = some (.slice 90) := by kernel_rfl
@[simp] theorem aG6 : cL Tryz.prog 27 = some [.sl true []] := by kernel_rfl
@[simp] theorem aGx : eR Tryz.prog 28 = some (false, 1) := by kernel_rfl
@[simp] theorem Ye : eP Tryz.prog 28 = some (62, 2, 24, #[.string ⟨#[]⟩, .int .i64 0]) := by kernel_rfl
@[simp] theorem aEx : Tryz.prog.underlying 28 = some (.slice 62) := by kernel_rfl
@[simp] theorem aC5 : cL Tryz.prog 28 = some [.sl true []] := by kernel_rfl
@[simp] theorem aDs : eR Tryz.prog 29 = some (false, 1) := by kernel_rfl
@[simp] theorem aC8 : eP Tryz.prog 29 = some (62, 2, 24, #[.string ⟨#[]⟩, .int .i64 0]) := by kernel_rfl
@[simp] theorem aE9 : Tryz.prog.underlying 29 = some (.slice 62) := by kernel_rfl
@[simp] theorem aHn : cL Tryz.prog 29 = some [.sl true []] := by kernel_rfl
@[simp] theorem aFr : eR Tryz.prog 30 = some (false, 1) := by kernel_rfl
@[simp] theorem aFh : eP Tryz.prog 30 = some (32, 8, 144, #[.int .i64 0, .int .i64 0, .string ⟨#[]⟩, .string ⟨#[]⟩, .slice none 0 0, .slice none 0 0, .slice none 0 0, .slice none 0 0]) := by kernel_rfl
@[simp] theorem aHm : Tryz.prog.underlying 30 = some (.slice 32) := by kernel_rfl
@[simp] theorem aF9 : cL Tryz.prog 30 = some [.sl true []] := by kernel_rfl
@[simp] theorem aD4 : eR Tryz.prog 32 = some (true, 8) := by kernel_rfl
@[simp] theorem aG0 : eP Tryz.prog 32 = none := by kernel_rfl
@[simp] theorem Xg : bW Tryz.prog 32 0 = some (0, false, 1) := by kernel_rfl
@[simp] theorem Xn : bW Tryz.prog 32 1 = some (1, false, 1) := by kernel_rfl
@[simp] theorem Zf : bW Tryz.prog 32 2 = some (2, false, 1) := by kernel_rfl
@[simp] theorem Yw : bW Tryz.prog 32 3 = some (3, false, 1) := by kernel_rfl
@[simp] theorem Xk : bW Tryz.prog 32 4 = some (4, false, 1) := by kernel_rfl
@[simp] theorem Yg : bW Tryz.prog 32 5 = some (5, false, 1) := by kernel_rfl
@[simp] theorem Xp : bW Tryz.prog 32 6 = some (6, false, 1) := by kernel_rfl
@[simp] theorem Zp : bW Tryz.prog 32 7 = some (7, false, 1) := by kernel_rfl
@[simp] theorem aGn : iU Tryz.prog 32 = some [(0, 1), (1, 1), (2, 1), (3, 1), (4, 1), (5, 1), (6, 1), (7, 1)] := by kernel_rfl
@[simp] theorem aD5 : cL Tryz.prog 32 = some [.v (.int .i64 0), .v (.int .i64 0), .v (.string ⟨#[]⟩), .v (.string ⟨#[]⟩), .sl true [], .sl true [], .sl true [], .sl true []] := by kernel_rfl
@[simp] theorem aE6 : eR Tryz.prog 35 = some (false, 1) := by kernel_rfl
@[simp] theorem aFg : eP Tryz.prog 35 = some (70, 2, 32, #[.string ⟨#[]⟩, .string ⟨#[]⟩]) := by kernel_rfl
@[simp] theorem aC6 : Tryz.prog.underlying 35 = some (.slice 70) := by kernel_rfl
@[simp] theorem aD6 : cL Tryz.prog 35 = some [.sl true []] := by kernel_rfl
@[simp] theorem aGm : eR Tryz.prog 36 = some (false, 1) := by kernel_rfl
@[simp] theorem aF5 : eP Tryz.prog 36 = some (91, 2, 24, #[.string ⟨#[]⟩, .int .i64 0]) := by kernel_rfl
@[simp] theorem aD8 : Tryz.prog.underlying 36 = some (.slice 91) := by kernel_rfl
@[simp] theorem aGj : cL Tryz.prog 36 = some [.sl true []] := by kernel_rfl
@[simp] theorem aEs : eR Tryz.prog 38 = some (true, 6) := by kernel_rfl
@[simp] theorem aDw : eP Tryz.prog 38 = none := by kernel_rfl
@[simp] theorem Xz : bW Tryz.prog 38 0 = some (0, false, 1) := by kernel_rfl
@[simp] theorem Yo : bW Tryz.prog 38 1 = some (1, false, 1) := by kernel_rfl
@[simp] theorem aAa : bW Tryz.prog 38 2 = some (2, false, 1) := by kernel_rfl
@[simp] theorem Zx : bW Tryz.prog 38 3 = some (3, false, 1) := by kernel_rfl
@[simp] theorem Xl : bW Tryz.prog 38 4 = some (4, false, 1) := by kernel_rfl
@[simp] theorem Yl : bW Tryz.prog 38 5 = some (5, false, 1) := by kernel_rfl
@[simp] theorem aD7 : iU Tryz.prog 38 = some [(0, 1), (1, 1), (2, 1), (3, 1), (4, 1), (5, 1)] := by kernel_rfl
@[simp] theorem aDf : cL Tryz.prog 38 = some [.v (.int .i64 0), .v (.int .i64 0), .v (.int .i64 0), .v (.int .i64 0), .v (.bool false), .v (.bool false)] := by kernel_rfl
@[simp] theorem aC7 : eR Tryz.prog 39 = some (false, 1) := by kernel_rfl
@[simp] theorem aHd : eP Tryz.prog 39 = some (41, 14, 192, #[.int .i64 0, .string ⟨#[]⟩, .string ⟨#[]⟩, .string ⟨#[]⟩, .slice none 0 0, .slice none 0 0, .slice none 0 0, .int .i64 0, .int .i64 0, .int .i64 0, .int .i64 0, .bool false, .bool false, .slice none 0 0]) := by kernel_rfl
@[simp] theorem aEt : Tryz.prog.underlying 39 = some (.slice 41) := by kernel_rfl
@[simp] theorem aFc : cL Tryz.prog 39 = some [.sl true []] := by kernel_rfl
@[simp] theorem aE1 : eR Tryz.prog 41 = some (true, 14) := by kernel_rfl
@[simp] theorem aEw : eP Tryz.prog 41 = none := by kernel_rfl
@[simp] theorem Xu : bW Tryz.prog 41 0 = some (0, false, 1) := by kernel_rfl
@[simp] theorem Zc : bW Tryz.prog 41 1 = some (1, false, 1) := by kernel_rfl
@[simp] theorem Zu : bW Tryz.prog 41 2 = some (2, false, 1) := by kernel_rfl
@[simp] theorem Yv : bW Tryz.prog 41 3 = some (3, false, 1) := by kernel_rfl
@[simp] theorem Za : bW Tryz.prog 41 4 = some (4, false, 1) := by kernel_rfl
@[simp] theorem Yk : bW Tryz.prog 41 5 = some (5, false, 1) := by kernel_rfl
@[simp] theorem Yr : bW Tryz.prog 41 6 = some (6, false, 1) := by kernel_rfl
@[simp] theorem Yb : bW Tryz.prog 41 7 = some (7, true, 6) := by kernel_rfl
@[simp] theorem Zi : bW Tryz.prog 41 8 = some (13, false, 1) := by kernel_rfl
@[simp] theorem aG9 : iU Tryz.prog 41 = some [(0, 1), (1, 1), (2, 1), (3, 1), (4, 1), (5, 1), (6, 1), (7, 6), (13, 1)] := by kernel_rfl
@[simp] theorem aGt : cL Tryz.prog 41 = some [.v (.int .i64 0), .v (.string ⟨#[]⟩), .v (.string ⟨#[]⟩), .v (.string ⟨#[]⟩), .sl true [], .sl true [], .sl true [], .v (.int .i64 0), .v (.int .i64 0), .v (.int .i64 0), .v (.int .i64 0), .v (.bool false), .v (.bool false), .sl true []] := by kernel_rfl
@[simp] theorem aG5 : eR Tryz.prog 43 = some (false, 1) := by kernel_rfl
@[simp] theorem Xt : eP Tryz.prog 43 = some (66, 5, 40, #[.int .i64 0, .int .i64 0, .int .i64 0, .int .i64 0, .int .i64 0]) := by kernel_rfl
@[simp] theorem aHa : Tryz.prog.underlying 43 = some (.slice 66) := by kernel_rfl
@[simp] theorem aF4 : cL Tryz.prog 43 = some [.sl true []] := by kernel_rfl
@[simp] theorem aF0 : eR Tryz.prog 44 = some (false, 1) := by kernel_rfl
@[simp] theorem aE7 : eP Tryz.prog 44 = some (66, 5, 40, #[.int .i64 0, .int .i64 0, .int .i64 0, .int .i64 0, .int .i64 0]) := by kernel_rfl
@[simp] theorem aGf : Tryz.prog.underlying 44 = some (.slice 66) := by kernel_rfl
@[simp] theorem aEf : cL Tryz.prog 44 = some [.sl true []] := by kernel_rfl
@[simp] theorem aGo : eR Tryz.prog 47 = some (false, 1) := by kernel_rfl
@[simp] theorem aHb : eP Tryz.prog 47 = none := by kernel_rfl
@[simp] theorem aFw : cL Tryz.prog 47 = some [.v (.int .u64 0)] := by kernel_rfl
@[simp] theorem aF8 : Tryz.prog.underlying 47 = some (.int .u64) := by kernel_rfl
@[simp] theorem aFz : eR Tryz.prog 51 = some (false, 1) := by kernel_rfl
@[simp] theorem aHl : eP Tryz.prog 51 = some (53, 8, 144, #[.int .i64 0, .int .i64 0, .string ⟨#[]⟩, .string ⟨#[]⟩, .slice none 0 0, .slice none 0 0, .slice none 0 0, .slice none 0 0]) := by kernel_rfl
@[simp] theorem aGz : Tryz.prog.underlying 51 = some (.slice 53) := by kernel_rfl
@[simp] theorem aEv : cL Tryz.prog 51 = some [.sl true []] := by kernel_rfl
@[simp] theorem aGq : eR Tryz.prog 53 = some (true, 8) := by kernel_rfl
@[simp] theorem aDh : eP Tryz.prog 53 = none := by kernel_rfl
@[simp] theorem Xx : bW Tryz.prog 53 0 = some (0, false, 1) := by kernel_rfl
@[simp] theorem Yc : bW Tryz.prog 53 1 = some (1, false, 1) := by kernel_rfl
@[simp] theorem Yu : bW Tryz.prog 53 2 = some (2, false, 1) := by kernel_rfl
@[simp] theorem Xq : bW Tryz.prog 53 3 = some (3, false, 1) := by kernel_rfl
@[simp] theorem aAc : bW Tryz.prog 53 4 = some (4, false, 1) := by kernel_rfl
@[simp] theorem Zj : bW Tryz.prog 53 5 = some (5, false, 1) := by kernel_rfl
@[simp] theorem Zw : bW Tryz.prog 53 6 = some (6, false, 1) := by kernel_rfl
@[simp] theorem Xo : bW Tryz.prog 53 7 = some (7, false, 1) := by kernel_rfl
@[simp] theorem aHi : iU Tryz.prog 53 = some [(0, 1), (1, 1), (2, 1), (3, 1), (4, 1), (5, 1), (6, 1), (7, 1)] := by kernel_rfl
@[simp] theorem aDn : cL Tryz.prog 53 = some [.v (.int .i64 0), .v (.int .i64 0), .v (.string ⟨#[]⟩), .v (.string ⟨#[]⟩), .sl true [], .sl true [], .sl true [], .sl true []] := by kernel_rfl
@[simp] theorem aDy : eR Tryz.prog 62 = some (true, 2) := by kernel_rfl
@[simp] theorem aDz : eP Tryz.prog 62 = none := by kernel_rfl
@[simp] theorem Yx : bW Tryz.prog 62 0 = some (0, false, 1) := by kernel_rfl
@[simp] theorem Zy : bW Tryz.prog 62 1 = some (1, false, 1) := by kernel_rfl
@[simp] theorem aEo : iU Tryz.prog 62 = some [(0, 1), (1, 1)] := by kernel_rfl
@[simp] theorem aFq : cL Tryz.prog 62 = some [.v (.string ⟨#[]⟩), .v (.int .i64 0)] := by kernel_rfl
@[simp] theorem aEz : eR Tryz.prog 64 = some (true, 4) := by kernel_rfl
@[simp] theorem aDb : eP Tryz.prog 64 = none := by kernel_rfl
@[simp] theorem aAf : bW Tryz.prog 64 0 = some (0, false, 1) := by kernel_rfl
@[simp] theorem Zt : bW Tryz.prog 64 1 = some (1, false, 1) := by kernel_rfl
@[simp] theorem Zv : bW Tryz.prog 64 2 = some (2, false, 1) := by kernel_rfl
@[simp] theorem Xw : bW Tryz.prog 64 3 = some (3, false, 1) := by kernel_rfl
@[simp] theorem aF1 : iU Tryz.prog 64 = some [(0, 1), (1, 1), (2, 1), (3, 1)] := by kernel_rfl
@[simp] theorem aFb : cL Tryz.prog 64 = some [.v (.int .i64 0), .v (.int .i64 0), .v (.int .i64 0), .v (.int .i64 0)] := by kernel_rfl
@[simp] theorem aDr : eR Tryz.prog 66 = some (true, 5) := by kernel_rfl
@[simp] theorem aFn : eP Tryz.prog 66 = none := by kernel_rfl
@[simp] theorem aAj : bW Tryz.prog 66 0 = some (0, false, 1) := by kernel_rfl
@[simp] theorem aAd : bW Tryz.prog 66 1 = some (1, true, 4) := by kernel_rfl
@[simp] theorem aFe : iU Tryz.prog 66 = some [(0, 1), (1, 4)] := by kernel_rfl
@[simp] theorem aFj : cL Tryz.prog 66 = some [.v (.int .i64 0), .v (.int .i64 0), .v (.int .i64 0), .v (.int .i64 0), .v (.int .i64 0)] := by kernel_rfl
@[simp] theorem aDl : eR Tryz.prog 70 = some (true, 2) := by kernel_rfl
@[simp] theorem aGg : eP Tryz.prog 70 = none := by kernel_rfl
@[simp] theorem Yi : bW Tryz.prog 70 0 = some (0, false, 1) := by kernel_rfl
@[simp] theorem Yq : bW Tryz.prog 70 1 = some (1, false, 1) := by kernel_rfl
@[simp] theorem aC1 : iU Tryz.prog 70 = some [(0, 1), (1, 1)] := by kernel_rfl
@[simp] theorem aFf : cL Tryz.prog 70 = some [.v (.string ⟨#[]⟩), .v (.string ⟨#[]⟩)] := by kernel_rfl
@[simp] theorem aGi : eR Tryz.prog 73 = some (true, 14) := by kernel_rfl
@[simp] theorem aDi : eP Tryz.prog 73 = none := by kernel_rfl
@[simp] theorem Zo : bW Tryz.prog 73 0 = some (0, false, 1) := by kernel_rfl
@[simp] theorem Yy : bW Tryz.prog 73 1 = some (1, false, 1) := by kernel_rfl
@[simp] theorem Xh : bW Tryz.prog 73 2 = some (2, false, 1) := by kernel_rfl
@[simp] theorem aAl : bW Tryz.prog 73 3 = some (3, false, 1) := by kernel_rfl
@[simp] theorem Xj : bW Tryz.prog 73 4 = some (4, false, 1) := by kernel_rfl
@[simp] theorem Ym : bW Tryz.prog 73 5 = some (5, false, 1) := by kernel_rfl
@[simp] theorem Zq : bW Tryz.prog 73 6 = some (6, false, 1) := by kernel_rfl
@[simp] theorem Zn : bW Tryz.prog 73 7 = some (7, false, 1) := by kernel_rfl
@[simp] theorem Yz : bW Tryz.prog 73 8 = some (8, true, 6) := by kernel_rfl
@[simp] theorem aEn : iU Tryz.prog 73 = some [(0, 1), (1, 1), (2, 1), (3, 1), (4, 1), (5, 1), (6, 1), (7, 1), (8, 6)] := by kernel_rfl
@[simp] theorem aG8 : cL Tryz.prog 73 = some [.v (.int .i64 0), .v (.int .i64 0), .v (.string ⟨#[]⟩), .v (.string ⟨#[]⟩), .v (.string ⟨#[]⟩), .sl true [], .sl true [], .sl true [], .v (.int .i64 0), .v (.int .i64 0), .v (.int .i64 0), .v (.int .i64 0), .v (.bool false), .v (.bool false)] := by kernel_rfl
@[simp] theorem aFu : eR Tryz.prog 77 = some (true, 4) := by kernel_rfl
@[simp] theorem aEc : eP Tryz.prog 77 = none := by kernel_rfl
@[simp] theorem aAk : bW Tryz.prog 77 0 = some (0, false, 1) := by kernel_rfl
@[simp] theorem Ze : bW Tryz.prog 77 1 = some (1, false, 1) := by kernel_rfl
@[simp] theorem Zs : bW Tryz.prog 77 2 = some (2, false, 1) := by kernel_rfl
@[simp] theorem aAb : bW Tryz.prog 77 3 = some (3, false, 1) := by kernel_rfl
@[simp] theorem aEk : iU Tryz.prog 77 = some [(0, 1), (1, 1), (2, 1), (3, 1)] := by kernel_rfl
@[simp] theorem aEm : cL Tryz.prog 77 = some [.v (.int .i64 0), .v (.int .i64 0), .v (.int .i64 0), .v (.int .i64 0)] := by kernel_rfl
@[simp] theorem aDp : eR Tryz.prog 79 = some (true, 5) := by kernel_rfl
@[simp] theorem aDx : eP Tryz.prog 79 = none := by kernel_rfl
@[simp] theorem Yn : bW Tryz.prog 79 0 = some (0, false, 1) := by kernel_rfl
@[simp] theorem Yh : bW Tryz.prog 79 1 = some (1, true, 4) := by kernel_rfl
@[simp] theorem aFy : iU Tryz.prog 79 = some [(0, 1), (1, 4)] := by kernel_rfl
@[simp] theorem aEy : cL Tryz.prog 79 = some [.v (.int .i64 0), .v (.int .i64 0), .v (.int .i64 0), .v (.int .i64 0), .v (.int .i64 0)] := by kernel_rfl
@[simp] theorem aGu : eR Tryz.prog 83 = some (false, 1) := by kernel_rfl
@[simp] theorem aG1 : eP Tryz.prog 83 = some (84, 1, 24, #[.slice none 0 0]) := by kernel_rfl
@[simp] theorem aFp : Tryz.prog.underlying 83 = some (.slice 84) := by kernel_rfl
@[simp] theorem aGw : cL Tryz.prog 83 = some [.sl true []] := by kernel_rfl
@[simp] theorem aG2 : eR Tryz.prog 84 = some (false, 1) := by kernel_rfl
@[simp] theorem aDg : eP Tryz.prog 84 = some (5, 1, 1, #[.int .u8 0]) := by kernel_rfl
@[simp] theorem aD1 : Tryz.prog.underlying 84 = some (.slice 5) := by kernel_rfl
@[simp] theorem aFa : cL Tryz.prog 84 = some [.sl true []] := by kernel_rfl
@[simp] theorem aD9 : eR Tryz.prog 88 = some (false, 1) := by kernel_rfl
@[simp] theorem aD0 : eP Tryz.prog 88 = none := by kernel_rfl
@[simp] theorem aDu : cL Tryz.prog 88 = some [.v (.nilFunc)] := by kernel_rfl
@[simp] theorem aEj : eR Tryz.prog 90 = some (true, 2) := by kernel_rfl
@[simp] theorem aHe : eP Tryz.prog 90 = none := by kernel_rfl
@[simp] theorem Zd : bW Tryz.prog 90 0 = some (0, false, 1) := by kernel_rfl
@[simp] theorem Yj : bW Tryz.prog 90 1 = some (1, false, 1) := by kernel_rfl
@[simp] theorem aDj : iU Tryz.prog 90 = some [(0, 1), (1, 1)] := by kernel_rfl
@[simp] theorem aFd : cL Tryz.prog 90 = some [.v (.string ⟨#[]⟩), .v (.string ⟨#[]⟩)] := by kernel_rfl
@[simp] theorem aHg : eR Tryz.prog 91 = some (true, 2) := by kernel_rfl
@[simp] theorem aFv : eP Tryz.prog 91 = none := by kernel_rfl
@[simp] theorem aAi : bW Tryz.prog 91 0 = some (0, false, 1) := by kernel_rfl
@[simp] theorem Zz : bW Tryz.prog 91 1 = some (1, false, 1) := by kernel_rfl
@[simp] theorem aGd : iU Tryz.prog 91 = some [(0, 1), (1, 1)] := by kernel_rfl
@[simp] theorem aGe : cL Tryz.prog 91 = some [.v (.string ⟨#[]⟩), .v (.int .i64 0)] := by kernel_rfl
@[simp] theorem aHc : eR Tryz.prog 93 = some (false, 1) := by kernel_rfl
@[simp] theorem aHo : eP Tryz.prog 93 = some (3, 1, 8, #[.int .i64 0]) := by kernel_rfl
@[simp] theorem aDa : Tryz.prog.underlying 93 = some (.slice 3) := by kernel_rfl
@[simp] theorem aFo : cL Tryz.prog 93 = some [.sl true []] := by kernel_rfl
@[simp] theorem aEp : eR Tryz.prog 95 = some (true, 2) := by kernel_rfl
@[simp] theorem aE0 : eP Tryz.prog 95 = none := by kernel_rfl
@[simp] theorem Yp : bW Tryz.prog 95 0 = some (0, false, 1) := by kernel_rfl
@[simp] theorem Yt : bW Tryz.prog 95 1 = some (1, false, 1) := by kernel_rfl
@[simp] theorem aGp : iU Tryz.prog 95 = some [(0, 1), (1, 1)] := by kernel_rfl
@[simp] theorem aGk : cL Tryz.prog 95 = some [.sl true [], .sl true []] := by kernel_rfl
@[simp] theorem aA7 : eR Tryz.prog 101 = some (false, 1) := by kernel_rfl
@[simp] theorem aBi : eP Tryz.prog 101 = none := by kernel_rfl
@[simp] theorem aBv : cL Tryz.prog 101 = some [.v (.nilFunc)] := by kernel_rfl
@[simp] theorem aB1 : eR Tryz.prog 105 = some (false, 1) := by kernel_rfl
@[simp] theorem aBu : eP Tryz.prog 105 = none := by kernel_rfl
@[simp] theorem aAq : cL Tryz.prog 105 = some [.v (.pointer none)] := by kernel_rfl
@[simp] theorem aCv : Tryz.prog.underlying 105 = some (.pointer 107) := by kernel_rfl
@[simp] theorem aBw : eR Tryz.prog 107 = some (true, 2) := by kernel_rfl
@[simp] theorem aAs : eP Tryz.prog 107 = none := by kernel_rfl
@[simp] theorem Ww : bW Tryz.prog 107 0 = some (0, false, 1) := by kernel_rfl
@[simp] theorem Wu : bW Tryz.prog 107 1 = some (1, false, 1) := by kernel_rfl
@[simp] theorem aBx : iU Tryz.prog 107 = some [(0, 1), (1, 1)] := by kernel_rfl
@[simp] theorem aAy : cL Tryz.prog 107 = some [.v (.pointer none), .sl true []] := by kernel_rfl
@[simp] theorem aBy : eR Tryz.prog 109 = some (false, 1) := by kernel_rfl
@[simp] theorem aBd : eP Tryz.prog 109 = none := by kernel_rfl
@[simp] theorem aCy : cL Tryz.prog 109 = some [.v (.nilIface)] := by kernel_rfl
@[simp] theorem aA4 : eR Tryz.prog 142 = some (true, 256) := by kernel_rfl
@[simp] theorem aCr : eP Tryz.prog 142 = none := by kernel_rfl
@[simp] theorem aCc : Da Tryz.prog 142 = some (256, 1) := by kernel_rfl
@[simp] theorem aCt : eR Tryz.prog 146 = some (false, 1) := by kernel_rfl
@[simp] theorem aCo : eP Tryz.prog 146 = none := by kernel_rfl
@[simp] theorem aCj : cL Tryz.prog 146 = some [.v (.pointer none)] := by kernel_rfl
@[simp] theorem aB0 : Tryz.prog.underlying 146 = some (.pointer 142) := by kernel_rfl
@[simp] theorem aBc : eR Tryz.prog 147 = some (false, 1) := by kernel_rfl
@[simp] theorem aAv : eP Tryz.prog 147 = none := by kernel_rfl
@[simp] theorem aAu : cL Tryz.prog 147 = some [.v (.pointer none)] := by kernel_rfl
@[simp] theorem aA2 : Tryz.prog.underlying 147 = some (.pointer 5) := by kernel_rfl
@[simp] theorem aCg : eR Tryz.prog 150 = some (false, 1) := by kernel_rfl
@[simp] theorem aA3 : eP Tryz.prog 150 = none := by kernel_rfl
@[simp] theorem aB7 : cL Tryz.prog 150 = some [.v (.nilFunc)] := by kernel_rfl
@[simp] theorem aBk : eR Tryz.prog 153 = some (false, 1) := by kernel_rfl
@[simp] theorem aB3 : eP Tryz.prog 153 = none := by kernel_rfl
@[simp] theorem aBj : cL Tryz.prog 153 = some [.v (.int .u32 0)] := by kernel_rfl
@[simp] theorem aB4 : Tryz.prog.underlying 153 = some (.int .u32) := by kernel_rfl
@[simp] theorem aCi : eR Tryz.prog 156 = some (false, 1) := by kernel_rfl
@[simp] theorem aCq : eP Tryz.prog 156 = none := by kernel_rfl
@[simp] theorem aCd : cL Tryz.prog 156 = some [.v (.int .u64 0)] := by kernel_rfl
@[simp] theorem aBh : Tryz.prog.underlying 156 = some (.int .u64) := by kernel_rfl
@[simp] theorem aCa : eR Tryz.prog 164 = some (false, 1) := by kernel_rfl
@[simp] theorem aBt : eP Tryz.prog 164 = none := by kernel_rfl
@[simp] theorem aCh : cL Tryz.prog 164 = some [.v (.nilFunc)] := by kernel_rfl
@[simp] theorem aAz : eR Tryz.prog 167 = some (false, 1) := by kernel_rfl
@[simp] theorem aBs : eP Tryz.prog 167 = none := by kernel_rfl
@[simp] theorem aBq : cL Tryz.prog 167 = some [.v (.pointer none)] := by kernel_rfl
@[simp] theorem aCk : eR Tryz.prog 174 = some (false, 1) := by kernel_rfl
@[simp] theorem aCu : eP Tryz.prog 174 = none := by kernel_rfl
@[simp] theorem aBe : cL Tryz.prog 174 = some [.v (.nilFunc)] := by kernel_rfl
@[simp] theorem aAr : eR Tryz.prog 187 = some (true, 256) := by kernel_rfl
@[simp] theorem aAt : eP Tryz.prog 187 = none := by kernel_rfl
@[simp] theorem aBa : Da Tryz.prog 187 = some (256, 1) := by kernel_rfl
@[simp] theorem aBl : eR Tryz.prog 189 = some (true, 2) := by kernel_rfl
@[simp] theorem aA6 : eP Tryz.prog 189 = none := by kernel_rfl
@[simp] theorem Wv : bW Tryz.prog 189 0 = some (0, false, 1) := by kernel_rfl
@[simp] theorem Xd : bW Tryz.prog 189 1 = some (1, false, 1) := by kernel_rfl
@[simp] theorem aCe : iU Tryz.prog 189 = some [(0, 1), (1, 1)] := by kernel_rfl
@[simp] theorem aB2 : cL Tryz.prog 189 = some [.v (.int .u8 0), .v (.int .u8 0)] := by kernel_rfl
@[simp] theorem aAx : eR Tryz.prog 190 = some (true, 32) := by kernel_rfl
@[simp] theorem aB6 : eP Tryz.prog 190 = none := by kernel_rfl
@[simp] theorem aA5 : Da Tryz.prog 190 = some (16, 2) := by kernel_rfl
@[simp] theorem aCf : iU Tryz.prog 190 = some [(0, 2), (2, 2), (4, 2), (6, 2), (8, 2), (10, 2), (12, 2), (14, 2), (16, 2), (18, 2), (20, 2), (22, 2), (24, 2), (26, 2), (28, 2), (30, 2)] := by kernel_rfl
@[simp] theorem aA1 : cL Tryz.prog 190 = some [.v (.int .u8 0), .v (.int .u8 0), .v (.int .u8 0), .v (.int .u8 0), .v (.int .u8 0), .v (.int .u8 0), .v (.int .u8 0), .v (.int .u8 0), .v (.int .u8 0), .v (.int .u8 0), .v (.int .u8 0), .v (.int .u8 0), .v (.int .u8 0), .v (.int .u8 0), .v (.int .u8 0), .v (.int .u8 0), .v (.int .u8 0), .v (.int .u8 0), .v (.int .u8 0), .v (.int .u8 0), .v (.int .u8 0), .v (.int .u8 0), .v (.int .u8 0), .v (.int .u8 0), .v (.int .u8 0), .v (.int .u8 0), .v (.int .u8 0), .v (.int .u8 0), .v (.int .u8 0), .v (.int .u8 0), .v (.int .u8 0), .v (.int .u8 0)] := by kernel_rfl
@[simp] theorem if9 : Wj Tryz.prog 9 = some false := by kernel_rfl
@[simp] theorem aEu : Tryz.prog.eqGuardType Tryz.prog.depth 77 = false := by kernel_rfl
theorem aAe (d : Nat) (a0 : Int) (a1 : Int) (a2 : Int) (a3 : Int) (b0 : Int) (b1 : Int) (b2 : Int) (b3 : Int) (w : World) : (Op.equalIn (d + 2) 77 (.agg #[.int .i64 a0, .int .i64 a1, .int .i64 a2, .int .i64 a3]) (.agg #[.int .i64 b0, .int .i64 b1, .int .i64 b2, .int .i64 b3])).run Tryz.prog w = .ok ((a0 == b0) && (a1 == b1) && (a2 == b2) && (a3 == b3)) w := by
 have hS : Tryz.prog.underlying 77 = some (.struct (Tryz.prog.fieldsOf 77)) := by kernel_rfl
 have hp : Tryz.prog.stoodInHeld 77 = false := by kernel_rfl
 rw [show d + 2 = (d + 1) + 1 from rfl, run_equalIn_agg w (d + 1) 77 _ _ hS hp];simp only [Program.fieldsOf, Tryz.underlying77];have ia3 := Tryz.isAgg3;have iz3 := Tryz.sizeOf3;have iu3 := Tryz.underlying3
 go_simp
 by_cases e0 : a0 = b0 <;> by_cases e1 : a1 = b1 <;> by_cases e2 : a2 = b2 <;> by_cases e3 : a3 = b3 <;> simp [e0, e1, e2, e3, Ak]
theorem aAm (a0 : Int) (a1 : Int) (a2 : Int) (a3 : Int) (b0 : Int) (b1 : Int) (b2 : Int) (b3 : Int) : Dy Tryz.prog 77 [.v (.int .i64 a0), .v (.int .i64 a1), .v (.int .i64 a2), .v (.int .i64 a3)] [.v (.int .i64 b0), .v (.int .i64 b1), .v (.int .i64 b2), .v (.int .i64 b3)] ((a0 == b0) && (a1 == b1) && (a2 == b2) && (a3 == b3)) :=
 ⟨[.int .i64 a0, .int .i64 a1, .int .i64 a2, .int .i64 a3], [.int .i64 b0, .int .i64 b1, .int .i64 b2, .int .i64 b3], rfl, rfl, fun w => aAe 9998 a0 a1 a2 a3 b0 b1 b2 b3 w⟩
@[simp] theorem aF6 (a0 : Int) (a1 : Int) (a2 : Int) (a3 : Int) (b0 : Int) (b1 : Int) (b2 : Int) (b3 : Int) (K : Bool → Prop) : qN Tryz.prog 77 [.v (.int .i64 a0), .v (.int .i64 a1), .v (.int .i64 a2), .v (.int .i64 a3)] [.v (.int .i64 b0), .v (.int .i64 b1), .v (.int .i64 b2), .v (.int .i64 b3)] K = K ((a0 == b0) && (a1 == b1) && (a2 == b2) && (a3 == b3)) := Fo (aAm a0 a1 a2 a3 b0 b1 b2 b3)
end Go.Proofs.YtighdhfgcdjmeaaGreatDoor

