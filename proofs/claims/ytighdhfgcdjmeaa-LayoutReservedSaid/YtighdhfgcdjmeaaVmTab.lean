import Derived.Test.YtighdhfgcdjmeaaProg
import Derived.Test.YtighdhfgcdjmeaaVm17
import Derived.Test.YtighdhfgcdjmeaaVmX13
import Derived.WalkKit
import Derived.KernelRfl
namespace Go.Proofs.Ytighdhfgcdjmeaa
open Go Go.Vm
set_option linter.all false
set_option maxRecDepth 100000
@[simp] theorem ty1 : fN Try.prog 1 = some (false, 1) := by kernel_rfl
@[simp] theorem el1 : fJ Try.prog 1 = none := by kernel_rfl
@[simp] theorem zr1 : cX Try.prog 1 = some [.v (.nilFunc)] := by kernel_rfl
@[simp] theorem ty2 : fN Try.prog 2 = some (false, 1) := by kernel_rfl
@[simp] theorem el2 : fJ Try.prog 2 = none := by kernel_rfl
@[simp] theorem zr2 : cX Try.prog 2 = some [.v (.int .i64 0)] := by kernel_rfl
@[simp] theorem ub2 : Try.prog.underlying 2 = some (.int .i64) := by kernel_rfl
@[simp] theorem ty3 : fN Try.prog 3 = some (false, 1) := by kernel_rfl
@[simp] theorem el3 : fJ Try.prog 3 = none := by kernel_rfl
@[simp] theorem zr3 : cX Try.prog 3 = some [.v (.int .i64 0)] := by kernel_rfl
@[simp] theorem ub3 : Try.prog.underlying 3 = some (.int .i64) := by kernel_rfl
@[simp] theorem ty4 : fN Try.prog 4 = some (false, 1) := by kernel_rfl
@[simp] theorem el4 : fJ Try.prog 4 = none := by kernel_rfl
@[simp] theorem zr4 : cX Try.prog 4 = some [.v (.bool false)] := by kernel_rfl
@[simp] theorem ub4 : Try.prog.underlying 4 = some .bool := by kernel_rfl
@[simp] theorem ty5 : fN Try.prog 5 = some (false, 1) := by kernel_rfl
@[simp] theorem el5 : fJ Try.prog 5 = none := by kernel_rfl
@[simp] theorem zr5 : cX Try.prog 5 = some [.v (.int .u8 0)] := by kernel_rfl
@[simp] theorem ub5 : Try.prog.underlying 5 = some (.int .u8) := by kernel_rfl
@[simp] theorem ty6 : fN Try.prog 6 = some (false, 1) := by kernel_rfl
@[simp] theorem el6 : fJ Try.prog 6 = none := by kernel_rfl
@[simp] theorem zr6 : cX Try.prog 6 = some [.v (.int .u8 0)] := by kernel_rfl
@[simp] theorem ub6 : Try.prog.underlying 6 = some (.int .u8) := by kernel_rfl
@[simp] theorem ty7 : fN Try.prog 7 = some (true, 4) := by kernel_rfl
@[simp] theorem el7 : fJ Try.prog 7 = none := by kernel_rfl
@[simp] theorem Zl : bX Try.prog 7 0 = some (0, false, 1) := by kernel_rfl
@[simp] theorem Zn : bX Try.prog 7 1 = some (1, false, 1) := by kernel_rfl
@[simp] theorem aAk : bX Try.prog 7 2 = some (2, false, 1) := by kernel_rfl
@[simp] theorem Zy : bX Try.prog 7 3 = some (3, false, 1) := by kernel_rfl
@[simp] theorem pl7 : kV Try.prog 7 = some [(0, 1), (1, 1), (2, 1), (3, 1)] := by kernel_rfl
@[simp] theorem zr7 : cX Try.prog 7 = some [.v (.int .i64 0), .v (.int .i64 0), .v (.bool false), .v (.int .u8 0)] := by kernel_rfl
@[simp] theorem ty8 : fN Try.prog 8 = some (true, 4) := by kernel_rfl
@[simp] theorem el8 : fJ Try.prog 8 = none := by kernel_rfl
@[simp] theorem Zo : bX Try.prog 8 0 = some (0, false, 1) := by kernel_rfl
@[simp] theorem aAz : bX Try.prog 8 1 = some (1, false, 1) := by kernel_rfl
@[simp] theorem aAq : bX Try.prog 8 2 = some (2, false, 1) := by kernel_rfl
@[simp] theorem aAy : bX Try.prog 8 3 = some (3, false, 1) := by kernel_rfl
@[simp] theorem pl8 : kV Try.prog 8 = some [(0, 1), (1, 1), (2, 1), (3, 1)] := by kernel_rfl
@[simp] theorem zr8 : cX Try.prog 8 = some [.v (.int .i64 0), .v (.int .i64 0), .v (.bool false), .v (.int .u8 0)] := by kernel_rfl
@[simp] theorem ty9 : fN Try.prog 9 = some (false, 1) := by kernel_rfl
@[simp] theorem el9 : fJ Try.prog 9 = none := by kernel_rfl
@[simp] theorem zr9 : cX Try.prog 9 = some [.v (.string ⟨#[]⟩)] := by kernel_rfl
@[simp] theorem ub9 : Try.prog.underlying 9 = some .string := by kernel_rfl
@[simp] theorem aEm : fN Try.prog 22 = some (false, 1) := by kernel_rfl
@[simp] theorem aCh : fJ Try.prog 22 = some (64, 14, 176, #[.int .i64 0, .int .i64 0, .string ⟨#[]⟩, .string ⟨#[]⟩, .string ⟨#[]⟩, .slice none 0 0, .slice none 0 0, .slice none 0 0, .int .i64 0, .int .i64 0, .int .i64 0, .int .i64 0, .bool false, .bool false]) := by kernel_rfl
@[simp] theorem aDk : Try.prog.underlying 22 = some (.slice 64) := by kernel_rfl
@[simp] theorem aDn : cX Try.prog 22 = some [.sl true []] := by kernel_rfl
@[simp] theorem aEp : fN Try.prog 24 = some (false, 1) := by kernel_rfl
@[simp] theorem aCp : fJ Try.prog 24 = some (9, 1, 16, #[.string ⟨#[]⟩]) := by kernel_rfl
@[simp] theorem aE4 : Try.prog.underlying 24 = some (.slice 9) := by kernel_rfl
@[simp] theorem aCi : cX Try.prog 24 = some [.sl true []] := by kernel_rfl
@[simp] theorem aC4 : fN Try.prog 25 = some (false, 1) := by kernel_rfl
@[simp] theorem Wt : fJ Try.prog 25 = some (71, 2, 32, #[.string ⟨#[]⟩, .string ⟨#[]⟩]) := by kernel_rfl
@[simp] theorem aEf : Try.prog.underlying 25 = some (.slice 71) := by kernel_rfl
@[simp] theorem aEx : cX Try.prog 25 = some [.sl true []] := by kernel_rfl
@[simp] theorem aDm : fN Try.prog 26 = some (false, 1) := by kernel_rfl
@[simp] theorem aCt : fJ Try.prog 26 = some (71, 2, 32, #[.string ⟨#[]⟩, .string ⟨#[]⟩]) := by kernel_rfl
@[simp] theorem aBy : Try.prog.underlying 26 = some (.slice 71) := by kernel_rfl
@[simp] theorem aCx : cX Try.prog 26 = some [.sl true []] := by kernel_rfl
@[simp] theorem aDr : fN Try.prog 27 = some (false, 1) := by kernel_rfl
@[simp] theorem Wr : fJ Try.prog 27 = some (52, 2, 24, #[.string ⟨#[]⟩, .int .i64 0]) := by kernel_rfl
@[simp] theorem aDt : Try.prog.underlying 27 = some (.slice 52) := by kernel_rfl
@[simp] theorem aCs : cX Try.prog 27 = some [.sl true []] := by kernel_rfl
@[simp] theorem aDw : fN Try.prog 28 = some (false, 1) := by kernel_rfl
@[simp] theorem aBx : fJ Try.prog 28 = some (52, 2, 24, #[.string ⟨#[]⟩, .int .i64 0]) := by kernel_rfl
@[simp] theorem aBr : Try.prog.underlying 28 = some (.slice 52) := by kernel_rfl
@[simp] theorem aB8 : cX Try.prog 28 = some [.sl true []] := by kernel_rfl
@[simp] theorem aC6 : fN Try.prog 29 = some (false, 1) := by kernel_rfl
@[simp] theorem aCd : fJ Try.prog 29 = some (31, 8, 144, #[.int .i64 0, .int .i64 0, .string ⟨#[]⟩, .string ⟨#[]⟩, .slice none 0 0, .slice none 0 0, .slice none 0 0, .slice none 0 0]) := by kernel_rfl
@[simp] theorem aD0 : Try.prog.underlying 29 = some (.slice 31) := by kernel_rfl
@[simp] theorem aDv : cX Try.prog 29 = some [.sl true []] := by kernel_rfl
@[simp] theorem aEd : fN Try.prog 31 = some (true, 8) := by kernel_rfl
@[simp] theorem aDg : fJ Try.prog 31 = none := by kernel_rfl
@[simp] theorem Yq : bX Try.prog 31 0 = some (0, false, 1) := by kernel_rfl
@[simp] theorem Yg : bX Try.prog 31 1 = some (1, false, 1) := by kernel_rfl
@[simp] theorem Wg : bX Try.prog 31 2 = some (2, false, 1) := by kernel_rfl
@[simp] theorem Yd : bX Try.prog 31 3 = some (3, false, 1) := by kernel_rfl
@[simp] theorem Zg : bX Try.prog 31 4 = some (4, false, 1) := by kernel_rfl
@[simp] theorem Xz : bX Try.prog 31 5 = some (5, false, 1) := by kernel_rfl
@[simp] theorem Xo : bX Try.prog 31 6 = some (6, false, 1) := by kernel_rfl
@[simp] theorem Wq : bX Try.prog 31 7 = some (7, false, 1) := by kernel_rfl
@[simp] theorem aDq : kV Try.prog 31 = some [(0, 1), (1, 1), (2, 1), (3, 1), (4, 1), (5, 1), (6, 1), (7, 1)] := by kernel_rfl
@[simp] theorem aCm : cX Try.prog 31 = some [.v (.int .i64 0), .v (.int .i64 0), .v (.string ⟨#[]⟩), .v (.string ⟨#[]⟩), .sl true [], .sl true [], .sl true [], .sl true []] := by kernel_rfl
@[simp] theorem aCf : fN Try.prog 34 = some (false, 1) := by kernel_rfl
@[simp] theorem aCz : fJ Try.prog 34 = some (62, 2, 32, #[.string ⟨#[]⟩, .string ⟨#[]⟩]) := by kernel_rfl
@[simp] theorem aBw : Try.prog.underlying 34 = some (.slice 62) := by kernel_rfl
@[simp] theorem aDy : cX Try.prog 34 = some [.sl true []] := by kernel_rfl
@[simp] theorem aCw : fN Try.prog 35 = some (false, 1) := by kernel_rfl
@[simp] theorem aDb : fJ Try.prog 35 = some (91, 2, 24, #[.string ⟨#[]⟩, .int .i64 0]) := by kernel_rfl
@[simp] theorem aEh : Try.prog.underlying 35 = some (.slice 91) := by kernel_rfl
@[simp] theorem aD6 : cX Try.prog 35 = some [.sl true []] := by kernel_rfl
@[simp] theorem aD4 : fN Try.prog 37 = some (true, 6) := by kernel_rfl
@[simp] theorem aCa : fJ Try.prog 37 = none := by kernel_rfl
@[simp] theorem Yw : bX Try.prog 37 0 = some (0, false, 1) := by kernel_rfl
@[simp] theorem Xb : bX Try.prog 37 1 = some (1, false, 1) := by kernel_rfl
@[simp] theorem Ya : bX Try.prog 37 2 = some (2, false, 1) := by kernel_rfl
@[simp] theorem Yz : bX Try.prog 37 3 = some (3, false, 1) := by kernel_rfl
@[simp] theorem Yl : bX Try.prog 37 4 = some (4, false, 1) := by kernel_rfl
@[simp] theorem Xl : bX Try.prog 37 5 = some (5, false, 1) := by kernel_rfl
@[simp] theorem aDe : kV Try.prog 37 = some [(0, 1), (1, 1), (2, 1), (3, 1), (4, 1), (5, 1)] := by kernel_rfl
@[simp] theorem aDx : cX Try.prog 37 = some [.v (.int .i64 0), .v (.int .i64 0), .v (.int .i64 0), .v (.int .i64 0), .v (.bool false), .v (.bool false)] := by kernel_rfl
@[simp] theorem aEv : fN Try.prog 38 = some (false, 1) := by kernel_rfl
@[simp] theorem aBp : fJ Try.prog 38 = some (40, 14, 192, #[.int .i64 0, .string ⟨#[]⟩, .string ⟨#[]⟩, .string ⟨#[]⟩, .slice none 0 0, .slice none 0 0, .slice none 0 0, .int .i64 0, .int .i64 0, .int .i64 0, .int .i64 0, .bool false, .bool false, .slice none 0 0]) := by kernel_rfl
@[simp] theorem aEl : Try.prog.underlying 38 = some (.slice 40) := by kernel_rfl
@[simp] theorem aCl : cX Try.prog 38 = some [.sl true []] := by kernel_rfl
@[simp] theorem aBs : fN Try.prog 40 = some (true, 14) := by kernel_rfl
@[simp] theorem aC2 : fJ Try.prog 40 = none := by kernel_rfl
@[simp] theorem Ym : bX Try.prog 40 0 = some (0, false, 1) := by kernel_rfl
@[simp] theorem Xr : bX Try.prog 40 1 = some (1, false, 1) := by kernel_rfl
@[simp] theorem Yv : bX Try.prog 40 2 = some (2, false, 1) := by kernel_rfl
@[simp] theorem We : bX Try.prog 40 3 = some (3, false, 1) := by kernel_rfl
@[simp] theorem Xh : bX Try.prog 40 4 = some (4, false, 1) := by kernel_rfl
@[simp] theorem Wy : bX Try.prog 40 5 = some (5, false, 1) := by kernel_rfl
@[simp] theorem Xq : bX Try.prog 40 6 = some (6, false, 1) := by kernel_rfl
@[simp] theorem Wi : bX Try.prog 40 7 = some (7, true, 6) := by kernel_rfl
@[simp] theorem Yn : bX Try.prog 40 8 = some (13, false, 1) := by kernel_rfl
@[simp] theorem aB1 : kV Try.prog 40 = some [(0, 1), (1, 1), (2, 1), (3, 1), (4, 1), (5, 1), (6, 1), (7, 6), (13, 1)] := by kernel_rfl
@[simp] theorem aDi : cX Try.prog 40 = some [.v (.int .i64 0), .v (.string ⟨#[]⟩), .v (.string ⟨#[]⟩), .v (.string ⟨#[]⟩), .sl true [], .sl true [], .sl true [], .v (.int .i64 0), .v (.int .i64 0), .v (.int .i64 0), .v (.int .i64 0), .v (.bool false), .v (.bool false), .sl true []] := by kernel_rfl
@[simp] theorem aBq : fN Try.prog 44 = some (false, 1) := by kernel_rfl
@[simp] theorem Yy : fJ Try.prog 44 = some (74, 5, 40, #[.int .i64 0, .int .i64 0, .int .i64 0, .int .i64 0, .int .i64 0]) := by kernel_rfl
@[simp] theorem aDz : Try.prog.underlying 44 = some (.slice 74) := by kernel_rfl
@[simp] theorem aCk : cX Try.prog 44 = some [.sl true []] := by kernel_rfl
@[simp] theorem aB7 : fN Try.prog 45 = some (false, 1) := by kernel_rfl
@[simp] theorem aB0 : fJ Try.prog 45 = some (74, 5, 40, #[.int .i64 0, .int .i64 0, .int .i64 0, .int .i64 0, .int .i64 0]) := by kernel_rfl
@[simp] theorem aEz : Try.prog.underlying 45 = some (.slice 74) := by kernel_rfl
@[simp] theorem aB6 : cX Try.prog 45 = some [.sl true []] := by kernel_rfl
@[simp] theorem aEw : fN Try.prog 52 = some (true, 2) := by kernel_rfl
@[simp] theorem aDl : fJ Try.prog 52 = none := by kernel_rfl
@[simp] theorem Wu : bX Try.prog 52 0 = some (0, false, 1) := by kernel_rfl
@[simp] theorem Ww : bX Try.prog 52 1 = some (1, false, 1) := by kernel_rfl
@[simp] theorem aEq : kV Try.prog 52 = some [(0, 1), (1, 1)] := by kernel_rfl
@[simp] theorem aD7 : cX Try.prog 52 = some [.v (.string ⟨#[]⟩), .v (.int .i64 0)] := by kernel_rfl
@[simp] theorem aD3 : fN Try.prog 54 = some (true, 4) := by kernel_rfl
@[simp] theorem aEe : fJ Try.prog 54 = none := by kernel_rfl
@[simp] theorem Xa : bX Try.prog 54 0 = some (0, false, 1) := by kernel_rfl
@[simp] theorem Xs : bX Try.prog 54 1 = some (1, false, 1) := by kernel_rfl
@[simp] theorem Wp : bX Try.prog 54 2 = some (2, false, 1) := by kernel_rfl
@[simp] theorem Ys : bX Try.prog 54 3 = some (3, false, 1) := by kernel_rfl
@[simp] theorem aDu : kV Try.prog 54 = some [(0, 1), (1, 1), (2, 1), (3, 1)] := by kernel_rfl
@[simp] theorem aCe : cX Try.prog 54 = some [.v (.int .i64 0), .v (.int .i64 0), .v (.int .i64 0), .v (.int .i64 0)] := by kernel_rfl
@[simp] theorem aCc : fN Try.prog 58 = some (true, 2) := by kernel_rfl
@[simp] theorem aDd : fJ Try.prog 58 = none := by kernel_rfl
@[simp] theorem Xv : bX Try.prog 58 0 = some (0, false, 1) := by kernel_rfl
@[simp] theorem Xi : bX Try.prog 58 1 = some (1, false, 1) := by kernel_rfl
@[simp] theorem aCj : kV Try.prog 58 = some [(0, 1), (1, 1)] := by kernel_rfl
@[simp] theorem aB2 : cX Try.prog 58 = some [.v (.int .i64 0), .v (.int .i64 0)] := by kernel_rfl
@[simp] theorem aEs : fN Try.prog 62 = some (true, 2) := by kernel_rfl
@[simp] theorem aC3 : fJ Try.prog 62 = none := by kernel_rfl
@[simp] theorem Yx : bX Try.prog 62 0 = some (0, false, 1) := by kernel_rfl
@[simp] theorem Yp : bX Try.prog 62 1 = some (1, false, 1) := by kernel_rfl
@[simp] theorem aBo : kV Try.prog 62 = some [(0, 1), (1, 1)] := by kernel_rfl
@[simp] theorem aCb : cX Try.prog 62 = some [.v (.string ⟨#[]⟩), .v (.string ⟨#[]⟩)] := by kernel_rfl
@[simp] theorem aC0 : fN Try.prog 64 = some (true, 14) := by kernel_rfl
@[simp] theorem aEt : fJ Try.prog 64 = none := by kernel_rfl
@[simp] theorem Xd : bX Try.prog 64 0 = some (0, false, 1) := by kernel_rfl
@[simp] theorem Xf : bX Try.prog 64 1 = some (1, false, 1) := by kernel_rfl
@[simp] theorem Yr : bX Try.prog 64 2 = some (2, false, 1) := by kernel_rfl
@[simp] theorem Wo : bX Try.prog 64 3 = some (3, false, 1) := by kernel_rfl
@[simp] theorem Ws : bX Try.prog 64 4 = some (4, false, 1) := by kernel_rfl
@[simp] theorem Yu : bX Try.prog 64 5 = some (5, false, 1) := by kernel_rfl
@[simp] theorem Wn : bX Try.prog 64 6 = some (6, false, 1) := by kernel_rfl
@[simp] theorem Xk : bX Try.prog 64 7 = some (7, false, 1) := by kernel_rfl
@[simp] theorem Xy : bX Try.prog 64 8 = some (8, true, 6) := by kernel_rfl
@[simp] theorem aE1 : kV Try.prog 64 = some [(0, 1), (1, 1), (2, 1), (3, 1), (4, 1), (5, 1), (6, 1), (7, 1), (8, 6)] := by kernel_rfl
@[simp] theorem aD1 : cX Try.prog 64 = some [.v (.int .i64 0), .v (.int .i64 0), .v (.string ⟨#[]⟩), .v (.string ⟨#[]⟩), .v (.string ⟨#[]⟩), .sl true [], .sl true [], .sl true [], .v (.int .i64 0), .v (.int .i64 0), .v (.int .i64 0), .v (.int .i64 0), .v (.bool false), .v (.bool false)] := by kernel_rfl
@[simp] theorem aDj : fN Try.prog 71 = some (true, 2) := by kernel_rfl
@[simp] theorem aDo : fJ Try.prog 71 = none := by kernel_rfl
@[simp] theorem Yb : bX Try.prog 71 0 = some (0, false, 1) := by kernel_rfl
@[simp] theorem Yj : bX Try.prog 71 1 = some (1, false, 1) := by kernel_rfl
@[simp] theorem aC7 : kV Try.prog 71 = some [(0, 1), (1, 1)] := by kernel_rfl
@[simp] theorem aCn : cX Try.prog 71 = some [.v (.string ⟨#[]⟩), .v (.string ⟨#[]⟩)] := by kernel_rfl
@[simp] theorem aEr : fN Try.prog 74 = some (true, 5) := by kernel_rfl
@[simp] theorem aEu : fJ Try.prog 74 = none := by kernel_rfl
@[simp] theorem Xu : bX Try.prog 74 0 = some (0, false, 1) := by kernel_rfl
@[simp] theorem Wx : bX Try.prog 74 1 = some (1, true, 4) := by kernel_rfl
@[simp] theorem aDh : kV Try.prog 74 = some [(0, 1), (1, 4)] := by kernel_rfl
@[simp] theorem aEk : cX Try.prog 74 = some [.v (.int .i64 0), .v (.int .i64 0), .v (.int .i64 0), .v (.int .i64 0), .v (.int .i64 0)] := by kernel_rfl
@[simp] theorem aDa : fN Try.prog 75 = some (false, 1) := by kernel_rfl
@[simp] theorem aEb : fJ Try.prog 75 = none := by kernel_rfl
@[simp] theorem aDc : cX Try.prog 75 = some [.v (.nilFunc)] := by kernel_rfl
@[simp] theorem aEy : fN Try.prog 84 = some (false, 1) := by kernel_rfl
@[simp] theorem aBv : fJ Try.prog 84 = some (100, 2, 16, #[.int .i64 0, .int .i64 0]) := by kernel_rfl
@[simp] theorem aEa : Try.prog.underlying 84 = some (.slice 100) := by kernel_rfl
@[simp] theorem aDs : cX Try.prog 84 = some [.sl true []] := by kernel_rfl
@[simp] theorem aD8 : fN Try.prog 91 = some (true, 2) := by kernel_rfl
@[simp] theorem aEg : fJ Try.prog 91 = none := by kernel_rfl
@[simp] theorem Ze : bX Try.prog 91 0 = some (0, false, 1) := by kernel_rfl
@[simp] theorem Xp : bX Try.prog 91 1 = some (1, false, 1) := by kernel_rfl
@[simp] theorem aDf : kV Try.prog 91 = some [(0, 1), (1, 1)] := by kernel_rfl
@[simp] theorem aEc : cX Try.prog 91 = some [.v (.string ⟨#[]⟩), .v (.int .i64 0)] := by kernel_rfl
@[simp] theorem aAe : fN Try.prog 100 = some (true, 2) := by kernel_rfl
@[simp] theorem Zm : fJ Try.prog 100 = none := by kernel_rfl
@[simp] theorem Wb : bX Try.prog 100 0 = some (0, false, 1) := by kernel_rfl
@[simp] theorem Vv : bX Try.prog 100 1 = some (1, false, 1) := by kernel_rfl
@[simp] theorem Zt : kV Try.prog 100 = some [(0, 1), (1, 1)] := by kernel_rfl
@[simp] theorem aAm : cX Try.prog 100 = some [.v (.int .i64 0), .v (.int .i64 0)] := by kernel_rfl
@[simp] theorem aAl : fN Try.prog 105 = some (false, 1) := by kernel_rfl
@[simp] theorem aA5 : fJ Try.prog 105 = none := by kernel_rfl
@[simp] theorem aA6 : cX Try.prog 105 = some [.v (.nilFunc)] := by kernel_rfl
@[simp] theorem aAn : fN Try.prog 107 = some (false, 1) := by kernel_rfl
@[simp] theorem Zh : fJ Try.prog 107 = none := by kernel_rfl
@[simp] theorem Zu : cX Try.prog 107 = some [.v (.nilFunc)] := by kernel_rfl
@[simp] theorem aBb : fN Try.prog 109 = some (false, 1) := by kernel_rfl
@[simp] theorem Zw : fJ Try.prog 109 = none := by kernel_rfl
@[simp] theorem Zz : cX Try.prog 109 = some [.v (.nilFunc)] := by kernel_rfl
@[simp] theorem aBm : fN Try.prog 110 = some (false, 1) := by kernel_rfl
@[simp] theorem aA9 : fJ Try.prog 110 = some (58, 2, 16, #[.int .i64 0, .int .i64 0]) := by kernel_rfl
@[simp] theorem aAx : Try.prog.underlying 110 = some (.slice 58) := by kernel_rfl
@[simp] theorem Zi : cX Try.prog 110 = some [.sl true []] := by kernel_rfl
@[simp] theorem aA1 : fN Try.prog 118 = some (false, 1) := by kernel_rfl
@[simp] theorem aBf : fJ Try.prog 118 = none := by kernel_rfl
@[simp] theorem aBc : cX Try.prog 118 = some [.v (.nilFunc)] := by kernel_rfl
@[simp] theorem aBg : fN Try.prog 122 = some (false, 1) := by kernel_rfl
@[simp] theorem aAc : fJ Try.prog 122 = none := by kernel_rfl
@[simp] theorem aBd : cX Try.prog 122 = some [.v (.nilFunc)] := by kernel_rfl
@[simp] theorem aBa : fN Try.prog 125 = some (false, 1) := by kernel_rfl
@[simp] theorem aBn : fJ Try.prog 125 = some (3, 1, 8, #[.int .i64 0]) := by kernel_rfl
@[simp] theorem aAi : Try.prog.underlying 125 = some (.slice 3) := by kernel_rfl
@[simp] theorem aBi : cX Try.prog 125 = some [.sl true []] := by kernel_rfl
@[simp] theorem Zs : fN Try.prog 130 = some (false, 1) := by kernel_rfl
@[simp] theorem aAp : fJ Try.prog 130 = none := by kernel_rfl
@[simp] theorem aAs : cX Try.prog 130 = some [.v (.int .u64 0)] := by kernel_rfl
@[simp] theorem aAu : Try.prog.underlying 130 = some (.int .u64) := by kernel_rfl
@[simp] theorem Zr : fN Try.prog 133 = some (false, 1) := by kernel_rfl
@[simp] theorem Zq : fJ Try.prog 133 = none := by kernel_rfl
@[simp] theorem aA3 : cX Try.prog 133 = some [.v (.nilFunc)] := by kernel_rfl
@[simp] theorem aBh : fN Try.prog 134 = some (false, 1) := by kernel_rfl
@[simp] theorem aAj : fJ Try.prog 134 = none := by kernel_rfl
@[simp] theorem Zk : cX Try.prog 134 = some [.v (.pointer none)] := by kernel_rfl
@[simp] theorem aBk : Try.prog.underlying 134 = some (.pointer 136) := by kernel_rfl
@[simp] theorem aAd : fN Try.prog 136 = some (true, 6) := by kernel_rfl
@[simp] theorem aBj : fJ Try.prog 136 = none := by kernel_rfl
@[simp] theorem Vq : bX Try.prog 136 0 = some (0, false, 1) := by kernel_rfl
@[simp] theorem Vz : bX Try.prog 136 1 = some (1, false, 1) := by kernel_rfl
@[simp] theorem Vs : bX Try.prog 136 2 = some (2, false, 1) := by kernel_rfl
@[simp] theorem Vy : bX Try.prog 136 3 = some (3, false, 1) := by kernel_rfl
@[simp] theorem Wc : bX Try.prog 136 4 = some (4, false, 1) := by kernel_rfl
@[simp] theorem Vr : bX Try.prog 136 5 = some (5, false, 1) := by kernel_rfl
@[simp] theorem aAr : kV Try.prog 136 = some [(0, 1), (1, 1), (2, 1), (3, 1), (4, 1), (5, 1)] := by kernel_rfl
@[simp] theorem aAf : cX Try.prog 136 = some [.v (.int .i64 0), .v (.int .i64 0), .v (.int .i64 0), .v (.int .i64 0), .v (.int .i64 0), .v (.bool false)] := by kernel_rfl
@[simp] theorem aAt : fN Try.prog 137 = some (false, 1) := by kernel_rfl
@[simp] theorem aAw : fJ Try.prog 137 = none := by kernel_rfl
@[simp] theorem Zv : cX Try.prog 137 = some [.v (.nilFunc)] := by kernel_rfl
@[simp] theorem aE0 : Try.prog.eqGuardType Try.prog.depth 54 = false := by kernel_rfl
theorem Xx (d : Nat) (a0 : Int) (a1 : Int) (a2 : Int) (a3 : Int) (b0 : Int) (b1 : Int) (b2 : Int) (b3 : Int) (w : World) : (Op.equalIn (d + 2) 54 (.agg #[.int .i64 a0, .int .i64 a1, .int .i64 a2, .int .i64 a3]) (.agg #[.int .i64 b0, .int .i64 b1, .int .i64 b2, .int .i64 b3])).run Try.prog w = .ok ((a0 == b0) && (a1 == b1) && (a2 == b2) && (a3 == b3)) w := by
 have hS : Try.prog.underlying 54 = some (.struct (Try.prog.fieldsOf 54)) := by kernel_rfl
 have hp : Try.prog.stoodInHeld 54 = false := by kernel_rfl
 rw [show d + 2 = (d + 1) + 1 from rfl, run_equalIn_agg w (d + 1) 54 _ _ hS hp];simp only [Program.fieldsOf, Try.underlying54];have ia3 := Try.isAgg3;have iz3 := Try.sizeOf3;have iu3 := Try.underlying3
 go_simp
 by_cases e0 : a0 = b0 <;> by_cases e1 : a1 = b1 <;> by_cases e2 : a2 = b2 <;> by_cases e3 : a3 = b3 <;> simp [e0, e1, e2, e3, lE]
theorem Xg (a0 : Int) (a1 : Int) (a2 : Int) (a3 : Int) (b0 : Int) (b1 : Int) (b2 : Int) (b3 : Int) : uI Try.prog 54 [.v (.int .i64 a0), .v (.int .i64 a1), .v (.int .i64 a2), .v (.int .i64 a3)] [.v (.int .i64 b0), .v (.int .i64 b1), .v (.int .i64 b2), .v (.int .i64 b3)] ((a0 == b0) && (a1 == b1) && (a2 == b2) && (a3 == b3)) :=
 ⟨[.int .i64 a0, .int .i64 a1, .int .i64 a2, .int .i64 a3], [.int .i64 b0, .int .i64 b1, .int .i64 b2, .int .i64 b3], rfl, rfl, fun w => Xx 9998 a0 a1 a2 a3 b0 b1 b2 b3 w⟩
@[simp] theorem aD2 (a0 : Int) (a1 : Int) (a2 : Int) (a3 : Int) (b0 : Int) (b1 : Int) (b2 : Int) (b3 : Int) (K : Bool → Prop) : mG Try.prog 54 [.v (.int .i64 a0), .v (.int .i64 a1), .v (.int .i64 a2), .v (.int .i64 a3)] [.v (.int .i64 b0), .v (.int .i64 b1), .v (.int .i64 b2), .v (.int .i64 b3)] K = K ((a0 == b0) && (a1 == b1) && (a2 == b2) && (a3 == b3)) := pF (Xg a0 a1 a2 a3 b0 b1 b2 b3)
@[simp] theorem aBz : Try.prog.eqGuardType Try.prog.depth 58 = false := by kernel_rfl
theorem Xt (d : Nat) (a0 : Int) (a1 : Int) (b0 : Int) (b1 : Int) (w : World) : (Op.equalIn (d + 2) 58 (.agg #[.int .i64 a0, .int .i64 a1]) (.agg #[.int .i64 b0, .int .i64 b1])).run Try.prog w = .ok ((a0 == b0) && (a1 == b1)) w := by
 have hS : Try.prog.underlying 58 = some (.struct (Try.prog.fieldsOf 58)) := by kernel_rfl
 have hp : Try.prog.stoodInHeld 58 = false := by kernel_rfl
 rw [show d + 2 = (d + 1) + 1 from rfl, run_equalIn_agg w (d + 1) 58 _ _ hS hp];simp only [Program.fieldsOf, Try.underlying58];have ia3 := Try.isAgg3;have iz3 := Try.sizeOf3;have iu3 := Try.underlying3
 go_simp
 by_cases e0 : a0 = b0 <;> by_cases e1 : a1 = b1 <;> simp [e0, e1, lE]
theorem Xj (a0 : Int) (a1 : Int) (b0 : Int) (b1 : Int) : uI Try.prog 58 [.v (.int .i64 a0), .v (.int .i64 a1)] [.v (.int .i64 b0), .v (.int .i64 b1)] ((a0 == b0) && (a1 == b1)) :=
 ⟨[.int .i64 a0, .int .i64 a1], [.int .i64 b0, .int .i64 b1], rfl, rfl, fun w => Xt 9998 a0 a1 b0 b1 w⟩
@[simp] theorem aB9 (a0 : Int) (a1 : Int) (b0 : Int) (b1 : Int) (K : Bool → Prop) : mG Try.prog 58 [.v (.int .i64 a0), .v (.int .i64 a1)] [.v (.int .i64 b0), .v (.int .i64 b1)] K = K ((a0 == b0) && (a1 == b1)) := pF (Xj a0 a1 b0 b1)
@[simp] theorem aCv : Try.prog.eqGuardType Try.prog.depth 74 = false := by kernel_rfl
theorem Yi (d : Nat) (a0 : Int) (a1 : Int) (a2 : Int) (a3 : Int) (a4 : Int) (b0 : Int) (b1 : Int) (b2 : Int) (b3 : Int) (b4 : Int) (w : World) : (Op.equalIn (d + 3) 74 (.agg #[.int .i64 a0, .int .i64 a1, .int .i64 a2, .int .i64 a3, .int .i64 a4]) (.agg #[.int .i64 b0, .int .i64 b1, .int .i64 b2, .int .i64 b3, .int .i64 b4])).run Try.prog w = .ok ((a0 == b0) && (a1 == b1) && (a2 == b2) && (a3 == b3) && (a4 == b4)) w := by
 have hS : Try.prog.underlying 74 = some (.struct (Try.prog.fieldsOf 74)) := by kernel_rfl
 have hp : Try.prog.stoodInHeld 74 = false := by kernel_rfl
 rw [show d + 3 = (d + 2) + 1 from rfl, run_equalIn_agg w (d + 2) 74 _ _ hS hp];simp only [Program.fieldsOf, Try.underlying74];have ia3 := Try.isAgg3;have iz3 := Try.sizeOf3;have iu3 := Try.underlying3;have ia54 := Try.isAgg54;have iz54 := Try.sizeOf54
 go_simp
 by_cases e0 : a0 = b0 <;> by_cases e1 : a1 = b1 <;> by_cases e2 : a2 = b2 <;> by_cases e3 : a3 = b3 <;> by_cases e4 : a4 = b4 <;> simp [e0, e1, e2, e3, e4, lE]
theorem Xe (a0 : Int) (a1 : Int) (a2 : Int) (a3 : Int) (a4 : Int) (b0 : Int) (b1 : Int) (b2 : Int) (b3 : Int) (b4 : Int) : uI Try.prog 74 [.v (.int .i64 a0), .v (.int .i64 a1), .v (.int .i64 a2), .v (.int .i64 a3), .v (.int .i64 a4)] [.v (.int .i64 b0), .v (.int .i64 b1), .v (.int .i64 b2), .v (.int .i64 b3), .v (.int .i64 b4)] ((a0 == b0) && (a1 == b1) && (a2 == b2) && (a3 == b3) && (a4 == b4)) :=
 ⟨[.int .i64 a0, .int .i64 a1, .int .i64 a2, .int .i64 a3, .int .i64 a4], [.int .i64 b0, .int .i64 b1, .int .i64 b2, .int .i64 b3, .int .i64 b4], rfl, rfl, fun w => Yi 9997 a0 a1 a2 a3 a4 b0 b1 b2 b3 b4 w⟩
@[simp] theorem aD9 (a0 : Int) (a1 : Int) (a2 : Int) (a3 : Int) (a4 : Int) (b0 : Int) (b1 : Int) (b2 : Int) (b3 : Int) (b4 : Int) (K : Bool → Prop) : mG Try.prog 74 [.v (.int .i64 a0), .v (.int .i64 a1), .v (.int .i64 a2), .v (.int .i64 a3), .v (.int .i64 a4)] [.v (.int .i64 b0), .v (.int .i64 b1), .v (.int .i64 b2), .v (.int .i64 b3), .v (.int .i64 b4)] K = K ((a0 == b0) && (a1 == b1) && (a2 == b2) && (a3 == b3) && (a4 == b4)) := pF (Xe a0 a1 a2 a3 a4 b0 b1 b2 b3 b4)
end Go.Proofs.Ytighdhfgcdjmeaa

