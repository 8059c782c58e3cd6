import Derived.Test.YtighdhfgcdjmeaaDoorProg
import Derived.Test.YtighdhfgcdjmeaaDoorVm17
import Derived.Test.YtighdhfgcdjmeaaDoorVmX13
import Derived.WalkKit
import Derived.KernelRfl
namespace Go.Proofs.YtighdhfgcdjmeaaDoor
open Go Go.Vm
set_option linter.all false
set_option maxRecDepth 100000
@[simp] theorem ty1 : eY Tryd.prog 1 = some (false, 1) := by kernel_rfl
@[simp] theorem el1 : eS Tryd.prog 1 = none := by kernel_rfl
@[simp] theorem zr1 : cK Tryd.prog 1 = some [.v (.nilFunc)] := by kernel_rfl
@[simp] theorem ty2 : eY Tryd.prog 2 = some (false, 1) := by kernel_rfl
@[simp] theorem el2 : eS Tryd.prog 2 = none := by kernel_rfl
@[simp] theorem zr2 : cK Tryd.prog 2 = some [.v (.int .i64 0)] := by kernel_rfl
@[simp] theorem ub2 : Tryd.prog.underlying 2 = some (.int .i64) := by kernel_rfl
@[simp] theorem ty3 : eY Tryd.prog 3 = some (false, 1) := by kernel_rfl
@[simp] theorem el3 : eS Tryd.prog 3 = none := by kernel_rfl
@[simp] theorem zr3 : cK Tryd.prog 3 = some [.v (.int .i64 0)] := by kernel_rfl
@[simp] theorem ub3 : Tryd.prog.underlying 3 = some (.int .i64) := by kernel_rfl
@[simp] theorem ty4 : eY Tryd.prog 4 = some (false, 1) := by kernel_rfl
@[simp] theorem el4 : eS Tryd.prog 4 = none := by kernel_rfl
@[simp] theorem zr4 : cK Tryd.prog 4 = some [.v (.bool false)] := by kernel_rfl
@[simp] theorem ub4 : Tryd.prog.underlying 4 = some .bool := by kernel_rfl
@[simp] theorem ty5 : eY Tryd.prog 5 = some (false, 1) := by kernel_rfl
@[simp] theorem el5 : eS Tryd.prog 5 = none := by kernel_rfl
@[simp] theorem zr5 : cK Tryd.prog 5 = some [.v (.int .u8 0)] := by kernel_rfl
@[simp] theorem ub5 : Tryd.prog.underlying 5 = some (.int .u8) := by kernel_rfl
@[simp] theorem ty6 : eY Tryd.prog 6 = some (false, 1) := by kernel_rfl
@[simp] theorem el6 : eS Tryd.prog 6 = none := by kernel_rfl
@[simp] theorem zr6 : cK Tryd.prog 6 = some [.v (.int .u8 0)] := by kernel_rfl
@[simp] theorem ub6 : Tryd.prog.underlying 6 = some (.int .u8) := by kernel_rfl
@[simp] theorem ty7 : eY Tryd.prog 7 = some (true, 4) := by kernel_rfl
@[simp] theorem el7 : eS Tryd.prog 7 = none := by kernel_rfl
@[simp] theorem Wp : cD Tryd.prog 7 0 = some (0, false, 1) := by kernel_rfl
@[simp] theorem Wi : cD Tryd.prog 7 1 = some (1, false, 1) := by kernel_rfl
@[simp] theorem Wk : cD Tryd.prog 7 2 = some (2, false, 1) := by kernel_rfl
@[simp] theorem Xl : cD Tryd.prog 7 3 = some (3, false, 1) := by kernel_rfl
@[simp] theorem pl7 : jY Tryd.prog 7 = some [(0, 1), (1, 1), (2, 1), (3, 1)] := by kernel_rfl
@[simp] theorem zr7 : cK Tryd.prog 7 = some [.v (.int .i64 0), .v (.int .i64 0), .v (.bool false), .v (.int .u8 0)] := by kernel_rfl
@[simp] theorem ty8 : eY Tryd.prog 8 = some (true, 4) := by kernel_rfl
@[simp] theorem el8 : eS Tryd.prog 8 = none := by kernel_rfl
@[simp] theorem Wy : cD Tryd.prog 8 0 = some (0, false, 1) := by kernel_rfl
@[simp] theorem Xk : cD Tryd.prog 8 1 = some (1, false, 1) := by kernel_rfl
@[simp] theorem Ww : cD Tryd.prog 8 2 = some (2, false, 1) := by kernel_rfl
@[simp] theorem Xu : cD Tryd.prog 8 3 = some (3, false, 1) := by kernel_rfl
@[simp] theorem pl8 : jY Tryd.prog 8 = some [(0, 1), (1, 1), (2, 1), (3, 1)] := by kernel_rfl
@[simp] theorem zr8 : cK Tryd.prog 8 = some [.v (.int .i64 0), .v (.int .i64 0), .v (.bool false), .v (.int .u8 0)] := by kernel_rfl
@[simp] theorem ty9 : eY Tryd.prog 9 = some (false, 1) := by kernel_rfl
@[simp] theorem el9 : eS Tryd.prog 9 = none := by kernel_rfl
@[simp] theorem zr9 : cK Tryd.prog 9 = some [.v (.string ⟨#[]⟩)] := by kernel_rfl
@[simp] theorem ub9 : Tryd.prog.underlying 9 = some .string := by kernel_rfl
@[simp] theorem aA2 : eY Tryd.prog 20 = some (false, 1) := by kernel_rfl
@[simp] theorem aB8 : eS Tryd.prog 20 = none := by kernel_rfl
@[simp] theorem aAf : cK Tryd.prog 20 = some [.v (.nilIface)] := by kernel_rfl
@[simp] theorem aA8 : eY Tryd.prog 21 = some (false, 1) := by kernel_rfl
@[simp] theorem Yu : eS Tryd.prog 21 = none := by kernel_rfl
@[simp] theorem Yt : cK Tryd.prog 21 = some [.v (.int .i32 0)] := by kernel_rfl
@[simp] theorem aA6 : Tryd.prog.underlying 21 = some (.int .i32) := by kernel_rfl
@[simp] theorem aAp : eY Tryd.prog 22 = some (false, 1) := by kernel_rfl
@[simp] theorem aBh : eS Tryd.prog 22 = some (9, 1, 16, #[.string ⟨#[]⟩]) := by kernel_rfl
@[simp] theorem aAe : Tryd.prog.underlying 22 = some (.slice 9) := by kernel_rfl
@[simp] theorem Zz : cK Tryd.prog 22 = some [.sl true []] := by kernel_rfl
@[simp] theorem aAq : eY Tryd.prog 27 = some (false, 1) := by kernel_rfl
@[simp] theorem aAz : eS Tryd.prog 27 = some (71, 14, 176, #[.int .i64 0, .int .i64 0, .string ⟨#[]⟩, .string ⟨#[]⟩, .string ⟨#[]⟩, .slice none 0 0, .slice none 0 0, .slice none 0 0, .int .i64 0, .int .i64 0, .int .i64 0, .int .i64 0, .bool false, .bool false]) := by kernel_rfl
@[simp] theorem aCc : Tryd.prog.underlying 27 = some (.slice 71) := by kernel_rfl
@[simp] theorem Yo : cK Tryd.prog 27 = some [.sl true []] := by kernel_rfl
@[simp] theorem aBq : eY Tryd.prog 28 = some (false, 1) := by kernel_rfl
@[simp] theorem Th : eS Tryd.prog 28 = some (95, 2, 32, #[.string ⟨#[]⟩, .string ⟨#[]⟩]) := by kernel_rfl
@[simp] theorem aA7 : Tryd.prog.underlying 28 = some (.slice 95) := by kernel_rfl
@[simp] theorem aCe : cK Tryd.prog 28 = some [.sl true []] := by kernel_rfl
@[simp] theorem aBs : eY Tryd.prog 29 = some (false, 1) := by kernel_rfl
@[simp] theorem Yl : eS Tryd.prog 29 = some (95, 2, 32, #[.string ⟨#[]⟩, .string ⟨#[]⟩]) := by kernel_rfl
@[simp] theorem aBg : Tryd.prog.underlying 29 = some (.slice 95) := by kernel_rfl
@[simp] theorem Yf : cK Tryd.prog 29 = some [.sl true []] := by kernel_rfl
@[simp] theorem Zx : eY Tryd.prog 30 = some (false, 1) := by kernel_rfl
@[simp] theorem Vk : eS Tryd.prog 30 = some (49, 2, 24, #[.string ⟨#[]⟩, .int .i64 0]) := by kernel_rfl
@[simp] theorem Ye : Tryd.prog.underlying 30 = some (.slice 49) := by kernel_rfl
@[simp] theorem Zy : cK Tryd.prog 30 = some [.sl true []] := by kernel_rfl
@[simp] theorem aCb : eY Tryd.prog 31 = some (false, 1) := by kernel_rfl
@[simp] theorem aAv : eS Tryd.prog 31 = some (49, 2, 24, #[.string ⟨#[]⟩, .int .i64 0]) := by kernel_rfl
@[simp] theorem aCd : Tryd.prog.underlying 31 = some (.slice 49) := by kernel_rfl
@[simp] theorem Yw : cK Tryd.prog 31 = some [.sl true []] := by kernel_rfl
@[simp] theorem aCi : eY Tryd.prog 32 = some (false, 1) := by kernel_rfl
@[simp] theorem aCo : eS Tryd.prog 32 = some (34, 8, 144, #[.int .i64 0, .int .i64 0, .string ⟨#[]⟩, .string ⟨#[]⟩, .slice none 0 0, .slice none 0 0, .slice none 0 0, .slice none 0 0]) := by kernel_rfl
@[simp] theorem aB1 : Tryd.prog.underlying 32 = some (.slice 34) := by kernel_rfl
@[simp] theorem aAb : cK Tryd.prog 32 = some [.sl true []] := by kernel_rfl
@[simp] theorem aCy : eY Tryd.prog 34 = some (true, 8) := by kernel_rfl
@[simp] theorem Yh : eS Tryd.prog 34 = none := by kernel_rfl
@[simp] theorem Sz : cD Tryd.prog 34 0 = some (0, false, 1) := by kernel_rfl
@[simp] theorem Vg : cD Tryd.prog 34 1 = some (1, false, 1) := by kernel_rfl
@[simp] theorem Ts : cD Tryd.prog 34 2 = some (2, false, 1) := by kernel_rfl
@[simp] theorem Uf : cD Tryd.prog 34 3 = some (3, false, 1) := by kernel_rfl
@[simp] theorem Tt : cD Tryd.prog 34 4 = some (4, false, 1) := by kernel_rfl
@[simp] theorem Uu : cD Tryd.prog 34 5 = some (5, false, 1) := by kernel_rfl
@[simp] theorem Sx : cD Tryd.prog 34 6 = some (6, false, 1) := by kernel_rfl
@[simp] theorem Vj : cD Tryd.prog 34 7 = some (7, false, 1) := by kernel_rfl
@[simp] theorem Zf : jY Tryd.prog 34 = some [(0, 1), (1, 1), (2, 1), (3, 1), (4, 1), (5, 1), (6, 1), (7, 1)] := by kernel_rfl
@[simp] theorem aAh : cK Tryd.prog 34 = some [.v (.int .i64 0), .v (.int .i64 0), .v (.string ⟨#[]⟩), .v (.string ⟨#[]⟩), .sl true [], .sl true [], .sl true [], .sl true []] := by kernel_rfl
@[simp] theorem aAt : eY Tryd.prog 37 = some (false, 1) := by kernel_rfl
@[simp] theorem aAd : eS Tryd.prog 37 = some (68, 2, 32, #[.string ⟨#[]⟩, .string ⟨#[]⟩]) := by kernel_rfl
@[simp] theorem Zp : Tryd.prog.underlying 37 = some (.slice 68) := by kernel_rfl
@[simp] theorem aCu : cK Tryd.prog 37 = some [.sl true []] := by kernel_rfl
@[simp] theorem aBe : eY Tryd.prog 38 = some (false, 1) := by kernel_rfl
@[simp] theorem Zj : eS Tryd.prog 38 = some (92, 2, 24, #[.string ⟨#[]⟩, .int .i64 0]) := by kernel_rfl
@[simp] theorem Yr : Tryd.prog.underlying 38 = some (.slice 92) := by kernel_rfl
@[simp] theorem Zd : cK Tryd.prog 38 = some [.sl true []] := by kernel_rfl
@[simp] theorem aB6 : eY Tryd.prog 40 = some (true, 6) := by kernel_rfl
@[simp] theorem aCf : eS Tryd.prog 40 = none := by kernel_rfl
@[simp] theorem Vi : cD Tryd.prog 40 0 = some (0, false, 1) := by kernel_rfl
@[simp] theorem Te : cD Tryd.prog 40 1 = some (1, false, 1) := by kernel_rfl
@[simp] theorem Tm : cD Tryd.prog 40 2 = some (2, false, 1) := by kernel_rfl
@[simp] theorem Us : cD Tryd.prog 40 3 = some (3, false, 1) := by kernel_rfl
@[simp] theorem Uk : cD Tryd.prog 40 4 = some (4, false, 1) := by kernel_rfl
@[simp] theorem Ti : cD Tryd.prog 40 5 = some (5, false, 1) := by kernel_rfl
@[simp] theorem Yq : jY Tryd.prog 40 = some [(0, 1), (1, 1), (2, 1), (3, 1), (4, 1), (5, 1)] := by kernel_rfl
@[simp] theorem Xz : cK Tryd.prog 40 = some [.v (.int .i64 0), .v (.int .i64 0), .v (.int .i64 0), .v (.int .i64 0), .v (.bool false), .v (.bool false)] := by kernel_rfl
@[simp] theorem aB3 : eY Tryd.prog 41 = some (false, 1) := by kernel_rfl
@[simp] theorem aAu : eS Tryd.prog 41 = some (43, 14, 192, #[.int .i64 0, .string ⟨#[]⟩, .string ⟨#[]⟩, .string ⟨#[]⟩, .slice none 0 0, .slice none 0 0, .slice none 0 0, .int .i64 0, .int .i64 0, .int .i64 0, .int .i64 0, .bool false, .bool false, .slice none 0 0]) := by kernel_rfl
@[simp] theorem aCx : Tryd.prog.underlying 41 = some (.slice 43) := by kernel_rfl
@[simp] theorem aBy : cK Tryd.prog 41 = some [.sl true []] := by kernel_rfl
@[simp] theorem aBp : eY Tryd.prog 43 = some (true, 14) := by kernel_rfl
@[simp] theorem aAm : eS Tryd.prog 43 = none := by kernel_rfl
@[simp] theorem Uj : cD Tryd.prog 43 0 = some (0, false, 1) := by kernel_rfl
@[simp] theorem Vd : cD Tryd.prog 43 1 = some (1, false, 1) := by kernel_rfl
@[simp] theorem Ua : cD Tryd.prog 43 2 = some (2, false, 1) := by kernel_rfl
@[simp] theorem Tg : cD Tryd.prog 43 3 = some (3, false, 1) := by kernel_rfl
@[simp] theorem Uo : cD Tryd.prog 43 4 = some (4, false, 1) := by kernel_rfl
@[simp] theorem Vq : cD Tryd.prog 43 5 = some (5, false, 1) := by kernel_rfl
@[simp] theorem Uw : cD Tryd.prog 43 6 = some (6, false, 1) := by kernel_rfl
@[simp] theorem Ue : cD Tryd.prog 43 7 = some (7, true, 6) := by kernel_rfl
@[simp] theorem Ui : cD Tryd.prog 43 8 = some (13, false, 1) := by kernel_rfl
@[simp] theorem aCr : jY Tryd.prog 43 = some [(0, 1), (1, 1), (2, 1), (3, 1), (4, 1), (5, 1), (6, 1), (7, 6), (13, 1)] := by kernel_rfl
@[simp] theorem Zl : cK Tryd.prog 43 = some [.v (.int .i64 0), .v (.string ⟨#[]⟩), .v (.string ⟨#[]⟩), .v (.string ⟨#[]⟩), .sl true [], .sl true [], .sl true [], .v (.int .i64 0), .v (.int .i64 0), .v (.int .i64 0), .v (.int .i64 0), .v (.bool false), .v (.bool false), .sl true []] := by kernel_rfl
@[simp] theorem aBn : eY Tryd.prog 49 = some (true, 2) := by kernel_rfl
@[simp] theorem aBc : eS Tryd.prog 49 = none := by kernel_rfl
@[simp] theorem Ut : cD Tryd.prog 49 0 = some (0, false, 1) := by kernel_rfl
@[simp] theorem Um : cD Tryd.prog 49 1 = some (1, false, 1) := by kernel_rfl
@[simp] theorem Zn : jY Tryd.prog 49 = some [(0, 1), (1, 1)] := by kernel_rfl
@[simp] theorem Zg : cK Tryd.prog 49 = some [.v (.string ⟨#[]⟩), .v (.int .i64 0)] := by kernel_rfl
@[simp] theorem aCn : eY Tryd.prog 51 = some (true, 4) := by kernel_rfl
@[simp] theorem Yv : eS Tryd.prog 51 = none := by kernel_rfl
@[simp] theorem Uq : cD Tryd.prog 51 0 = some (0, false, 1) := by kernel_rfl
@[simp] theorem Ul : cD Tryd.prog 51 1 = some (1, false, 1) := by kernel_rfl
@[simp] theorem Vh : cD Tryd.prog 51 2 = some (2, false, 1) := by kernel_rfl
@[simp] theorem Vn : cD Tryd.prog 51 3 = some (3, false, 1) := by kernel_rfl
@[simp] theorem aAn : jY Tryd.prog 51 = some [(0, 1), (1, 1), (2, 1), (3, 1)] := by kernel_rfl
@[simp] theorem aCp : cK Tryd.prog 51 = some [.v (.int .i64 0), .v (.int .i64 0), .v (.int .i64 0), .v (.int .i64 0)] := by kernel_rfl
@[simp] theorem Zv : eY Tryd.prog 53 = some (true, 5) := by kernel_rfl
@[simp] theorem aAi : eS Tryd.prog 53 = none := by kernel_rfl
@[simp] theorem Tj : cD Tryd.prog 53 0 = some (0, false, 1) := by kernel_rfl
@[simp] theorem Tl : cD Tryd.prog 53 1 = some (1, true, 4) := by kernel_rfl
@[simp] theorem Zq : jY Tryd.prog 53 = some [(0, 1), (1, 4)] := by kernel_rfl
@[simp] theorem aBo : cK Tryd.prog 53 = some [.v (.int .i64 0), .v (.int .i64 0), .v (.int .i64 0), .v (.int .i64 0), .v (.int .i64 0)] := by kernel_rfl
@[simp] theorem aB4 : eY Tryd.prog 54 = some (false, 1) := by kernel_rfl
@[simp] theorem Ub : eS Tryd.prog 54 = some (53, 5, 40, #[.int .i64 0, .int .i64 0, .int .i64 0, .int .i64 0, .int .i64 0]) := by kernel_rfl
@[simp] theorem Yp : Tryd.prog.underlying 54 = some (.slice 53) := by kernel_rfl
@[simp] theorem aBk : cK Tryd.prog 54 = some [.sl true []] := by kernel_rfl
@[simp] theorem aAo : eY Tryd.prog 55 = some (false, 1) := by kernel_rfl
@[simp] theorem aAg : eS Tryd.prog 55 = some (53, 5, 40, #[.int .i64 0, .int .i64 0, .int .i64 0, .int .i64 0, .int .i64 0]) := by kernel_rfl
@[simp] theorem aAl : Tryd.prog.underlying 55 = some (.slice 53) := by kernel_rfl
@[simp] theorem aBm : cK Tryd.prog 55 = some [.sl true []] := by kernel_rfl
@[simp] theorem aAc : eY Tryd.prog 56 = some (false, 1) := by kernel_rfl
@[simp] theorem Yg : eS Tryd.prog 56 = none := by kernel_rfl
@[simp] theorem Yc : cK Tryd.prog 56 = some [.v (.pointer none)] := by kernel_rfl
@[simp] theorem Yd : Tryd.prog.underlying 56 = some (.pointer 59) := by kernel_rfl
@[simp] theorem aCg : eY Tryd.prog 57 = some (false, 1) := by kernel_rfl
@[simp] theorem aA3 : eS Tryd.prog 57 = some (5, 1, 1, #[.int .u8 0]) := by kernel_rfl
@[simp] theorem aCz : Tryd.prog.underlying 57 = some (.slice 5) := by kernel_rfl
@[simp] theorem aBz : cK Tryd.prog 57 = some [.sl true []] := by kernel_rfl
@[simp] theorem aCm : eY Tryd.prog 59 = some (true, 2) := by kernel_rfl
@[simp] theorem aAw : eS Tryd.prog 59 = none := by kernel_rfl
@[simp] theorem To : cD Tryd.prog 59 0 = some (0, false, 1) := by kernel_rfl
@[simp] theorem Ud : cD Tryd.prog 59 1 = some (1, false, 1) := by kernel_rfl
@[simp] theorem aCa : jY Tryd.prog 59 = some [(0, 1), (1, 1)] := by kernel_rfl
@[simp] theorem aB0 : cK Tryd.prog 59 = some [.v (.pointer none), .sl true []] := by kernel_rfl
@[simp] theorem Zk : eY Tryd.prog 61 = some (false, 1) := by kernel_rfl
@[simp] theorem aAj : eS Tryd.prog 61 = none := by kernel_rfl
@[simp] theorem Yz : cK Tryd.prog 61 = some [.v (.nilIface)] := by kernel_rfl
@[simp] theorem aBl : eY Tryd.prog 68 = some (true, 2) := by kernel_rfl
@[simp] theorem aAy : eS Tryd.prog 68 = none := by kernel_rfl
@[simp] theorem Ur : cD Tryd.prog 68 0 = some (0, false, 1) := by kernel_rfl
@[simp] theorem Vf : cD Tryd.prog 68 1 = some (1, false, 1) := by kernel_rfl
@[simp] theorem Zo : jY Tryd.prog 68 = some [(0, 1), (1, 1)] := by kernel_rfl
@[simp] theorem aB9 : cK Tryd.prog 68 = some [.v (.string ⟨#[]⟩), .v (.string ⟨#[]⟩)] := by kernel_rfl
@[simp] theorem aCl : eY Tryd.prog 71 = some (true, 14) := by kernel_rfl
@[simp] theorem aBj : eS Tryd.prog 71 = none := by kernel_rfl
@[simp] theorem Uv : cD Tryd.prog 71 0 = some (0, false, 1) := by kernel_rfl
@[simp] theorem Tu : cD Tryd.prog 71 1 = some (1, false, 1) := by kernel_rfl
@[simp] theorem Tk : cD Tryd.prog 71 2 = some (2, false, 1) := by kernel_rfl
@[simp] theorem Uh : cD Tryd.prog 71 3 = some (3, false, 1) := by kernel_rfl
@[simp] theorem Tn : cD Tryd.prog 71 4 = some (4, false, 1) := by kernel_rfl
@[simp] theorem Vb : cD Tryd.prog 71 5 = some (5, false, 1) := by kernel_rfl
@[simp] theorem Vl : cD Tryd.prog 71 6 = some (6, false, 1) := by kernel_rfl
@[simp] theorem Tz : cD Tryd.prog 71 7 = some (7, false, 1) := by kernel_rfl
@[simp] theorem Tf : cD Tryd.prog 71 8 = some (8, true, 6) := by kernel_rfl
@[simp] theorem aCh : jY Tryd.prog 71 = some [(0, 1), (1, 1), (2, 1), (3, 1), (4, 1), (5, 1), (6, 1), (7, 1), (8, 6)] := by kernel_rfl
@[simp] theorem aCv : cK Tryd.prog 71 = some [.v (.int .i64 0), .v (.int .i64 0), .v (.string ⟨#[]⟩), .v (.string ⟨#[]⟩), .v (.string ⟨#[]⟩), .sl true [], .sl true [], .sl true [], .v (.int .i64 0), .v (.int .i64 0), .v (.int .i64 0), .v (.int .i64 0), .v (.bool false), .v (.bool false)] := by kernel_rfl
@[simp] theorem aBb : eY Tryd.prog 78 = some (false, 1) := by kernel_rfl
@[simp] theorem Za : eS Tryd.prog 78 = some (57, 1, 24, #[.slice none 0 0]) := by kernel_rfl
@[simp] theorem aAr : Tryd.prog.underlying 78 = some (.slice 57) := by kernel_rfl
@[simp] theorem aAa : cK Tryd.prog 78 = some [.sl true []] := by kernel_rfl
@[simp] theorem Yi : eY Tryd.prog 82 = some (false, 1) := by kernel_rfl
@[simp] theorem aCt : eS Tryd.prog 82 = none := by kernel_rfl
@[simp] theorem Yn : cK Tryd.prog 82 = some [.v (.nilFunc)] := by kernel_rfl
@[simp] theorem aAs : eY Tryd.prog 86 = some (true, 256) := by kernel_rfl
@[simp] theorem Zc : eS Tryd.prog 86 = none := by kernel_rfl
@[simp] theorem aCs : zD Tryd.prog 86 = some (256, 1) := by kernel_rfl
@[simp] theorem aA9 : eY Tryd.prog 90 = some (false, 1) := by kernel_rfl
@[simp] theorem aCk : eS Tryd.prog 90 = none := by kernel_rfl
@[simp] theorem aBf : cK Tryd.prog 90 = some [.v (.pointer none)] := by kernel_rfl
@[simp] theorem aBi : Tryd.prog.underlying 90 = some (.pointer 86) := by kernel_rfl
@[simp] theorem Ym : eY Tryd.prog 91 = some (false, 1) := by kernel_rfl
@[simp] theorem aA5 : eS Tryd.prog 91 = none := by kernel_rfl
@[simp] theorem Zs : cK Tryd.prog 91 = some [.v (.pointer none)] := by kernel_rfl
@[simp] theorem Zr : Tryd.prog.underlying 91 = some (.pointer 5) := by kernel_rfl
@[simp] theorem Yk : eY Tryd.prog 92 = some (true, 2) := by kernel_rfl
@[simp] theorem aAk : eS Tryd.prog 92 = none := by kernel_rfl
@[simp] theorem Ux : cD Tryd.prog 92 0 = some (0, false, 1) := by kernel_rfl
@[simp] theorem Up : cD Tryd.prog 92 1 = some (1, false, 1) := by kernel_rfl
@[simp] theorem Zt : jY Tryd.prog 92 = some [(0, 1), (1, 1)] := by kernel_rfl
@[simp] theorem aBx : cK Tryd.prog 92 = some [.v (.string ⟨#[]⟩), .v (.int .i64 0)] := by kernel_rfl
@[simp] theorem aBd : eY Tryd.prog 95 = some (true, 2) := by kernel_rfl
@[simp] theorem aA1 : eS Tryd.prog 95 = none := by kernel_rfl
@[simp] theorem Tc : cD Tryd.prog 95 0 = some (0, false, 1) := by kernel_rfl
@[simp] theorem Ve : cD Tryd.prog 95 1 = some (1, false, 1) := by kernel_rfl
@[simp] theorem Yj : jY Tryd.prog 95 = some [(0, 1), (1, 1)] := by kernel_rfl
@[simp] theorem aCw : cK Tryd.prog 95 = some [.v (.string ⟨#[]⟩), .v (.string ⟨#[]⟩)] := by kernel_rfl
@[simp] theorem Xf : eY Tryd.prog 101 = some (false, 1) := by kernel_rfl
@[simp] theorem Vz : eS Tryd.prog 101 = none := by kernel_rfl
@[simp] theorem Vr : cK Tryd.prog 101 = some [.v (.int .u64 0)] := by kernel_rfl
@[simp] theorem Wd : Tryd.prog.underlying 101 = some (.int .u64) := by kernel_rfl
@[simp] theorem Vw : eY Tryd.prog 114 = some (false, 1) := by kernel_rfl
@[simp] theorem Wh : eS Tryd.prog 114 = none := by kernel_rfl
@[simp] theorem Wo : cK Tryd.prog 114 = some [.v (.pointer none)] := by kernel_rfl
@[simp] theorem Xx : eY Tryd.prog 123 = some (false, 1) := by kernel_rfl
@[simp] theorem Xp : eS Tryd.prog 123 = none := by kernel_rfl
@[simp] theorem Xr : cK Tryd.prog 123 = some [.v (.nilFunc)] := by kernel_rfl
@[simp] theorem Wm : eY Tryd.prog 126 = some (false, 1) := by kernel_rfl
@[simp] theorem Xv : eS Tryd.prog 126 = none := by kernel_rfl
@[simp] theorem Xm : cK Tryd.prog 126 = some [.v (.int .u32 0)] := by kernel_rfl
@[simp] theorem Wf : Tryd.prog.underlying 126 = some (.int .u32) := by kernel_rfl
@[simp] theorem Xo : eY Tryd.prog 129 = some (false, 1) := by kernel_rfl
@[simp] theorem Wa : eS Tryd.prog 129 = none := by kernel_rfl
@[simp] theorem Xh : cK Tryd.prog 129 = some [.v (.int .u64 0)] := by kernel_rfl
@[simp] theorem Vs : Tryd.prog.underlying 129 = some (.int .u64) := by kernel_rfl
@[simp] theorem Wz : eY Tryd.prog 136 = some (false, 1) := by kernel_rfl
@[simp] theorem Wb : eS Tryd.prog 136 = none := by kernel_rfl
@[simp] theorem Wu : cK Tryd.prog 136 = some [.v (.nilFunc)] := by kernel_rfl
@[simp] theorem Wq : eY Tryd.prog 141 = some (false, 1) := by kernel_rfl
@[simp] theorem Wl : eS Tryd.prog 141 = none := by kernel_rfl
@[simp] theorem We : cK Tryd.prog 141 = some [.v (.nilFunc)] := by kernel_rfl
@[simp] theorem Wj : eY Tryd.prog 153 = some (true, 256) := by kernel_rfl
@[simp] theorem Vu : eS Tryd.prog 153 = none := by kernel_rfl
@[simp] theorem Wn : zD Tryd.prog 153 = some (256, 1) := by kernel_rfl
@[simp] theorem Xj : eY Tryd.prog 155 = some (true, 2) := by kernel_rfl
@[simp] theorem Wt : eS Tryd.prog 155 = none := by kernel_rfl
@[simp] theorem Sr : cD Tryd.prog 155 0 = some (0, false, 1) := by kernel_rfl
@[simp] theorem Su : cD Tryd.prog 155 1 = some (1, false, 1) := by kernel_rfl
@[simp] theorem Wg : jY Tryd.prog 155 = some [(0, 1), (1, 1)] := by kernel_rfl
@[simp] theorem Wv : cK Tryd.prog 155 = some [.v (.int .u8 0), .v (.int .u8 0)] := by kernel_rfl
@[simp] theorem Xi : eY Tryd.prog 156 = some (true, 32) := by kernel_rfl
@[simp] theorem Vx : eS Tryd.prog 156 = none := by kernel_rfl
@[simp] theorem Xg : zD Tryd.prog 156 = some (16, 2) := by kernel_rfl
@[simp] theorem Xq : jY Tryd.prog 156 = some [(0, 2), (2, 2), (4, 2), (6, 2), (8, 2), (10, 2), (12, 2), (14, 2), (16, 2), (18, 2), (20, 2), (22, 2), (24, 2), (26, 2), (28, 2), (30, 2)] := by kernel_rfl
@[simp] theorem Xd : cK Tryd.prog 156 = some [.v (.int .u8 0), .v (.int .u8 0), .v (.int .u8 0), .v (.int .u8 0), .v (.int .u8 0), .v (.int .u8 0), .v (.int .u8 0), .v (.int .u8 0), .v (.int .u8 0), .v (.int .u8 0), .v (.int .u8 0), .v (.int .u8 0), .v (.int .u8 0), .v (.int .u8 0), .v (.int .u8 0), .v (.int .u8 0), .v (.int .u8 0), .v (.int .u8 0), .v (.int .u8 0), .v (.int .u8 0), .v (.int .u8 0), .v (.int .u8 0), .v (.int .u8 0), .v (.int .u8 0), .v (.int .u8 0), .v (.int .u8 0), .v (.int .u8 0), .v (.int .u8 0), .v (.int .u8 0), .v (.int .u8 0), .v (.int .u8 0), .v (.int .u8 0)] := by kernel_rfl
@[simp] theorem if9 : Sj Tryd.prog 9 = some false := by kernel_rfl
end Go.Proofs.YtighdhfgcdjmeaaDoor

