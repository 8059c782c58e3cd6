import Derived.Test.YtighdhfgcdjmeaaDoorProg
import Derived.Test.YtighdhfgcdjmeaaDoorVm17
import Derived.Test.YtighdhfgcdjmeaaDoorVmX13
import Derived.WalkKit
import Derived.KernelRfl
namespace Go.Proofs.YtighdhfgcdjmeaaDoor
open Go Go.Vm
set_option linter.all false
set_option maxRecDepth 100000
@[simp] theorem ty1 : eM Tryd.prog 1 = some (false, 1) := by kernel_rfl
@[simp] theorem el1 : eJ Tryd.prog 1 = none := by kernel_rfl
@[simp] theorem zr1 : cB Tryd.prog 1 = some [.v (.nilFunc)] := by kernel_rfl
@[simp] theorem ty2 : eM Tryd.prog 2 = some (false, 1) := by kernel_rfl
@[simp] theorem el2 : eJ Tryd.prog 2 = none := by kernel_rfl
@[simp] theorem zr2 : cB Tryd.prog 2 = some [.v (.int .i64 0)] := by kernel_rfl
@[simp] theorem ub2 : Tryd.prog.underlying 2 = some (.int .i64) := by kernel_rfl
@[simp] theorem ty3 : eM Tryd.prog 3 = some (false, 1) := by kernel_rfl
@[simp] theorem el3 : eJ Tryd.prog 3 = none := by kernel_rfl
@[simp] theorem zr3 : cB Tryd.prog 3 = some [.v (.int .i64 0)] := by kernel_rfl
@[simp] theorem ub3 : Tryd.prog.underlying 3 = some (.int .i64) := by kernel_rfl
@[simp] theorem ty4 : eM Tryd.prog 4 = some (false, 1) := by kernel_rfl
@[simp] theorem el4 : eJ Tryd.prog 4 = none := by kernel_rfl
@[simp] theorem zr4 : cB Tryd.prog 4 = some [.v (.bool false)] := by kernel_rfl
@[simp] theorem ub4 : Tryd.prog.underlying 4 = some .bool := by kernel_rfl
@[simp] theorem ty5 : eM Tryd.prog 5 = some (false, 1) := by kernel_rfl
@[simp] theorem el5 : eJ Tryd.prog 5 = none := by kernel_rfl
@[simp] theorem zr5 : cB Tryd.prog 5 = some [.v (.int .u8 0)] := by kernel_rfl
@[simp] theorem ub5 : Tryd.prog.underlying 5 = some (.int .u8) := by kernel_rfl
@[simp] theorem ty6 : eM Tryd.prog 6 = some (false, 1) := by kernel_rfl
@[simp] theorem el6 : eJ Tryd.prog 6 = none := by kernel_rfl
@[simp] theorem zr6 : cB Tryd.prog 6 = some [.v (.int .u8 0)] := by kernel_rfl
@[simp] theorem ub6 : Tryd.prog.underlying 6 = some (.int .u8) := by kernel_rfl
@[simp] theorem ty7 : eM Tryd.prog 7 = some (true, 4) := by kernel_rfl
@[simp] theorem el7 : eJ Tryd.prog 7 = none := by kernel_rfl
@[simp] theorem Ue : bR Tryd.prog 7 0 = some (0, false, 1) := by kernel_rfl
@[simp] theorem Sn : bR Tryd.prog 7 1 = some (1, false, 1) := by kernel_rfl
@[simp] theorem Ta : bR Tryd.prog 7 2 = some (2, false, 1) := by kernel_rfl
@[simp] theorem Ss : bR Tryd.prog 7 3 = some (3, false, 1) := by kernel_rfl
@[simp] theorem pl7 : jT Tryd.prog 7 = some [(0, 1), (1, 1), (2, 1), (3, 1)] := by kernel_rfl
@[simp] theorem zr7 : cB Tryd.prog 7 = some [.v (.int .i64 0), .v (.int .i64 0), .v (.bool false), .v (.int .u8 0)] := by kernel_rfl
@[simp] theorem ty8 : eM Tryd.prog 8 = some (true, 4) := by kernel_rfl
@[simp] theorem el8 : eJ Tryd.prog 8 = none := by kernel_rfl
@[simp] theorem Ti : bR Tryd.prog 8 0 = some (0, false, 1) := by kernel_rfl
@[simp] theorem Tz : bR Tryd.prog 8 1 = some (1, false, 1) := by kernel_rfl
@[simp] theorem Ty : bR Tryd.prog 8 2 = some (2, false, 1) := by kernel_rfl
@[simp] theorem Sy : bR Tryd.prog 8 3 = some (3, false, 1) := by kernel_rfl
@[simp] theorem pl8 : jT Tryd.prog 8 = some [(0, 1), (1, 1), (2, 1), (3, 1)] := by kernel_rfl
@[simp] theorem zr8 : cB Tryd.prog 8 = some [.v (.int .i64 0), .v (.int .i64 0), .v (.bool false), .v (.int .u8 0)] := by kernel_rfl
@[simp] theorem ty9 : eM Tryd.prog 9 = some (false, 1) := by kernel_rfl
@[simp] theorem el9 : eJ Tryd.prog 9 = none := by kernel_rfl
@[simp] theorem zr9 : cB Tryd.prog 9 = some [.v (.string ⟨#[]⟩)] := by kernel_rfl
@[simp] theorem ub9 : Tryd.prog.underlying 9 = some .string := by kernel_rfl
@[simp] theorem Zm : eM Tryd.prog 20 = some (false, 1) := by kernel_rfl
@[simp] theorem Vp : eJ Tryd.prog 20 = none := by kernel_rfl
@[simp] theorem Yn : cB Tryd.prog 20 = some [.v (.nilIface)] := by kernel_rfl
@[simp] theorem Zq : eM Tryd.prog 21 = some (false, 1) := by kernel_rfl
@[simp] theorem Vo : eJ Tryd.prog 21 = none := by kernel_rfl
@[simp] theorem Yx : cB Tryd.prog 21 = some [.v (.int .i32 0)] := by kernel_rfl
@[simp] theorem Xz : Tryd.prog.underlying 21 = some (.int .i32) := by kernel_rfl
@[simp] theorem Wb : eM Tryd.prog 22 = some (false, 1) := by kernel_rfl
@[simp] theorem Yo : eJ Tryd.prog 22 = some (9, 1, 16, #[.string ⟨#[]⟩]) := by kernel_rfl
@[simp] theorem Zb : Tryd.prog.underlying 22 = some (.slice 9) := by kernel_rfl
@[simp] theorem Xa : cB Tryd.prog 22 = some [.sl true []] := by kernel_rfl
@[simp] theorem Zt : eM Tryd.prog 27 = some (false, 1) := by kernel_rfl
@[simp] theorem Zz : eJ Tryd.prog 27 = some (71, 14, 176, #[.int .i64 0, .int .i64 0, .string ⟨#[]⟩, .string ⟨#[]⟩, .string ⟨#[]⟩, .slice none 0 0, .slice none 0 0, .slice none 0 0, .int .i64 0, .int .i64 0, .int .i64 0, .int .i64 0, .bool false, .bool false]) := by kernel_rfl
@[simp] theorem Yg : Tryd.prog.underlying 27 = some (.slice 71) := by kernel_rfl
@[simp] theorem Xk : cB Tryd.prog 27 = some [.sl true []] := by kernel_rfl
@[simp] theorem Zn : eM Tryd.prog 28 = some (false, 1) := by kernel_rfl
@[simp] theorem Ym : eJ Tryd.prog 28 = some (95, 2, 32, #[.string ⟨#[]⟩, .string ⟨#[]⟩]) := by kernel_rfl
@[simp] theorem aAa : Tryd.prog.underlying 28 = some (.slice 95) := by kernel_rfl
@[simp] theorem Yh : cB Tryd.prog 28 = some [.sl true []] := by kernel_rfl
@[simp] theorem Yv : eM Tryd.prog 29 = some (false, 1) := by kernel_rfl
@[simp] theorem Wp : eJ Tryd.prog 29 = some (95, 2, 32, #[.string ⟨#[]⟩, .string ⟨#[]⟩]) := by kernel_rfl
@[simp] theorem Ya : Tryd.prog.underlying 29 = some (.slice 95) := by kernel_rfl
@[simp] theorem Xm : cB Tryd.prog 29 = some [.sl true []] := by kernel_rfl
@[simp] theorem Zj : eM Tryd.prog 30 = some (false, 1) := by kernel_rfl
@[simp] theorem Rw : eJ Tryd.prog 30 = some (49, 2, 24, #[.string ⟨#[]⟩, .int .i64 0]) := by kernel_rfl
@[simp] theorem Zx : Tryd.prog.underlying 30 = some (.slice 49) := by kernel_rfl
@[simp] theorem Un : cB Tryd.prog 30 = some [.sl true []] := by kernel_rfl
@[simp] theorem Vn : eM Tryd.prog 31 = some (false, 1) := by kernel_rfl
@[simp] theorem Xh : eJ Tryd.prog 31 = some (49, 2, 24, #[.string ⟨#[]⟩, .int .i64 0]) := by kernel_rfl
@[simp] theorem Vw : Tryd.prog.underlying 31 = some (.slice 49) := by kernel_rfl
@[simp] theorem Yd : cB Tryd.prog 31 = some [.sl true []] := by kernel_rfl
@[simp] theorem Wi : eM Tryd.prog 32 = some (false, 1) := by kernel_rfl
@[simp] theorem aAc : eJ Tryd.prog 32 = some (34, 8, 144, #[.int .i64 0, .int .i64 0, .string ⟨#[]⟩, .string ⟨#[]⟩, .slice none 0 0, .slice none 0 0, .slice none 0 0, .slice none 0 0]) := by kernel_rfl
@[simp] theorem Vf : Tryd.prog.underlying 32 = some (.slice 34) := by kernel_rfl
@[simp] theorem Xi : cB Tryd.prog 32 = some [.sl true []] := by kernel_rfl
@[simp] theorem Xd : eM Tryd.prog 34 = some (true, 8) := by kernel_rfl
@[simp] theorem Xb : eJ Tryd.prog 34 = none := by kernel_rfl
@[simp] theorem Rh : bR Tryd.prog 34 0 = some (0, false, 1) := by kernel_rfl
@[simp] theorem Se : bR Tryd.prog 34 1 = some (1, false, 1) := by kernel_rfl
@[simp] theorem Re : bR Tryd.prog 34 2 = some (2, false, 1) := by kernel_rfl
@[simp] theorem Qa : bR Tryd.prog 34 3 = some (3, false, 1) := by kernel_rfl
@[simp] theorem Sg : bR Tryd.prog 34 4 = some (4, false, 1) := by kernel_rfl
@[simp] theorem Rr : bR Tryd.prog 34 5 = some (5, false, 1) := by kernel_rfl
@[simp] theorem Qm : bR Tryd.prog 34 6 = some (6, false, 1) := by kernel_rfl
@[simp] theorem Qx : bR Tryd.prog 34 7 = some (7, false, 1) := by kernel_rfl
@[simp] theorem Wk : jT Tryd.prog 34 = some [(0, 1), (1, 1), (2, 1), (3, 1), (4, 1), (5, 1), (6, 1), (7, 1)] := by kernel_rfl
@[simp] theorem Zw : cB Tryd.prog 34 = some [.v (.int .i64 0), .v (.int .i64 0), .v (.string ⟨#[]⟩), .v (.string ⟨#[]⟩), .sl true [], .sl true [], .sl true [], .sl true []] := by kernel_rfl
@[simp] theorem Xf : eM Tryd.prog 37 = some (false, 1) := by kernel_rfl
@[simp] theorem Wx : eJ Tryd.prog 37 = some (68, 2, 32, #[.string ⟨#[]⟩, .string ⟨#[]⟩]) := by kernel_rfl
@[simp] theorem Za : Tryd.prog.underlying 37 = some (.slice 68) := by kernel_rfl
@[simp] theorem Ye : cB Tryd.prog 37 = some [.sl true []] := by kernel_rfl
@[simp] theorem Zu : eM Tryd.prog 38 = some (false, 1) := by kernel_rfl
@[simp] theorem Vc : eJ Tryd.prog 38 = some (92, 2, 24, #[.string ⟨#[]⟩, .int .i64 0]) := by kernel_rfl
@[simp] theorem Wl : Tryd.prog.underlying 38 = some (.slice 92) := by kernel_rfl
@[simp] theorem Wu : cB Tryd.prog 38 = some [.sl true []] := by kernel_rfl
@[simp] theorem Vs : eM Tryd.prog 40 = some (true, 6) := by kernel_rfl
@[simp] theorem Yk : eJ Tryd.prog 40 = none := by kernel_rfl
@[simp] theorem Sd : bR Tryd.prog 40 0 = some (0, false, 1) := by kernel_rfl
@[simp] theorem Si : bR Tryd.prog 40 1 = some (1, false, 1) := by kernel_rfl
@[simp] theorem Qh : bR Tryd.prog 40 2 = some (2, false, 1) := by kernel_rfl
@[simp] theorem Rc : bR Tryd.prog 40 3 = some (3, false, 1) := by kernel_rfl
@[simp] theorem Qi : bR Tryd.prog 40 4 = some (4, false, 1) := by kernel_rfl
@[simp] theorem Qy : bR Tryd.prog 40 5 = some (5, false, 1) := by kernel_rfl
@[simp] theorem Yu : jT Tryd.prog 40 = some [(0, 1), (1, 1), (2, 1), (3, 1), (4, 1), (5, 1)] := by kernel_rfl
@[simp] theorem Yl : cB Tryd.prog 40 = some [.v (.int .i64 0), .v (.int .i64 0), .v (.int .i64 0), .v (.int .i64 0), .v (.bool false), .v (.bool false)] := by kernel_rfl
@[simp] theorem Yr : eM Tryd.prog 41 = some (false, 1) := by kernel_rfl
@[simp] theorem Xp : eJ Tryd.prog 41 = some (43, 14, 192, #[.int .i64 0, .string ⟨#[]⟩, .string ⟨#[]⟩, .string ⟨#[]⟩, .slice none 0 0, .slice none 0 0, .slice none 0 0, .int .i64 0, .int .i64 0, .int .i64 0, .int .i64 0, .bool false, .bool false, .slice none 0 0]) := by kernel_rfl
@[simp] theorem Xy : Tryd.prog.underlying 41 = some (.slice 43) := by kernel_rfl
@[simp] theorem Wt : cB Tryd.prog 41 = some [.sl true []] := by kernel_rfl
@[simp] theorem We : eM Tryd.prog 43 = some (true, 14) := by kernel_rfl
@[simp] theorem Va : eJ Tryd.prog 43 = none := by kernel_rfl
@[simp] theorem Ry : bR Tryd.prog 43 0 = some (0, false, 1) := by kernel_rfl
@[simp] theorem Qq : bR Tryd.prog 43 1 = some (1, false, 1) := by kernel_rfl
@[simp] theorem Rx : bR Tryd.prog 43 2 = some (2, false, 1) := by kernel_rfl
@[simp] theorem Sf : bR Tryd.prog 43 3 = some (3, false, 1) := by kernel_rfl
@[simp] theorem Sk : bR Tryd.prog 43 4 = some (4, false, 1) := by kernel_rfl
@[simp] theorem Qg : bR Tryd.prog 43 5 = some (5, false, 1) := by kernel_rfl
@[simp] theorem Rb : bR Tryd.prog 43 6 = some (6, false, 1) := by kernel_rfl
@[simp] theorem Rq : bR Tryd.prog 43 7 = some (7, true, 6) := by kernel_rfl
@[simp] theorem Sa : bR Tryd.prog 43 8 = some (13, false, 1) := by kernel_rfl
@[simp] theorem Vz : jT Tryd.prog 43 = some [(0, 1), (1, 1), (2, 1), (3, 1), (4, 1), (5, 1), (6, 1), (7, 6), (13, 1)] := by kernel_rfl
@[simp] theorem Xq : cB Tryd.prog 43 = some [.v (.int .i64 0), .v (.string ⟨#[]⟩), .v (.string ⟨#[]⟩), .v (.string ⟨#[]⟩), .sl true [], .sl true [], .sl true [], .v (.int .i64 0), .v (.int .i64 0), .v (.int .i64 0), .v (.int .i64 0), .v (.bool false), .v (.bool false), .sl true []] := by kernel_rfl
@[simp] theorem Wd : eM Tryd.prog 49 = some (true, 2) := by kernel_rfl
@[simp] theorem Wa : eJ Tryd.prog 49 = none := by kernel_rfl
@[simp] theorem Rm : bR Tryd.prog 49 0 = some (0, false, 1) := by kernel_rfl
@[simp] theorem Sl : bR Tryd.prog 49 1 = some (1, false, 1) := by kernel_rfl
@[simp] theorem Xs : jT Tryd.prog 49 = some [(0, 1), (1, 1)] := by kernel_rfl
@[simp] theorem Wo : cB Tryd.prog 49 = some [.v (.string ⟨#[]⟩), .v (.int .i64 0)] := by kernel_rfl
@[simp] theorem Zh : eM Tryd.prog 51 = some (true, 4) := by kernel_rfl
@[simp] theorem Wq : eJ Tryd.prog 51 = none := by kernel_rfl
@[simp] theorem Ql : bR Tryd.prog 51 0 = some (0, false, 1) := by kernel_rfl
@[simp] theorem Ro : bR Tryd.prog 51 1 = some (1, false, 1) := by kernel_rfl
@[simp] theorem Rn : bR Tryd.prog 51 2 = some (2, false, 1) := by kernel_rfl
@[simp] theorem Qn : bR Tryd.prog 51 3 = some (3, false, 1) := by kernel_rfl
@[simp] theorem Vl : jT Tryd.prog 51 = some [(0, 1), (1, 1), (2, 1), (3, 1)] := by kernel_rfl
@[simp] theorem Zv : cB Tryd.prog 51 = some [.v (.int .i64 0), .v (.int .i64 0), .v (.int .i64 0), .v (.int .i64 0)] := by kernel_rfl
@[simp] theorem Ww : eM Tryd.prog 53 = some (true, 5) := by kernel_rfl
@[simp] theorem Ur : eJ Tryd.prog 53 = none := by kernel_rfl
@[simp] theorem Rd : bR Tryd.prog 53 0 = some (0, false, 1) := by kernel_rfl
@[simp] theorem Qr : bR Tryd.prog 53 1 = some (1, true, 4) := by kernel_rfl
@[simp] theorem Vi : jT Tryd.prog 53 = some [(0, 1), (1, 4)] := by kernel_rfl
@[simp] theorem Vr : cB Tryd.prog 53 = some [.v (.int .i64 0), .v (.int .i64 0), .v (.int .i64 0), .v (.int .i64 0), .v (.int .i64 0)] := by kernel_rfl
@[simp] theorem Uu : eM Tryd.prog 54 = some (false, 1) := by kernel_rfl
@[simp] theorem Qu : eJ Tryd.prog 54 = some (53, 5, 40, #[.int .i64 0, .int .i64 0, .int .i64 0, .int .i64 0, .int .i64 0]) := by kernel_rfl
@[simp] theorem Vj : Tryd.prog.underlying 54 = some (.slice 53) := by kernel_rfl
@[simp] theorem Vx : cB Tryd.prog 54 = some [.sl true []] := by kernel_rfl
@[simp] theorem Zy : eM Tryd.prog 55 = some (false, 1) := by kernel_rfl
@[simp] theorem aAb : eJ Tryd.prog 55 = some (53, 5, 40, #[.int .i64 0, .int .i64 0, .int .i64 0, .int .i64 0, .int .i64 0]) := by kernel_rfl
@[simp] theorem Vq : Tryd.prog.underlying 55 = some (.slice 53) := by kernel_rfl
@[simp] theorem Zo : cB Tryd.prog 55 = some [.sl true []] := by kernel_rfl
@[simp] theorem Wr : eM Tryd.prog 56 = some (false, 1) := by kernel_rfl
@[simp] theorem Vg : eJ Tryd.prog 56 = none := by kernel_rfl
@[simp] theorem Vb : cB Tryd.prog 56 = some [.v (.pointer none)] := by kernel_rfl
@[simp] theorem Zd : Tryd.prog.underlying 56 = some (.pointer 59) := by kernel_rfl
@[simp] theorem Up : eM Tryd.prog 57 = some (false, 1) := by kernel_rfl
@[simp] theorem Wh : eJ Tryd.prog 57 = some (5, 1, 1, #[.int .u8 0]) := by kernel_rfl
@[simp] theorem Uz : Tryd.prog.underlying 57 = some (.slice 5) := by kernel_rfl
@[simp] theorem Xn : cB Tryd.prog 57 = some [.sl true []] := by kernel_rfl
@[simp] theorem Yj : eM Tryd.prog 59 = some (true, 2) := by kernel_rfl
@[simp] theorem Vd : eJ Tryd.prog 59 = none := by kernel_rfl
@[simp] theorem Sm : bR Tryd.prog 59 0 = some (0, false, 1) := by kernel_rfl
@[simp] theorem Pz : bR Tryd.prog 59 1 = some (1, false, 1) := by kernel_rfl
@[simp] theorem Ut : jT Tryd.prog 59 = some [(0, 1), (1, 1)] := by kernel_rfl
@[simp] theorem Ws : cB Tryd.prog 59 = some [.v (.pointer none), .sl true []] := by kernel_rfl
@[simp] theorem Um : eM Tryd.prog 61 = some (false, 1) := by kernel_rfl
@[simp] theorem Ux : eJ Tryd.prog 61 = none := by kernel_rfl
@[simp] theorem Zi : cB Tryd.prog 61 = some [.v (.nilIface)] := by kernel_rfl
@[simp] theorem Ys : eM Tryd.prog 68 = some (true, 2) := by kernel_rfl
@[simp] theorem Zr : eJ Tryd.prog 68 = none := by kernel_rfl
@[simp] theorem Qz : bR Tryd.prog 68 0 = some (0, false, 1) := by kernel_rfl
@[simp] theorem Qv : bR Tryd.prog 68 1 = some (1, false, 1) := by kernel_rfl
@[simp] theorem Xv : jT Tryd.prog 68 = some [(0, 1), (1, 1)] := by kernel_rfl
@[simp] theorem Uv : cB Tryd.prog 68 = some [.v (.string ⟨#[]⟩), .v (.string ⟨#[]⟩)] := by kernel_rfl
@[simp] theorem Yy : eM Tryd.prog 71 = some (true, 14) := by kernel_rfl
@[simp] theorem Wm : eJ Tryd.prog 71 = none := by kernel_rfl
@[simp] theorem Ru : bR Tryd.prog 71 0 = some (0, false, 1) := by kernel_rfl
@[simp] theorem Qb : bR Tryd.prog 71 1 = some (1, false, 1) := by kernel_rfl
@[simp] theorem Sb : bR Tryd.prog 71 2 = some (2, false, 1) := by kernel_rfl
@[simp] theorem Rs : bR Tryd.prog 71 3 = some (3, false, 1) := by kernel_rfl
@[simp] theorem Qp : bR Tryd.prog 71 4 = some (4, false, 1) := by kernel_rfl
@[simp] theorem Qe : bR Tryd.prog 71 5 = some (5, false, 1) := by kernel_rfl
@[simp] theorem Rf : bR Tryd.prog 71 6 = some (6, false, 1) := by kernel_rfl
@[simp] theorem Rt : bR Tryd.prog 71 7 = some (7, false, 1) := by kernel_rfl
@[simp] theorem Rk : bR Tryd.prog 71 8 = some (8, true, 6) := by kernel_rfl
@[simp] theorem Uy : jT Tryd.prog 71 = some [(0, 1), (1, 1), (2, 1), (3, 1), (4, 1), (5, 1), (6, 1), (7, 1), (8, 6)] := by kernel_rfl
@[simp] theorem Wv : cB Tryd.prog 71 = some [.v (.int .i64 0), .v (.int .i64 0), .v (.string ⟨#[]⟩), .v (.string ⟨#[]⟩), .v (.string ⟨#[]⟩), .sl true [], .sl true [], .sl true [], .v (.int .i64 0), .v (.int .i64 0), .v (.int .i64 0), .v (.int .i64 0), .v (.bool false), .v (.bool false)] := by kernel_rfl
@[simp] theorem Vh : eM Tryd.prog 78 = some (false, 1) := by kernel_rfl
@[simp] theorem Xu : eJ Tryd.prog 78 = some (57, 1, 24, #[.slice none 0 0]) := by kernel_rfl
@[simp] theorem Zk : Tryd.prog.underlying 78 = some (.slice 57) := by kernel_rfl
@[simp] theorem Xr : cB Tryd.prog 78 = some [.sl true []] := by kernel_rfl
@[simp] theorem Wf : eM Tryd.prog 82 = some (false, 1) := by kernel_rfl
@[simp] theorem Ve : eJ Tryd.prog 82 = none := by kernel_rfl
@[simp] theorem Yt : cB Tryd.prog 82 = some [.v (.nilFunc)] := by kernel_rfl
@[simp] theorem Yw : eM Tryd.prog 86 = some (true, 256) := by kernel_rfl
@[simp] theorem Zg : eJ Tryd.prog 86 = none := by kernel_rfl
@[simp] theorem Xe : zP Tryd.prog 86 = some (256, 1) := by kernel_rfl
@[simp] theorem Yq : eM Tryd.prog 90 = some (false, 1) := by kernel_rfl
@[simp] theorem Zc : eJ Tryd.prog 90 = none := by kernel_rfl
@[simp] theorem Xw : cB Tryd.prog 90 = some [.v (.pointer none)] := by kernel_rfl
@[simp] theorem Xl : Tryd.prog.underlying 90 = some (.pointer 86) := by kernel_rfl
@[simp] theorem Vu : eM Tryd.prog 91 = some (false, 1) := by kernel_rfl
@[simp] theorem Wj : eJ Tryd.prog 91 = none := by kernel_rfl
@[simp] theorem Xt : cB Tryd.prog 91 = some [.v (.pointer none)] := by kernel_rfl
@[simp] theorem Vk : Tryd.prog.underlying 91 = some (.pointer 5) := by kernel_rfl
@[simp] theorem Us : eM Tryd.prog 92 = some (true, 2) := by kernel_rfl
@[simp] theorem Xx : eJ Tryd.prog 92 = none := by kernel_rfl
@[simp] theorem Qk : bR Tryd.prog 92 0 = some (0, false, 1) := by kernel_rfl
@[simp] theorem Qo : bR Tryd.prog 92 1 = some (1, false, 1) := by kernel_rfl
@[simp] theorem Zl : jT Tryd.prog 92 = some [(0, 1), (1, 1)] := by kernel_rfl
@[simp] theorem Zs : cB Tryd.prog 92 = some [.v (.string ⟨#[]⟩), .v (.int .i64 0)] := by kernel_rfl
@[simp] theorem Yi : eM Tryd.prog 95 = some (true, 2) := by kernel_rfl
@[simp] theorem Wn : eJ Tryd.prog 95 = none := by kernel_rfl
@[simp] theorem Qj : bR Tryd.prog 95 0 = some (0, false, 1) := by kernel_rfl
@[simp] theorem Pt : bR Tryd.prog 95 1 = some (1, false, 1) := by kernel_rfl
@[simp] theorem Wg : jT Tryd.prog 95 = some [(0, 1), (1, 1)] := by kernel_rfl
@[simp] theorem Uo : cB Tryd.prog 95 = some [.v (.string ⟨#[]⟩), .v (.string ⟨#[]⟩)] := by kernel_rfl
@[simp] theorem Tj : eM Tryd.prog 101 = some (false, 1) := by kernel_rfl
@[simp] theorem Tt : eJ Tryd.prog 101 = none := by kernel_rfl
@[simp] theorem Ub : cB Tryd.prog 101 = some [.v (.int .u64 0)] := by kernel_rfl
@[simp] theorem Uf : Tryd.prog.underlying 101 = some (.int .u64) := by kernel_rfl
@[simp] theorem Sv : eM Tryd.prog 114 = some (false, 1) := by kernel_rfl
@[simp] theorem Tv : eJ Tryd.prog 114 = none := by kernel_rfl
@[simp] theorem Sp : cB Tryd.prog 114 = some [.v (.pointer none)] := by kernel_rfl
@[simp] theorem Tf : eM Tryd.prog 123 = some (false, 1) := by kernel_rfl
@[simp] theorem Uj : eJ Tryd.prog 123 = none := by kernel_rfl
@[simp] theorem Th : cB Tryd.prog 123 = some [.v (.nilFunc)] := by kernel_rfl
@[simp] theorem Ui : eM Tryd.prog 126 = some (false, 1) := by kernel_rfl
@[simp] theorem Tm : eJ Tryd.prog 126 = none := by kernel_rfl
@[simp] theorem Tw : cB Tryd.prog 126 = some [.v (.int .u32 0)] := by kernel_rfl
@[simp] theorem Te : Tryd.prog.underlying 126 = some (.int .u32) := by kernel_rfl
@[simp] theorem Tb : eM Tryd.prog 129 = some (false, 1) := by kernel_rfl
@[simp] theorem Ul : eJ Tryd.prog 129 = none := by kernel_rfl
@[simp] theorem To : cB Tryd.prog 129 = some [.v (.int .u64 0)] := by kernel_rfl
@[simp] theorem Ts : Tryd.prog.underlying 129 = some (.int .u64) := by kernel_rfl
@[simp] theorem Tx : eM Tryd.prog 136 = some (false, 1) := by kernel_rfl
@[simp] theorem Su : eJ Tryd.prog 136 = none := by kernel_rfl
@[simp] theorem Uh : cB Tryd.prog 136 = some [.v (.nilFunc)] := by kernel_rfl
@[simp] theorem Td : eM Tryd.prog 141 = some (false, 1) := by kernel_rfl
@[simp] theorem Tp : eJ Tryd.prog 141 = none := by kernel_rfl
@[simp] theorem Ud : cB Tryd.prog 141 = some [.v (.nilFunc)] := by kernel_rfl
@[simp] theorem Tq : eM Tryd.prog 153 = some (true, 256) := by kernel_rfl
@[simp] theorem Tk : eJ Tryd.prog 153 = none := by kernel_rfl
@[simp] theorem Tc : zP Tryd.prog 153 = some (256, 1) := by kernel_rfl
@[simp] theorem Uk : eM Tryd.prog 155 = some (true, 2) := by kernel_rfl
@[simp] theorem Sw : eJ Tryd.prog 155 = none := by kernel_rfl
@[simp] theorem Pk : bR Tryd.prog 155 0 = some (0, false, 1) := by kernel_rfl
@[simp] theorem Po : bR Tryd.prog 155 1 = some (1, false, 1) := by kernel_rfl
@[simp] theorem Ug : jT Tryd.prog 155 = some [(0, 1), (1, 1)] := by kernel_rfl
@[simp] theorem Tn : cB Tryd.prog 155 = some [.v (.int .u8 0), .v (.int .u8 0)] := by kernel_rfl
@[simp] theorem Tu : eM Tryd.prog 156 = some (true, 32) := by kernel_rfl
@[simp] theorem Ua : eJ Tryd.prog 156 = none := by kernel_rfl
@[simp] theorem So : zP Tryd.prog 156 = some (16, 2) := by kernel_rfl
@[simp] theorem Sq : jT Tryd.prog 156 = some [(0, 2), (2, 2), (4, 2), (6, 2), (8, 2), (10, 2), (12, 2), (14, 2), (16, 2), (18, 2), (20, 2), (22, 2), (24, 2), (26, 2), (28, 2), (30, 2)] := by kernel_rfl
@[simp] theorem Uc : cB Tryd.prog 156 = some [.v (.int .u8 0), .v (.int .u8 0), .v (.int .u8 0), .v (.int .u8 0), .v (.int .u8 0), .v (.int .u8 0), .v (.int .u8 0), .v (.int .u8 0), .v (.int .u8 0), .v (.int .u8 0), .v (.int .u8 0), .v (.int .u8 0), .v (.int .u8 0), .v (.int .u8 0), .v (.int .u8 0), .v (.int .u8 0), .v (.int .u8 0), .v (.int .u8 0), .v (.int .u8 0), .v (.int .u8 0), .v (.int .u8 0), .v (.int .u8 0), .v (.int .u8 0), .v (.int .u8 0), .v (.int .u8 0), .v (.int .u8 0), .v (.int .u8 0), .v (.int .u8 0), .v (.int .u8 0), .v (.int .u8 0), .v (.int .u8 0), .v (.int .u8 0)] := by kernel_rfl
@[simp] theorem if9 : Ol Tryd.prog 9 = some false := by kernel_rfl
end Go.Proofs.YtighdhfgcdjmeaaDoor

