import Derived.Test.YtbgfljpnhhdkoaaGreatProg
import Derived.Test.YtbgfljpnhhdkoaaGreatVm17
import Derived.Test.YtbgfljpnhhdkoaaGreatVmX14
import Derived.WalkKit
import Derived.KernelRfl
open Go.Proofs.Tryz
namespace Go.Proofs.YtbgfljpnhhdkoaaGreat
open Go Go.Vm
set_option linter.all false
set_option maxRecDepth 100000
@[simp] theorem ty1:jC prog 1=some (false,1):=by kernel_rfl
@[simp] theorem el1:iW prog 1=none:=by kernel_rfl
@[simp] theorem zr1:eL prog 1=some [.v (.nilFunc)]:=by kernel_rfl
@[simp] theorem ty2:jC prog 2=some (false,1):=by kernel_rfl
@[simp] theorem el2:iW prog 2=none:=by kernel_rfl
@[simp] theorem zr2:eL prog 2=some [.v (.int .i64 0)]:=by kernel_rfl
@[simp] theorem ub2:prog.underlying 2=some (.int .i64):=by kernel_rfl
@[simp] theorem ty3:jC prog 3=some (false,1):=by kernel_rfl
@[simp] theorem el3:iW prog 3=none:=by kernel_rfl
@[simp] theorem zr3:eL prog 3=some [.v (.int .i64 0)]:=by kernel_rfl
@[simp] theorem ub3:prog.underlying 3=some (.int .i64):=by kernel_rfl
@[simp] theorem ty4:jC prog 4=some (false,1):=by kernel_rfl
@[simp] theorem el4:iW prog 4=none:=by kernel_rfl
@[simp] theorem zr4:eL prog 4=some [.v (.bool false)]:=by kernel_rfl
@[simp] theorem ub4:prog.underlying 4=some .bool:=by kernel_rfl
@[simp] theorem ty5:jC prog 5=some (false,1):=by kernel_rfl
@[simp] theorem el5:iW prog 5=none:=by kernel_rfl
@[simp] theorem zr5:eL prog 5=some [.v (.int .u8 0)]:=by kernel_rfl
@[simp] theorem ub5:prog.underlying 5=some (.int .u8):=by kernel_rfl
@[simp] theorem ty6:jC prog 6=some (false,1):=by kernel_rfl
@[simp] theorem el6:iW prog 6=none:=by kernel_rfl
@[simp] theorem zr6:eL prog 6=some [.v (.int .u8 0)]:=by kernel_rfl
@[simp] theorem ub6:prog.underlying 6=some (.int .u8):=by kernel_rfl
@[simp] theorem ty7:jC prog 7=some (true,4):=by kernel_rfl
@[simp] theorem el7:iW prog 7=none:=by kernel_rfl
@[simp] theorem aQm:dR prog 7 0=some (0,false,1):=by kernel_rfl
@[simp] theorem aP8:dR prog 7 1=some (1,false,1):=by kernel_rfl
@[simp] theorem aQh:dR prog 7 2=some (2,false,1):=by kernel_rfl
@[simp] theorem aOp:dR prog 7 3=some (3,false,1):=by kernel_rfl
@[simp] theorem pl7:pK prog 7=some [(0,1),(1,1),(2,1),(3,1)]:=by kernel_rfl
@[simp] theorem zr7:eL prog 7=some [.v (.int .i64 0),.v (.int .i64 0),.v (.bool false),.v (.int .u8 0)]:=by kernel_rfl
@[simp] theorem ty8:jC prog 8=some (true,4):=by kernel_rfl
@[simp] theorem el8:iW prog 8=none:=by kernel_rfl
@[simp] theorem aPy:dR prog 8 0=some (0,false,1):=by kernel_rfl
@[simp] theorem aPr:dR prog 8 1=some (1,false,1):=by kernel_rfl
@[simp] theorem aOh:dR prog 8 2=some (2,false,1):=by kernel_rfl
@[simp] theorem aN1:dR prog 8 3=some (3,false,1):=by kernel_rfl
@[simp] theorem pl8:pK prog 8=some [(0,1),(1,1),(2,1),(3,1)]:=by kernel_rfl
@[simp] theorem zr8:eL prog 8=some [.v (.int .i64 0),.v (.int .i64 0),.v (.bool false),.v (.int .u8 0)]:=by kernel_rfl
@[simp] theorem ty9:jC prog 9=some (false,1):=by kernel_rfl
@[simp] theorem el9:iW prog 9=none:=by kernel_rfl
@[simp] theorem zr9:eL prog 9=some [.v (.string ⟨#[]⟩)]:=by kernel_rfl
@[simp] theorem ub9:prog.underlying 9=some .string:=by kernel_rfl
@[simp] theorem aSz:jC prog 22=some (false,1):=by kernel_rfl
@[simp] theorem aMr:iW prog 22=some (3,1,8,#[.int .i64 0]):=by kernel_rfl
@[simp] theorem aSp:prog.underlying 22=some (.slice 3):=by kernel_rfl
@[simp] theorem aTo:eL prog 22=some [.sl true []]:=by kernel_rfl
@[simp] theorem aRx:jC prog 25=some (true,6):=by kernel_rfl
@[simp] theorem aSc:iW prog 25=none:=by kernel_rfl
@[simp] theorem aNs:dR prog 25 0=some (0,false,1):=by kernel_rfl
@[simp] theorem aMw:dR prog 25 1=some (1,false,1):=by kernel_rfl
@[simp] theorem aMy:dR prog 25 2=some (2,false,1):=by kernel_rfl
@[simp] theorem aNn:dR prog 25 3=some (3,false,1):=by kernel_rfl
@[simp] theorem aNg:dR prog 25 4=some (4,false,1):=by kernel_rfl
@[simp] theorem aMm:dR prog 25 5=some (5,false,1):=by kernel_rfl
@[simp] theorem aRy:pK prog 25=some [(0,1),(1,1),(2,1),(3,1),(4,1),(5,1)]:=by kernel_rfl
@[simp] theorem aSx:eL prog 25=some [.v (.int .i64 0),.v (.int .i64 0),.v (.int .i64 0),.v (.int .i64 0),.v (.string ⟨#[]⟩),.v (.string ⟨#[]⟩)]:=by kernel_rfl
@[simp] theorem aS9:jC prog 26=some (false,1):=by kernel_rfl
@[simp] theorem aR9:iW prog 26=some (25,6,64,#[.int .i64 0,.int .i64 0,.int .i64 0,.int .i64 0,.string ⟨#[]⟩,.string ⟨#[]⟩]):=by kernel_rfl
@[simp] theorem aRz:prog.underlying 26=some (.slice 25):=by kernel_rfl
@[simp] theorem aTh:eL prog 26=some [.sl true []]:=by kernel_rfl
@[simp] theorem aQz:jC prog 27=some (false,1):=by kernel_rfl
@[simp] theorem aSu:iW prog 27=none:=by kernel_rfl
@[simp] theorem aRu:eL prog 27=some [.v (.pointer none)]:=by kernel_rfl
@[simp] theorem aRm:prog.underlying 27=some (.pointer 47):=by kernel_rfl
@[simp] theorem aSr:jC prog 28=some (false,1):=by kernel_rfl
@[simp] theorem aR5:iW prog 28=some (62,9,152,#[.int .i64 0,.int .i64 0,.string ⟨#[]⟩,.string ⟨#[]⟩,.slice none 0 0,.slice none 0 0,.slice none 0 0,.int .i64 0,.slice none 0 0]):=by kernel_rfl
@[simp] theorem aR4:prog.underlying 28=some (.slice 62):=by kernel_rfl
@[simp] theorem aS4:eL prog 28=some [.sl true []]:=by kernel_rfl
@[simp] theorem aQ8:jC prog 30=some (true,3):=by kernel_rfl
@[simp] theorem aSw:iW prog 30=none:=by kernel_rfl
@[simp] theorem aNy:dR prog 30 0=some (0,false,1):=by kernel_rfl
@[simp] theorem aMt:dR prog 30 1=some (1,false,1):=by kernel_rfl
@[simp] theorem aM2:dR prog 30 2=some (2,false,1):=by kernel_rfl
@[simp] theorem aRh:pK prog 30=some [(0,1),(1,1),(2,1)]:=by kernel_rfl
@[simp] theorem aRt:eL prog 30=some [.v (.int .i64 0),.v (.int .i64 0),.sl true []]:=by kernel_rfl
@[simp] theorem aR2:jC prog 33=some (false,1):=by kernel_rfl
@[simp] theorem aQ2:iW prog 33=none:=by kernel_rfl
@[simp] theorem aQ1:eL prog 33=some [.v (.int .i64 0)]:=by kernel_rfl
@[simp] theorem aRp:prog.underlying 33=some (.int .i64):=by kernel_rfl
@[simp] theorem aTm:jC prog 35=some (false,1):=by kernel_rfl
@[simp] theorem aSs:iW prog 35=some (9,1,16,#[.string ⟨#[]⟩]):=by kernel_rfl
@[simp] theorem aS8:prog.underlying 35=some (.slice 9):=by kernel_rfl
@[simp] theorem aSk:eL prog 35=some [.sl true []]:=by kernel_rfl
@[simp] theorem aTe:jC prog 36=some (false,1):=by kernel_rfl
@[simp] theorem aMz:iW prog 36=some (191,2,32,#[.string ⟨#[]⟩,.string ⟨#[]⟩]):=by kernel_rfl
@[simp] theorem aQy:prog.underlying 36=some (.slice 191):=by kernel_rfl
@[simp] theorem aTl:eL prog 36=some [.sl true []]:=by kernel_rfl
@[simp] theorem aSn:jC prog 37=some (false,1):=by kernel_rfl
@[simp] theorem aQ0:iW prog 37=some (191,2,32,#[.string ⟨#[]⟩,.string ⟨#[]⟩]):=by kernel_rfl
@[simp] theorem aS0:prog.underlying 37=some (.slice 191):=by kernel_rfl
@[simp] theorem aTg:eL prog 37=some [.sl true []]:=by kernel_rfl
@[simp] theorem aSl:jC prog 38=some (false,1):=by kernel_rfl
@[simp] theorem aMk:iW prog 38=some (137,2,24,#[.string ⟨#[]⟩,.int .i64 0]):=by kernel_rfl
@[simp] theorem aTb:prog.underlying 38=some (.slice 137):=by kernel_rfl
@[simp] theorem aSm:eL prog 38=some [.sl true []]:=by kernel_rfl
@[simp] theorem aSg:jC prog 39=some (false,1):=by kernel_rfl
@[simp] theorem aQ4:iW prog 39=some (137,2,24,#[.string ⟨#[]⟩,.int .i64 0]):=by kernel_rfl
@[simp] theorem aSh:prog.underlying 39=some (.slice 137):=by kernel_rfl
@[simp] theorem aTf:eL prog 39=some [.sl true []]:=by kernel_rfl
@[simp] theorem aTa:jC prog 41=some (true,9):=by kernel_rfl
@[simp] theorem aTj:iW prog 41=none:=by kernel_rfl
@[simp] theorem aM3:dR prog 41 0=some (0,false,1):=by kernel_rfl
@[simp] theorem aMx:dR prog 41 1=some (1,false,1):=by kernel_rfl
@[simp] theorem aNm:dR prog 41 2=some (2,false,1):=by kernel_rfl
@[simp] theorem aMi:dR prog 41 3=some (3,false,1):=by kernel_rfl
@[simp] theorem aMu:dR prog 41 4=some (4,false,1):=by kernel_rfl
@[simp] theorem aNl:dR prog 41 5=some (5,false,1):=by kernel_rfl
@[simp] theorem aNt:dR prog 41 6=some (6,false,1):=by kernel_rfl
@[simp] theorem aNv:dR prog 41 7=some (7,false,1):=by kernel_rfl
@[simp] theorem aNp:dR prog 41 8=some (8,false,1):=by kernel_rfl
@[simp] theorem aRo:pK prog 41=some [(0,1),(1,1),(2,1),(3,1),(4,1),(5,1),(6,1),(7,1),(8,1)]:=by kernel_rfl
@[simp] theorem aRl:eL prog 41=some [.v (.int .i64 0),.v (.int .i64 0),.v (.string ⟨#[]⟩),.v (.string ⟨#[]⟩),.sl true [],.sl true [],.sl true [],.v (.int .i64 0),.sl true []]:=by kernel_rfl
@[simp] theorem aRw:jC prog 44=some (false,1):=by kernel_rfl
@[simp] theorem aTd:iW prog 44=none:=by kernel_rfl
@[simp] theorem aTp:eL prog 44=some [.v (.pointer none)]:=by kernel_rfl
@[simp] theorem aS2:prog.underlying 44=some (.pointer 159):=by kernel_rfl
@[simp] theorem aRn:jC prog 45=some (false,1):=by kernel_rfl
@[simp] theorem aTc:iW prog 45=some (142,6,64,#[.int .i64 0,.int .i64 0,.int .i64 0,.int .i64 0,.string ⟨#[]⟩,.string ⟨#[]⟩]):=by kernel_rfl
@[simp] theorem aQx:prog.underlying 45=some (.slice 142):=by kernel_rfl
@[simp] theorem aR1:eL prog 45=some [.sl true []]:=by kernel_rfl
@[simp] theorem aR6:jC prog 47=some (true,2):=by kernel_rfl
@[simp] theorem aQ9:iW prog 47=none:=by kernel_rfl
@[simp] theorem aNh:dR prog 47 0=some (0,false,1):=by kernel_rfl
@[simp] theorem aM8:dR prog 47 1=some (1,false,1):=by kernel_rfl
@[simp] theorem aS5:pK prog 47=some [(0,1),(1,1)]:=by kernel_rfl
@[simp] theorem aS3:eL prog 47=some [.v (.pointer none),.sl true []]:=by kernel_rfl
@[simp] theorem aSb:jC prog 51=some (false,1):=by kernel_rfl
@[simp] theorem aRd:iW prog 51=some (67,6,64,#[.int .i64 0,.int .i64 0,.int .i64 0,.int .i64 0,.string ⟨#[]⟩,.string ⟨#[]⟩]):=by kernel_rfl
@[simp] theorem aR3:prog.underlying 51=some (.slice 67):=by kernel_rfl
@[simp] theorem aQ7:eL prog 51=some [.sl true []]:=by kernel_rfl
@[simp] theorem aSv:jC prog 59=some (false,1):=by kernel_rfl
@[simp] theorem aRi:iW prog 59=some (171,2,32,#[.string ⟨#[]⟩,.string ⟨#[]⟩]):=by kernel_rfl
@[simp] theorem aSf:prog.underlying 59=some (.slice 171):=by kernel_rfl
@[simp] theorem aR0:eL prog 59=some [.sl true []]:=by kernel_rfl
@[simp] theorem aTn:jC prog 60=some (false,1):=by kernel_rfl
@[simp] theorem aS6:iW prog 60=some (136,2,24,#[.string ⟨#[]⟩,.int .i64 0]):=by kernel_rfl
@[simp] theorem aR7:prog.underlying 60=some (.slice 136):=by kernel_rfl
@[simp] theorem aTi:eL prog 60=some [.sl true []]:=by kernel_rfl
@[simp] theorem aQ3:jC prog 62=some (true,9):=by kernel_rfl
@[simp] theorem aRf:iW prog 62=none:=by kernel_rfl
@[simp] theorem aMg:dR prog 62 0=some (0,false,1):=by kernel_rfl
@[simp] theorem aMq:dR prog 62 1=some (1,false,1):=by kernel_rfl
@[simp] theorem aNj:dR prog 62 2=some (2,false,1):=by kernel_rfl
@[simp] theorem aM6:dR prog 62 3=some (3,false,1):=by kernel_rfl
@[simp] theorem aNz:dR prog 62 4=some (4,false,1):=by kernel_rfl
@[simp] theorem aMf:dR prog 62 5=some (5,false,1):=by kernel_rfl
@[simp] theorem aNk:dR prog 62 6=some (6,false,1):=by kernel_rfl
@[simp] theorem aMv:dR prog 62 7=some (7,false,1):=by kernel_rfl
@[simp] theorem aMl:dR prog 62 8=some (8,false,1):=by kernel_rfl
@[simp] theorem aRs:pK prog 62=some [(0,1),(1,1),(2,1),(3,1),(4,1),(5,1),(6,1),(7,1),(8,1)]:=by kernel_rfl
@[simp] theorem aTk:eL prog 62=some [.v (.int .i64 0),.v (.int .i64 0),.v (.string ⟨#[]⟩),.v (.string ⟨#[]⟩),.sl true [],.sl true [],.sl true [],.v (.int .i64 0),.sl true []]:=by kernel_rfl
@[simp] theorem aSq:jC prog 67=some (true,6):=by kernel_rfl
@[simp] theorem aR8:iW prog 67=none:=by kernel_rfl
@[simp] theorem aNf:dR prog 67 0=some (0,false,1):=by kernel_rfl
@[simp] theorem aM0:dR prog 67 1=some (1,false,1):=by kernel_rfl
@[simp] theorem aM1:dR prog 67 2=some (2,false,1):=by kernel_rfl
@[simp] theorem aM9:dR prog 67 3=some (3,false,1):=by kernel_rfl
@[simp] theorem aMh:dR prog 67 4=some (4,false,1):=by kernel_rfl
@[simp] theorem aNr:dR prog 67 5=some (5,false,1):=by kernel_rfl
@[simp] theorem aSa:pK prog 67=some [(0,1),(1,1),(2,1),(3,1),(4,1),(5,1)]:=by kernel_rfl
@[simp] theorem aS1:eL prog 67=some [.v (.int .i64 0),.v (.int .i64 0),.v (.int .i64 0),.v (.int .i64 0),.v (.string ⟨#[]⟩),.v (.string ⟨#[]⟩)]:=by kernel_rfl
@[simp] theorem aRr:jC prog 92=some (false,1):=by kernel_rfl
@[simp] theorem aQ6:iW prog 92=none:=by kernel_rfl
@[simp] theorem aQ5:eL prog 92=some [.v (.int .u64 0)]:=by kernel_rfl
@[simp] theorem aRk:prog.underlying 92=some (.int .u64):=by kernel_rfl
@[simp] theorem aOl:jC prog 136=some (true,2):=by kernel_rfl
@[simp] theorem aQo:iW prog 136=none:=by kernel_rfl
@[simp] theorem aMd:dR prog 136 0=some (0,false,1):=by kernel_rfl
@[simp] theorem aL8:dR prog 136 1=some (1,false,1):=by kernel_rfl
@[simp] theorem aOe:pK prog 136=some [(0,1),(1,1)]:=by kernel_rfl
@[simp] theorem aPc:eL prog 136=some [.v (.string ⟨#[]⟩),.v (.int .i64 0)]:=by kernel_rfl
@[simp] theorem aPa:jC prog 137=some (true,2):=by kernel_rfl
@[simp] theorem aQq:iW prog 137=none:=by kernel_rfl
@[simp] theorem aLp:dR prog 137 0=some (0,false,1):=by kernel_rfl
@[simp] theorem aLs:dR prog 137 1=some (1,false,1):=by kernel_rfl
@[simp] theorem aP9:pK prog 137=some [(0,1),(1,1)]:=by kernel_rfl
@[simp] theorem aPm:eL prog 137=some [.v (.string ⟨#[]⟩),.v (.int .i64 0)]:=by kernel_rfl
@[simp] theorem aO7:jC prog 142=some (true,6):=by kernel_rfl
@[simp] theorem aO8:iW prog 142=none:=by kernel_rfl
@[simp] theorem aL1:dR prog 142 0=some (0,false,1):=by kernel_rfl
@[simp] theorem aMa:dR prog 142 1=some (1,false,1):=by kernel_rfl
@[simp] theorem aLz:dR prog 142 2=some (2,false,1):=by kernel_rfl
@[simp] theorem aL3:dR prog 142 3=some (3,false,1):=by kernel_rfl
@[simp] theorem aL7:dR prog 142 4=some (4,false,1):=by kernel_rfl
@[simp] theorem aLw:dR prog 142 5=some (5,false,1):=by kernel_rfl
@[simp] theorem aOn:pK prog 142=some [(0,1),(1,1),(2,1),(3,1),(4,1),(5,1)]:=by kernel_rfl
@[simp] theorem aQc:eL prog 142=some [.v (.int .i64 0),.v (.int .i64 0),.v (.int .i64 0),.v (.int .i64 0),.v (.string ⟨#[]⟩),.v (.string ⟨#[]⟩)]:=by kernel_rfl
@[simp] theorem aN5:jC prog 148=some (false,1):=by kernel_rfl
@[simp] theorem aPx:iW prog 148=some (151,3,24,#[.int .i64 0,.int .i64 0,.int .i64 0]):=by kernel_rfl
@[simp] theorem aOt:prog.underlying 148=some (.slice 151):=by kernel_rfl
@[simp] theorem aP6:eL prog 148=some [.sl true []]:=by kernel_rfl
@[simp] theorem aP4:jC prog 151=some (true,3):=by kernel_rfl
@[simp] theorem aPq:iW prog 151=none:=by kernel_rfl
@[simp] theorem aLq:dR prog 151 0=some (0,false,1):=by kernel_rfl
@[simp] theorem aLv:dR prog 151 1=some (1,false,1):=by kernel_rfl
@[simp] theorem aMc:dR prog 151 2=some (2,false,1):=by kernel_rfl
@[simp] theorem aOc:pK prog 151=some [(0,1),(1,1),(2,1)]:=by kernel_rfl
@[simp] theorem aN6:eL prog 151=some [.v (.int .i64 0),.v (.int .i64 0),.v (.int .i64 0)]:=by kernel_rfl
@[simp] theorem aN9:jC prog 155=some (false,1):=by kernel_rfl
@[simp] theorem aOw:iW prog 155=none:=by kernel_rfl
@[simp] theorem aQk:eL prog 155=some [.v (.pointer none)]:=by kernel_rfl
@[simp] theorem aP7:prog.underlying 155=some (.pointer 41):=by kernel_rfl
@[simp] theorem aO6:jC prog 157=some (false,1):=by kernel_rfl
@[simp] theorem aN4:iW prog 157=none:=by kernel_rfl
@[simp] theorem aQr:eL prog 157=some [.v (.map none)]:=by kernel_rfl
@[simp] theorem aOd:jC prog 159=some (true,3):=by kernel_rfl
@[simp] theorem aPn:iW prog 159=none:=by kernel_rfl
@[simp] theorem aL4:dR prog 159 0=some (0,false,1):=by kernel_rfl
@[simp] theorem aL5:dR prog 159 1=some (1,false,1):=by kernel_rfl
@[simp] theorem aL0:dR prog 159 2=some (2,false,1):=by kernel_rfl
@[simp] theorem aN0:pK prog 159=some [(0,1),(1,1),(2,1)]:=by kernel_rfl
@[simp] theorem aN2:eL prog 159=some [.v (.int .i64 0),.v (.int .i64 0),.v (.map none)]:=by kernel_rfl
@[simp] theorem aO3:jC prog 162=some (false,1):=by kernel_rfl
@[simp] theorem aOa:iW prog 162=some (164,3,24,#[.int .i64 0,.int .i64 0,.int .i64 0]):=by kernel_rfl
@[simp] theorem aPg:prog.underlying 162=some (.slice 164):=by kernel_rfl
@[simp] theorem aO9:eL prog 162=some [.sl true []]:=by kernel_rfl
@[simp] theorem aN7:jC prog 164=some (true,3):=by kernel_rfl
@[simp] theorem aPu:iW prog 164=none:=by kernel_rfl
@[simp] theorem aLy:dR prog 164 0=some (0,false,1):=by kernel_rfl
@[simp] theorem aLt:dR prog 164 1=some (1,false,1):=by kernel_rfl
@[simp] theorem aMe:dR prog 164 2=some (2,false,1):=by kernel_rfl
@[simp] theorem aP3:pK prog 164=some [(0,1),(1,1),(2,1)]:=by kernel_rfl
@[simp] theorem aQl:eL prog 164=some [.v (.int .i64 0),.v (.int .i64 0),.v (.int .i64 0)]:=by kernel_rfl
@[simp] theorem aOo:jC prog 168=some (false,1):=by kernel_rfl
@[simp] theorem aOz:iW prog 168=none:=by kernel_rfl
@[simp] theorem aPh:eL prog 168=some [.v (.nilFunc)]:=by kernel_rfl
@[simp] theorem aQg:jC prog 171=some (true,2):=by kernel_rfl
@[simp] theorem aOg:iW prog 171=none:=by kernel_rfl
@[simp] theorem aL6:dR prog 171 0=some (0,false,1):=by kernel_rfl
@[simp] theorem aLo:dR prog 171 1=some (1,false,1):=by kernel_rfl
@[simp] theorem aQb:pK prog 171=some [(0,1),(1,1)]:=by kernel_rfl
@[simp] theorem aPt:eL prog 171=some [.v (.string ⟨#[]⟩),.v (.string ⟨#[]⟩)]:=by kernel_rfl
@[simp] theorem aOy:jC prog 191=some (true,2):=by kernel_rfl
@[simp] theorem aPj:iW prog 191=none:=by kernel_rfl
@[simp] theorem aLr:dR prog 191 0=some (0,false,1):=by kernel_rfl
@[simp] theorem aLx:dR prog 191 1=some (1,false,1):=by kernel_rfl
@[simp] theorem aOr:pK prog 191=some [(0,1),(1,1)]:=by kernel_rfl
@[simp] theorem aOv:eL prog 191=some [.v (.string ⟨#[]⟩),.v (.string ⟨#[]⟩)]:=by kernel_rfl
@[simp] theorem aPe:jC prog 245=some (false,1):=by kernel_rfl
@[simp] theorem aOi:iW prog 245=none:=by kernel_rfl
@[simp] theorem aPp:eL prog 245=some [.v (.map none)]:=by kernel_rfl
@[simp] theorem aPl:jC prog 248=some (false,1):=by kernel_rfl
@[simp] theorem aQt:iW prog 248=none:=by kernel_rfl
@[simp] theorem aP0:eL prog 248=some [.v (.nilFunc)]:=by kernel_rfl
@[simp] theorem aOj:jC prog 249=some (false,1):=by kernel_rfl
@[simp] theorem aOq:iW prog 249=none:=by kernel_rfl
@[simp] theorem aPd:eL prog 249=some [.v (.nilFunc)]:=by kernel_rfl
@[simp] theorem aOs:jC prog 260=some (false,1):=by kernel_rfl
@[simp] theorem aN3:iW prog 260=none:=by kernel_rfl
@[simp] theorem aPi:eL prog 260=some [.v (.nilFunc)]:=by kernel_rfl
@[simp] theorem aOx:jC prog 285=some (false,1):=by kernel_rfl
@[simp] theorem aQu:iW prog 285=none:=by kernel_rfl
@[simp] theorem aPb:eL prog 285=some [.v (.nilFunc)]:=by kernel_rfl
@[simp] theorem aO4:jC prog 287=some (false,1):=by kernel_rfl
@[simp] theorem aQs:iW prog 287=none:=by kernel_rfl
@[simp] theorem aOb:eL prog 287=some [.v (.nilFunc)]:=by kernel_rfl
@[simp] theorem aOu:jC prog 290=some (false,1):=by kernel_rfl
@[simp] theorem aO0:iW prog 290=none:=by kernel_rfl
@[simp] theorem aOk:eL prog 290=some [.v (.nilFunc)]:=by kernel_rfl
@[simp] theorem aPk:jC prog 296=some (false,1):=by kernel_rfl
@[simp] theorem aO2:iW prog 296=none:=by kernel_rfl
@[simp] theorem aQj:eL prog 296=some [.v (.nilFunc)]:=by kernel_rfl
@[simp] theorem aOf:jC prog 300=some (false,1):=by kernel_rfl
@[simp] theorem aN8:iW prog 300=none:=by kernel_rfl
@[simp] theorem aQi:eL prog 300=some [.v (.nilFunc)]:=by kernel_rfl
@[simp] theorem aPw:jC prog 314=some (false,1):=by kernel_rfl
@[simp] theorem aP5:iW prog 314=none:=by kernel_rfl
@[simp] theorem aPz:eL prog 314=some [.v (.nilFunc)]:=by kernel_rfl
@[simp] theorem aP1:jC prog 316=some (false,1):=by kernel_rfl
@[simp] theorem aQp:iW prog 316=none:=by kernel_rfl
@[simp] theorem aQn:eL prog 316=some [.v (.nilFunc)]:=by kernel_rfl
@[simp] theorem aPf:Ta prog 157=some (.int .i64,.pointer none):=by kernel_rfl
@[simp] theorem aOm:Wq (.pointer none)= .v (.pointer none):=rfl
@[simp] theorem aQa:Ta prog 245=some (.int .i64,.int .i64 0):=by kernel_rfl
@[simp] theorem aQf:Wq (.int .i64 0)= .v (.int .i64 0):=rfl
@[simp] theorem if9:ifI prog 9=some false:=by kernel_rfl
@[simp] theorem aQw:prog.eqGuardType prog.depth 67=false:=by kernel_rfl
theorem aM7(d:Nat)(a0:Int)(a1:Int)(a2:Int)(a3:Int)(a4:ByteArray)(a5:ByteArray)(b0:Int)(b1:Int)(b2:Int)(b3:Int)(b4:ByteArray)(b5:ByteArray)(w:World):(Op.equalIn (d+2) 67 (.agg #[.int .i64 a0,.int .i64 a1,.int .i64 a2,.int .i64 a3,.string a4,.string a5]) (.agg #[.int .i64 b0,.int .i64 b1,.int .i64 b2,.int .i64 b3,.string b4,.string b5])).run prog w= .ok ((a0==b0) && (a1==b1) && (a2==b2) && (a3==b3) && (decide (a4=b4)) && (decide (a5=b5))) w:=by
 have hS:prog.underlying 67=some (.struct (prog.fieldsOf 67)):=by kernel_rfl
 have hp:prog.stoodInHeld 67=false:=by kernel_rfl
 rw [show d+2=(d+1)+1 from rfl,run_equalIn_agg w (d+1) 67 _ _ hS hp];simp only [Program.fieldsOf,underlying67];have ia3:=isAgg3;have iz3:=sizeOf3;have iu3:=underlying3;have ia9:=isAgg9;have iz9:=sizeOf9;have iu9:=underlying9
 go_simp
 by_cases e0:a0=b0 <;> by_cases e1:a1=b1 <;> by_cases e2:a2=b2 <;> by_cases e3:a3=b3 <;> by_cases e4:a4=b4 <;> by_cases e5:a5=b5 <;> simp [e0,e1,e2,e3,e4,e5,xT]
theorem aNo(a0:Int)(a1:Int)(a2:Int)(a3:Int)(a4:ByteArray)(a5:ByteArray)(b0:Int)(b1:Int)(b2:Int)(b3:Int)(b4:ByteArray)(b5:ByteArray):Kh prog 67 [.v (.int .i64 a0),.v (.int .i64 a1),.v (.int .i64 a2),.v (.int .i64 a3),.v (.string a4),.v (.string a5)] [.v (.int .i64 b0),.v (.int .i64 b1),.v (.int .i64 b2),.v (.int .i64 b3),.v (.string b4),.v (.string b5)] ((a0==b0) && (a1==b1) && (a2==b2) && (a3==b3) && (decide (a4=b4)) && (decide (a5=b5))):=
 ⟨[.int .i64 a0,.int .i64 a1,.int .i64 a2,.int .i64 a3,.string a4,.string a5], [.int .i64 b0,.int .i64 b1,.int .i64 b2,.int .i64 b3,.string b4,.string b5],rfl,rfl,fun w=>aM7 9998 a0 a1 a2 a3 a4 a5 b0 b1 b2 b3 b4 b5 w⟩
@[simp] theorem aSd(a0:Int)(a1:Int)(a2:Int)(a3:Int)(a4:ByteArray)(a5:ByteArray)(b0:Int)(b1:Int)(b2:Int)(b3:Int)(b4:ByteArray)(b5:ByteArray)(K:Bool→Prop):tN prog 67 [.v (.int .i64 a0),.v (.int .i64 a1),.v (.int .i64 a2),.v (.int .i64 a3),.v (.string a4),.v (.string a5)] [.v (.int .i64 b0),.v (.int .i64 b1),.v (.int .i64 b2),.v (.int .i64 b3),.v (.string b4),.v (.string b5)] K=K ((a0==b0) && (a1==b1) && (a2==b2) && (a3==b3) && (decide (a4=b4)) && (decide (a5=b5))):=Dx (aNo a0 a1 a2 a3 a4 a5 b0 b1 b2 b3 b4 b5)
@[simp] theorem aQe:prog.eqGuardType prog.depth 136=false:=by kernel_rfl
theorem aKi(d:Nat)(a0:ByteArray)(a1:Int)(b0:ByteArray)(b1:Int)(w:World):(Op.equalIn (d+2) 136 (.agg #[.string a0,.int .i64 a1]) (.agg #[.string b0,.int .i64 b1])).run prog w= .ok ((decide (a0=b0)) && (a1==b1)) w:=by
 have hS:prog.underlying 136=some (.struct (prog.fieldsOf 136)):=by kernel_rfl
 have hp:prog.stoodInHeld 136=false:=by kernel_rfl
 rw [show d+2=(d+1)+1 from rfl,run_equalIn_agg w (d+1) 136 _ _ hS hp];simp only [Program.fieldsOf,underlying136];have ia3:=isAgg3;have iz3:=sizeOf3;have iu3:=underlying3;have ia9:=isAgg9;have iz9:=sizeOf9;have iu9:=underlying9
 go_simp
 by_cases e0:a0=b0 <;> by_cases e1:a1=b1 <;> simp [e0,e1,xT]
theorem aKq(a0:ByteArray)(a1:Int)(b0:ByteArray)(b1:Int):Kh prog 136 [.v (.string a0),.v (.int .i64 a1)] [.v (.string b0),.v (.int .i64 b1)] ((decide (a0=b0)) && (a1==b1)):=
 ⟨[.string a0,.int .i64 a1], [.string b0,.int .i64 b1],rfl,rfl,fun w=>aKi 9998 a0 a1 b0 b1 w⟩
@[simp] theorem aQd(a0:ByteArray)(a1:Int)(b0:ByteArray)(b1:Int)(K:Bool→Prop):tN prog 136 [.v (.string a0),.v (.int .i64 a1)] [.v (.string b0),.v (.int .i64 b1)] K=K ((decide (a0=b0)) && (a1==b1)):=Dx (aKq a0 a1 b0 b1)
end Go.Proofs.YtbgfljpnhhdkoaaGreat
