import Derived.Test.YtbgfljpnhhdkoaaGreatProg
import Derived.Test.YtbgfljpnhhdkoaaGreatVm17
import Derived.Test.YtbgfljpnhhdkoaaGreatVmX14
import Derived.WalkKit
import Derived.KernelRfl
open Go.Proofs.Tryz
namespace Go.Proofs.YtbgfljpnhhdkoaaGreat
open Go Go.Vm
set_option linter.all false
set_option maxRecDepth 100000
@[simp] theorem ty1:iX prog 1=some (false,1):=by kernel_rfl
@[simp] theorem el1:iT prog 1=none:=by kernel_rfl
@[simp] theorem zr1:eM prog 1=some [.v (.nilFunc)]:=by kernel_rfl
@[simp] theorem ty2:iX prog 2=some (false,1):=by kernel_rfl
@[simp] theorem el2:iT prog 2=none:=by kernel_rfl
@[simp] theorem zr2:eM prog 2=some [.v (.int .i64 0)]:=by kernel_rfl
@[simp] theorem ub2:prog.underlying 2=some (.int .i64):=by kernel_rfl
@[simp] theorem ty3:iX prog 3=some (false,1):=by kernel_rfl
@[simp] theorem el3:iT prog 3=none:=by kernel_rfl
@[simp] theorem zr3:eM prog 3=some [.v (.int .i64 0)]:=by kernel_rfl
@[simp] theorem ub3:prog.underlying 3=some (.int .i64):=by kernel_rfl
@[simp] theorem ty4:iX prog 4=some (false,1):=by kernel_rfl
@[simp] theorem el4:iT prog 4=none:=by kernel_rfl
@[simp] theorem zr4:eM prog 4=some [.v (.bool false)]:=by kernel_rfl
@[simp] theorem ub4:prog.underlying 4=some .bool:=by kernel_rfl
@[simp] theorem ty5:iX prog 5=some (false,1):=by kernel_rfl
@[simp] theorem el5:iT prog 5=none:=by kernel_rfl
@[simp] theorem zr5:eM prog 5=some [.v (.int .u8 0)]:=by kernel_rfl
@[simp] theorem ub5:prog.underlying 5=some (.int .u8):=by kernel_rfl
@[simp] theorem ty6:iX prog 6=some (false,1):=by kernel_rfl
@[simp] theorem el6:iT prog 6=none:=by kernel_rfl
@[simp] theorem zr6:eM prog 6=some [.v (.int .u8 0)]:=by kernel_rfl
@[simp] theorem ub6:prog.underlying 6=some (.int .u8):=by kernel_rfl
@[simp] theorem ty7:iX prog 7=some (true,4):=by kernel_rfl
@[simp] theorem el7:iT prog 7=none:=by kernel_rfl
@[simp] theorem aN9:dT prog 7 0=some (0,false,1):=by kernel_rfl
@[simp] theorem aPf:dT prog 7 1=some (1,false,1):=by kernel_rfl
@[simp] theorem aOh:dT prog 7 2=some (2,false,1):=by kernel_rfl
@[simp] theorem aO8:dT prog 7 3=some (3,false,1):=by kernel_rfl
@[simp] theorem pl7:pQ prog 7=some [(0,1),(1,1),(2,1),(3,1)]:=by kernel_rfl
@[simp] theorem zr7:eM prog 7=some [.v (.int .i64 0),.v (.int .i64 0),.v (.bool false),.v (.int .u8 0)]:=by kernel_rfl
@[simp] theorem ty8:iX prog 8=some (true,4):=by kernel_rfl
@[simp] theorem el8:iT prog 8=none:=by kernel_rfl
@[simp] theorem aOg:dT prog 8 0=some (0,false,1):=by kernel_rfl
@[simp] theorem aN1:dT prog 8 1=some (1,false,1):=by kernel_rfl
@[simp] theorem aPu:dT prog 8 2=some (2,false,1):=by kernel_rfl
@[simp] theorem aPv:dT prog 8 3=some (3,false,1):=by kernel_rfl
@[simp] theorem pl8:pQ prog 8=some [(0,1),(1,1),(2,1),(3,1)]:=by kernel_rfl
@[simp] theorem zr8:eM prog 8=some [.v (.int .i64 0),.v (.int .i64 0),.v (.bool false),.v (.int .u8 0)]:=by kernel_rfl
@[simp] theorem ty9:iX prog 9=some (false,1):=by kernel_rfl
@[simp] theorem el9:iT prog 9=none:=by kernel_rfl
@[simp] theorem zr9:eM prog 9=some [.v (.string ⟨#[]⟩)]:=by kernel_rfl
@[simp] theorem ub9:prog.underlying 9=some .string:=by kernel_rfl
@[simp] theorem aSb:iX prog 22=some (false,1):=by kernel_rfl
@[simp] theorem aMd:iT prog 22=some (3,1,8,#[.int .i64 0]):=by kernel_rfl
@[simp] theorem aSt:prog.underlying 22=some (.slice 3):=by kernel_rfl
@[simp] theorem aRx:eM prog 22=some [.sl true []]:=by kernel_rfl
@[simp] theorem aR7:iX prog 25=some (true,6):=by kernel_rfl
@[simp] theorem aRv:iT prog 25=none:=by kernel_rfl
@[simp] theorem aMy:dT prog 25 0=some (0,false,1):=by kernel_rfl
@[simp] theorem aMr:dT prog 25 1=some (1,false,1):=by kernel_rfl
@[simp] theorem aMu:dT prog 25 2=some (2,false,1):=by kernel_rfl
@[simp] theorem aNd:dT prog 25 3=some (3,false,1):=by kernel_rfl
@[simp] theorem aM0:dT prog 25 4=some (4,false,1):=by kernel_rfl
@[simp] theorem aNi:dT prog 25 5=some (5,false,1):=by kernel_rfl
@[simp] theorem aSg:pQ prog 25=some [(0,1),(1,1),(2,1),(3,1),(4,1),(5,1)]:=by kernel_rfl
@[simp] theorem aSf:eM prog 25=some [.v (.int .i64 0),.v (.int .i64 0),.v (.int .i64 0),.v (.int .i64 0),.v (.string ⟨#[]⟩),.v (.string ⟨#[]⟩)]:=by kernel_rfl
@[simp] theorem aRg:iX prog 26=some (false,1):=by kernel_rfl
@[simp] theorem aQ9:iT prog 26=some (25,6,64,#[.int .i64 0,.int .i64 0,.int .i64 0,.int .i64 0,.string ⟨#[]⟩,.string ⟨#[]⟩]):=by kernel_rfl
@[simp] theorem aQx:prog.underlying 26=some (.slice 25):=by kernel_rfl
@[simp] theorem aSv:eM prog 26=some [.sl true []]:=by kernel_rfl
@[simp] theorem aTk:iX prog 27=some (false,1):=by kernel_rfl
@[simp] theorem aS7:iT prog 27=none:=by kernel_rfl
@[simp] theorem aSn:eM prog 27=some [.v (.pointer none)]:=by kernel_rfl
@[simp] theorem aS2:prog.underlying 27=some (.pointer 47):=by kernel_rfl
@[simp] theorem aRn:iX prog 28=some (false,1):=by kernel_rfl
@[simp] theorem aQv:iT prog 28=some (62,9,152,#[.int .i64 0,.int .i64 0,.string ⟨#[]⟩,.string ⟨#[]⟩,.slice none 0 0,.slice none 0 0,.slice none 0 0,.int .i64 0,.slice none 0 0]):=by kernel_rfl
@[simp] theorem aTa:prog.underlying 28=some (.slice 62):=by kernel_rfl
@[simp] theorem aSe:eM prog 28=some [.sl true []]:=by kernel_rfl
@[simp] theorem aSm:iX prog 30=some (true,3):=by kernel_rfl
@[simp] theorem aRm:iT prog 30=none:=by kernel_rfl
@[simp] theorem aMz:dT prog 30 0=some (0,false,1):=by kernel_rfl
@[simp] theorem aNv:dT prog 30 1=some (1,false,1):=by kernel_rfl
@[simp] theorem aNn:dT prog 30 2=some (2,false,1):=by kernel_rfl
@[simp] theorem aR3:pQ prog 30=some [(0,1),(1,1),(2,1)]:=by kernel_rfl
@[simp] theorem aSh:eM prog 30=some [.v (.int .i64 0),.v (.int .i64 0),.sl true []]:=by kernel_rfl
@[simp] theorem aSu:iX prog 33=some (false,1):=by kernel_rfl
@[simp] theorem aTf:iT prog 33=none:=by kernel_rfl
@[simp] theorem aR5:eM prog 33=some [.v (.int .i64 0)]:=by kernel_rfl
@[simp] theorem aTi:prog.underlying 33=some (.int .i64):=by kernel_rfl
@[simp] theorem aTj:iX prog 35=some (false,1):=by kernel_rfl
@[simp] theorem aRp:iT prog 35=some (9,1,16,#[.string ⟨#[]⟩]):=by kernel_rfl
@[simp] theorem aRi:prog.underlying 35=some (.slice 9):=by kernel_rfl
@[simp] theorem aSq:eM prog 35=some [.sl true []]:=by kernel_rfl
@[simp] theorem aSk:iX prog 36=some (false,1):=by kernel_rfl
@[simp] theorem aNy:iT prog 36=some (191,2,32,#[.string ⟨#[]⟩,.string ⟨#[]⟩]):=by kernel_rfl
@[simp] theorem aQ1:prog.underlying 36=some (.slice 191):=by kernel_rfl
@[simp] theorem aSr:eM prog 36=some [.sl true []]:=by kernel_rfl
@[simp] theorem aSl:iX prog 37=some (false,1):=by kernel_rfl
@[simp] theorem aQw:iT prog 37=some (191,2,32,#[.string ⟨#[]⟩,.string ⟨#[]⟩]):=by kernel_rfl
@[simp] theorem aRl:prog.underlying 37=some (.slice 191):=by kernel_rfl
@[simp] theorem aS6:eM prog 37=some [.sl true []]:=by kernel_rfl
@[simp] theorem aRh:iX prog 38=some (false,1):=by kernel_rfl
@[simp] theorem aM7:iT prog 38=some (137,2,24,#[.string ⟨#[]⟩,.int .i64 0]):=by kernel_rfl
@[simp] theorem aSo:prog.underlying 38=some (.slice 137):=by kernel_rfl
@[simp] theorem aRk:eM prog 38=some [.sl true []]:=by kernel_rfl
@[simp] theorem aR4:iX prog 39=some (false,1):=by kernel_rfl
@[simp] theorem aS3:iT prog 39=some (137,2,24,#[.string ⟨#[]⟩,.int .i64 0]):=by kernel_rfl
@[simp] theorem aRe:prog.underlying 39=some (.slice 137):=by kernel_rfl
@[simp] theorem aTe:eM prog 39=some [.sl true []]:=by kernel_rfl
@[simp] theorem aQ3:iX prog 41=some (true,9):=by kernel_rfl
@[simp] theorem aSx:iT prog 41=none:=by kernel_rfl
@[simp] theorem aM8:dT prog 41 0=some (0,false,1):=by kernel_rfl
@[simp] theorem aMm:dT prog 41 1=some (1,false,1):=by kernel_rfl
@[simp] theorem aNm:dT prog 41 2=some (2,false,1):=by kernel_rfl
@[simp] theorem aMe:dT prog 41 3=some (3,false,1):=by kernel_rfl
@[simp] theorem aM6:dT prog 41 4=some (4,false,1):=by kernel_rfl
@[simp] theorem aNf:dT prog 41 5=some (5,false,1):=by kernel_rfl
@[simp] theorem aMo:dT prog 41 6=some (6,false,1):=by kernel_rfl
@[simp] theorem aMn:dT prog 41 7=some (7,false,1):=by kernel_rfl
@[simp] theorem aNh:dT prog 41 8=some (8,false,1):=by kernel_rfl
@[simp] theorem aSa:pQ prog 41=some [(0,1),(1,1),(2,1),(3,1),(4,1),(5,1),(6,1),(7,1),(8,1)]:=by kernel_rfl
@[simp] theorem aR0:eM prog 41=some [.v (.int .i64 0),.v (.int .i64 0),.v (.string ⟨#[]⟩),.v (.string ⟨#[]⟩),.sl true [],.sl true [],.sl true [],.v (.int .i64 0),.sl true []]:=by kernel_rfl
@[simp] theorem aRs:iX prog 44=some (false,1):=by kernel_rfl
@[simp] theorem aQ5:iT prog 44=none:=by kernel_rfl
@[simp] theorem aTd:eM prog 44=some [.v (.pointer none)]:=by kernel_rfl
@[simp] theorem aRu:prog.underlying 44=some (.pointer 159):=by kernel_rfl
@[simp] theorem aRa:iX prog 45=some (false,1):=by kernel_rfl
@[simp] theorem aQ4:iT prog 45=some (142,6,64,#[.int .i64 0,.int .i64 0,.int .i64 0,.int .i64 0,.string ⟨#[]⟩,.string ⟨#[]⟩]):=by kernel_rfl
@[simp] theorem aRf:prog.underlying 45=some (.slice 142):=by kernel_rfl
@[simp] theorem aS9:eM prog 45=some [.sl true []]:=by kernel_rfl
@[simp] theorem aRc:iX prog 47=some (true,2):=by kernel_rfl
@[simp] theorem aRw:iT prog 47=none:=by kernel_rfl
@[simp] theorem aNp:dT prog 47 0=some (0,false,1):=by kernel_rfl
@[simp] theorem aNg:dT prog 47 1=some (1,false,1):=by kernel_rfl
@[simp] theorem aRt:pQ prog 47=some [(0,1),(1,1)]:=by kernel_rfl
@[simp] theorem aR2:eM prog 47=some [.v (.pointer none),.sl true []]:=by kernel_rfl
@[simp] theorem aQu:iX prog 51=some (false,1):=by kernel_rfl
@[simp] theorem aSs:iT prog 51=some (67,6,64,#[.int .i64 0,.int .i64 0,.int .i64 0,.int .i64 0,.string ⟨#[]⟩,.string ⟨#[]⟩]):=by kernel_rfl
@[simp] theorem aSi:prog.underlying 51=some (.slice 67):=by kernel_rfl
@[simp] theorem aRr:eM prog 51=some [.sl true []]:=by kernel_rfl
@[simp] theorem aS8:iX prog 59=some (false,1):=by kernel_rfl
@[simp] theorem aR1:iT prog 59=some (171,2,32,#[.string ⟨#[]⟩,.string ⟨#[]⟩]):=by kernel_rfl
@[simp] theorem aSz:prog.underlying 59=some (.slice 171):=by kernel_rfl
@[simp] theorem aR9:eM prog 59=some [.sl true []]:=by kernel_rfl
@[simp] theorem aR6:iX prog 60=some (false,1):=by kernel_rfl
@[simp] theorem aS5:iT prog 60=some (136,2,24,#[.string ⟨#[]⟩,.int .i64 0]):=by kernel_rfl
@[simp] theorem aS0:prog.underlying 60=some (.slice 136):=by kernel_rfl
@[simp] theorem aR8:eM prog 60=some [.sl true []]:=by kernel_rfl
@[simp] theorem aRb:iX prog 62=some (true,9):=by kernel_rfl
@[simp] theorem aS1:iT prog 62=none:=by kernel_rfl
@[simp] theorem aNu:dT prog 62 0=some (0,false,1):=by kernel_rfl
@[simp] theorem aMi:dT prog 62 1=some (1,false,1):=by kernel_rfl
@[simp] theorem aM5:dT prog 62 2=some (2,false,1):=by kernel_rfl
@[simp] theorem aM9:dT prog 62 3=some (3,false,1):=by kernel_rfl
@[simp] theorem aM2:dT prog 62 4=some (4,false,1):=by kernel_rfl
@[simp] theorem aMs:dT prog 62 5=some (5,false,1):=by kernel_rfl
@[simp] theorem aNb:dT prog 62 6=some (6,false,1):=by kernel_rfl
@[simp] theorem aMt:dT prog 62 7=some (7,false,1):=by kernel_rfl
@[simp] theorem aMj:dT prog 62 8=some (8,false,1):=by kernel_rfl
@[simp] theorem aQy:pQ prog 62=some [(0,1),(1,1),(2,1),(3,1),(4,1),(5,1),(6,1),(7,1),(8,1)]:=by kernel_rfl
@[simp] theorem aRj:eM prog 62=some [.v (.int .i64 0),.v (.int .i64 0),.v (.string ⟨#[]⟩),.v (.string ⟨#[]⟩),.sl true [],.sl true [],.sl true [],.v (.int .i64 0),.sl true []]:=by kernel_rfl
@[simp] theorem aQ7:iX prog 67=some (true,6):=by kernel_rfl
@[simp] theorem aQ8:iT prog 67=none:=by kernel_rfl
@[simp] theorem aNw:dT prog 67 0=some (0,false,1):=by kernel_rfl
@[simp] theorem aM1:dT prog 67 1=some (1,false,1):=by kernel_rfl
@[simp] theorem aM3:dT prog 67 2=some (2,false,1):=by kernel_rfl
@[simp] theorem aNo:dT prog 67 3=some (3,false,1):=by kernel_rfl
@[simp] theorem aNk:dT prog 67 4=some (4,false,1):=by kernel_rfl
@[simp] theorem aNr:dT prog 67 5=some (5,false,1):=by kernel_rfl
@[simp] theorem aRd:pQ prog 67=some [(0,1),(1,1),(2,1),(3,1),(4,1),(5,1)]:=by kernel_rfl
@[simp] theorem aTb:eM prog 67=some [.v (.int .i64 0),.v (.int .i64 0),.v (.int .i64 0),.v (.int .i64 0),.v (.string ⟨#[]⟩),.v (.string ⟨#[]⟩)]:=by kernel_rfl
@[simp] theorem aQ0:iX prog 92=some (false,1):=by kernel_rfl
@[simp] theorem aRo:iT prog 92=none:=by kernel_rfl
@[simp] theorem aTg:eM prog 92=some [.v (.int .u64 0)]:=by kernel_rfl
@[simp] theorem aRy:prog.underlying 92=some (.int .u64):=by kernel_rfl
@[simp] theorem aPx:iX prog 136=some (true,2):=by kernel_rfl
@[simp] theorem aOq:iT prog 136=none:=by kernel_rfl
@[simp] theorem aL5:dT prog 136 0=some (0,false,1):=by kernel_rfl
@[simp] theorem aL9:dT prog 136 1=some (1,false,1):=by kernel_rfl
@[simp] theorem aPb:pQ prog 136=some [(0,1),(1,1)]:=by kernel_rfl
@[simp] theorem aOt:eM prog 136=some [.v (.string ⟨#[]⟩),.v (.int .i64 0)]:=by kernel_rfl
@[simp] theorem aQe:iX prog 137=some (true,2):=by kernel_rfl
@[simp] theorem aN5:iT prog 137=none:=by kernel_rfl
@[simp] theorem aMc:dT prog 137 0=some (0,false,1):=by kernel_rfl
@[simp] theorem aLq:dT prog 137 1=some (1,false,1):=by kernel_rfl
@[simp] theorem aOn:pQ prog 137=some [(0,1),(1,1)]:=by kernel_rfl
@[simp] theorem aQj:eM prog 137=some [.v (.string ⟨#[]⟩),.v (.int .i64 0)]:=by kernel_rfl
@[simp] theorem aP4:iX prog 142=some (true,6):=by kernel_rfl
@[simp] theorem aO6:iT prog 142=none:=by kernel_rfl
@[simp] theorem aLp:dT prog 142 0=some (0,false,1):=by kernel_rfl
@[simp] theorem aLv:dT prog 142 1=some (1,false,1):=by kernel_rfl
@[simp] theorem aLl:dT prog 142 2=some (2,false,1):=by kernel_rfl
@[simp] theorem aL8:dT prog 142 3=some (3,false,1):=by kernel_rfl
@[simp] theorem aL4:dT prog 142 4=some (4,false,1):=by kernel_rfl
@[simp] theorem aLr:dT prog 142 5=some (5,false,1):=by kernel_rfl
@[simp] theorem aP3:pQ prog 142=some [(0,1),(1,1),(2,1),(3,1),(4,1),(5,1)]:=by kernel_rfl
@[simp] theorem aQg:eM prog 142=some [.v (.int .i64 0),.v (.int .i64 0),.v (.int .i64 0),.v (.int .i64 0),.v (.string ⟨#[]⟩),.v (.string ⟨#[]⟩)]:=by kernel_rfl
@[simp] theorem aPp:iX prog 148=some (false,1):=by kernel_rfl
@[simp] theorem aO0:iT prog 148=some (151,3,24,#[.int .i64 0,.int .i64 0,.int .i64 0]):=by kernel_rfl
@[simp] theorem aO3:prog.underlying 148=some (.slice 151):=by kernel_rfl
@[simp] theorem aQd:eM prog 148=some [.sl true []]:=by kernel_rfl
@[simp] theorem aPy:iX prog 151=some (true,3):=by kernel_rfl
@[simp] theorem aPl:iT prog 151=none:=by kernel_rfl
@[simp] theorem aLt:dT prog 151 0=some (0,false,1):=by kernel_rfl
@[simp] theorem aMa:dT prog 151 1=some (1,false,1):=by kernel_rfl
@[simp] theorem aLw:dT prog 151 2=some (2,false,1):=by kernel_rfl
@[simp] theorem aOy:pQ prog 151=some [(0,1),(1,1),(2,1)]:=by kernel_rfl
@[simp] theorem aOk:eM prog 151=some [.v (.int .i64 0),.v (.int .i64 0),.v (.int .i64 0)]:=by kernel_rfl
@[simp] theorem aP0:iX prog 155=some (false,1):=by kernel_rfl
@[simp] theorem aQi:iT prog 155=none:=by kernel_rfl
@[simp] theorem aOj:eM prog 155=some [.v (.pointer none)]:=by kernel_rfl
@[simp] theorem aN6:prog.underlying 155=some (.pointer 41):=by kernel_rfl
@[simp] theorem aQc:iX prog 157=some (false,1):=by kernel_rfl
@[simp] theorem aO5:iT prog 157=none:=by kernel_rfl
@[simp] theorem aPz:eM prog 157=some [.v (.map none)]:=by kernel_rfl
@[simp] theorem aOm:iX prog 159=some (true,3):=by kernel_rfl
@[simp] theorem aPh:iT prog 159=none:=by kernel_rfl
@[simp] theorem aL2:dT prog 159 0=some (0,false,1):=by kernel_rfl
@[simp] theorem aLo:dT prog 159 1=some (1,false,1):=by kernel_rfl
@[simp] theorem aLs:dT prog 159 2=some (2,false,1):=by kernel_rfl
@[simp] theorem aPe:pQ prog 159=some [(0,1),(1,1),(2,1)]:=by kernel_rfl
@[simp] theorem aPr:eM prog 159=some [.v (.int .i64 0),.v (.int .i64 0),.v (.map none)]:=by kernel_rfl
@[simp] theorem aQo:iX prog 162=some (false,1):=by kernel_rfl
@[simp] theorem aO2:iT prog 162=some (164,3,24,#[.int .i64 0,.int .i64 0,.int .i64 0]):=by kernel_rfl
@[simp] theorem aOw:prog.underlying 162=some (.slice 164):=by kernel_rfl
@[simp] theorem aQh:eM prog 162=some [.sl true []]:=by kernel_rfl
@[simp] theorem aQp:iX prog 164=some (true,3):=by kernel_rfl
@[simp] theorem aP1:iT prog 164=none:=by kernel_rfl
@[simp] theorem aLk:dT prog 164 0=some (0,false,1):=by kernel_rfl
@[simp] theorem aLx:dT prog 164 1=some (1,false,1):=by kernel_rfl
@[simp] theorem aL7:dT prog 164 2=some (2,false,1):=by kernel_rfl
@[simp] theorem aQk:pQ prog 164=some [(0,1),(1,1),(2,1)]:=by kernel_rfl
@[simp] theorem aQr:eM prog 164=some [.v (.int .i64 0),.v (.int .i64 0),.v (.int .i64 0)]:=by kernel_rfl
@[simp] theorem aPi:iX prog 168=some (false,1):=by kernel_rfl
@[simp] theorem aN4:iT prog 168=none:=by kernel_rfl
@[simp] theorem aOa:eM prog 168=some [.v (.nilFunc)]:=by kernel_rfl
@[simp] theorem aP2:iX prog 171=some (true,2):=by kernel_rfl
@[simp] theorem aQl:iT prog 171=none:=by kernel_rfl
@[simp] theorem aMb:dT prog 171 0=some (0,false,1):=by kernel_rfl
@[simp] theorem aL3:dT prog 171 1=some (1,false,1):=by kernel_rfl
@[simp] theorem aQf:pQ prog 171=some [(0,1),(1,1)]:=by kernel_rfl
@[simp] theorem aPg:eM prog 171=some [.v (.string ⟨#[]⟩),.v (.string ⟨#[]⟩)]:=by kernel_rfl
@[simp] theorem aPt:iX prog 191=some (true,2):=by kernel_rfl
@[simp] theorem aO7:iT prog 191=none:=by kernel_rfl
@[simp] theorem aLn:dT prog 191 0=some (0,false,1):=by kernel_rfl
@[simp] theorem aL1:dT prog 191 1=some (1,false,1):=by kernel_rfl
@[simp] theorem aQa:pQ prog 191=some [(0,1),(1,1)]:=by kernel_rfl
@[simp] theorem aQs:eM prog 191=some [.v (.string ⟨#[]⟩),.v (.string ⟨#[]⟩)]:=by kernel_rfl
@[simp] theorem aP9:iX prog 245=some (false,1):=by kernel_rfl
@[simp] theorem aPd:iT prog 245=none:=by kernel_rfl
@[simp] theorem aQq:eM prog 245=some [.v (.map none)]:=by kernel_rfl
@[simp] theorem aPs:iX prog 248=some (false,1):=by kernel_rfl
@[simp] theorem aOz:iT prog 248=none:=by kernel_rfl
@[simp] theorem aOi:eM prog 248=some [.v (.nilFunc)]:=by kernel_rfl
@[simp] theorem aQm:iX prog 249=some (false,1):=by kernel_rfl
@[simp] theorem aN8:iT prog 249=none:=by kernel_rfl
@[simp] theorem aOx:eM prog 249=some [.v (.nilFunc)]:=by kernel_rfl
@[simp] theorem aOf:iX prog 260=some (false,1):=by kernel_rfl
@[simp] theorem aPo:iT prog 260=none:=by kernel_rfl
@[simp] theorem aOu:eM prog 260=some [.v (.nilFunc)]:=by kernel_rfl
@[simp] theorem aOc:iX prog 285=some (false,1):=by kernel_rfl
@[simp] theorem aO9:iT prog 285=none:=by kernel_rfl
@[simp] theorem aPj:eM prog 285=some [.v (.nilFunc)]:=by kernel_rfl
@[simp] theorem aOr:iX prog 287=some (false,1):=by kernel_rfl
@[simp] theorem aPk:iT prog 287=none:=by kernel_rfl
@[simp] theorem aQb:eM prog 287=some [.v (.nilFunc)]:=by kernel_rfl
@[simp] theorem aPw:iX prog 290=some (false,1):=by kernel_rfl
@[simp] theorem aP7:iT prog 290=none:=by kernel_rfl
@[simp] theorem aOo:eM prog 290=some [.v (.nilFunc)]:=by kernel_rfl
@[simp] theorem aPc:iX prog 296=some (false,1):=by kernel_rfl
@[simp] theorem aOv:iT prog 296=none:=by kernel_rfl
@[simp] theorem aN3:eM prog 296=some [.v (.nilFunc)]:=by kernel_rfl
@[simp] theorem aOd:iX prog 300=some (false,1):=by kernel_rfl
@[simp] theorem aPq:iT prog 300=none:=by kernel_rfl
@[simp] theorem aNz:eM prog 300=some [.v (.nilFunc)]:=by kernel_rfl
@[simp] theorem aP5:iX prog 314=some (false,1):=by kernel_rfl
@[simp] theorem aPm:iT prog 314=none:=by kernel_rfl
@[simp] theorem aQn:eM prog 314=some [.v (.nilFunc)]:=by kernel_rfl
@[simp] theorem aO1:iX prog 316=some (false,1):=by kernel_rfl
@[simp] theorem aPa:iT prog 316=none:=by kernel_rfl
@[simp] theorem aOp:eM prog 316=some [.v (.nilFunc)]:=by kernel_rfl
@[simp] theorem aOe:Tg prog 157=some (.int .i64,.pointer none):=by kernel_rfl
@[simp] theorem aP6:Vw (.pointer none)= .v (.pointer none):=rfl
@[simp] theorem aOl:Tg prog 245=some (.int .i64,.int .i64 0):=by kernel_rfl
@[simp] theorem aOb:Vw (.int .i64 0)= .v (.int .i64 0):=rfl
@[simp] theorem if9:ifI prog 9=some false:=by kernel_rfl
@[simp] theorem aSj:prog.eqGuardType prog.depth 67=false:=by kernel_rfl
theorem aNc(d:Nat)(a0:Int)(a1:Int)(a2:Int)(a3:Int)(a4:ByteArray)(a5:ByteArray)(b0:Int)(b1:Int)(b2:Int)(b3:Int)(b4:ByteArray)(b5:ByteArray)(w:World):(Op.equalIn (d+2) 67 (.agg #[.int .i64 a0,.int .i64 a1,.int .i64 a2,.int .i64 a3,.string a4,.string a5]) (.agg #[.int .i64 b0,.int .i64 b1,.int .i64 b2,.int .i64 b3,.string b4,.string b5])).run prog w= .ok ((a0==b0) && (a1==b1) && (a2==b2) && (a3==b3) && (decide (a4=b4)) && (decide (a5=b5))) w:=by
 have hS:prog.underlying 67=some (.struct (prog.fieldsOf 67)):=by kernel_rfl
 have hp:prog.stoodInHeld 67=false:=by kernel_rfl
 rw [show d+2=(d+1)+1 from rfl,run_equalIn_agg w (d+1) 67 _ _ hS hp];simp only [Program.fieldsOf,underlying67];have ia3:=isAgg3;have iz3:=sizeOf3;have iu3:=underlying3;have ia9:=isAgg9;have iz9:=sizeOf9;have iu9:=underlying9
 go_simp
 by_cases e0:a0=b0 <;> by_cases e1:a1=b1 <;> by_cases e2:a2=b2 <;> by_cases e3:a3=b3 <;> by_cases e4:a4=b4 <;> by_cases e5:a5=b5 <;> simp [e0,e1,e2,e3,e4,e5,xQ]
theorem aNa(a0:Int)(a1:Int)(a2:Int)(a3:Int)(a4:ByteArray)(a5:ByteArray)(b0:Int)(b1:Int)(b2:Int)(b3:Int)(b4:ByteArray)(b5:ByteArray):Jn prog 67 [.v (.int .i64 a0),.v (.int .i64 a1),.v (.int .i64 a2),.v (.int .i64 a3),.v (.string a4),.v (.string a5)] [.v (.int .i64 b0),.v (.int .i64 b1),.v (.int .i64 b2),.v (.int .i64 b3),.v (.string b4),.v (.string b5)] ((a0==b0) && (a1==b1) && (a2==b2) && (a3==b3) && (decide (a4=b4)) && (decide (a5=b5))):=
 ⟨[.int .i64 a0,.int .i64 a1,.int .i64 a2,.int .i64 a3,.string a4,.string a5], [.int .i64 b0,.int .i64 b1,.int .i64 b2,.int .i64 b3,.string b4,.string b5],rfl,rfl,fun w=>aNc 9998 a0 a1 a2 a3 a4 a5 b0 b1 b2 b3 b4 b5 w⟩
@[simp] theorem aSd(a0:Int)(a1:Int)(a2:Int)(a3:Int)(a4:ByteArray)(a5:ByteArray)(b0:Int)(b1:Int)(b2:Int)(b3:Int)(b4:ByteArray)(b5:ByteArray)(K:Bool→Prop):tT prog 67 [.v (.int .i64 a0),.v (.int .i64 a1),.v (.int .i64 a2),.v (.int .i64 a3),.v (.string a4),.v (.string a5)] [.v (.int .i64 b0),.v (.int .i64 b1),.v (.int .i64 b2),.v (.int .i64 b3),.v (.string b4),.v (.string b5)] K=K ((a0==b0) && (a1==b1) && (a2==b2) && (a3==b3) && (decide (a4=b4)) && (decide (a5=b5))):=Cu (aNa a0 a1 a2 a3 a4 a5 b0 b1 b2 b3 b4 b5)
@[simp] theorem aPn:prog.eqGuardType prog.depth 136=false:=by kernel_rfl
theorem aKn(d:Nat)(a0:ByteArray)(a1:Int)(b0:ByteArray)(b1:Int)(w:World):(Op.equalIn (d+2) 136 (.agg #[.string a0,.int .i64 a1]) (.agg #[.string b0,.int .i64 b1])).run prog w= .ok ((decide (a0=b0)) && (a1==b1)) w:=by
 have hS:prog.underlying 136=some (.struct (prog.fieldsOf 136)):=by kernel_rfl
 have hp:prog.stoodInHeld 136=false:=by kernel_rfl
 rw [show d+2=(d+1)+1 from rfl,run_equalIn_agg w (d+1) 136 _ _ hS hp];simp only [Program.fieldsOf,underlying136];have ia3:=isAgg3;have iz3:=sizeOf3;have iu3:=underlying3;have ia9:=isAgg9;have iz9:=sizeOf9;have iu9:=underlying9
 go_simp
 by_cases e0:a0=b0 <;> by_cases e1:a1=b1 <;> simp [e0,e1,xQ]
theorem aKu(a0:ByteArray)(a1:Int)(b0:ByteArray)(b1:Int):Jn prog 136 [.v (.string a0),.v (.int .i64 a1)] [.v (.string b0),.v (.int .i64 b1)] ((decide (a0=b0)) && (a1==b1)):=
 ⟨[.string a0,.int .i64 a1], [.string b0,.int .i64 b1],rfl,rfl,fun w=>aKn 9998 a0 a1 b0 b1 w⟩
@[simp] theorem aN2(a0:ByteArray)(a1:Int)(b0:ByteArray)(b1:Int)(K:Bool→Prop):tT prog 136 [.v (.string a0),.v (.int .i64 a1)] [.v (.string b0),.v (.int .i64 b1)] K=K ((decide (a0=b0)) && (a1==b1)):=Cu (aKu a0 a1 b0 b1)
end Go.Proofs.YtbgfljpnhhdkoaaGreat
