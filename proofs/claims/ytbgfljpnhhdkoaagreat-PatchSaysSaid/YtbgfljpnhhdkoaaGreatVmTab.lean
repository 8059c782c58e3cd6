import Derived.Test.YtbgfljpnhhdkoaaGreatProg
import Derived.Test.YtbgfljpnhhdkoaaGreatVm17
import Derived.Test.YtbgfljpnhhdkoaaGreatVmX14
import Derived.WalkKit
import Derived.KernelRfl
open Go.Proofs.Tryz
namespace Go.Proofs.YtbgfljpnhhdkoaaGreat
open Go Go.Vm
set_option linter.all false
set_option maxRecDepth 100000
@[simp] theorem ty1:iY prog 1=some (false,1):=by kernel_rfl
@[simp] theorem el1:iS prog 1=none:=by kernel_rfl
@[simp] theorem zr1:eL prog 1=some [.v (.nilFunc)]:=by kernel_rfl
@[simp] theorem ty2:iY prog 2=some (false,1):=by kernel_rfl
@[simp] theorem el2:iS prog 2=none:=by kernel_rfl
@[simp] theorem zr2:eL prog 2=some [.v (.int .i64 0)]:=by kernel_rfl
@[simp] theorem ub2:prog.underlying 2=some (.int .i64):=by kernel_rfl
@[simp] theorem ty3:iY prog 3=some (false,1):=by kernel_rfl
@[simp] theorem el3:iS prog 3=none:=by kernel_rfl
@[simp] theorem zr3:eL prog 3=some [.v (.int .i64 0)]:=by kernel_rfl
@[simp] theorem ub3:prog.underlying 3=some (.int .i64):=by kernel_rfl
@[simp] theorem ty4:iY prog 4=some (false,1):=by kernel_rfl
@[simp] theorem el4:iS prog 4=none:=by kernel_rfl
@[simp] theorem zr4:eL prog 4=some [.v (.bool false)]:=by kernel_rfl
@[simp] theorem ub4:prog.underlying 4=some .bool:=by kernel_rfl
@[simp] theorem ty5:iY prog 5=some (false,1):=by kernel_rfl
@[simp] theorem el5:iS prog 5=none:=by kernel_rfl
@[simp] theorem zr5:eL prog 5=some [.v (.int .u8 0)]:=by kernel_rfl
@[simp] theorem ub5:prog.underlying 5=some (.int .u8):=by kernel_rfl
@[simp] theorem ty6:iY prog 6=some (false,1):=by kernel_rfl
@[simp] theorem el6:iS prog 6=none:=by kernel_rfl
@[simp] theorem zr6:eL prog 6=some [.v (.int .u8 0)]:=by kernel_rfl
@[simp] theorem ub6:prog.underlying 6=some (.int .u8):=by kernel_rfl
@[simp] theorem ty7:iY prog 7=some (true,4):=by kernel_rfl
@[simp] theorem el7:iS prog 7=none:=by kernel_rfl
@[simp] theorem aNr:dS prog 7 0=some (0,false,1):=by kernel_rfl
@[simp] theorem aO0:dS prog 7 1=some (1,false,1):=by kernel_rfl
@[simp] theorem aOa:dS prog 7 2=some (2,false,1):=by kernel_rfl
@[simp] theorem aM8:dS prog 7 3=some (3,false,1):=by kernel_rfl
@[simp] theorem pl7:pC prog 7=some [(0,1),(1,1),(2,1),(3,1)]:=by kernel_rfl
@[simp] theorem zr7:eL prog 7=some [.v (.int .i64 0),.v (.int .i64 0),.v (.bool false),.v (.int .u8 0)]:=by kernel_rfl
@[simp] theorem ty8:iY prog 8=some (true,4):=by kernel_rfl
@[simp] theorem el8:iS prog 8=none:=by kernel_rfl
@[simp] theorem aN6:dS prog 8 0=some (0,false,1):=by kernel_rfl
@[simp] theorem aM6:dS prog 8 1=some (1,false,1):=by kernel_rfl
@[simp] theorem aNf:dS prog 8 2=some (2,false,1):=by kernel_rfl
@[simp] theorem aOv:dS prog 8 3=some (3,false,1):=by kernel_rfl
@[simp] theorem pl8:pC prog 8=some [(0,1),(1,1),(2,1),(3,1)]:=by kernel_rfl
@[simp] theorem zr8:eL prog 8=some [.v (.int .i64 0),.v (.int .i64 0),.v (.bool false),.v (.int .u8 0)]:=by kernel_rfl
@[simp] theorem ty9:iY prog 9=some (false,1):=by kernel_rfl
@[simp] theorem el9:iS prog 9=none:=by kernel_rfl
@[simp] theorem zr9:eL prog 9=some [.v (.string ⟨#[]⟩)]:=by kernel_rfl
@[simp] theorem ub9:prog.underlying 9=some .string:=by kernel_rfl
@[simp] theorem aSa:iY prog 22=some (false,1):=by kernel_rfl
@[simp] theorem aMx:iS prog 22=some (3,1,8,#[.int .i64 0]):=by kernel_rfl
@[simp] theorem aSf:prog.underlying 22=some (.slice 3):=by kernel_rfl
@[simp] theorem aQ7:eL prog 22=some [.sl true []]:=by kernel_rfl
@[simp] theorem aQr:iY prog 25=some (true,6):=by kernel_rfl
@[simp] theorem aRs:iS prog 25=none:=by kernel_rfl
@[simp] theorem aMy:dS prog 25 0=some (0,false,1):=by kernel_rfl
@[simp] theorem aMe:dS prog 25 1=some (1,false,1):=by kernel_rfl
@[simp] theorem aLj:dS prog 25 2=some (2,false,1):=by kernel_rfl
@[simp] theorem aLy:dS prog 25 3=some (3,false,1):=by kernel_rfl
@[simp] theorem aMw:dS prog 25 4=some (4,false,1):=by kernel_rfl
@[simp] theorem aLk:dS prog 25 5=some (5,false,1):=by kernel_rfl
@[simp] theorem aQ5:pC prog 25=some [(0,1),(1,1),(2,1),(3,1),(4,1),(5,1)]:=by kernel_rfl
@[simp] theorem aSl:eL prog 25=some [.v (.int .i64 0),.v (.int .i64 0),.v (.int .i64 0),.v (.int .i64 0),.v (.string ⟨#[]⟩),.v (.string ⟨#[]⟩)]:=by kernel_rfl
@[simp] theorem aQy:iY prog 26=some (false,1):=by kernel_rfl
@[simp] theorem aRn:iS prog 26=some (25,6,64,#[.int .i64 0,.int .i64 0,.int .i64 0,.int .i64 0,.string ⟨#[]⟩,.string ⟨#[]⟩]):=by kernel_rfl
@[simp] theorem aR4:prog.underlying 26=some (.slice 25):=by kernel_rfl
@[simp] theorem aQj:eL prog 26=some [.sl true []]:=by kernel_rfl
@[simp] theorem aSd:iY prog 27=some (false,1):=by kernel_rfl
@[simp] theorem aQ4:iS prog 27=none:=by kernel_rfl
@[simp] theorem aQa:eL prog 27=some [.v (.pointer none)]:=by kernel_rfl
@[simp] theorem aQ8:prog.underlying 27=some (.pointer 47):=by kernel_rfl
@[simp] theorem aP2:iY prog 28=some (false,1):=by kernel_rfl
@[simp] theorem aR6:iS prog 28=some (62,9,152,#[.int .i64 0,.int .i64 0,.string ⟨#[]⟩,.string ⟨#[]⟩,.slice none 0 0,.slice none 0 0,.slice none 0 0,.int .i64 0,.slice none 0 0]):=by kernel_rfl
@[simp] theorem aQn:prog.underlying 28=some (.slice 62):=by kernel_rfl
@[simp] theorem aRf:eL prog 28=some [.sl true []]:=by kernel_rfl
@[simp] theorem aP5:iY prog 30=some (true,3):=by kernel_rfl
@[simp] theorem aP3:iS prog 30=none:=by kernel_rfl
@[simp] theorem aLx:dS prog 30 0=some (0,false,1):=by kernel_rfl
@[simp] theorem aL0:dS prog 30 1=some (1,false,1):=by kernel_rfl
@[simp] theorem aL2:dS prog 30 2=some (2,false,1):=by kernel_rfl
@[simp] theorem aQc:pC prog 30=some [(0,1),(1,1),(2,1)]:=by kernel_rfl
@[simp] theorem aPz:eL prog 30=some [.v (.int .i64 0),.v (.int .i64 0),.sl true []]:=by kernel_rfl
@[simp] theorem aRj:iY prog 33=some (false,1):=by kernel_rfl
@[simp] theorem aRc:iS prog 33=none:=by kernel_rfl
@[simp] theorem aQz:eL prog 33=some [.v (.int .i64 0)]:=by kernel_rfl
@[simp] theorem aRv:prog.underlying 33=some (.int .i64):=by kernel_rfl
@[simp] theorem aRm:iY prog 35=some (false,1):=by kernel_rfl
@[simp] theorem aP1:iS prog 35=some (9,1,16,#[.string ⟨#[]⟩]):=by kernel_rfl
@[simp] theorem aQu:prog.underlying 35=some (.slice 9):=by kernel_rfl
@[simp] theorem aQ3:eL prog 35=some [.sl true []]:=by kernel_rfl
@[simp] theorem aPt:iY prog 36=some (false,1):=by kernel_rfl
@[simp] theorem aMg:iS prog 36=some (191,2,32,#[.string ⟨#[]⟩,.string ⟨#[]⟩]):=by kernel_rfl
@[simp] theorem aSp:prog.underlying 36=some (.slice 191):=by kernel_rfl
@[simp] theorem aRa:eL prog 36=some [.sl true []]:=by kernel_rfl
@[simp] theorem aQm:iY prog 37=some (false,1):=by kernel_rfl
@[simp] theorem aRk:iS prog 37=some (191,2,32,#[.string ⟨#[]⟩,.string ⟨#[]⟩]):=by kernel_rfl
@[simp] theorem aQ1:prog.underlying 37=some (.slice 191):=by kernel_rfl
@[simp] theorem aSk:eL prog 37=some [.sl true []]:=by kernel_rfl
@[simp] theorem aP8:iY prog 38=some (false,1):=by kernel_rfl
@[simp] theorem aMr:iS prog 38=some (137,2,24,#[.string ⟨#[]⟩,.int .i64 0]):=by kernel_rfl
@[simp] theorem aRi:prog.underlying 38=some (.slice 137):=by kernel_rfl
@[simp] theorem aRx:eL prog 38=some [.sl true []]:=by kernel_rfl
@[simp] theorem aR0:iY prog 39=some (false,1):=by kernel_rfl
@[simp] theorem aSm:iS prog 39=some (137,2,24,#[.string ⟨#[]⟩,.int .i64 0]):=by kernel_rfl
@[simp] theorem aSi:prog.underlying 39=some (.slice 137):=by kernel_rfl
@[simp] theorem aSo:eL prog 39=some [.sl true []]:=by kernel_rfl
@[simp] theorem aQw:iY prog 41=some (true,9):=by kernel_rfl
@[simp] theorem aQi:iS prog 41=none:=by kernel_rfl
@[simp] theorem aMb:dS prog 41 0=some (0,false,1):=by kernel_rfl
@[simp] theorem aLo:dS prog 41 1=some (1,false,1):=by kernel_rfl
@[simp] theorem aLq:dS prog 41 2=some (2,false,1):=by kernel_rfl
@[simp] theorem aMu:dS prog 41 3=some (3,false,1):=by kernel_rfl
@[simp] theorem aLm:dS prog 41 4=some (4,false,1):=by kernel_rfl
@[simp] theorem aMc:dS prog 41 5=some (5,false,1):=by kernel_rfl
@[simp] theorem aL6:dS prog 41 6=some (6,false,1):=by kernel_rfl
@[simp] theorem aL4:dS prog 41 7=some (7,false,1):=by kernel_rfl
@[simp] theorem aMf:dS prog 41 8=some (8,false,1):=by kernel_rfl
@[simp] theorem aPv:pC prog 41=some [(0,1),(1,1),(2,1),(3,1),(4,1),(5,1),(6,1),(7,1),(8,1)]:=by kernel_rfl
@[simp] theorem aQd:eL prog 41=some [.v (.int .i64 0),.v (.int .i64 0),.v (.string ⟨#[]⟩),.v (.string ⟨#[]⟩),.sl true [],.sl true [],.sl true [],.v (.int .i64 0),.sl true []]:=by kernel_rfl
@[simp] theorem aQt:iY prog 44=some (false,1):=by kernel_rfl
@[simp] theorem aRl:iS prog 44=none:=by kernel_rfl
@[simp] theorem aRb:eL prog 44=some [.v (.pointer none)]:=by kernel_rfl
@[simp] theorem aSh:prog.underlying 44=some (.pointer 159):=by kernel_rfl
@[simp] theorem aQx:iY prog 45=some (false,1):=by kernel_rfl
@[simp] theorem aQ2:iS prog 45=some (142,6,64,#[.int .i64 0,.int .i64 0,.int .i64 0,.int .i64 0,.string ⟨#[]⟩,.string ⟨#[]⟩]):=by kernel_rfl
@[simp] theorem aRd:prog.underlying 45=some (.slice 142):=by kernel_rfl
@[simp] theorem aQe:eL prog 45=some [.sl true []]:=by kernel_rfl
@[simp] theorem aQf:iY prog 47=some (true,2):=by kernel_rfl
@[simp] theorem aRw:iS prog 47=none:=by kernel_rfl
@[simp] theorem aLn:dS prog 47 0=some (0,false,1):=by kernel_rfl
@[simp] theorem aL3:dS prog 47 1=some (1,false,1):=by kernel_rfl
@[simp] theorem aRy:pC prog 47=some [(0,1),(1,1)]:=by kernel_rfl
@[simp] theorem aRp:eL prog 47=some [.v (.pointer none),.sl true []]:=by kernel_rfl
@[simp] theorem aQ0:iY prog 51=some (false,1):=by kernel_rfl
@[simp] theorem aQp:iS prog 51=some (67,6,64,#[.int .i64 0,.int .i64 0,.int .i64 0,.int .i64 0,.string ⟨#[]⟩,.string ⟨#[]⟩]):=by kernel_rfl
@[simp] theorem aPu:prog.underlying 51=some (.slice 67):=by kernel_rfl
@[simp] theorem aQ9:eL prog 51=some [.sl true []]:=by kernel_rfl
@[simp] theorem aPy:iY prog 57=some (true,4):=by kernel_rfl
@[simp] theorem aQb:iS prog 57=none:=by kernel_rfl
@[simp] theorem aMq:dS prog 57 0=some (0,false,1):=by kernel_rfl
@[simp] theorem aL9:dS prog 57 1=some (1,false,1):=by kernel_rfl
@[simp] theorem aLs:dS prog 57 2=some (2,false,1):=by kernel_rfl
@[simp] theorem aLf:dS prog 57 3=some (3,false,1):=by kernel_rfl
@[simp] theorem aPw:pC prog 57=some [(0,1),(1,1),(2,1),(3,1)]:=by kernel_rfl
@[simp] theorem aQo:eL prog 57=some [.sl true [],.v (.int .i64 0),.v (.string ⟨#[]⟩),.v (.string ⟨#[]⟩)]:=by kernel_rfl
@[simp] theorem aR8:iY prog 59=some (false,1):=by kernel_rfl
@[simp] theorem aQq:iS prog 59=some (171,2,32,#[.string ⟨#[]⟩,.string ⟨#[]⟩]):=by kernel_rfl
@[simp] theorem aSb:prog.underlying 59=some (.slice 171):=by kernel_rfl
@[simp] theorem aPs:eL prog 59=some [.sl true []]:=by kernel_rfl
@[simp] theorem aRq:iY prog 60=some (false,1):=by kernel_rfl
@[simp] theorem aR2:iS prog 60=some (136,2,24,#[.string ⟨#[]⟩,.int .i64 0]):=by kernel_rfl
@[simp] theorem aRu:prog.underlying 60=some (.slice 136):=by kernel_rfl
@[simp] theorem aRz:eL prog 60=some [.sl true []]:=by kernel_rfl
@[simp] theorem aRt:iY prog 62=some (true,9):=by kernel_rfl
@[simp] theorem aP9:iS prog 62=none:=by kernel_rfl
@[simp] theorem aLz:dS prog 62 0=some (0,false,1):=by kernel_rfl
@[simp] theorem aMi:dS prog 62 1=some (1,false,1):=by kernel_rfl
@[simp] theorem aL5:dS prog 62 2=some (2,false,1):=by kernel_rfl
@[simp] theorem aLl:dS prog 62 3=some (3,false,1):=by kernel_rfl
@[simp] theorem aL1:dS prog 62 4=some (4,false,1):=by kernel_rfl
@[simp] theorem aL7:dS prog 62 5=some (5,false,1):=by kernel_rfl
@[simp] theorem aMh:dS prog 62 6=some (6,false,1):=by kernel_rfl
@[simp] theorem aLu:dS prog 62 7=some (7,false,1):=by kernel_rfl
@[simp] theorem aLp:dS prog 62 8=some (8,false,1):=by kernel_rfl
@[simp] theorem aSn:pC prog 62=some [(0,1),(1,1),(2,1),(3,1),(4,1),(5,1),(6,1),(7,1),(8,1)]:=by kernel_rfl
@[simp] theorem aR5:eL prog 62=some [.v (.int .i64 0),.v (.int .i64 0),.v (.string ⟨#[]⟩),.v (.string ⟨#[]⟩),.sl true [],.sl true [],.sl true [],.v (.int .i64 0),.sl true []]:=by kernel_rfl
@[simp] theorem aRo:iY prog 67=some (true,6):=by kernel_rfl
@[simp] theorem aR9:iS prog 67=none:=by kernel_rfl
@[simp] theorem aMv:dS prog 67 0=some (0,false,1):=by kernel_rfl
@[simp] theorem aMt:dS prog 67 1=some (1,false,1):=by kernel_rfl
@[simp] theorem aLg:dS prog 67 2=some (2,false,1):=by kernel_rfl
@[simp] theorem aM2:dS prog 67 3=some (3,false,1):=by kernel_rfl
@[simp] theorem aMj:dS prog 67 4=some (4,false,1):=by kernel_rfl
@[simp] theorem aMa:dS prog 67 5=some (5,false,1):=by kernel_rfl
@[simp] theorem aQ6:pC prog 67=some [(0,1),(1,1),(2,1),(3,1),(4,1),(5,1)]:=by kernel_rfl
@[simp] theorem aSc:eL prog 67=some [.v (.int .i64 0),.v (.int .i64 0),.v (.int .i64 0),.v (.int .i64 0),.v (.string ⟨#[]⟩),.v (.string ⟨#[]⟩)]:=by kernel_rfl
@[simp] theorem aP6:iY prog 92=some (false,1):=by kernel_rfl
@[simp] theorem aQg:iS prog 92=none:=by kernel_rfl
@[simp] theorem aSe:eL prog 92=some [.v (.int .u64 0)]:=by kernel_rfl
@[simp] theorem aP0:prog.underlying 92=some (.int .u64):=by kernel_rfl
@[simp] theorem aPi:iY prog 136=some (true,2):=by kernel_rfl
@[simp] theorem aOl:iS prog 136=none:=by kernel_rfl
@[simp] theorem aKt:dS prog 136 0=some (0,false,1):=by kernel_rfl
@[simp] theorem aKs:dS prog 136 1=some (1,false,1):=by kernel_rfl
@[simp] theorem aNh:pC prog 136=some [(0,1),(1,1)]:=by kernel_rfl
@[simp] theorem aO1:eL prog 136=some [.v (.string ⟨#[]⟩),.v (.int .i64 0)]:=by kernel_rfl
@[simp] theorem aOj:iY prog 137=some (true,2):=by kernel_rfl
@[simp] theorem aOe:iS prog 137=none:=by kernel_rfl
@[simp] theorem aLd:dS prog 137 0=some (0,false,1):=by kernel_rfl
@[simp] theorem aLa:dS prog 137 1=some (1,false,1):=by kernel_rfl
@[simp] theorem aN1:pC prog 137=some [(0,1),(1,1)]:=by kernel_rfl
@[simp] theorem aOi:eL prog 137=some [.v (.string ⟨#[]⟩),.v (.int .i64 0)]:=by kernel_rfl
@[simp] theorem aPq:iY prog 142=some (true,6):=by kernel_rfl
@[simp] theorem aM9:iS prog 142=none:=by kernel_rfl
@[simp] theorem aK8:dS prog 142 0=some (0,false,1):=by kernel_rfl
@[simp] theorem aKy:dS prog 142 1=some (1,false,1):=by kernel_rfl
@[simp] theorem aKr:dS prog 142 2=some (2,false,1):=by kernel_rfl
@[simp] theorem aKz:dS prog 142 3=some (3,false,1):=by kernel_rfl
@[simp] theorem aLe:dS prog 142 4=some (4,false,1):=by kernel_rfl
@[simp] theorem aK5:dS prog 142 5=some (5,false,1):=by kernel_rfl
@[simp] theorem aOw:pC prog 142=some [(0,1),(1,1),(2,1),(3,1),(4,1),(5,1)]:=by kernel_rfl
@[simp] theorem aNq:eL prog 142=some [.v (.int .i64 0),.v (.int .i64 0),.v (.int .i64 0),.v (.int .i64 0),.v (.string ⟨#[]⟩),.v (.string ⟨#[]⟩)]:=by kernel_rfl
@[simp] theorem aO5:iY prog 148=some (false,1):=by kernel_rfl
@[simp] theorem aPr:iS prog 148=some (151,3,24,#[.int .i64 0,.int .i64 0,.int .i64 0]):=by kernel_rfl
@[simp] theorem aNx:prog.underlying 148=some (.slice 151):=by kernel_rfl
@[simp] theorem aOh:eL prog 148=some [.sl true []]:=by kernel_rfl
@[simp] theorem aPc:iY prog 151=some (true,3):=by kernel_rfl
@[simp] theorem aOm:iS prog 151=none:=by kernel_rfl
@[simp] theorem aK4:dS prog 151 0=some (0,false,1):=by kernel_rfl
@[simp] theorem aKu:dS prog 151 1=some (1,false,1):=by kernel_rfl
@[simp] theorem aK2:dS prog 151 2=some (2,false,1):=by kernel_rfl
@[simp] theorem aO6:pC prog 151=some [(0,1),(1,1),(2,1)]:=by kernel_rfl
@[simp] theorem aOp:eL prog 151=some [.v (.int .i64 0),.v (.int .i64 0),.v (.int .i64 0)]:=by kernel_rfl
@[simp] theorem aOq:iY prog 155=some (false,1):=by kernel_rfl
@[simp] theorem aOz:iS prog 155=none:=by kernel_rfl
@[simp] theorem aN3:eL prog 155=some [.v (.pointer none)]:=by kernel_rfl
@[simp] theorem aPo:prog.underlying 155=some (.pointer 41):=by kernel_rfl
@[simp] theorem aNi:iY prog 157=some (false,1):=by kernel_rfl
@[simp] theorem aM3:iS prog 157=none:=by kernel_rfl
@[simp] theorem aN8:eL prog 157=some [.v (.map none)]:=by kernel_rfl
@[simp] theorem aOx:iY prog 159=some (true,3):=by kernel_rfl
@[simp] theorem aOt:iS prog 159=none:=by kernel_rfl
@[simp] theorem aK9:dS prog 159 0=some (0,false,1):=by kernel_rfl
@[simp] theorem aK1:dS prog 159 1=some (1,false,1):=by kernel_rfl
@[simp] theorem aK7:dS prog 159 2=some (2,false,1):=by kernel_rfl
@[simp] theorem aNa:pC prog 159=some [(0,1),(1,1),(2,1)]:=by kernel_rfl
@[simp] theorem aPh:eL prog 159=some [.v (.int .i64 0),.v (.int .i64 0),.v (.map none)]:=by kernel_rfl
@[simp] theorem aNb:iY prog 168=some (false,1):=by kernel_rfl
@[simp] theorem aPl:iS prog 168=none:=by kernel_rfl
@[simp] theorem aPe:eL prog 168=some [.v (.nilFunc)]:=by kernel_rfl
@[simp] theorem aNu:iY prog 171=some (true,2):=by kernel_rfl
@[simp] theorem aNm:iS prog 171=none:=by kernel_rfl
@[simp] theorem aKw:dS prog 171 0=some (0,false,1):=by kernel_rfl
@[simp] theorem aKq:dS prog 171 1=some (1,false,1):=by kernel_rfl
@[simp] theorem aOc:pC prog 171=some [(0,1),(1,1)]:=by kernel_rfl
@[simp] theorem aO2:eL prog 171=some [.v (.string ⟨#[]⟩),.v (.string ⟨#[]⟩)]:=by kernel_rfl
@[simp] theorem aPa:iY prog 191=some (true,2):=by kernel_rfl
@[simp] theorem aPk:iS prog 191=none:=by kernel_rfl
@[simp] theorem aK3:dS prog 191 0=some (0,false,1):=by kernel_rfl
@[simp] theorem aKx:dS prog 191 1=some (1,false,1):=by kernel_rfl
@[simp] theorem aOg:pC prog 191=some [(0,1),(1,1)]:=by kernel_rfl
@[simp] theorem aOy:eL prog 191=some [.v (.string ⟨#[]⟩),.v (.string ⟨#[]⟩)]:=by kernel_rfl
@[simp] theorem aN4:iY prog 245=some (false,1):=by kernel_rfl
@[simp] theorem aOd:iS prog 245=none:=by kernel_rfl
@[simp] theorem aO8:eL prog 245=some [.v (.map none)]:=by kernel_rfl
@[simp] theorem aM7:iY prog 248=some (false,1):=by kernel_rfl
@[simp] theorem aNw:iS prog 248=none:=by kernel_rfl
@[simp] theorem aNe:eL prog 248=some [.v (.nilFunc)]:=by kernel_rfl
@[simp] theorem aNg:iY prog 249=some (false,1):=by kernel_rfl
@[simp] theorem aM5:iS prog 249=none:=by kernel_rfl
@[simp] theorem aPg:eL prog 249=some [.v (.nilFunc)]:=by kernel_rfl
@[simp] theorem aNp:iY prog 260=some (false,1):=by kernel_rfl
@[simp] theorem aNk:iS prog 260=none:=by kernel_rfl
@[simp] theorem aOs:eL prog 260=some [.v (.nilFunc)]:=by kernel_rfl
@[simp] theorem aNy:iY prog 285=some (false,1):=by kernel_rfl
@[simp] theorem aPf:iS prog 285=none:=by kernel_rfl
@[simp] theorem aM4:eL prog 285=some [.v (.nilFunc)]:=by kernel_rfl
@[simp] theorem aNl:iY prog 287=some (false,1):=by kernel_rfl
@[simp] theorem aN7:iS prog 287=none:=by kernel_rfl
@[simp] theorem aN0:eL prog 287=some [.v (.nilFunc)]:=by kernel_rfl
@[simp] theorem aN9:iY prog 290=some (false,1):=by kernel_rfl
@[simp] theorem aN5:iS prog 290=none:=by kernel_rfl
@[simp] theorem aPm:eL prog 290=some [.v (.nilFunc)]:=by kernel_rfl
@[simp] theorem aPj:iY prog 296=some (false,1):=by kernel_rfl
@[simp] theorem aOr:iS prog 296=none:=by kernel_rfl
@[simp] theorem aPb:eL prog 296=some [.v (.nilFunc)]:=by kernel_rfl
@[simp] theorem aNs:iY prog 300=some (false,1):=by kernel_rfl
@[simp] theorem aO3:iS prog 300=none:=by kernel_rfl
@[simp] theorem aOn:eL prog 300=some [.v (.nilFunc)]:=by kernel_rfl
@[simp] theorem aO7:iY prog 314=some (false,1):=by kernel_rfl
@[simp] theorem aOu:iS prog 314=none:=by kernel_rfl
@[simp] theorem aOo:eL prog 314=some [.v (.nilFunc)]:=by kernel_rfl
@[simp] theorem aOb:iY prog 316=some (false,1):=by kernel_rfl
@[simp] theorem aOk:iS prog 316=none:=by kernel_rfl
@[simp] theorem aPp:eL prog 316=some [.v (.nilFunc)]:=by kernel_rfl
@[simp] theorem aNj:Vh prog 157=some (.int .i64,.pointer none):=by kernel_rfl
@[simp] theorem aNz:Vj (.pointer none)= .v (.pointer none):=rfl
@[simp] theorem aNc:Vh prog 245=some (.int .i64,.int .i64 0):=by kernel_rfl
@[simp] theorem aO4:Vj (.int .i64 0)= .v (.int .i64 0):=rfl
@[simp] theorem if9:ifI prog 9=some false:=by kernel_rfl
@[simp] theorem aQs:prog.eqGuardType prog.depth 67=false:=by kernel_rfl
theorem aLv(d:Nat)(a0:Int)(a1:Int)(a2:Int)(a3:Int)(a4:ByteArray)(a5:ByteArray)(b0:Int)(b1:Int)(b2:Int)(b3:Int)(b4:ByteArray)(b5:ByteArray)(w:World):(Op.equalIn (d+2) 67 (.agg #[.int .i64 a0,.int .i64 a1,.int .i64 a2,.int .i64 a3,.string a4,.string a5]) (.agg #[.int .i64 b0,.int .i64 b1,.int .i64 b2,.int .i64 b3,.string b4,.string b5])).run prog w= .ok ((a0==b0) && (a1==b1) && (a2==b2) && (a3==b3) && (decide (a4=b4)) && (decide (a5=b5))) w:=by
 have hS:prog.underlying 67=some (.struct (prog.fieldsOf 67)):=by kernel_rfl
 have hp:prog.stoodInHeld 67=false:=by kernel_rfl
 rw [show d+2=(d+1)+1 from rfl,run_equalIn_agg w (d+1) 67 _ _ hS hp];simp only [Program.fieldsOf,underlying67];have ia3:=isAgg3;have iz3:=sizeOf3;have iu3:=underlying3;have ia9:=isAgg9;have iz9:=sizeOf9;have iu9:=underlying9
 go_simp
 by_cases e0:a0=b0 <;> by_cases e1:a1=b1 <;> by_cases e2:a2=b2 <;> by_cases e3:a3=b3 <;> by_cases e4:a4=b4 <;> by_cases e5:a5=b5 <;> simp [e0,e1,e2,e3,e4,e5,xH]
theorem aMk(a0:Int)(a1:Int)(a2:Int)(a3:Int)(a4:ByteArray)(a5:ByteArray)(b0:Int)(b1:Int)(b2:Int)(b3:Int)(b4:ByteArray)(b5:ByteArray):Hv prog 67 [.v (.int .i64 a0),.v (.int .i64 a1),.v (.int .i64 a2),.v (.int .i64 a3),.v (.string a4),.v (.string a5)] [.v (.int .i64 b0),.v (.int .i64 b1),.v (.int .i64 b2),.v (.int .i64 b3),.v (.string b4),.v (.string b5)] ((a0==b0) && (a1==b1) && (a2==b2) && (a3==b3) && (decide (a4=b4)) && (decide (a5=b5))):=
 ⟨[.int .i64 a0,.int .i64 a1,.int .i64 a2,.int .i64 a3,.string a4,.string a5], [.int .i64 b0,.int .i64 b1,.int .i64 b2,.int .i64 b3,.string b4,.string b5],rfl,rfl,fun w=>aLv 9998 a0 a1 a2 a3 a4 a5 b0 b1 b2 b3 b4 b5 w⟩
@[simp] theorem aQk(a0:Int)(a1:Int)(a2:Int)(a3:Int)(a4:ByteArray)(a5:ByteArray)(b0:Int)(b1:Int)(b2:Int)(b3:Int)(b4:ByteArray)(b5:ByteArray)(K:Bool→Prop):tU prog 67 [.v (.int .i64 a0),.v (.int .i64 a1),.v (.int .i64 a2),.v (.int .i64 a3),.v (.string a4),.v (.string a5)] [.v (.int .i64 b0),.v (.int .i64 b1),.v (.int .i64 b2),.v (.int .i64 b3),.v (.string b4),.v (.string b5)] K=K ((a0==b0) && (a1==b1) && (a2==b2) && (a3==b3) && (decide (a4=b4)) && (decide (a5=b5))):=Ch (aMk a0 a1 a2 a3 a4 a5 b0 b1 b2 b3 b4 b5)
@[simp] theorem aO9:prog.eqGuardType prog.depth 136=false:=by kernel_rfl
theorem aKk(d:Nat)(a0:ByteArray)(a1:Int)(b0:ByteArray)(b1:Int)(w:World):(Op.equalIn (d+2) 136 (.agg #[.string a0,.int .i64 a1]) (.agg #[.string b0,.int .i64 b1])).run prog w= .ok ((decide (a0=b0)) && (a1==b1)) w:=by
 have hS:prog.underlying 136=some (.struct (prog.fieldsOf 136)):=by kernel_rfl
 have hp:prog.stoodInHeld 136=false:=by kernel_rfl
 rw [show d+2=(d+1)+1 from rfl,run_equalIn_agg w (d+1) 136 _ _ hS hp];simp only [Program.fieldsOf,underlying136];have ia3:=isAgg3;have iz3:=sizeOf3;have iu3:=underlying3;have ia9:=isAgg9;have iz9:=sizeOf9;have iu9:=underlying9
 go_simp
 by_cases e0:a0=b0 <;> by_cases e1:a1=b1 <;> simp [e0,e1,xH]
theorem aKn(a0:ByteArray)(a1:Int)(b0:ByteArray)(b1:Int):Hv prog 136 [.v (.string a0),.v (.int .i64 a1)] [.v (.string b0),.v (.int .i64 b1)] ((decide (a0=b0)) && (a1==b1)):=
 ⟨[.string a0,.int .i64 a1], [.string b0,.int .i64 b1],rfl,rfl,fun w=>aKk 9998 a0 a1 b0 b1 w⟩
@[simp] theorem aOf(a0:ByteArray)(a1:Int)(b0:ByteArray)(b1:Int)(K:Bool→Prop):tU prog 136 [.v (.string a0),.v (.int .i64 a1)] [.v (.string b0),.v (.int .i64 b1)] K=K ((decide (a0=b0)) && (a1==b1)):=Ch (aKn a0 a1 b0 b1)
end Go.Proofs.YtbgfljpnhhdkoaaGreat
