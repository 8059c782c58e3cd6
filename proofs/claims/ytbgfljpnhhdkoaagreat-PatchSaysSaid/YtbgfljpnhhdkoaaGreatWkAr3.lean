import Derived.Test.YtbgfljpnhhdkoaaGreatWkAr2
open Go.Proofs.Tryz
namespace Go.Proofs.YtbgfljpnhhdkoaaGreat
open Go Go.Vm
set_option maxRecDepth 20000
set_option linter.all false
set_option maxHeartbeats 8000000
structure AT where
 name:ByteArray
 value:ByteArray
 deriving DecidableEq
@[simp] abbrev dB(s:AT):D:= .agg [.v (.string s.name),.v (.string s.value)]
structure PI where
 name:ByteArray
 value:Int
 deriving DecidableEq
@[simp] abbrev cW(s:PI):D:= .agg [.v (.string s.name),.v (.int .i64 s.value)]
def cI(n:Int):List D:= [D.int n]
def cA(x:AT):List D:= [D.str x.name,D.str x.value]
def cP(x:PI):List D:= [D.str x.name,D.int x.value]
def dK {α:Type} (l:List α)(i:Nat)(x:α):List α:=l.take i++x::l.drop i
theorem fE {α:Type} (l:List α)(i:Nat)(x:α)(h:i≤l.length):(dK l i x).length=l.length+1:=by simp [dK];omega
def tP(k:Nat):D:=if k=1 then .any else .agg (List.replicate k .any)
theorem sG {k:Nat} :(tP k).cells=List.replicate k .any:=by
 unfold tP;split
 ·rename_i h;subst h;rfl
 rfl
theorem aE1 {k:Nat} :(tP k).ncells=k∧(tP k).arr=true:=by
 constructor
 ·rw [← dD,sG,List.length_replicate]
 unfold D.arr;rw [sG,List.all_eq_true];intro x hx;rw [List.eq_of_mem_replicate hx];rfl
section
variable {α:Type} {f:α→List D} {d:α→D} {k:Nat}
theorem Fw(hd:∀a,(d a).cells=f a)(hf:∀a,(f a).length=k)(l:List α)(i r:Nat)(hi:i<l.length)(hr:k≤r):((l.drop i).map d++ [tP k]).flatMap D.cells<+:List.drop (i * k) (l.flatMap f++List.replicate r .any):=by
 have e:l.flatMap f=(l.take i).flatMap f++(l.drop i).flatMap f:=by rw [← List.flatMap_append,List.take_append_drop]
 rw [e,List.append_assoc,← kW hf l i hi,List.drop_left,List.flatMap_append,cJ hd];refine⟨List.replicate (r - k) .any,?_⟩;simp only [List.flatMap_cons,List.flatMap_nil,List.append_nil,sG,List.append_assoc,List.replicate_append_replicate];rw [show k+(r - k)=r by omega]
theorem Ah(hd:∀a,(d a).cells=f a)(hf:∀a,(f a).length=k)(l:List α)(i r:Nat)(hi:i<l.length)(hr:k≤r):cV (l.flatMap f++List.replicate r .any) ((i+1) * k) ((((l.drop i).map d++ [tP k]).take (l.length - i)).flatMap D.cells)=(l.take (i+1)).flatMap f++((l.drop i).flatMap f++List.replicate (r - k) .any):=by
 have e:l.flatMap f=(l.take (i+1)).flatMap f++(l.drop (i+1)).flatMap f:=by rw [← List.flatMap_append,List.take_append_drop]
 have e2:((l.drop i).map d++ [tP k]).take (l.length - i)=(l.drop i).map d:=by
  rw [List.take_append_of_le_length (by simp),List.take_of_length_le (by simp)]
 have e3:(l.flatMap f++List.replicate r (D.any))=(l.take (i+1)).flatMap f++(((l.drop (i+1)).flatMap f++List.replicate k .any)++List.replicate (r - k) .any):=by
  rw [e,List.append_assoc,List.append_assoc,List.replicate_append_replicate,show k+(r - k)=r by omega]
 have e4:((l.take (i+1)).flatMap f).length=(i+1) * k:=by rw [cL hf,List.length_take,Nat.min_eq_left (by omega)]
 rw [e2,cJ hd,e3,← e4];refine jN _ _ _ _ ?_;rw [List.length_append,cL hf,cL hf,List.length_replicate,List.length_drop,List.length_drop,← Nat.succ_mul];congr 1;omega
theorem yM(hf:∀a,(f a).length=k)(l:List α)(i:Nat)(x:α)(R:List D)(hi:i<l.length):cV ((l.take (i+1)).flatMap f++((l.drop i).flatMap f++R)) (i * k) (f x)=(dK l i x).flatMap f++R:=by
 have e:(l.take (i+1)).flatMap f=(l.take i).flatMap f++f l[i]:=by rw [dA l i hi,List.flatMap_append];simp
 rw [e,List.append_assoc,← kW hf l i hi,jN _ _ _ _ (by rw [hf,hf])];simp [dK]
theorem tB(hd:∀a,(d a).cells=f a)(l:List α)(i r:Nat):((l.take i).map d).flatMap D.cells<+:l.flatMap f++List.replicate r .any:=by
 rw [cJ hd];have e:l.flatMap f=(l.take i).flatMap f++(l.drop i).flatMap f:=by rw [← List.flatMap_append,List.take_append_drop]
 rw [e,List.append_assoc];exact List.prefix_append _ _
theorem uT(hd:∀a,(d a).cells=f a)(l:List α)(i:Nat):((l.take i).map d).flatMap D.cells<+:l.flatMap f:=by
 have:=tB (f:=f) hd l i 0;simpa using this
theorem gN(hd:∀a,(d a).ncells=k∧(d a).arr=true)(l:List α):∀y∈l.map d,y.ncells=k∧y.arr=true:=fun y hy=>by
 obtain⟨a,_,rfl⟩:=List.mem_map.1 hy;exact hd a
theorem Mn(hd:∀a,(d a).ncells=k∧(d a).arr=true)(l:List α):∀y∈l.map d++ [tP k],y.ncells=k∧y.arr=true:=fun y hy=>by
 rcases List.mem_append.1 hy with h | h
 ·exact gN hd l y h
 simp at h;subst h;exact aE1
theorem Bf(hd:∀a,(d a).cells=f a)(hf:∀a,(f a).length=k)(l:List α)(i r:Nat)(hi:i<l.length):((l.drop i).map d).flatMap D.cells<+:List.drop (i * k) (l.flatMap f++List.replicate r .any):=by
 have e:l.flatMap f=(l.take i).flatMap f++(l.drop i).flatMap f:=by rw [← List.flatMap_append,List.take_append_drop]
 rw [e,List.append_assoc,← kW hf l i hi,List.drop_left,cJ hd];exact List.prefix_append _ _
theorem Fz {Z:D} (hZ:Z.ncells=k):∀n:Nat,((List.replicate n Z).flatMap D.cells).length=n * k
 | 0=>by simp
 | n+1=>by rw [List.replicate_succ,List.flatMap_cons,List.length_append,Fz hZ n,dD,hZ,Nat.succ_mul];omega
theorem Aq(hf:∀a,(f a).length=k)(l:List α)(i:Nat)(x:α)(R:List D)(hi:i<l.length)(hR:k≤R.length):cV ((l.take i).flatMap f++R) (i * k) (f x)=(l.take i).flatMap f++(f x++R.drop k):=by
 conv=>lhs;rw [← List.take_append_drop k R]
 rw [← kW hf l i hi,jN _ _ _ _ (by rw [hf,List.length_take];omega)]
theorem zP(hd:∀a,(d a).cells=f a)(hf:∀a,(f a).length=k)(l:List α)(i:Nat)(x:α)(R:List D)(hi:i<l.length)(hR:(l.length - i) * k≤R.length):cV ((l.take i).flatMap f++(f x++R)) ((i+1) * k) (((l.drop i).map d).flatMap D.cells)=(dK l i x).flatMap f++R.drop ((l.length - i) * k):=by
 have e:((l.take i).flatMap f++f x).length=(i+1) * k:=by rw [List.length_append,kW hf l i hi,hf,Nat.succ_mul]
 conv=>lhs;rw [← List.take_append_drop ((l.length - i) * k) R]
 rw [← List.append_assoc,← e,jN _ _ _ _ (by rw [cJ hd,cL hf,List.length_drop,List.length_take];omega),cJ hd];simp [dK]
end
theorem eN:Gf prog 241:=by
 obtain⟨ti,zv,h1,h2,_⟩:=fF aMx;exact⟨_,22,4,3,ti,func241,by kernel_rfl,by kernel_rfl,by kernel_rfl,by kernel_rfl,h1,h2⟩
@[simp] abbrev qAr31:Cfg:=⟨[0,6,9,17,23,55,61,83,94],[],[],[12,19,25,34,43,50,53,60,66,73,76,80],[30,40,45,54,67,77,82]⟩
theorem Wk(l:List Int)(x:Int)(i:Nat)(σ:List (List D))(hl:l.length≤1000000)(hi:i≤l.length):Ct prog 205 [.xs 1 (l.map D.int),D.int i,.sl true [D.int x]] σ (fun r σ'=>r= .xs 1 ((dK l i x).map D.int)∧∃J,σ'=σ++J):=by
 refine zf (rs:=[.tmp 6]) func205 ntmps205 results205 ?_;simp only [aO];refine fW 0 1 rfl (by decide) fun cap rest hcap hcm hrest hk0 hes=>?_;subst hrest;simp only [List.length_map] at hcap ⊢;rw [cJ (f:=cI) (fun _=>rfl)];refine zr qAr31 fun _ _ Z=>?_;simp(disch:=omega)[eN,-aU,aT,aP,aM,aG];apply Z;refine zr qAr31 fun _ _ Z=>?_;simp(disch:=omega)[eN,-aU,aT,aP,aM,aG];and_intros<;>(try omega);apply Z;refine zr qAr31 fun _ _ Z=>?_;simp(disch:=omega)[eN,-aU,aT,aP,aM,aG];and_intros<;>(try omega);apply Z;apply aC;refine zr qAr31 fun _ _ Z=>?_;simp(disch:=omega)[eN,-aU,aT,aP,aM,aG];apply Z;refine zi ?_;refine⟨fun c1=>?_,fun c1=>?_⟩
 ·simp at c1
 try simp at c1
 apply aE;apply aA;refine zr qAr31 fun _ _ Z=>?_;simp(disch:=omega)[eN,-aU,aT,aP,aM,aG];and_intros<;>(try omega);apply Z;apply aC;refine zk [0,1,2,6,7,8] ?_;refine zr qAr31 fun _ _ Z=>?_;simp(disch:=omega)[eN,-aU,aT,aP,aM,aG];apply Z;refine zi ?_;refine⟨fun c2=>?_,fun c2=>?_⟩
 ·try simp at c2
  refine zr qAr31 fun _ _ Z=>?_;refine zs 3 fun _ Y=>?_;simp(disch:=omega)[eN,-aU,aT,aP,aM,aG];refine⟨by first | rfl | exact⟨rfl,rfl⟩ | trivial,_,l.map D.int,⟨rfl,by simp only [List.length_append,cL (f:=cI) (k:=1) (fun _=>rfl),List.length_replicate];omega,by simp,hes,by rw [cJ (f:=cI) (fun _=>rfl)];exact List.prefix_append _ _,by simp;omega,by simp;omega⟩,?_⟩;and_intros<;>(try omega);apply Y;simp(disch:=omega)[eN,-aU,aT,aP,aM,aG];apply Z;apply aB;apply aI;obtain rfl:i=l.length:=by omega
  simp [aJ,dK]
 try simp at c2
 apply aE;apply aA;apply aC;refine zr qAr31 fun _ _ Z=>?_;simp(disch:=omega)[eN,-aU,aT,aP,aM,aG];and_intros<;>(try omega);apply Z;refine zi ?_;refine⟨fun c3=>?_,fun c3=>?_⟩
 ·try simp at c3
  refine zk [0,1,2,6,7,8] ?_;refine zr qAr31 fun _ _ Z=>?_;refine zs 8 fun _ Y=>?_;simp(disch:=omega)[eN,-aU,aT,aP,aM,aG];and_intros<;>(try omega);apply Y;refine zs 1 fun _ Y=>?_;simp(disch:=omega)[eN,-aU,aT,aP,aM,aG];refine⟨(l.take i).map D.int,⟨⟨by simp;omega,by first | exact uT (f:=cI) (fun _=>rfl) l i | exact tB (f:=cI) (fun _=>rfl) l i _⟩,(gN (d:=D.int) (fun _=>⟨rfl,rfl⟩) _),by omega,by omega,by omega,by omega,by first | rfl | exact⟨rfl,rfl⟩ | trivial⟩,?_⟩;and_intros<;>(try omega);apply Y;simp(disch:=omega)[eN,-aU,aT,aP,aM,aG];apply Z;refine kH 9 1 rfl (by decide) fun cap2 rest2 hcap2 hcm2 hrest2 hk2 hes2=>?_;simp only [List.length_append,List.length_map,List.length_take,List.length_replicate,Nat.min_eq_left hi] at hcap2 hrest2 ⊢;rw [List.flatMap_append,show List.flatMap D.cells (List.take i (List.map D.int l))=(l.take i).flatMap cI from by rw [← List.map_take];exact cJ (f:=cI) (fun _=>rfl) _];simp only [List.append_assoc];have hR:((List.replicate (l.length+1 - i) (nV 1 #[.int .i64 0])).flatMap D.cells++rest2).length=(cap2 - i) * 1:=by rw [List.length_append,Fz (k:=1) rfl,hrest2];omega
  generalize (List.replicate (l.length+1 - i) (nV 1 #[.int .i64 0])).flatMap D.cells++rest2=R at hR ⊢;refine zk [0,1,2,6,7,8,9] ?_;refine zr qAr31 fun _ _ Z=>?_;simp(disch:=omega)[eN,-aU,aT,aP,aM,aG];have hlt:i<l.length:=by omega
  refine⟨by omega, [D.int x],_,⟨rfl,(fun y hy=>by simp only [List.mem_singleton] at hy;subst hy;exact⟨rfl,rfl⟩),rfl,by simp only [List.length_append,cL (f:=cI) (k:=1) (fun _=>rfl),show ∀a,(cI a).length=1 from fun _=>rfl,List.length_replicate,List.length_map,List.length_drop,List.length_take,List.length_cons,List.length_nil] at *;omega⟩,?_⟩;rw [show min [D.int x].length (l.length+1 - i)=1 by first | (simp;done) | (simp;omega),show List.flatMap D.cells (List.take 1 [D.int x])=cI x from rfl];have row:=Aq (f:=cI) (k:=1) (fun _=>rfl) l i x R hlt (by rw [hR];omega);simp only [Nat.mul_one] at row;rw [row];clear row;have hR3:(R.drop 1).length=(cap2 - i - 1) * 1:=by rw [List.length_drop,hR];omega
  generalize R.drop 1=R3 at hR3 ⊢;and_intros<;>(try omega);apply Z;refine zk [0,1,2,6,7,8,9] ?_;refine zd qAr31 [.op {},.op {},.op {},.op {},.op {},.op {},.op {},.op {},.op {rO:=true,wO:=true}] fun all hall _ Z=>?_;refine dJ 8 fun _ Y=>?_;simp(disch:=omega)[eN,-aU,aT,aP,aM,aG];and_intros<;>(try omega);apply Y;simp(disch:=omega)[eN,-aU,aT,aP,aM,aG];refine⟨(l.drop i).map D.int,_,⟨⟨by simp,by have:=Bf (f:=cI) (d:=D.int) (k:=1) (fun _=>rfl) (fun _=>rfl) l i 0 hlt;first | exact this | simpa using this⟩,(gN (d:=D.int) (fun _=>⟨rfl,rfl⟩) _),rfl,by simp only [List.length_append,cL (f:=cI) (k:=1) (fun _=>rfl),show ∀a,(cI a).length=1 from fun _=>rfl,List.length_replicate,List.length_map,List.length_drop,List.length_take,List.length_cons,List.length_nil] at *;omega⟩,?_⟩;rw [show min ((l.drop i).map D.int).length (l.length - i)=l.length - i by simp,List.take_of_length_le (show((l.drop i).map D.int).length≤l.length - i by simp)];have row:=zP (f:=cI) (d:=D.int) (k:=1) (fun _=>rfl) (fun _=>rfl) l i x R3 hlt (by rw [hR3];omega);simp only [Nat.mul_one] at row;rw [row];clear row;have hR4:(R3.drop ((l.length - i) * 1)).length=(cap2 - i - 1 - (l.length - i)) * 1:=by rw [List.length_drop,hR3];omega
  simp only [Nat.mul_one] at hR4;generalize R3.drop _=R4 at hR4 ⊢;and_intros<;>(try omega);apply Z;refine zk [0,1,2,6,7,8,9] ?_;refine zr qAr31 fun _ _ Z=>?_;simp(disch:=omega)[eN,-aU,aT,aP,aM,aG];apply Z;refine cU 6 1 (σ.length+1) (l.length+1) cap2 ((dK l i x).map D.int) ((dK l i x).flatMap cI++R4) (by simp <;> rfl) (by simp [aT,aM]) (by omega) (by have:=fE l i x hi;simp only [List.length_append,cL (f:=cI) (k:=1) (fun _=>rfl),this] at *;omega) (by simp [fE l i x hi]) (gN (d:=D.int) (fun _=>⟨rfl,rfl⟩) _) (by rw [cJ (f:=cI) (fun _=>rfl)];exact List.prefix_append _ _) ?_;apply aB;apply aI;simp [aJ]
 try simp at c3
 apply aE;apply aA;refine zk [0,1,2,6,7,8] ?_;refine zr qAr31 fun _ _ Z=>?_;simp(disch:=omega)[eN,-aU,aT,aP,aM,aG];and_intros<;>(try omega);apply Z;apply aC;refine zk [0,1,2,6,7,8] ?_;refine zr qAr31 fun _ _ Z=>?_;simp(disch:=omega)[eN,-aU,aT,aP,aM,aG];and_intros<;>(try omega);apply Z;refine zi ?_;refine⟨fun c4=>?_,fun c4=>?_⟩
 ·try simp at c4
  refine zk [0,1,2,6,7,8] ?_;refine zd qAr31 [.op {},.op {},.op {},.op {},.op {},.op {},.op {},.op {},.op {rO:=true,wO:=true}] fun all hall _ Z=>?_;refine dJ 8 fun _ Y=>?_;simp(disch:=omega)[eN,-aU,aT,aP,aM,aG];and_intros<;>(try omega);apply Y;simp(disch:=omega)[eN,-aU,aT,aP,aM,aG];have hlt:i<l.length:=by omega
  refine⟨(l.drop i).map D.int++ [tP 1],_,⟨⟨by first | (simp;done) | (simp;omega),by have:=Fw (f:=cI) (d:=D.int) (k:=1) (fun _=>rfl) (fun _=>rfl) l i ((cap - l.length) * 1) hlt (show 1≤((cap - l.length) * 1) by omega);first | exact this | simpa using this⟩,Mn (d:=D.int) (fun _=>⟨rfl,rfl⟩) _,rfl,by simp only [List.length_append,cL (f:=cI) (k:=1) (fun _=>rfl),show ∀a,(cI a).length=1 from fun _=>rfl,List.length_replicate,List.length_map,List.length_drop,List.length_take,List.length_cons,List.length_nil] at *;omega⟩,?_⟩;rw [show min ((l.drop i).map D.int++ [tP 1]).length (l.length - i)=l.length - i by first | (simp;done) | (simp;omega)];have row:=Ah (f:=cI) (d:=D.int) (k:=1) (fun _=>rfl) (fun _=>rfl) l i ((cap - l.length) * 1) hlt (show 1≤((cap - l.length) * 1) by omega);simp only [Nat.mul_one] at row;rw [row];clear row;have hR:(List.replicate (((cap - l.length) * 1) - 1) D.any).length=((cap - l.length) * 1) - 1:=List.length_replicate;simp only [Nat.mul_one] at hR;generalize List.replicate _ D.any=R at hR ⊢;and_intros<;>(try omega);apply Z;refine zk [0,1,2,6,7,8] ?_;refine zr qAr31 fun _ _ Z=>?_;simp(disch:=omega)[eN,-aU,aT,aP,aM,aG];refine⟨by omega, [D.int x],_,⟨rfl,(fun y hy=>by simp only [List.mem_singleton] at hy;subst hy;exact⟨rfl,rfl⟩),rfl,by simp only [List.length_append,cL (f:=cI) (k:=1) (fun _=>rfl),show ∀a,(cI a).length=1 from fun _=>rfl,List.length_replicate,List.length_map,List.length_drop,List.length_take,List.length_cons,List.length_nil] at *;omega⟩,?_⟩;rw [show min [D.int x].length (l.length+1 - i)=1 by first | (simp;done) | (simp;omega),show List.flatMap D.cells (List.take 1 [D.int x])=cI x from rfl];have row:=yM (f:=cI) (k:=1) (fun _=>rfl) l i x R hlt;simp only [Nat.mul_one] at row;rw [row];clear row;and_intros<;>(try omega);apply Z;refine zr qAr31 fun _ _ Z=>?_;simp(disch:=omega)[eN,-aU,aT,aP,aM,aG];apply Z;refine cU 6 1 σ.length (l.length+1) cap ((dK l i x).map D.int) ((dK l i x).flatMap cI++R) (by simp <;> rfl) (by simp [aT,aM]) (by omega) (by have:=fE l i x hi;simp only [List.length_append,cL (f:=cI) (k:=1) (fun _=>rfl),this] at *;omega) (by simp [fE l i x hi]) (gN (d:=D.int) (fun _=>⟨rfl,rfl⟩) _) (by rw [cJ (f:=cI) (fun _=>rfl)];exact List.prefix_append _ _) ?_;apply aB;apply aI;simp [aJ]
 simp at c4
theorem Sj(N:Nat)(l:List Int):Sc N (.xs 1 (l.map D.int)):=Sc.xs fun e he y hy=>by
 obtain⟨a,_,rfl⟩:=List.mem_map.1 he;simp only [D.cells,List.mem_cons,List.not_mem_nil,or_false] at hy;subst hy <;> exact Sc.v _
theorem Ff(l:List Int)(x:Int)(i:Nat)(σ:List (List D))(hl:l.length≤1000000)(hi:i≤l.length):Ct prog 205 [.xs 1 (l.map D.int),D.int i,.sl true [D.int x]] σ (fun r σ'=>r= .xs 1 ((dK l i x).map D.int)∧σ'=σ):=
 (Wk l x i σ hl hi).trim fun r σ' ⟨hr,J,hs⟩=>⟨σ,J,hs,rfl,by rw [hr];exact Sj _ _,fun n cs h=> .inl h,hr,rfl⟩
theorem eO:Gf prog 249:=by
 obtain⟨ti,zv,h1,h2,_⟩:=fF aMg;exact⟨_,36,4,191,ti,func249,by kernel_rfl,by kernel_rfl,by kernel_rfl,by kernel_rfl,h1,h2⟩
theorem aBj(l:List AT)(x:AT)(i:Nat)(σ:List (List D))(hl:l.length≤1000000)(hi:i≤l.length):Ct prog 224 [.xs 2 (l.map dB),D.int i,.sl true [dB x]] σ (fun r σ'=>r= .xs 2 ((dK l i x).map dB)∧∃J,σ'=σ++J):=by
 refine zf (rs:=[.tmp 6]) func224 ntmps224 results224 ?_;simp only [aO];refine fW 0 2 rfl (by decide) fun cap rest hcap hcm hrest hk0 hes=>?_;subst hrest;simp only [List.length_map] at hcap ⊢;rw [cJ (f:=cA) (fun _=>rfl)];refine zr qAr31 fun _ _ Z=>?_;simp(disch:=omega)[eO,-aU,aT,aP,aM,aG];apply Z;refine zr qAr31 fun _ _ Z=>?_;simp(disch:=omega)[eO,-aU,aT,aP,aM,aG];and_intros<;>(try omega);apply Z;refine zr qAr31 fun _ _ Z=>?_;simp(disch:=omega)[eO,-aU,aT,aP,aM,aG];and_intros<;>(try omega);apply Z;apply aC;refine zr qAr31 fun _ _ Z=>?_;simp(disch:=omega)[eO,-aU,aT,aP,aM,aG];apply Z;refine zi ?_;refine⟨fun c1=>?_,fun c1=>?_⟩
 ·simp at c1
 try simp at c1
 apply aE;apply aA;refine zr qAr31 fun _ _ Z=>?_;simp(disch:=omega)[eO,-aU,aT,aP,aM,aG];and_intros<;>(try omega);apply Z;apply aC;refine zk [0,1,2,6,7,8] ?_;refine zr qAr31 fun _ _ Z=>?_;simp(disch:=omega)[eO,-aU,aT,aP,aM,aG];apply Z;refine zi ?_;refine⟨fun c2=>?_,fun c2=>?_⟩
 ·try simp at c2
  refine zr qAr31 fun _ _ Z=>?_;refine zs 3 fun _ Y=>?_;simp(disch:=omega)[eO,-aU,aT,aP,aM,aG];refine⟨by first | rfl | exact⟨rfl,rfl⟩ | trivial,_,l.map dB,⟨rfl,by simp only [List.length_append,cL (f:=cA) (k:=2) (fun _=>rfl),List.length_replicate];omega,by simp,hes,by rw [cJ (f:=cA) (fun _=>rfl)];exact List.prefix_append _ _,by simp;omega,by simp;omega⟩,?_⟩;and_intros<;>(try omega);apply Y;simp(disch:=omega)[eO,-aU,aT,aP,aM,aG];apply Z;apply aB;apply aI;obtain rfl:i=l.length:=by omega
  simp [aJ,dK]
 try simp at c2
 apply aE;apply aA;apply aC;refine zr qAr31 fun _ _ Z=>?_;simp(disch:=omega)[eO,-aU,aT,aP,aM,aG];and_intros<;>(try omega);apply Z;refine zi ?_;refine⟨fun c3=>?_,fun c3=>?_⟩
 ·try simp at c3
  refine zk [0,1,2,6,7,8] ?_;refine zr qAr31 fun _ _ Z=>?_;refine zs 8 fun _ Y=>?_;simp(disch:=omega)[eO,-aU,aT,aP,aM,aG];and_intros<;>(try omega);apply Y;refine zs 1 fun _ Y=>?_;simp(disch:=omega)[eO,-aU,aT,aP,aM,aG];refine⟨(l.take i).map dB,⟨⟨by simp;omega,by first | exact uT (f:=cA) (fun _=>rfl) l i | exact tB (f:=cA) (fun _=>rfl) l i _⟩,(gN (d:=dB) (fun _=>⟨rfl,rfl⟩) _),by omega,by omega,by omega,by omega,by first | rfl | exact⟨rfl,rfl⟩ | trivial⟩,?_⟩;and_intros<;>(try omega);apply Y;simp(disch:=omega)[eO,-aU,aT,aP,aM,aG];apply Z;refine kH 9 2 rfl (by decide) fun cap2 rest2 hcap2 hcm2 hrest2 hk2 hes2=>?_;simp only [List.length_append,List.length_map,List.length_take,List.length_replicate,Nat.min_eq_left hi] at hcap2 hrest2 ⊢;rw [List.flatMap_append,show List.flatMap D.cells (List.take i (List.map dB l))=(l.take i).flatMap cA from by rw [← List.map_take];exact cJ (f:=cA) (fun _=>rfl) _];simp only [List.append_assoc];have hR:((List.replicate (l.length+1 - i) (nV 2 #[.string ⟨#[]⟩,.string ⟨#[]⟩])).flatMap D.cells++rest2).length=(cap2 - i) * 2:=by rw [List.length_append,Fz (k:=2) rfl,hrest2];omega
  generalize (List.replicate (l.length+1 - i) (nV 2 #[.string ⟨#[]⟩,.string ⟨#[]⟩])).flatMap D.cells++rest2=R at hR ⊢;refine zk [0,1,2,6,7,8,9] ?_;refine zr qAr31 fun _ _ Z=>?_;simp(disch:=omega)[eO,-aU,aT,aP,aM,aG];have hlt:i<l.length:=by omega
  refine⟨by omega, [dB x],_,⟨rfl,(fun y hy=>by simp only [List.mem_singleton] at hy;subst hy;exact⟨rfl,rfl⟩),rfl,by simp only [List.length_append,cL (f:=cA) (k:=2) (fun _=>rfl),show ∀a,(cA a).length=2 from fun _=>rfl,List.length_replicate,List.length_map,List.length_drop,List.length_take,List.length_cons,List.length_nil] at *;omega⟩,?_⟩;rw [show min [dB x].length (l.length+1 - i)=1 by first | (simp;done) | (simp;omega),show List.flatMap D.cells (List.take 1 [dB x])=cA x from rfl];have row:=Aq (f:=cA) (k:=2) (fun _=>rfl) l i x R hlt (by rw [hR];omega)
  skip
  rw [row];clear row;have hR3:(R.drop 2).length=(cap2 - i - 1) * 2:=by rw [List.length_drop,hR];omega
  generalize R.drop 2=R3 at hR3 ⊢;and_intros<;>(try omega);apply Z;refine zk [0,1,2,6,7,8,9] ?_;refine zd qAr31 [.op {},.op {},.op {},.op {},.op {},.op {},.op {},.op {},.op {rO:=true,wO:=true}] fun all hall _ Z=>?_;refine dJ 8 fun _ Y=>?_;simp(disch:=omega)[eO,-aU,aT,aP,aM,aG];and_intros<;>(try omega);apply Y;simp(disch:=omega)[eO,-aU,aT,aP,aM,aG];refine⟨(l.drop i).map dB,_,⟨⟨by simp,by have:=Bf (f:=cA) (d:=dB) (k:=2) (fun _=>rfl) (fun _=>rfl) l i 0 hlt;first | exact this | simpa using this⟩,(gN (d:=dB) (fun _=>⟨rfl,rfl⟩) _),rfl,by simp only [List.length_append,cL (f:=cA) (k:=2) (fun _=>rfl),show ∀a,(cA a).length=2 from fun _=>rfl,List.length_replicate,List.length_map,List.length_drop,List.length_take,List.length_cons,List.length_nil] at *;omega⟩,?_⟩;rw [show min ((l.drop i).map dB).length (l.length - i)=l.length - i by simp,List.take_of_length_le (show((l.drop i).map dB).length≤l.length - i by simp)];have row:=zP (f:=cA) (d:=dB) (k:=2) (fun _=>rfl) (fun _=>rfl) l i x R3 hlt (by rw [hR3];omega)
  skip
  rw [row];clear row;have hR4:(R3.drop ((l.length - i) * 2)).length=(cap2 - i - 1 - (l.length - i)) * 2:=by rw [List.length_drop,hR3];omega
  generalize R3.drop _=R4 at hR4 ⊢;and_intros<;>(try omega);apply Z;refine zk [0,1,2,6,7,8,9] ?_;refine zr qAr31 fun _ _ Z=>?_;simp(disch:=omega)[eO,-aU,aT,aP,aM,aG];apply Z;refine cU 6 2 (σ.length+1) (l.length+1) cap2 ((dK l i x).map dB) ((dK l i x).flatMap cA++R4) (by simp <;> rfl) (by simp [aT,aM]) (by omega) (by have:=fE l i x hi;simp only [List.length_append,cL (f:=cA) (k:=2) (fun _=>rfl),this] at *;omega) (by simp [fE l i x hi]) (gN (d:=dB) (fun _=>⟨rfl,rfl⟩) _) (by rw [cJ (f:=cA) (fun _=>rfl)];exact List.prefix_append _ _) ?_;apply aB;apply aI;simp [aJ]
 try simp at c3
 apply aE;apply aA;refine zk [0,1,2,6,7,8] ?_;refine zr qAr31 fun _ _ Z=>?_;simp(disch:=omega)[eO,-aU,aT,aP,aM,aG];and_intros<;>(try omega);apply Z;apply aC;refine zk [0,1,2,6,7,8] ?_;refine zr qAr31 fun _ _ Z=>?_;simp(disch:=omega)[eO,-aU,aT,aP,aM,aG];and_intros<;>(try omega);apply Z;refine zi ?_;refine⟨fun c4=>?_,fun c4=>?_⟩
 ·try simp at c4
  refine zk [0,1,2,6,7,8] ?_;refine zd qAr31 [.op {},.op {},.op {},.op {},.op {},.op {},.op {},.op {},.op {rO:=true,wO:=true}] fun all hall _ Z=>?_;refine dJ 8 fun _ Y=>?_;simp(disch:=omega)[eO,-aU,aT,aP,aM,aG];and_intros<;>(try omega);apply Y;simp(disch:=omega)[eO,-aU,aT,aP,aM,aG];have hlt:i<l.length:=by omega
  refine⟨(l.drop i).map dB++ [tP 2],_,⟨⟨by first | (simp;done) | (simp;omega),by have:=Fw (f:=cA) (d:=dB) (k:=2) (fun _=>rfl) (fun _=>rfl) l i ((cap - l.length) * 2) hlt (show 2≤((cap - l.length) * 2) by omega);first | exact this | simpa using this⟩,Mn (d:=dB) (fun _=>⟨rfl,rfl⟩) _,rfl,by simp only [List.length_append,cL (f:=cA) (k:=2) (fun _=>rfl),show ∀a,(cA a).length=2 from fun _=>rfl,List.length_replicate,List.length_map,List.length_drop,List.length_take,List.length_cons,List.length_nil] at *;omega⟩,?_⟩;rw [show min ((l.drop i).map dB++ [tP 2]).length (l.length - i)=l.length - i by first | (simp;done) | (simp;omega)];have row:=Ah (f:=cA) (d:=dB) (k:=2) (fun _=>rfl) (fun _=>rfl) l i ((cap - l.length) * 2) hlt (show 2≤((cap - l.length) * 2) by omega)
  skip
  rw [row];clear row;have hR:(List.replicate (((cap - l.length) * 2) - 2) D.any).length=((cap - l.length) * 2) - 2:=List.length_replicate;generalize List.replicate _ D.any=R at hR ⊢;and_intros<;>(try omega);apply Z;refine zk [0,1,2,6,7,8] ?_;refine zr qAr31 fun _ _ Z=>?_;simp(disch:=omega)[eO,-aU,aT,aP,aM,aG];refine⟨by omega, [dB x],_,⟨rfl,(fun y hy=>by simp only [List.mem_singleton] at hy;subst hy;exact⟨rfl,rfl⟩),rfl,by simp only [List.length_append,cL (f:=cA) (k:=2) (fun _=>rfl),show ∀a,(cA a).length=2 from fun _=>rfl,List.length_replicate,List.length_map,List.length_drop,List.length_take,List.length_cons,List.length_nil] at *;omega⟩,?_⟩;rw [show min [dB x].length (l.length+1 - i)=1 by first | (simp;done) | (simp;omega),show List.flatMap D.cells (List.take 1 [dB x])=cA x from rfl];have row:=yM (f:=cA) (k:=2) (fun _=>rfl) l i x R hlt
  skip
  rw [row];clear row;and_intros<;>(try omega);apply Z;refine zr qAr31 fun _ _ Z=>?_;simp(disch:=omega)[eO,-aU,aT,aP,aM,aG];apply Z;refine cU 6 2 σ.length (l.length+1) cap ((dK l i x).map dB) ((dK l i x).flatMap cA++R) (by simp <;> rfl) (by simp [aT,aM]) (by omega) (by have:=fE l i x hi;simp only [List.length_append,cL (f:=cA) (k:=2) (fun _=>rfl),this] at *;omega) (by simp [fE l i x hi]) (gN (d:=dB) (fun _=>⟨rfl,rfl⟩) _) (by rw [cJ (f:=cA) (fun _=>rfl)];exact List.prefix_append _ _) ?_;apply aB;apply aI;simp [aJ]
 simp at c4
theorem aG5(N:Nat)(l:List AT):Sc N (.xs 2 (l.map dB)):=Sc.xs fun e he y hy=>by
 obtain⟨a,_,rfl⟩:=List.mem_map.1 he;simp only [D.cells,List.mem_cons,List.not_mem_nil,or_false] at hy;rcases hy with rfl | rfl <;> exact Sc.v _
theorem aEd(l:List AT)(x:AT)(i:Nat)(σ:List (List D))(hl:l.length≤1000000)(hi:i≤l.length):Ct prog 224 [.xs 2 (l.map dB),D.int i,.sl true [dB x]] σ (fun r σ'=>r= .xs 2 ((dK l i x).map dB)∧σ'=σ):=
 (aBj l x i σ hl hi).trim fun r σ' ⟨hr,J,hs⟩=>⟨σ,J,hs,rfl,by rw [hr];exact aG5 _ _,fun n cs h=> .inl h,hr,rfl⟩
theorem eP:Gf prog 251:=by
 obtain⟨ti,zv,h1,h2,_⟩:=fF aMr;exact⟨_,38,4,137,ti,func251,by kernel_rfl,by kernel_rfl,by kernel_rfl,by kernel_rfl,h1,h2⟩
theorem Xo(l:List PI)(x:PI)(i:Nat)(σ:List (List D))(hl:l.length≤1000000)(hi:i≤l.length):Ct prog 225 [.xs 2 (l.map cW),D.int i,.sl true [cW x]] σ (fun r σ'=>r= .xs 2 ((dK l i x).map cW)∧∃J,σ'=σ++J):=by
 refine zf (rs:=[.tmp 6]) func225 ntmps225 results225 ?_;simp only [aO];refine fW 0 2 rfl (by decide) fun cap rest hcap hcm hrest hk0 hes=>?_;subst hrest;simp only [List.length_map] at hcap ⊢;rw [cJ (f:=cP) (fun _=>rfl)];refine zr qAr31 fun _ _ Z=>?_;simp(disch:=omega)[eP,-aU,aT,aP,aM,aG];apply Z;refine zr qAr31 fun _ _ Z=>?_;simp(disch:=omega)[eP,-aU,aT,aP,aM,aG];and_intros<;>(try omega);apply Z;refine zr qAr31 fun _ _ Z=>?_;simp(disch:=omega)[eP,-aU,aT,aP,aM,aG];and_intros<;>(try omega);apply Z;apply aC;refine zr qAr31 fun _ _ Z=>?_;simp(disch:=omega)[eP,-aU,aT,aP,aM,aG];apply Z;refine zi ?_;refine⟨fun c1=>?_,fun c1=>?_⟩
 ·simp at c1
 try simp at c1
 apply aE;apply aA;refine zr qAr31 fun _ _ Z=>?_;simp(disch:=omega)[eP,-aU,aT,aP,aM,aG];and_intros<;>(try omega);apply Z;apply aC;refine zk [0,1,2,6,7,8] ?_;refine zr qAr31 fun _ _ Z=>?_;simp(disch:=omega)[eP,-aU,aT,aP,aM,aG];apply Z;refine zi ?_;refine⟨fun c2=>?_,fun c2=>?_⟩
 ·try simp at c2
  refine zr qAr31 fun _ _ Z=>?_;refine zs 3 fun _ Y=>?_;simp(disch:=omega)[eP,-aU,aT,aP,aM,aG];refine⟨by first | rfl | exact⟨rfl,rfl⟩ | trivial,_,l.map cW,⟨rfl,by simp only [List.length_append,cL (f:=cP) (k:=2) (fun _=>rfl),List.length_replicate];omega,by simp,hes,by rw [cJ (f:=cP) (fun _=>rfl)];exact List.prefix_append _ _,by simp;omega,by simp;omega⟩,?_⟩;and_intros<;>(try omega);apply Y;simp(disch:=omega)[eP,-aU,aT,aP,aM,aG];apply Z;apply aB;apply aI;obtain rfl:i=l.length:=by omega
  simp [aJ,dK]
 try simp at c2
 apply aE;apply aA;apply aC;refine zr qAr31 fun _ _ Z=>?_;simp(disch:=omega)[eP,-aU,aT,aP,aM,aG];and_intros<;>(try omega);apply Z;refine zi ?_;refine⟨fun c3=>?_,fun c3=>?_⟩
 ·try simp at c3
  refine zk [0,1,2,6,7,8] ?_;refine zr qAr31 fun _ _ Z=>?_;refine zs 8 fun _ Y=>?_;simp(disch:=omega)[eP,-aU,aT,aP,aM,aG];and_intros<;>(try omega);apply Y;refine zs 1 fun _ Y=>?_;simp(disch:=omega)[eP,-aU,aT,aP,aM,aG];refine⟨(l.take i).map cW,⟨⟨by simp;omega,by first | exact uT (f:=cP) (fun _=>rfl) l i | exact tB (f:=cP) (fun _=>rfl) l i _⟩,(gN (d:=cW) (fun _=>⟨rfl,rfl⟩) _),by omega,by omega,by omega,by omega,by first | rfl | exact⟨rfl,rfl⟩ | trivial⟩,?_⟩;and_intros<;>(try omega);apply Y;simp(disch:=omega)[eP,-aU,aT,aP,aM,aG];apply Z;refine kH 9 2 rfl (by decide) fun cap2 rest2 hcap2 hcm2 hrest2 hk2 hes2=>?_;simp only [List.length_append,List.length_map,List.length_take,List.length_replicate,Nat.min_eq_left hi] at hcap2 hrest2 ⊢;rw [List.flatMap_append,show List.flatMap D.cells (List.take i (List.map cW l))=(l.take i).flatMap cP from by rw [← List.map_take];exact cJ (f:=cP) (fun _=>rfl) _];simp only [List.append_assoc];have hR:((List.replicate (l.length+1 - i) (nV 2 #[.string ⟨#[]⟩,.int .i64 0])).flatMap D.cells++rest2).length=(cap2 - i) * 2:=by rw [List.length_append,Fz (k:=2) rfl,hrest2];omega
  generalize (List.replicate (l.length+1 - i) (nV 2 #[.string ⟨#[]⟩,.int .i64 0])).flatMap D.cells++rest2=R at hR ⊢;refine zk [0,1,2,6,7,8,9] ?_;refine zr qAr31 fun _ _ Z=>?_;simp(disch:=omega)[eP,-aU,aT,aP,aM,aG];have hlt:i<l.length:=by omega
  refine⟨by omega, [cW x],_,⟨rfl,(fun y hy=>by simp only [List.mem_singleton] at hy;subst hy;exact⟨rfl,rfl⟩),rfl,by simp only [List.length_append,cL (f:=cP) (k:=2) (fun _=>rfl),show ∀a,(cP a).length=2 from fun _=>rfl,List.length_replicate,List.length_map,List.length_drop,List.length_take,List.length_cons,List.length_nil] at *;omega⟩,?_⟩;rw [show min [cW x].length (l.length+1 - i)=1 by first | (simp;done) | (simp;omega),show List.flatMap D.cells (List.take 1 [cW x])=cP x from rfl];have row:=Aq (f:=cP) (k:=2) (fun _=>rfl) l i x R hlt (by rw [hR];omega)
  skip
  rw [row];clear row;have hR3:(R.drop 2).length=(cap2 - i - 1) * 2:=by rw [List.length_drop,hR];omega
  generalize R.drop 2=R3 at hR3 ⊢;and_intros<;>(try omega);apply Z;refine zk [0,1,2,6,7,8,9] ?_;refine zd qAr31 [.op {},.op {},.op {},.op {},.op {},.op {},.op {},.op {},.op {rO:=true,wO:=true}] fun all hall _ Z=>?_;refine dJ 8 fun _ Y=>?_;simp(disch:=omega)[eP,-aU,aT,aP,aM,aG];and_intros<;>(try omega);apply Y;simp(disch:=omega)[eP,-aU,aT,aP,aM,aG];refine⟨(l.drop i).map cW,_,⟨⟨by simp,by have:=Bf (f:=cP) (d:=cW) (k:=2) (fun _=>rfl) (fun _=>rfl) l i 0 hlt;first | exact this | simpa using this⟩,(gN (d:=cW) (fun _=>⟨rfl,rfl⟩) _),rfl,by simp only [List.length_append,cL (f:=cP) (k:=2) (fun _=>rfl),show ∀a,(cP a).length=2 from fun _=>rfl,List.length_replicate,List.length_map,List.length_drop,List.length_take,List.length_cons,List.length_nil] at *;omega⟩,?_⟩;rw [show min ((l.drop i).map cW).length (l.length - i)=l.length - i by simp,List.take_of_length_le (show((l.drop i).map cW).length≤l.length - i by simp)];have row:=zP (f:=cP) (d:=cW) (k:=2) (fun _=>rfl) (fun _=>rfl) l i x R3 hlt (by rw [hR3];omega)
  skip
  rw [row];clear row;have hR4:(R3.drop ((l.length - i) * 2)).length=(cap2 - i - 1 - (l.length - i)) * 2:=by rw [List.length_drop,hR3];omega
  generalize R3.drop _=R4 at hR4 ⊢;and_intros<;>(try omega);apply Z;refine zk [0,1,2,6,7,8,9] ?_;refine zr qAr31 fun _ _ Z=>?_;simp(disch:=omega)[eP,-aU,aT,aP,aM,aG];apply Z;refine cU 6 2 (σ.length+1) (l.length+1) cap2 ((dK l i x).map cW) ((dK l i x).flatMap cP++R4) (by simp <;> rfl) (by simp [aT,aM]) (by omega) (by have:=fE l i x hi;simp only [List.length_append,cL (f:=cP) (k:=2) (fun _=>rfl),this] at *;omega) (by simp [fE l i x hi]) (gN (d:=cW) (fun _=>⟨rfl,rfl⟩) _) (by rw [cJ (f:=cP) (fun _=>rfl)];exact List.prefix_append _ _) ?_;apply aB;apply aI;simp [aJ]
 try simp at c3
 apply aE;apply aA;refine zk [0,1,2,6,7,8] ?_;refine zr qAr31 fun _ _ Z=>?_;simp(disch:=omega)[eP,-aU,aT,aP,aM,aG];and_intros<;>(try omega);apply Z;apply aC;refine zk [0,1,2,6,7,8] ?_;refine zr qAr31 fun _ _ Z=>?_;simp(disch:=omega)[eP,-aU,aT,aP,aM,aG];and_intros<;>(try omega);apply Z;refine zi ?_;refine⟨fun c4=>?_,fun c4=>?_⟩
 ·try simp at c4
  refine zk [0,1,2,6,7,8] ?_;refine zd qAr31 [.op {},.op {},.op {},.op {},.op {},.op {},.op {},.op {},.op {rO:=true,wO:=true}] fun all hall _ Z=>?_;refine dJ 8 fun _ Y=>?_;simp(disch:=omega)[eP,-aU,aT,aP,aM,aG];and_intros<;>(try omega);apply Y;simp(disch:=omega)[eP,-aU,aT,aP,aM,aG];have hlt:i<l.length:=by omega
  refine⟨(l.drop i).map cW++ [tP 2],_,⟨⟨by first | (simp;done) | (simp;omega),by have:=Fw (f:=cP) (d:=cW) (k:=2) (fun _=>rfl) (fun _=>rfl) l i ((cap - l.length) * 2) hlt (show 2≤((cap - l.length) * 2) by omega);first | exact this | simpa using this⟩,Mn (d:=cW) (fun _=>⟨rfl,rfl⟩) _,rfl,by simp only [List.length_append,cL (f:=cP) (k:=2) (fun _=>rfl),show ∀a,(cP a).length=2 from fun _=>rfl,List.length_replicate,List.length_map,List.length_drop,List.length_take,List.length_cons,List.length_nil] at *;omega⟩,?_⟩;rw [show min ((l.drop i).map cW++ [tP 2]).length (l.length - i)=l.length - i by first | (simp;done) | (simp;omega)];have row:=Ah (f:=cP) (d:=cW) (k:=2) (fun _=>rfl) (fun _=>rfl) l i ((cap - l.length) * 2) hlt (show 2≤((cap - l.length) * 2) by omega)
  skip
  rw [row];clear row;have hR:(List.replicate (((cap - l.length) * 2) - 2) D.any).length=((cap - l.length) * 2) - 2:=List.length_replicate;generalize List.replicate _ D.any=R at hR ⊢;and_intros<;>(try omega);apply Z;refine zk [0,1,2,6,7,8] ?_;refine zr qAr31 fun _ _ Z=>?_;simp(disch:=omega)[eP,-aU,aT,aP,aM,aG];refine⟨by omega, [cW x],_,⟨rfl,(fun y hy=>by simp only [List.mem_singleton] at hy;subst hy;exact⟨rfl,rfl⟩),rfl,by simp only [List.length_append,cL (f:=cP) (k:=2) (fun _=>rfl),show ∀a,(cP a).length=2 from fun _=>rfl,List.length_replicate,List.length_map,List.length_drop,List.length_take,List.length_cons,List.length_nil] at *;omega⟩,?_⟩;rw [show min [cW x].length (l.length+1 - i)=1 by first | (simp;done) | (simp;omega),show List.flatMap D.cells (List.take 1 [cW x])=cP x from rfl];have row:=yM (f:=cP) (k:=2) (fun _=>rfl) l i x R hlt
  skip
  rw [row];clear row;and_intros<;>(try omega);apply Z;refine zr qAr31 fun _ _ Z=>?_;simp(disch:=omega)[eP,-aU,aT,aP,aM,aG];apply Z;refine cU 6 2 σ.length (l.length+1) cap ((dK l i x).map cW) ((dK l i x).flatMap cP++R) (by simp <;> rfl) (by simp [aT,aM]) (by omega) (by have:=fE l i x hi;simp only [List.length_append,cL (f:=cP) (k:=2) (fun _=>rfl),this] at *;omega) (by simp [fE l i x hi]) (gN (d:=cW) (fun _=>⟨rfl,rfl⟩) _) (by rw [cJ (f:=cP) (fun _=>rfl)];exact List.prefix_append _ _) ?_;apply aB;apply aI;simp [aJ]
 simp at c4
theorem aIa(N:Nat)(l:List PI):Sc N (.xs 2 (l.map cW)):=Sc.xs fun e he y hy=>by
 obtain⟨a,_,rfl⟩:=List.mem_map.1 he;simp only [D.cells,List.mem_cons,List.not_mem_nil,or_false] at hy;rcases hy with rfl | rfl <;> exact Sc.v _
theorem aFp(l:List PI)(x:PI)(i:Nat)(σ:List (List D))(hl:l.length≤1000000)(hi:i≤l.length):Ct prog 225 [.xs 2 (l.map cW),D.int i,.sl true [cW x]] σ (fun r σ'=>r= .xs 2 ((dK l i x).map cW)∧σ'=σ):=
 (Xo l x i σ hl hi).trim fun r σ' ⟨hr,J,hs⟩=>⟨σ,J,hs,rfl,by rw [hr];exact aIa _ _,fun n cs h=> .inl h,hr,rfl⟩
end Go.Proofs.YtbgfljpnhhdkoaaGreat
