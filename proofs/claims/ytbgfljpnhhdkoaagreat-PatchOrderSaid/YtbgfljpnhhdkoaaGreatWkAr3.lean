import Derived.Test.YtbgfljpnhhdkoaaGreatWkAr2
open Go.Proofs.Tryz
namespace Go.Proofs.YtbgfljpnhhdkoaaGreat
open Go Go.Vm
set_option maxRecDepth 20000
set_option linter.all false
set_option maxHeartbeats 8000000
structure AT where
 name:ByteArray
 value:ByteArray
 deriving DecidableEq
@[simp] abbrev cZ(s:AT):D:= .agg [.v (.string s.name),.v (.string s.value)]
structure PI where
 name:ByteArray
 value:Int
 deriving DecidableEq
@[simp] abbrev cX(s:PI):D:= .agg [.v (.string s.name),.v (.int .i64 s.value)]
def cI(n:Int):List D:= [D.int n]
def cA(x:AT):List D:= [D.str x.name,D.str x.value]
def cP(x:PI):List D:= [D.str x.name,D.int x.value]
def dG {α:Type} (l:List α)(i:Nat)(x:α):List α:=l.take i++x::l.drop i
theorem fM {α:Type} (l:List α)(i:Nat)(x:α)(h:i≤l.length):(dG l i x).length=l.length+1:=by simp [dG];omega
def uE(k:Nat):D:=if k=1 then .any else .agg (List.replicate k .any)
theorem sS {k:Nat} :(uE k).cells=List.replicate k .any:=by
 unfold uE;split
 ·rename_i h;subst h;rfl
 rfl
theorem aFb {k:Nat} :(uE k).ncells=k∧(uE k).arr=true:=by
 constructor
 ·rw [← dA,sS,List.length_replicate]
 unfold D.arr;rw [sS,List.all_eq_true];intro x hx;rw [List.eq_of_mem_replicate hx];rfl
section
variable {α:Type} {f:α→List D} {d:α→D} {k:Nat}
theorem Fo(hd:∀a,(d a).cells=f a)(hf:∀a,(f a).length=k)(l:List α)(i r:Nat)(hi:i<l.length)(hr:k≤r):((l.drop i).map d++ [uE k]).flatMap D.cells<+:List.drop (i * k) (l.flatMap f++List.replicate r .any):=by
 have e:l.flatMap f=(l.take i).flatMap f++(l.drop i).flatMap f:=by rw [← List.flatMap_append,List.take_append_drop]
 rw [e,List.append_assoc,← kZ hf l i hi,List.drop_left,List.flatMap_append,cK hd];refine⟨List.replicate (r - k) .any,?_⟩;simp only [List.flatMap_cons,List.flatMap_nil,List.append_nil,sS,List.append_assoc,List.replicate_append_replicate];rw [show k+(r - k)=r by omega]
theorem zL(hd:∀a,(d a).cells=f a)(hf:∀a,(f a).length=k)(l:List α)(i r:Nat)(hi:i<l.length)(hr:k≤r):cW (l.flatMap f++List.replicate r .any) ((i+1) * k) ((((l.drop i).map d++ [uE k]).take (l.length - i)).flatMap D.cells)=(l.take (i+1)).flatMap f++((l.drop i).flatMap f++List.replicate (r - k) .any):=by
 have e:l.flatMap f=(l.take (i+1)).flatMap f++(l.drop (i+1)).flatMap f:=by rw [← List.flatMap_append,List.take_append_drop]
 have e2:((l.drop i).map d++ [uE k]).take (l.length - i)=(l.drop i).map d:=by
  rw [List.take_append_of_le_length (by simp),List.take_of_length_le (by simp)]
 have e3:(l.flatMap f++List.replicate r (D.any))=(l.take (i+1)).flatMap f++(((l.drop (i+1)).flatMap f++List.replicate k .any)++List.replicate (r - k) .any):=by
  rw [e,List.append_assoc,List.append_assoc,List.replicate_append_replicate,show k+(r - k)=r by omega]
 have e4:((l.take (i+1)).flatMap f).length=(i+1) * k:=by rw [cL hf,List.length_take,Nat.min_eq_left (by omega)]
 rw [e2,cK hd,e3,← e4];refine jM _ _ _ _ ?_;rw [List.length_append,cL hf,cL hf,List.length_replicate,List.length_drop,List.length_drop,← Nat.succ_mul];congr 1;omega
theorem At(hf:∀a,(f a).length=k)(l:List α)(i:Nat)(x:α)(R:List D)(hi:i<l.length):cW ((l.take (i+1)).flatMap f++((l.drop i).flatMap f++R)) (i * k) (f x)=(dG l i x).flatMap f++R:=by
 have e:(l.take (i+1)).flatMap f=(l.take i).flatMap f++f l[i]:=by rw [dL l i hi,List.flatMap_append];simp
 rw [e,List.append_assoc,← kZ hf l i hi,jM _ _ _ _ (by rw [hf,hf])];simp [dG]
theorem tN(hd:∀a,(d a).cells=f a)(l:List α)(i r:Nat):((l.take i).map d).flatMap D.cells<+:l.flatMap f++List.replicate r .any:=by
 rw [cK hd];have e:l.flatMap f=(l.take i).flatMap f++(l.drop i).flatMap f:=by rw [← List.flatMap_append,List.take_append_drop]
 rw [e,List.append_assoc];exact List.prefix_append _ _
theorem vJ(hd:∀a,(d a).cells=f a)(l:List α)(i:Nat):((l.take i).map d).flatMap D.cells<+:l.flatMap f:=by
 have:=tN (f:=f) hd l i 0;simpa using this
theorem gQ(hd:∀a,(d a).ncells=k∧(d a).arr=true)(l:List α):∀y∈l.map d,y.ncells=k∧y.arr=true:=fun y hy=>by
 obtain⟨a,_,rfl⟩:=List.mem_map.1 hy;exact hd a
theorem Of(hd:∀a,(d a).ncells=k∧(d a).arr=true)(l:List α):∀y∈l.map d++ [uE k],y.ncells=k∧y.arr=true:=fun y hy=>by
 rcases List.mem_append.1 hy with h | h
 ·exact gQ hd l y h
 simp at h;subst h;exact aFb
theorem Bb(hd:∀a,(d a).cells=f a)(hf:∀a,(f a).length=k)(l:List α)(i r:Nat)(hi:i<l.length):((l.drop i).map d).flatMap D.cells<+:List.drop (i * k) (l.flatMap f++List.replicate r .any):=by
 have e:l.flatMap f=(l.take i).flatMap f++(l.drop i).flatMap f:=by rw [← List.flatMap_append,List.take_append_drop]
 rw [e,List.append_assoc,← kZ hf l i hi,List.drop_left,cK hd];exact List.prefix_append _ _
theorem Fx {Z:D} (hZ:Z.ncells=k):∀n:Nat,((List.replicate n Z).flatMap D.cells).length=n * k
 | 0=>by simp
 | n+1=>by rw [List.replicate_succ,List.flatMap_cons,List.length_append,Fx hZ n,dA,hZ,Nat.succ_mul];omega
theorem Bh(hf:∀a,(f a).length=k)(l:List α)(i:Nat)(x:α)(R:List D)(hi:i<l.length)(hR:k≤R.length):cW ((l.take i).flatMap f++R) (i * k) (f x)=(l.take i).flatMap f++(f x++R.drop k):=by
 conv=>lhs;rw [← List.take_append_drop k R]
 rw [← kZ hf l i hi,jM _ _ _ _ (by rw [hf,List.length_take];omega)]
theorem zG(hd:∀a,(d a).cells=f a)(hf:∀a,(f a).length=k)(l:List α)(i:Nat)(x:α)(R:List D)(hi:i<l.length)(hR:(l.length - i) * k≤R.length):cW ((l.take i).flatMap f++(f x++R)) ((i+1) * k) (((l.drop i).map d).flatMap D.cells)=(dG l i x).flatMap f++R.drop ((l.length - i) * k):=by
 have e:((l.take i).flatMap f++f x).length=(i+1) * k:=by rw [List.length_append,kZ hf l i hi,hf,Nat.succ_mul]
 conv=>lhs;rw [← List.take_append_drop ((l.length - i) * k) R]
 rw [← List.append_assoc,← e,jM _ _ _ _ (by rw [cK hd,cL hf,List.length_drop,List.length_take];omega),cK hd];simp [dG]
end
theorem eS:Gi prog 241:=by
 obtain⟨ti,zv,h1,h2,_⟩:=fL aMd;exact⟨_,22,4,3,ti,func241,by kernel_rfl,by kernel_rfl,by kernel_rfl,by kernel_rfl,h1,h2⟩
@[simp] abbrev qAr31:Cfg:=⟨[0,6,9,17,23,55,61,83,94],[],[],[12,19,25,34,43,50,53,60,66,73,76,80],[30,40,45,54,67,77,82]⟩
theorem aC7(l:List Int)(x:Int)(i:Nat)(σ:List (List D))(hl:l.length≤1000000)(hi:i≤l.length):Ct prog 205 [.xs 1 (l.map D.int),D.int i,.sl true [D.int x]] σ (fun r σ'=>r= .xs 1 ((dG l i x).map D.int)∧∃J,σ'=σ++J):=by
 refine zf (rs:=[.tmp 6]) func205 ntmps205 results205 ?_;simp only [aN];refine gE 0 1 rfl (by decide) fun cap rest hcap hcm hrest hk0 hes=>?_;subst hrest;simp only [List.length_map] at hcap ⊢;rw [cK (f:=cI) (fun _=>rfl)];refine zr qAr31 fun _ _ Z=>?_;simp(disch:=omega)[eS,-aT,aV,aP,aM,aH];apply Z;refine zr qAr31 fun _ _ Z=>?_;simp(disch:=omega)[eS,-aT,aV,aP,aM,aH];and_intros<;>(try omega);apply Z;refine zr qAr31 fun _ _ Z=>?_;simp(disch:=omega)[eS,-aT,aV,aP,aM,aH];and_intros<;>(try omega);apply Z;apply aC;refine zr qAr31 fun _ _ Z=>?_;simp(disch:=omega)[eS,-aT,aV,aP,aM,aH];apply Z;refine zi ?_;refine⟨fun c1=>?_,fun c1=>?_⟩
 ·simp at c1
 try simp at c1
 apply aE;apply aA;refine zr qAr31 fun _ _ Z=>?_;simp(disch:=omega)[eS,-aT,aV,aP,aM,aH];and_intros<;>(try omega);apply Z;apply aC;refine zk [0,1,2,6,7,8] ?_;refine zr qAr31 fun _ _ Z=>?_;simp(disch:=omega)[eS,-aT,aV,aP,aM,aH];apply Z;refine zi ?_;refine⟨fun c2=>?_,fun c2=>?_⟩
 ·try simp at c2
  refine zr qAr31 fun _ _ Z=>?_;refine zs 3 fun _ Y=>?_;simp(disch:=omega)[eS,-aT,aV,aP,aM,aH];refine⟨by first | rfl | exact⟨rfl,rfl⟩ | trivial,_,l.map D.int,⟨rfl,by simp only [List.length_append,cL (f:=cI) (k:=1) (fun _=>rfl),List.length_replicate];omega,by simp,hes,by rw [cK (f:=cI) (fun _=>rfl)];exact List.prefix_append _ _,by simp;omega,by simp;omega⟩,?_⟩;and_intros<;>(try omega);apply Y;simp(disch:=omega)[eS,-aT,aV,aP,aM,aH];apply Z;apply aB;apply aJ;obtain rfl:i=l.length:=by omega
  simp [aL,dG]
 try simp at c2
 apply aE;apply aA;apply aC;refine zr qAr31 fun _ _ Z=>?_;simp(disch:=omega)[eS,-aT,aV,aP,aM,aH];and_intros<;>(try omega);apply Z;refine zi ?_;refine⟨fun c3=>?_,fun c3=>?_⟩
 ·try simp at c3
  refine zk [0,1,2,6,7,8] ?_;refine zr qAr31 fun _ _ Z=>?_;refine zs 8 fun _ Y=>?_;simp(disch:=omega)[eS,-aT,aV,aP,aM,aH];and_intros<;>(try omega);apply Y;refine zs 1 fun _ Y=>?_;simp(disch:=omega)[eS,-aT,aV,aP,aM,aH];refine⟨(l.take i).map D.int,⟨⟨by simp;omega,by first | exact vJ (f:=cI) (fun _=>rfl) l i | exact tN (f:=cI) (fun _=>rfl) l i _⟩,(gQ (d:=D.int) (fun _=>⟨rfl,rfl⟩) _),by omega,by omega,by omega,by omega,by first | rfl | exact⟨rfl,rfl⟩ | trivial⟩,?_⟩;and_intros<;>(try omega);apply Y;simp(disch:=omega)[eS,-aT,aV,aP,aM,aH];apply Z;refine kR 9 1 rfl (by decide) fun cap2 rest2 hcap2 hcm2 hrest2 hk2 hes2=>?_;simp only [List.length_append,List.length_map,List.length_take,List.length_replicate,Nat.min_eq_left hi] at hcap2 hrest2 ⊢;rw [List.flatMap_append,show List.flatMap D.cells (List.take i (List.map D.int l))=(l.take i).flatMap cI from by rw [← List.map_take];exact cK (f:=cI) (fun _=>rfl) _];simp only [List.append_assoc];have hR:((List.replicate (l.length+1 - i) (oM 1 #[.int .i64 0])).flatMap D.cells++rest2).length=(cap2 - i) * 1:=by rw [List.length_append,Fx (k:=1) rfl,hrest2];omega
  generalize (List.replicate (l.length+1 - i) (oM 1 #[.int .i64 0])).flatMap D.cells++rest2=R at hR ⊢;refine zk [0,1,2,6,7,8,9] ?_;refine zr qAr31 fun _ _ Z=>?_;simp(disch:=omega)[eS,-aT,aV,aP,aM,aH];have hlt:i<l.length:=by omega
  refine⟨by omega, [D.int x],_,⟨rfl,(fun y hy=>by simp only [List.mem_singleton] at hy;subst hy;exact⟨rfl,rfl⟩),rfl,by simp only [List.length_append,cL (f:=cI) (k:=1) (fun _=>rfl),show ∀a,(cI a).length=1 from fun _=>rfl,List.length_replicate,List.length_map,List.length_drop,List.length_take,List.length_cons,List.length_nil] at *;omega⟩,?_⟩;rw [show min [D.int x].length (l.length+1 - i)=1 by first | (simp;done) | (simp;omega),show List.flatMap D.cells (List.take 1 [D.int x])=cI x from rfl];have row:=Bh (f:=cI) (k:=1) (fun _=>rfl) l i x R hlt (by rw [hR];omega);simp only [Nat.mul_one] at row;rw [row];clear row;have hR3:(R.drop 1).length=(cap2 - i - 1) * 1:=by rw [List.length_drop,hR];omega
  generalize R.drop 1=R3 at hR3 ⊢;and_intros<;>(try omega);apply Z;refine zk [0,1,2,6,7,8,9] ?_;refine zd qAr31 [.op {},.op {},.op {},.op {},.op {},.op {},.op {},.op {},.op {rO:=true,wO:=true}] fun all hall _ Z=>?_;refine jD 8 fun _ Y=>?_;simp(disch:=omega)[eS,-aT,aV,aP,aM,aH];and_intros<;>(try omega);apply Y;simp(disch:=omega)[eS,-aT,aV,aP,aM,aH];refine⟨(l.drop i).map D.int,_,⟨⟨by simp,by have:=Bb (f:=cI) (d:=D.int) (k:=1) (fun _=>rfl) (fun _=>rfl) l i 0 hlt;first | exact this | simpa using this⟩,(gQ (d:=D.int) (fun _=>⟨rfl,rfl⟩) _),rfl,by simp only [List.length_append,cL (f:=cI) (k:=1) (fun _=>rfl),show ∀a,(cI a).length=1 from fun _=>rfl,List.length_replicate,List.length_map,List.length_drop,List.length_take,List.length_cons,List.length_nil] at *;omega⟩,?_⟩;rw [show min ((l.drop i).map D.int).length (l.length - i)=l.length - i by simp,List.take_of_length_le (show((l.drop i).map D.int).length≤l.length - i by simp)];have row:=zG (f:=cI) (d:=D.int) (k:=1) (fun _=>rfl) (fun _=>rfl) l i x R3 hlt (by rw [hR3];omega);simp only [Nat.mul_one] at row;rw [row];clear row;have hR4:(R3.drop ((l.length - i) * 1)).length=(cap2 - i - 1 - (l.length - i)) * 1:=by rw [List.length_drop,hR3];omega
  simp only [Nat.mul_one] at hR4;generalize R3.drop _=R4 at hR4 ⊢;and_intros<;>(try omega);apply Z;refine zk [0,1,2,6,7,8,9] ?_;refine zr qAr31 fun _ _ Z=>?_;simp(disch:=omega)[eS,-aT,aV,aP,aM,aH];apply Z;refine cV 6 1 (σ.length+1) (l.length+1) cap2 ((dG l i x).map D.int) ((dG l i x).flatMap cI++R4) (by simp <;> rfl) (by simp [aV,aM]) (by omega) (by have:=fM l i x hi;simp only [List.length_append,cL (f:=cI) (k:=1) (fun _=>rfl),this] at *;omega) (by simp [fM l i x hi]) (gQ (d:=D.int) (fun _=>⟨rfl,rfl⟩) _) (by rw [cK (f:=cI) (fun _=>rfl)];exact List.prefix_append _ _) ?_;apply aB;apply aJ;simp [aL]
 try simp at c3
 apply aE;apply aA;refine zk [0,1,2,6,7,8] ?_;refine zr qAr31 fun _ _ Z=>?_;simp(disch:=omega)[eS,-aT,aV,aP,aM,aH];and_intros<;>(try omega);apply Z;apply aC;refine zk [0,1,2,6,7,8] ?_;refine zr qAr31 fun _ _ Z=>?_;simp(disch:=omega)[eS,-aT,aV,aP,aM,aH];and_intros<;>(try omega);apply Z;refine zi ?_;refine⟨fun c4=>?_,fun c4=>?_⟩
 ·try simp at c4
  refine zk [0,1,2,6,7,8] ?_;refine zd qAr31 [.op {},.op {},.op {},.op {},.op {},.op {},.op {},.op {},.op {rO:=true,wO:=true}] fun all hall _ Z=>?_;refine jD 8 fun _ Y=>?_;simp(disch:=omega)[eS,-aT,aV,aP,aM,aH];and_intros<;>(try omega);apply Y;simp(disch:=omega)[eS,-aT,aV,aP,aM,aH];have hlt:i<l.length:=by omega
  refine⟨(l.drop i).map D.int++ [uE 1],_,⟨⟨by first | (simp;done) | (simp;omega),by have:=Fo (f:=cI) (d:=D.int) (k:=1) (fun _=>rfl) (fun _=>rfl) l i ((cap - l.length) * 1) hlt (show 1≤((cap - l.length) * 1) by omega);first | exact this | simpa using this⟩,Of (d:=D.int) (fun _=>⟨rfl,rfl⟩) _,rfl,by simp only [List.length_append,cL (f:=cI) (k:=1) (fun _=>rfl),show ∀a,(cI a).length=1 from fun _=>rfl,List.length_replicate,List.length_map,List.length_drop,List.length_take,List.length_cons,List.length_nil] at *;omega⟩,?_⟩;rw [show min ((l.drop i).map D.int++ [uE 1]).length (l.length - i)=l.length - i by first | (simp;done) | (simp;omega)];have row:=zL (f:=cI) (d:=D.int) (k:=1) (fun _=>rfl) (fun _=>rfl) l i ((cap - l.length) * 1) hlt (show 1≤((cap - l.length) * 1) by omega);simp only [Nat.mul_one] at row;rw [row];clear row;have hR:(List.replicate (((cap - l.length) * 1) - 1) D.any).length=((cap - l.length) * 1) - 1:=List.length_replicate;simp only [Nat.mul_one] at hR;generalize List.replicate _ D.any=R at hR ⊢;and_intros<;>(try omega);apply Z;refine zk [0,1,2,6,7,8] ?_;refine zr qAr31 fun _ _ Z=>?_;simp(disch:=omega)[eS,-aT,aV,aP,aM,aH];refine⟨by omega, [D.int x],_,⟨rfl,(fun y hy=>by simp only [List.mem_singleton] at hy;subst hy;exact⟨rfl,rfl⟩),rfl,by simp only [List.length_append,cL (f:=cI) (k:=1) (fun _=>rfl),show ∀a,(cI a).length=1 from fun _=>rfl,List.length_replicate,List.length_map,List.length_drop,List.length_take,List.length_cons,List.length_nil] at *;omega⟩,?_⟩;rw [show min [D.int x].length (l.length+1 - i)=1 by first | (simp;done) | (simp;omega),show List.flatMap D.cells (List.take 1 [D.int x])=cI x from rfl];have row:=At (f:=cI) (k:=1) (fun _=>rfl) l i x R hlt;simp only [Nat.mul_one] at row;rw [row];clear row;and_intros<;>(try omega);apply Z;refine zr qAr31 fun _ _ Z=>?_;simp(disch:=omega)[eS,-aT,aV,aP,aM,aH];apply Z;refine cV 6 1 σ.length (l.length+1) cap ((dG l i x).map D.int) ((dG l i x).flatMap cI++R) (by simp <;> rfl) (by simp [aV,aM]) (by omega) (by have:=fM l i x hi;simp only [List.length_append,cL (f:=cI) (k:=1) (fun _=>rfl),this] at *;omega) (by simp [fM l i x hi]) (gQ (d:=D.int) (fun _=>⟨rfl,rfl⟩) _) (by rw [cK (f:=cI) (fun _=>rfl)];exact List.prefix_append _ _) ?_;apply aB;apply aJ;simp [aL]
 simp at c4
theorem aB9(N:Nat)(l:List Int):Sc N (.xs 1 (l.map D.int)):=Sc.xs fun e he y hy=>by
 obtain⟨a,_,rfl⟩:=List.mem_map.1 he;simp only [D.cells,List.mem_cons,List.not_mem_nil,or_false] at hy;subst hy <;> exact Sc.v _
theorem Gg(l:List Int)(x:Int)(i:Nat)(σ:List (List D))(hl:l.length≤1000000)(hi:i≤l.length):Ct prog 205 [.xs 1 (l.map D.int),D.int i,.sl true [D.int x]] σ (fun r σ'=>r= .xs 1 ((dG l i x).map D.int)∧σ'=σ):=
 (aC7 l x i σ hl hi).trim fun r σ' ⟨hr,J,hs⟩=>⟨σ,J,hs,rfl,by rw [hr];exact aB9 _ _,fun n cs h=> .inl h,hr,rfl⟩
theorem eR:Gi prog 249:=by
 obtain⟨ti,zv,h1,h2,_⟩:=fL aNy;exact⟨_,36,4,191,ti,func249,by kernel_rfl,by kernel_rfl,by kernel_rfl,by kernel_rfl,h1,h2⟩
theorem aAi(l:List AT)(x:AT)(i:Nat)(σ:List (List D))(hl:l.length≤1000000)(hi:i≤l.length):Ct prog 224 [.xs 2 (l.map cZ),D.int i,.sl true [cZ x]] σ (fun r σ'=>r= .xs 2 ((dG l i x).map cZ)∧∃J,σ'=σ++J):=by
 refine zf (rs:=[.tmp 6]) func224 ntmps224 results224 ?_;simp only [aN];refine gE 0 2 rfl (by decide) fun cap rest hcap hcm hrest hk0 hes=>?_;subst hrest;simp only [List.length_map] at hcap ⊢;rw [cK (f:=cA) (fun _=>rfl)];refine zr qAr31 fun _ _ Z=>?_;simp(disch:=omega)[eR,-aT,aV,aP,aM,aH];apply Z;refine zr qAr31 fun _ _ Z=>?_;simp(disch:=omega)[eR,-aT,aV,aP,aM,aH];and_intros<;>(try omega);apply Z;refine zr qAr31 fun _ _ Z=>?_;simp(disch:=omega)[eR,-aT,aV,aP,aM,aH];and_intros<;>(try omega);apply Z;apply aC;refine zr qAr31 fun _ _ Z=>?_;simp(disch:=omega)[eR,-aT,aV,aP,aM,aH];apply Z;refine zi ?_;refine⟨fun c1=>?_,fun c1=>?_⟩
 ·simp at c1
 try simp at c1
 apply aE;apply aA;refine zr qAr31 fun _ _ Z=>?_;simp(disch:=omega)[eR,-aT,aV,aP,aM,aH];and_intros<;>(try omega);apply Z;apply aC;refine zk [0,1,2,6,7,8] ?_;refine zr qAr31 fun _ _ Z=>?_;simp(disch:=omega)[eR,-aT,aV,aP,aM,aH];apply Z;refine zi ?_;refine⟨fun c2=>?_,fun c2=>?_⟩
 ·try simp at c2
  refine zr qAr31 fun _ _ Z=>?_;refine zs 3 fun _ Y=>?_;simp(disch:=omega)[eR,-aT,aV,aP,aM,aH];refine⟨by first | rfl | exact⟨rfl,rfl⟩ | trivial,_,l.map cZ,⟨rfl,by simp only [List.length_append,cL (f:=cA) (k:=2) (fun _=>rfl),List.length_replicate];omega,by simp,hes,by rw [cK (f:=cA) (fun _=>rfl)];exact List.prefix_append _ _,by simp;omega,by simp;omega⟩,?_⟩;and_intros<;>(try omega);apply Y;simp(disch:=omega)[eR,-aT,aV,aP,aM,aH];apply Z;apply aB;apply aJ;obtain rfl:i=l.length:=by omega
  simp [aL,dG]
 try simp at c2
 apply aE;apply aA;apply aC;refine zr qAr31 fun _ _ Z=>?_;simp(disch:=omega)[eR,-aT,aV,aP,aM,aH];and_intros<;>(try omega);apply Z;refine zi ?_;refine⟨fun c3=>?_,fun c3=>?_⟩
 ·try simp at c3
  refine zk [0,1,2,6,7,8] ?_;refine zr qAr31 fun _ _ Z=>?_;refine zs 8 fun _ Y=>?_;simp(disch:=omega)[eR,-aT,aV,aP,aM,aH];and_intros<;>(try omega);apply Y;refine zs 1 fun _ Y=>?_;simp(disch:=omega)[eR,-aT,aV,aP,aM,aH];refine⟨(l.take i).map cZ,⟨⟨by simp;omega,by first | exact vJ (f:=cA) (fun _=>rfl) l i | exact tN (f:=cA) (fun _=>rfl) l i _⟩,(gQ (d:=cZ) (fun _=>⟨rfl,rfl⟩) _),by omega,by omega,by omega,by omega,by first | rfl | exact⟨rfl,rfl⟩ | trivial⟩,?_⟩;and_intros<;>(try omega);apply Y;simp(disch:=omega)[eR,-aT,aV,aP,aM,aH];apply Z;refine kR 9 2 rfl (by decide) fun cap2 rest2 hcap2 hcm2 hrest2 hk2 hes2=>?_;simp only [List.length_append,List.length_map,List.length_take,List.length_replicate,Nat.min_eq_left hi] at hcap2 hrest2 ⊢;rw [List.flatMap_append,show List.flatMap D.cells (List.take i (List.map cZ l))=(l.take i).flatMap cA from by rw [← List.map_take];exact cK (f:=cA) (fun _=>rfl) _];simp only [List.append_assoc];have hR:((List.replicate (l.length+1 - i) (oM 2 #[.string ⟨#[]⟩,.string ⟨#[]⟩])).flatMap D.cells++rest2).length=(cap2 - i) * 2:=by rw [List.length_append,Fx (k:=2) rfl,hrest2];omega
  generalize (List.replicate (l.length+1 - i) (oM 2 #[.string ⟨#[]⟩,.string ⟨#[]⟩])).flatMap D.cells++rest2=R at hR ⊢;refine zk [0,1,2,6,7,8,9] ?_;refine zr qAr31 fun _ _ Z=>?_;simp(disch:=omega)[eR,-aT,aV,aP,aM,aH];have hlt:i<l.length:=by omega
  refine⟨by omega, [cZ x],_,⟨rfl,(fun y hy=>by simp only [List.mem_singleton] at hy;subst hy;exact⟨rfl,rfl⟩),rfl,by simp only [List.length_append,cL (f:=cA) (k:=2) (fun _=>rfl),show ∀a,(cA a).length=2 from fun _=>rfl,List.length_replicate,List.length_map,List.length_drop,List.length_take,List.length_cons,List.length_nil] at *;omega⟩,?_⟩;rw [show min [cZ x].length (l.length+1 - i)=1 by first | (simp;done) | (simp;omega),show List.flatMap D.cells (List.take 1 [cZ x])=cA x from rfl];have row:=Bh (f:=cA) (k:=2) (fun _=>rfl) l i x R hlt (by rw [hR];omega)
  skip
  rw [row];clear row;have hR3:(R.drop 2).length=(cap2 - i - 1) * 2:=by rw [List.length_drop,hR];omega
  generalize R.drop 2=R3 at hR3 ⊢;and_intros<;>(try omega);apply Z;refine zk [0,1,2,6,7,8,9] ?_;refine zd qAr31 [.op {},.op {},.op {},.op {},.op {},.op {},.op {},.op {},.op {rO:=true,wO:=true}] fun all hall _ Z=>?_;refine jD 8 fun _ Y=>?_;simp(disch:=omega)[eR,-aT,aV,aP,aM,aH];and_intros<;>(try omega);apply Y;simp(disch:=omega)[eR,-aT,aV,aP,aM,aH];refine⟨(l.drop i).map cZ,_,⟨⟨by simp,by have:=Bb (f:=cA) (d:=cZ) (k:=2) (fun _=>rfl) (fun _=>rfl) l i 0 hlt;first | exact this | simpa using this⟩,(gQ (d:=cZ) (fun _=>⟨rfl,rfl⟩) _),rfl,by simp only [List.length_append,cL (f:=cA) (k:=2) (fun _=>rfl),show ∀a,(cA a).length=2 from fun _=>rfl,List.length_replicate,List.length_map,List.length_drop,List.length_take,List.length_cons,List.length_nil] at *;omega⟩,?_⟩;rw [show min ((l.drop i).map cZ).length (l.length - i)=l.length - i by simp,List.take_of_length_le (show((l.drop i).map cZ).length≤l.length - i by simp)];have row:=zG (f:=cA) (d:=cZ) (k:=2) (fun _=>rfl) (fun _=>rfl) l i x R3 hlt (by rw [hR3];omega)
  skip
  rw [row];clear row;have hR4:(R3.drop ((l.length - i) * 2)).length=(cap2 - i - 1 - (l.length - i)) * 2:=by rw [List.length_drop,hR3];omega
  generalize R3.drop _=R4 at hR4 ⊢;and_intros<;>(try omega);apply Z;refine zk [0,1,2,6,7,8,9] ?_;refine zr qAr31 fun _ _ Z=>?_;simp(disch:=omega)[eR,-aT,aV,aP,aM,aH];apply Z;refine cV 6 2 (σ.length+1) (l.length+1) cap2 ((dG l i x).map cZ) ((dG l i x).flatMap cA++R4) (by simp <;> rfl) (by simp [aV,aM]) (by omega) (by have:=fM l i x hi;simp only [List.length_append,cL (f:=cA) (k:=2) (fun _=>rfl),this] at *;omega) (by simp [fM l i x hi]) (gQ (d:=cZ) (fun _=>⟨rfl,rfl⟩) _) (by rw [cK (f:=cA) (fun _=>rfl)];exact List.prefix_append _ _) ?_;apply aB;apply aJ;simp [aL]
 try simp at c3
 apply aE;apply aA;refine zk [0,1,2,6,7,8] ?_;refine zr qAr31 fun _ _ Z=>?_;simp(disch:=omega)[eR,-aT,aV,aP,aM,aH];and_intros<;>(try omega);apply Z;apply aC;refine zk [0,1,2,6,7,8] ?_;refine zr qAr31 fun _ _ Z=>?_;simp(disch:=omega)[eR,-aT,aV,aP,aM,aH];and_intros<;>(try omega);apply Z;refine zi ?_;refine⟨fun c4=>?_,fun c4=>?_⟩
 ·try simp at c4
  refine zk [0,1,2,6,7,8] ?_;refine zd qAr31 [.op {},.op {},.op {},.op {},.op {},.op {},.op {},.op {},.op {rO:=true,wO:=true}] fun all hall _ Z=>?_;refine jD 8 fun _ Y=>?_;simp(disch:=omega)[eR,-aT,aV,aP,aM,aH];and_intros<;>(try omega);apply Y;simp(disch:=omega)[eR,-aT,aV,aP,aM,aH];have hlt:i<l.length:=by omega
  refine⟨(l.drop i).map cZ++ [uE 2],_,⟨⟨by first | (simp;done) | (simp;omega),by have:=Fo (f:=cA) (d:=cZ) (k:=2) (fun _=>rfl) (fun _=>rfl) l i ((cap - l.length) * 2) hlt (show 2≤((cap - l.length) * 2) by omega);first | exact this | simpa using this⟩,Of (d:=cZ) (fun _=>⟨rfl,rfl⟩) _,rfl,by simp only [List.length_append,cL (f:=cA) (k:=2) (fun _=>rfl),show ∀a,(cA a).length=2 from fun _=>rfl,List.length_replicate,List.length_map,List.length_drop,List.length_take,List.length_cons,List.length_nil] at *;omega⟩,?_⟩;rw [show min ((l.drop i).map cZ++ [uE 2]).length (l.length - i)=l.length - i by first | (simp;done) | (simp;omega)];have row:=zL (f:=cA) (d:=cZ) (k:=2) (fun _=>rfl) (fun _=>rfl) l i ((cap - l.length) * 2) hlt (show 2≤((cap - l.length) * 2) by omega)
  skip
  rw [row];clear row;have hR:(List.replicate (((cap - l.length) * 2) - 2) D.any).length=((cap - l.length) * 2) - 2:=List.length_replicate;generalize List.replicate _ D.any=R at hR ⊢;and_intros<;>(try omega);apply Z;refine zk [0,1,2,6,7,8] ?_;refine zr qAr31 fun _ _ Z=>?_;simp(disch:=omega)[eR,-aT,aV,aP,aM,aH];refine⟨by omega, [cZ x],_,⟨rfl,(fun y hy=>by simp only [List.mem_singleton] at hy;subst hy;exact⟨rfl,rfl⟩),rfl,by simp only [List.length_append,cL (f:=cA) (k:=2) (fun _=>rfl),show ∀a,(cA a).length=2 from fun _=>rfl,List.length_replicate,List.length_map,List.length_drop,List.length_take,List.length_cons,List.length_nil] at *;omega⟩,?_⟩;rw [show min [cZ x].length (l.length+1 - i)=1 by first | (simp;done) | (simp;omega),show List.flatMap D.cells (List.take 1 [cZ x])=cA x from rfl];have row:=At (f:=cA) (k:=2) (fun _=>rfl) l i x R hlt
  skip
  rw [row];clear row;and_intros<;>(try omega);apply Z;refine zr qAr31 fun _ _ Z=>?_;simp(disch:=omega)[eR,-aT,aV,aP,aM,aH];apply Z;refine cV 6 2 σ.length (l.length+1) cap ((dG l i x).map cZ) ((dG l i x).flatMap cA++R) (by simp <;> rfl) (by simp [aV,aM]) (by omega) (by have:=fM l i x hi;simp only [List.length_append,cL (f:=cA) (k:=2) (fun _=>rfl),this] at *;omega) (by simp [fM l i x hi]) (gQ (d:=cZ) (fun _=>⟨rfl,rfl⟩) _) (by rw [cK (f:=cA) (fun _=>rfl)];exact List.prefix_append _ _) ?_;apply aB;apply aJ;simp [aL]
 simp at c4
theorem aHj(N:Nat)(l:List AT):Sc N (.xs 2 (l.map cZ)):=Sc.xs fun e he y hy=>by
 obtain⟨a,_,rfl⟩:=List.mem_map.1 he;simp only [D.cells,List.mem_cons,List.not_mem_nil,or_false] at hy;rcases hy with rfl | rfl <;> exact Sc.v _
theorem aFy(l:List AT)(x:AT)(i:Nat)(σ:List (List D))(hl:l.length≤1000000)(hi:i≤l.length):Ct prog 224 [.xs 2 (l.map cZ),D.int i,.sl true [cZ x]] σ (fun r σ'=>r= .xs 2 ((dG l i x).map cZ)∧σ'=σ):=
 (aAi l x i σ hl hi).trim fun r σ' ⟨hr,J,hs⟩=>⟨σ,J,hs,rfl,by rw [hr];exact aHj _ _,fun n cs h=> .inl h,hr,rfl⟩
theorem eQ:Gi prog 251:=by
 obtain⟨ti,zv,h1,h2,_⟩:=fL aM7;exact⟨_,38,4,137,ti,func251,by kernel_rfl,by kernel_rfl,by kernel_rfl,by kernel_rfl,h1,h2⟩
theorem Xh(l:List PI)(x:PI)(i:Nat)(σ:List (List D))(hl:l.length≤1000000)(hi:i≤l.length):Ct prog 225 [.xs 2 (l.map cX),D.int i,.sl true [cX x]] σ (fun r σ'=>r= .xs 2 ((dG l i x).map cX)∧∃J,σ'=σ++J):=by
 refine zf (rs:=[.tmp 6]) func225 ntmps225 results225 ?_;simp only [aN];refine gE 0 2 rfl (by decide) fun cap rest hcap hcm hrest hk0 hes=>?_;subst hrest;simp only [List.length_map] at hcap ⊢;rw [cK (f:=cP) (fun _=>rfl)];refine zr qAr31 fun _ _ Z=>?_;simp(disch:=omega)[eQ,-aT,aV,aP,aM,aH];apply Z;refine zr qAr31 fun _ _ Z=>?_;simp(disch:=omega)[eQ,-aT,aV,aP,aM,aH];and_intros<;>(try omega);apply Z;refine zr qAr31 fun _ _ Z=>?_;simp(disch:=omega)[eQ,-aT,aV,aP,aM,aH];and_intros<;>(try omega);apply Z;apply aC;refine zr qAr31 fun _ _ Z=>?_;simp(disch:=omega)[eQ,-aT,aV,aP,aM,aH];apply Z;refine zi ?_;refine⟨fun c1=>?_,fun c1=>?_⟩
 ·simp at c1
 try simp at c1
 apply aE;apply aA;refine zr qAr31 fun _ _ Z=>?_;simp(disch:=omega)[eQ,-aT,aV,aP,aM,aH];and_intros<;>(try omega);apply Z;apply aC;refine zk [0,1,2,6,7,8] ?_;refine zr qAr31 fun _ _ Z=>?_;simp(disch:=omega)[eQ,-aT,aV,aP,aM,aH];apply Z;refine zi ?_;refine⟨fun c2=>?_,fun c2=>?_⟩
 ·try simp at c2
  refine zr qAr31 fun _ _ Z=>?_;refine zs 3 fun _ Y=>?_;simp(disch:=omega)[eQ,-aT,aV,aP,aM,aH];refine⟨by first | rfl | exact⟨rfl,rfl⟩ | trivial,_,l.map cX,⟨rfl,by simp only [List.length_append,cL (f:=cP) (k:=2) (fun _=>rfl),List.length_replicate];omega,by simp,hes,by rw [cK (f:=cP) (fun _=>rfl)];exact List.prefix_append _ _,by simp;omega,by simp;omega⟩,?_⟩;and_intros<;>(try omega);apply Y;simp(disch:=omega)[eQ,-aT,aV,aP,aM,aH];apply Z;apply aB;apply aJ;obtain rfl:i=l.length:=by omega
  simp [aL,dG]
 try simp at c2
 apply aE;apply aA;apply aC;refine zr qAr31 fun _ _ Z=>?_;simp(disch:=omega)[eQ,-aT,aV,aP,aM,aH];and_intros<;>(try omega);apply Z;refine zi ?_;refine⟨fun c3=>?_,fun c3=>?_⟩
 ·try simp at c3
  refine zk [0,1,2,6,7,8] ?_;refine zr qAr31 fun _ _ Z=>?_;refine zs 8 fun _ Y=>?_;simp(disch:=omega)[eQ,-aT,aV,aP,aM,aH];and_intros<;>(try omega);apply Y;refine zs 1 fun _ Y=>?_;simp(disch:=omega)[eQ,-aT,aV,aP,aM,aH];refine⟨(l.take i).map cX,⟨⟨by simp;omega,by first | exact vJ (f:=cP) (fun _=>rfl) l i | exact tN (f:=cP) (fun _=>rfl) l i _⟩,(gQ (d:=cX) (fun _=>⟨rfl,rfl⟩) _),by omega,by omega,by omega,by omega,by first | rfl | exact⟨rfl,rfl⟩ | trivial⟩,?_⟩;and_intros<;>(try omega);apply Y;simp(disch:=omega)[eQ,-aT,aV,aP,aM,aH];apply Z;refine kR 9 2 rfl (by decide) fun cap2 rest2 hcap2 hcm2 hrest2 hk2 hes2=>?_;simp only [List.length_append,List.length_map,List.length_take,List.length_replicate,Nat.min_eq_left hi] at hcap2 hrest2 ⊢;rw [List.flatMap_append,show List.flatMap D.cells (List.take i (List.map cX l))=(l.take i).flatMap cP from by rw [← List.map_take];exact cK (f:=cP) (fun _=>rfl) _];simp only [List.append_assoc];have hR:((List.replicate (l.length+1 - i) (oM 2 #[.string ⟨#[]⟩,.int .i64 0])).flatMap D.cells++rest2).length=(cap2 - i) * 2:=by rw [List.length_append,Fx (k:=2) rfl,hrest2];omega
  generalize (List.replicate (l.length+1 - i) (oM 2 #[.string ⟨#[]⟩,.int .i64 0])).flatMap D.cells++rest2=R at hR ⊢;refine zk [0,1,2,6,7,8,9] ?_;refine zr qAr31 fun _ _ Z=>?_;simp(disch:=omega)[eQ,-aT,aV,aP,aM,aH];have hlt:i<l.length:=by omega
  refine⟨by omega, [cX x],_,⟨rfl,(fun y hy=>by simp only [List.mem_singleton] at hy;subst hy;exact⟨rfl,rfl⟩),rfl,by simp only [List.length_append,cL (f:=cP) (k:=2) (fun _=>rfl),show ∀a,(cP a).length=2 from fun _=>rfl,List.length_replicate,List.length_map,List.length_drop,List.length_take,List.length_cons,List.length_nil] at *;omega⟩,?_⟩;rw [show min [cX x].length (l.length+1 - i)=1 by first | (simp;done) | (simp;omega),show List.flatMap D.cells (List.take 1 [cX x])=cP x from rfl];have row:=Bh (f:=cP) (k:=2) (fun _=>rfl) l i x R hlt (by rw [hR];omega)
  skip
  rw [row];clear row;have hR3:(R.drop 2).length=(cap2 - i - 1) * 2:=by rw [List.length_drop,hR];omega
  generalize R.drop 2=R3 at hR3 ⊢;and_intros<;>(try omega);apply Z;refine zk [0,1,2,6,7,8,9] ?_;refine zd qAr31 [.op {},.op {},.op {},.op {},.op {},.op {},.op {},.op {},.op {rO:=true,wO:=true}] fun all hall _ Z=>?_;refine jD 8 fun _ Y=>?_;simp(disch:=omega)[eQ,-aT,aV,aP,aM,aH];and_intros<;>(try omega);apply Y;simp(disch:=omega)[eQ,-aT,aV,aP,aM,aH];refine⟨(l.drop i).map cX,_,⟨⟨by simp,by have:=Bb (f:=cP) (d:=cX) (k:=2) (fun _=>rfl) (fun _=>rfl) l i 0 hlt;first | exact this | simpa using this⟩,(gQ (d:=cX) (fun _=>⟨rfl,rfl⟩) _),rfl,by simp only [List.length_append,cL (f:=cP) (k:=2) (fun _=>rfl),show ∀a,(cP a).length=2 from fun _=>rfl,List.length_replicate,List.length_map,List.length_drop,List.length_take,List.length_cons,List.length_nil] at *;omega⟩,?_⟩;rw [show min ((l.drop i).map cX).length (l.length - i)=l.length - i by simp,List.take_of_length_le (show((l.drop i).map cX).length≤l.length - i by simp)];have row:=zG (f:=cP) (d:=cX) (k:=2) (fun _=>rfl) (fun _=>rfl) l i x R3 hlt (by rw [hR3];omega)
  skip
  rw [row];clear row;have hR4:(R3.drop ((l.length - i) * 2)).length=(cap2 - i - 1 - (l.length - i)) * 2:=by rw [List.length_drop,hR3];omega
  generalize R3.drop _=R4 at hR4 ⊢;and_intros<;>(try omega);apply Z;refine zk [0,1,2,6,7,8,9] ?_;refine zr qAr31 fun _ _ Z=>?_;simp(disch:=omega)[eQ,-aT,aV,aP,aM,aH];apply Z;refine cV 6 2 (σ.length+1) (l.length+1) cap2 ((dG l i x).map cX) ((dG l i x).flatMap cP++R4) (by simp <;> rfl) (by simp [aV,aM]) (by omega) (by have:=fM l i x hi;simp only [List.length_append,cL (f:=cP) (k:=2) (fun _=>rfl),this] at *;omega) (by simp [fM l i x hi]) (gQ (d:=cX) (fun _=>⟨rfl,rfl⟩) _) (by rw [cK (f:=cP) (fun _=>rfl)];exact List.prefix_append _ _) ?_;apply aB;apply aJ;simp [aL]
 try simp at c3
 apply aE;apply aA;refine zk [0,1,2,6,7,8] ?_;refine zr qAr31 fun _ _ Z=>?_;simp(disch:=omega)[eQ,-aT,aV,aP,aM,aH];and_intros<;>(try omega);apply Z;apply aC;refine zk [0,1,2,6,7,8] ?_;refine zr qAr31 fun _ _ Z=>?_;simp(disch:=omega)[eQ,-aT,aV,aP,aM,aH];and_intros<;>(try omega);apply Z;refine zi ?_;refine⟨fun c4=>?_,fun c4=>?_⟩
 ·try simp at c4
  refine zk [0,1,2,6,7,8] ?_;refine zd qAr31 [.op {},.op {},.op {},.op {},.op {},.op {},.op {},.op {},.op {rO:=true,wO:=true}] fun all hall _ Z=>?_;refine jD 8 fun _ Y=>?_;simp(disch:=omega)[eQ,-aT,aV,aP,aM,aH];and_intros<;>(try omega);apply Y;simp(disch:=omega)[eQ,-aT,aV,aP,aM,aH];have hlt:i<l.length:=by omega
  refine⟨(l.drop i).map cX++ [uE 2],_,⟨⟨by first | (simp;done) | (simp;omega),by have:=Fo (f:=cP) (d:=cX) (k:=2) (fun _=>rfl) (fun _=>rfl) l i ((cap - l.length) * 2) hlt (show 2≤((cap - l.length) * 2) by omega);first | exact this | simpa using this⟩,Of (d:=cX) (fun _=>⟨rfl,rfl⟩) _,rfl,by simp only [List.length_append,cL (f:=cP) (k:=2) (fun _=>rfl),show ∀a,(cP a).length=2 from fun _=>rfl,List.length_replicate,List.length_map,List.length_drop,List.length_take,List.length_cons,List.length_nil] at *;omega⟩,?_⟩;rw [show min ((l.drop i).map cX++ [uE 2]).length (l.length - i)=l.length - i by first | (simp;done) | (simp;omega)];have row:=zL (f:=cP) (d:=cX) (k:=2) (fun _=>rfl) (fun _=>rfl) l i ((cap - l.length) * 2) hlt (show 2≤((cap - l.length) * 2) by omega)
  skip
  rw [row];clear row;have hR:(List.replicate (((cap - l.length) * 2) - 2) D.any).length=((cap - l.length) * 2) - 2:=List.length_replicate;generalize List.replicate _ D.any=R at hR ⊢;and_intros<;>(try omega);apply Z;refine zk [0,1,2,6,7,8] ?_;refine zr qAr31 fun _ _ Z=>?_;simp(disch:=omega)[eQ,-aT,aV,aP,aM,aH];refine⟨by omega, [cX x],_,⟨rfl,(fun y hy=>by simp only [List.mem_singleton] at hy;subst hy;exact⟨rfl,rfl⟩),rfl,by simp only [List.length_append,cL (f:=cP) (k:=2) (fun _=>rfl),show ∀a,(cP a).length=2 from fun _=>rfl,List.length_replicate,List.length_map,List.length_drop,List.length_take,List.length_cons,List.length_nil] at *;omega⟩,?_⟩;rw [show min [cX x].length (l.length+1 - i)=1 by first | (simp;done) | (simp;omega),show List.flatMap D.cells (List.take 1 [cX x])=cP x from rfl];have row:=At (f:=cP) (k:=2) (fun _=>rfl) l i x R hlt
  skip
  rw [row];clear row;and_intros<;>(try omega);apply Z;refine zr qAr31 fun _ _ Z=>?_;simp(disch:=omega)[eQ,-aT,aV,aP,aM,aH];apply Z;refine cV 6 2 σ.length (l.length+1) cap ((dG l i x).map cX) ((dG l i x).flatMap cP++R) (by simp <;> rfl) (by simp [aV,aM]) (by omega) (by have:=fM l i x hi;simp only [List.length_append,cL (f:=cP) (k:=2) (fun _=>rfl),this] at *;omega) (by simp [fM l i x hi]) (gQ (d:=cX) (fun _=>⟨rfl,rfl⟩) _) (by rw [cK (f:=cP) (fun _=>rfl)];exact List.prefix_append _ _) ?_;apply aB;apply aJ;simp [aL]
 simp at c4
theorem aI9(N:Nat)(l:List PI):Sc N (.xs 2 (l.map cX)):=Sc.xs fun e he y hy=>by
 obtain⟨a,_,rfl⟩:=List.mem_map.1 he;simp only [D.cells,List.mem_cons,List.not_mem_nil,or_false] at hy;rcases hy with rfl | rfl <;> exact Sc.v _
theorem aGp(l:List PI)(x:PI)(i:Nat)(σ:List (List D))(hl:l.length≤1000000)(hi:i≤l.length):Ct prog 225 [.xs 2 (l.map cX),D.int i,.sl true [cX x]] σ (fun r σ'=>r= .xs 2 ((dG l i x).map cX)∧σ'=σ):=
 (Xh l x i σ hl hi).trim fun r σ' ⟨hr,J,hs⟩=>⟨σ,J,hs,rfl,by rw [hr];exact aI9 _ _,fun n cs h=> .inl h,hr,rfl⟩
end Go.Proofs.YtbgfljpnhhdkoaaGreat
