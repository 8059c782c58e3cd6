import Derived.Test.YtbgfljpnhhdkoaaGreatWkAr14
open Go.Proofs.Tryz
namespace Go.Proofs.YtbgfljpnhhdkoaaGreat
open Go Go.Vm
set_option maxRecDepth 20000
set_option linter.all false
set_option maxHeartbeats 8000000
def mT(n:ND)(kind:Int)(name:ByteArray):Int:=if n.ID=0 then 1 else if ¬n.kind=kind then 14 else if kind=2∧fD name=false then 2 else 0
theorem Pf {n:ND} {kind:Int} {name:ByteArray} (h:mT n kind name=0):¬n.ID=0∧n.kind=kind∧(kind=2→fD name=true):=by
 unfold mT at h;split at h
 ·cases h
 split at h
 ·cases h
 split at h
 ·cases h
 rename_i h1 h2 h3;refine⟨h1,Classical.not_not.1 h2,fun hk=>?_⟩;cases hn:fD name with
 | true=>rfl
 | false=>exact absurd ⟨hk,hn⟩ h3
theorem Wn(m M:Nat)(d:DS)(id kind:Int)(name:ByteArray)(σ:List (List D))(ho:DO m M d σ)(hno:cX d.l id=false):Ct prog 217 [.ref m 0,D.int id,D.int kind,D.str name] σ (fun r σ'=>r= .tup [.v (.pointer none),D.int 11]∧σ'=σ):=by
 refine zf (rs:=[.tmp 8,.tmp 9]) func217 ntmps217 results217 ?_;simp only [aO];have hq:=ho.hm;refine aV fun _ _ Z=>?_;simp[hq];apply Z;refine aV fun _ _ Z=>?_;refine zs 6 fun _ Y=>?_;simp[hq];refine⟨m,2,d.ck,_,.v (.pointer none),⟨⟨_,hq,rfl⟩,iB _,.inl (mB hno _)⟩,?_⟩;and_intros<;>(try omega);apply Y;simp[hq];apply Z;apply aC;apply aH;refine aV fun _ _ Z=>?_;simp[hq];apply Z;refine zi ?_;refine⟨fun c1=>?_,fun c1=>?_⟩
 ·try simp at c1
  refine zk [8,9,10] ?_;refine aV fun _ _ Z=>?_;simp[hq];apply Z;apply aB;apply aQ;apply aI;simp [aJ]
 simp at c1
theorem aC8(m M:Nat)(d:DS)(e:EN)(kind:Int)(name:ByteArray)(σ:List (List D))(ho:DO m M d σ)(he:e∈d.es)(hs:name.size≤1000)(hb:¬mT e.n kind name=0):Ct prog 217 [.ref m 0,D.int e.n.ID,D.int kind,D.str name] σ (fun r σ'=>r= .tup [.v (.pointer none),D.int (mT e.n kind name)]∧σ'=σ):=by
 refine zf (rs:=[.tmp 8,.tmp 9]) func217 ntmps217 results217 ?_;simp only [aO];have hq:=ho.hm;have hne:=ho.hn e he;refine aV fun _ _ Z=>?_;simp[hq,hne];apply Z;refine aV fun _ _ Z=>?_;refine zs 6 fun _ Y=>?_;simp[hq,hne];refine⟨m,2,d.ck,_,.ref e.o 0,⟨⟨_,hq,rfl⟩,iB _,.inr (eM he _)⟩,?_⟩;and_intros<;>(try omega);apply Y;simp[hq,hne];apply Z;apply aC;apply aH;refine aV fun _ _ Z=>?_;simp[hq,hne];apply Z;refine zi ?_;refine⟨fun c1=>?_,fun c1=>?_⟩
 ·simp at c1
 try simp at c1
 refine zk [1,2,3,8,9,10] ?_;refine aV fun _ _ Z=>?_;simp[hq,hne];apply Z;refine zi ?_;refine⟨fun c2=>?_,fun c2=>?_⟩
 ·try simp at c2
  refine aV fun _ _ Z=>?_;simp[hq,hne];apply Z;apply aB;apply aQ;apply aI;simp [aJ,mT, *]
 try simp at c2
 refine aV fun _ _ Z=>?_;simp[hq,hne];apply Z;refine zi ?_;refine⟨fun c3=>?_,fun c3=>?_⟩
 ·try simp at c3
  refine zk [8,9,10] ?_;refine aV fun _ _ Z=>?_;simp[hq,hne];apply Z;apply aB;apply aQ;apply aI;simp [aJ,mT, *]
 try simp at c3
 refine zk [2,3,8,9,10] ?_;refine kF ⟨[],[],[],[],[]⟩ fun all hall _ Z=>?_;have ga2:aN all 2=some 33:=hall 2;refine zs 3 fun _ Y=>?_;simp[hq,hne,ga2];apply Y;refine aR 33 (by simp <;> rfl) ?_;refine⟨fun g4=>?_,fun g4=>?_⟩
 ·try simp at g4
  refine zs 1 fun _ Y=>?_;simp[hq,hne,ga2];apply Y;refine zg ga2 fun _ Y=>?_;simp[hq,hne,ga2];refine cD (qH name _ (by omega)) ?_;apply Y;simp[hq,hne,ga2];apply Z;refine zi ?_;refine⟨fun c5=>?_,fun c5=>?_⟩
  ·try simp at c5
   refine zk [8,9,10] ?_;refine aV fun _ _ Z=>?_;simp[hq,hne];apply Z;apply aB;apply aQ;apply aI;simp [aJ,mT, *]
  try simp at c5
  exact absurd (by simp [mT,c2,c3,g4,c5]) hb
 try simp at g4
 exact absurd (by simp [mT,c2,c3,g4]) hb
theorem aDs(m M:Nat)(d:DS)(e:EN)(kind:Int)(name:ByteArray)(σ:List (List D))(ho:DO m M d σ)(he:e∈d.es)(hs:name.size≤1000)(hb:mT e.n kind name=0):Ct prog 217 [.ref m 0,D.int e.n.ID,D.int kind,D.str name] σ (fun r σ'=>r= .tup [.ref e.o 0,D.int 0]∧σ'=σ):=by
 refine zf (rs:=[.tmp 8,.tmp 9]) func217 ntmps217 results217 ?_;simp only [aO];have hq:=ho.hm;have hne:=ho.hn e he;obtain⟨o1,o2,o3⟩:=Pf hb;refine aV fun _ _ Z=>?_;simp[hq,hne];apply Z;refine aV fun _ _ Z=>?_;refine zs 6 fun _ Y=>?_;simp[hq,hne];refine⟨m,2,d.ck,_,.ref e.o 0,⟨⟨_,hq,rfl⟩,iB _,.inr (eM he _)⟩,?_⟩;and_intros<;>(try omega);apply Y;simp[hq,hne];apply Z;apply aC;apply aH;refine aV fun _ _ Z=>?_;simp[hq,hne];apply Z;refine zi ?_;refine⟨fun c1=>?_,fun c1=>?_⟩
 ·simp at c1
 try simp at c1
 refine zk [1,2,3,8,9,10] ?_;refine aV fun _ _ Z=>?_;simp[hq,hne];apply Z;refine zi ?_;refine⟨fun c2=>?_,fun c2=>?_⟩
 ·try simp at c2
  exact absurd c2 o1
 try simp at c2
 refine aV fun _ _ Z=>?_;simp[hq,hne];apply Z;refine zi ?_;refine⟨fun c3=>?_,fun c3=>?_⟩
 ·try simp at c3
  exact absurd o2 c3
 try simp at c3
 refine zk [2,3,8,9,10] ?_;refine kF ⟨[],[],[],[],[]⟩ fun all hall _ Z=>?_;have ga2:aN all 2=some 33:=hall 2;refine zs 3 fun _ Y=>?_;simp[hq,hne,ga2];apply Y;refine aR 33 (by simp <;> rfl) ?_;refine⟨fun g4=>?_,fun g4=>?_⟩
 ·try simp at g4
  refine zs 1 fun _ Y=>?_;simp[hq,hne,ga2];apply Y;refine zg ga2 fun _ Y=>?_;simp[hq,hne,ga2];refine cD (qH name _ (by omega)) ?_;apply Y;simp[hq,hne,ga2];apply Z;refine zi ?_;refine⟨fun c5=>?_,fun c5=>?_⟩
  ·try simp at c5
   rw [o3 g4] at c5;cases c5
  try simp at c5
  apply aE;apply aL;apply aA;refine zk [8,9,10] ?_;refine aV fun _ _ Z=>?_;simp[hq,hne];apply Z;apply aB;simp [aJ]
 try simp at g4
 simp[hq,hne,ga2];apply Z;refine bD (t:=false) (by simp) (fun h=>by cases h) (fun _=>?_);apply aE;apply aL;apply aA;refine zk [8,9,10] ?_;refine aV fun _ _ Z=>?_;simp[hq,hne];apply Z;apply aB;simp [aJ]
theorem Zg(m:Nat)(id c:Int)(s:ByteArray)(σ:List (List D))(hown:Ct prog 217 [.ref m 0,D.int id,D.int 2,D.str s] σ (fun r σ'=>r= .tup [.v (.pointer none),D.int c]∧σ'=σ))(hc:¬c=0):Ct prog 163 [.ref m 0,D.int id,D.str s] σ (fun r σ'=>r= .int c∧σ'=σ):=by
 refine zf (rs:=[.tmp 6]) func163 ntmps163 results163 ?_;simp only [aO];refine aV fun _ _ Z=>?_;simp;apply Z;refine aV fun _ _ Z=>?_;refine zs 3 fun _ Y=>?_;simp;apply Y;refine aD fun _ Y=>?_;simp;refine cD (hown) ?_;apply Y;simp;apply Z;apply aC;refine aV fun _ _ Z=>?_;simp;apply Z;refine zi ?_;refine⟨fun c1=>?_,fun c1=>?_⟩
 ·try simp at c1
  exact absurd c1 hc
 try simp at c1
 apply aE;apply aA;refine zk [6,8] ?_;refine aV fun _ _ Z=>?_;simp;apply Z;apply aB;simp [aJ]
theorem aCy(m o:Nat)(id:Int)(n:ND)(s:ByteArray)(σ:List (List D))(hown:Ct prog 217 [.ref m 0,D.int id,D.int 2,D.str s] σ (fun r σ'=>r= .tup [.ref o 0,D.int 0]∧σ'=σ))(hno:σ[o]?=some (dX n)):Ct prog 163 [.ref m 0,D.int id,D.str s] σ (fun r σ'=>r=D.int 0∧σ'=σ.set o (dX { n with tag:=s })):=by
 refine zf (rs:=[.tmp 6]) func163 ntmps163 results163 ?_;simp only [aO];refine aV fun _ _ Z=>?_;simp[hno,aK hno,List.set_set];apply Z;refine aV fun _ _ Z=>?_;refine zs 3 fun _ Y=>?_;simp[hno,aK hno,List.set_set];apply Y;refine aD fun _ Y=>?_;simp[hno,aK hno,List.set_set];refine cD (hown) ?_;apply Y;simp[hno,aK hno,List.set_set];apply Z;apply aC;refine aV fun _ _ Z=>?_;simp[hno,aK hno,List.set_set];apply Z;refine zi ?_;refine⟨fun c1=>?_,fun c1=>?_⟩
 ·try simp at c1
  refine zk [2,6,7,8] ?_;refine rH fun _ _ Z=>?_;simp[hno,aK hno,List.set_set];apply Z;apply aA;refine aV fun _ _ Z=>?_;simp[hno,aK hno,List.set_set];apply Z;apply aB;simp [aJ,dX]
 simp at c1
theorem Zc(m:Nat)(id c:Int)(s:ByteArray)(σ:List (List D))(hown:Ct prog 217 [.ref m 0,D.int id,D.int 1,D.str ⟨#[]⟩] σ (fun r σ'=>r= .tup [.v (.pointer none),D.int c]∧σ'=σ))(hc:¬c=0):Ct prog 164 [.ref m 0,D.int id,D.str s] σ (fun r σ'=>r= .int c∧σ'=σ):=by
 refine zf (rs:=[.tmp 6]) func164 ntmps164 results164 ?_;simp only [aO];refine aV fun _ _ Z=>?_;simp;apply Z;refine aV fun _ _ Z=>?_;refine zs 2 fun _ Y=>?_;simp;apply Y;refine aD fun _ Y=>?_;simp;refine cD (hown) ?_;apply Y;simp;apply Z;apply aC;refine aV fun _ _ Z=>?_;simp;apply Z;refine zi ?_;refine⟨fun c1=>?_,fun c1=>?_⟩
 ·try simp at c1
  exact absurd c1 hc
 try simp at c1
 apply aE;apply aA;refine aV fun _ _ Z=>?_;simp;apply Z;apply aB;simp [aJ]
theorem aAm(m o:Nat)(id:Int)(n:ND)(s:ByteArray)(σ:List (List D))(hown:Ct prog 217 [.ref m 0,D.int id,D.int 1,D.str ⟨#[]⟩] σ (fun r σ'=>r= .tup [.ref o 0,D.int 0]∧σ'=σ))(hno:σ[o]?=some (dX n)):Ct prog 164 [.ref m 0,D.int id,D.str s] σ (fun r σ'=>r=D.int 0∧σ'=σ.set o (dX { n with text:=s })):=by
 refine zf (rs:=[.tmp 6]) func164 ntmps164 results164 ?_;simp only [aO];refine aV fun _ _ Z=>?_;simp[hno,aK hno,List.set_set];apply Z;refine aV fun _ _ Z=>?_;refine zs 2 fun _ Y=>?_;simp[hno,aK hno,List.set_set];apply Y;refine aD fun _ Y=>?_;simp[hno,aK hno,List.set_set];refine cD (hown) ?_;apply Y;simp[hno,aK hno,List.set_set];apply Z;apply aC;refine aV fun _ _ Z=>?_;simp[hno,aK hno,List.set_set];apply Z;refine zi ?_;refine⟨fun c1=>?_,fun c1=>?_⟩
 ·try simp at c1
  refine rH fun _ _ Z=>?_;simp[hno,aK hno,List.set_set];apply Z;apply aA;refine zk [6,8] ?_;refine aV fun _ _ Z=>?_;simp[hno,aK hno,List.set_set];apply Z;apply aB;simp [aJ,dX]
 simp at c1
theorem aCk(m:Nat)(id c:Int)(s:ByteArray)(v:ByteArray)(σ:List (List D))(hown:Ct prog 217 [.ref m 0,D.int id,D.int 2,D.str s] σ (fun r σ'=>r= .tup [.v (.pointer none),D.int c]∧σ'=σ))(hc:¬c=0):Ct prog 199 [.ref m 0,D.int id,D.str s,D.str v] σ (fun r σ'=>r= .int c∧σ'=σ):=by
 refine zf (rs:=[.tmp 8]) func199 ntmps199 results199 ?_;simp only [aO];refine aV fun _ _ Z=>?_;simp;apply Z;refine aV fun _ _ Z=>?_;refine zs 3 fun _ Y=>?_;simp;apply Y;refine aD fun _ Y=>?_;simp;refine cD (hown) ?_;apply Y;simp;apply Z;apply aC;refine aV fun _ _ Z=>?_;simp;apply Z;refine zi ?_;refine⟨fun c1=>?_,fun c1=>?_⟩
 ·try simp at c1
  exact absurd c1 hc
 try simp at c1
 apply aE;apply aA;refine zk [8,10] ?_;refine aV fun _ _ Z=>?_;simp;apply Z;apply aB;simp [aJ]
theorem Ye(m o:Nat)(id:Int)(n:ND)(s:ByteArray)(v:ByteArray)(σ:List (List D))(hown:Ct prog 217 [.ref m 0,D.int id,D.int 2,D.str s] σ (fun r σ'=>r= .tup [.ref o 0,D.int 0]∧σ'=σ))(hno:σ[o]?=some (dX n))(hl:n.attrs.length≤1000)(hs:cK nA n.attrs):Ct prog 199 [.ref m 0,D.int id,D.str s,D.str v] σ (fun r σ'=>r=D.int 0∧σ'=σ.set o (dX { n with attrs:=eZ nA n.attrs ⟨s,v⟩ })):=by
 refine zf (rs:=[.tmp 8]) func199 ntmps199 results199 ?_;simp only [aO];refine aV fun _ _ Z=>?_;simp[hno,aK hno,List.set_set];apply Z;refine aV fun _ _ Z=>?_;refine zs 3 fun _ Y=>?_;simp[hno,aK hno,List.set_set];apply Y;refine aD fun _ Y=>?_;simp[hno,aK hno,List.set_set];refine cD (hown) ?_;apply Y;simp[hno,aK hno,List.set_set];apply Z;apply aC;refine aV fun _ _ Z=>?_;simp[hno,aK hno,List.set_set];apply Z;refine zi ?_;refine⟨fun c1=>?_,fun c1=>?_⟩
 ·try simp at c1
  refine zk [2,3,8,9,10] ?_;refine rH fun _ _ Z=>?_;refine zs 7 fun _ Y=>?_;simp[hno,aK hno,List.set_set];apply Y;refine aD fun _ Y=>?_;simp[hno,aK hno,List.set_set];refine cD (aDg n.attrs s v _ (by omega) hs) ?_;apply Y;simp[hno,aK hno,List.set_set];apply Z;apply aA;refine zk [8,10] ?_;refine aV fun _ _ Z=>?_;simp[hno,aK hno,List.set_set];apply Z;apply aB;simp [aJ,dX]
 simp at c1
theorem aAx(m:Nat)(id c:Int)(s:ByteArray)(v:Int)(σ:List (List D))(hown:Ct prog 217 [.ref m 0,D.int id,D.int 2,D.str s] σ (fun r σ'=>r= .tup [.v (.pointer none),D.int c]∧σ'=σ))(hc:¬c=0):Ct prog 202 [.ref m 0,D.int id,D.str s,D.int v] σ (fun r σ'=>r= .int c∧σ'=σ):=by
 refine zf (rs:=[.tmp 8]) func202 ntmps202 results202 ?_;simp only [aO];refine aV fun _ _ Z=>?_;simp;apply Z;refine aV fun _ _ Z=>?_;refine zs 3 fun _ Y=>?_;simp;apply Y;refine aD fun _ Y=>?_;simp;refine cD (hown) ?_;apply Y;simp;apply Z;apply aC;refine aV fun _ _ Z=>?_;simp;apply Z;refine zi ?_;refine⟨fun c1=>?_,fun c1=>?_⟩
 ·try simp at c1
  exact absurd c1 hc
 try simp at c1
 apply aE;apply aA;refine zk [8,10] ?_;refine aV fun _ _ Z=>?_;simp;apply Z;apply aB;simp [aJ]
theorem aAq(m o:Nat)(id:Int)(n:ND)(s:ByteArray)(v:Int)(σ:List (List D))(hown:Ct prog 217 [.ref m 0,D.int id,D.int 2,D.str s] σ (fun r σ'=>r= .tup [.ref o 0,D.int 0]∧σ'=σ))(hno:σ[o]?=some (dX n))(hl:n.styles.length≤1000)(hs:cK nP n.styles):Ct prog 202 [.ref m 0,D.int id,D.str s,D.int v] σ (fun r σ'=>r=D.int 0∧σ'=σ.set o (dX { n with styles:=eZ nP n.styles ⟨s,Gx v⟩ })):=by
 refine zf (rs:=[.tmp 8]) func202 ntmps202 results202 ?_;simp only [aO];refine aV fun _ _ Z=>?_;simp[hno,aK hno,List.set_set];apply Z;refine aV fun _ _ Z=>?_;refine zs 3 fun _ Y=>?_;simp[hno,aK hno,List.set_set];apply Y;refine aD fun _ Y=>?_;simp[hno,aK hno,List.set_set];refine cD (hown) ?_;apply Y;simp[hno,aK hno,List.set_set];apply Z;apply aC;refine aV fun _ _ Z=>?_;simp[hno,aK hno,List.set_set];apply Z;refine zi ?_;refine⟨fun c1=>?_,fun c1=>?_⟩
 ·try simp at c1
  refine zk [2,3,8,9,10] ?_;refine ze ⟨[],[],[],[],[]⟩ [.op {},.op {},.op {},.op {},.op {rO:=true},.op {},.op {},.pure,.pure,.op {},.op {},.op {rO:=true,wO:=true}] fun all hall _ Z=>?_;refine dJ 7 fun _ Y=>?_;simp[hno,aK hno,List.set_set];apply Y;refine cG fun _ Y=>?_;simp[hno,aK hno,List.set_set];refine Cr (fun _=>(aG0 v _)) ?_;apply Y;refine cG fun _ Y=>?_;simp[hno,aK hno,List.set_set];refine Cr (fun _=>(aD4 n.styles s (Gx v) _ (by omega) hs)) ?_;apply Y;simp[hno,aK hno,List.set_set];apply Z;apply aA;refine zk [8,10] ?_;refine aV fun _ _ Z=>?_;simp[hno,aK hno,List.set_set];apply Z;apply aB;simp [aJ,dX]
 simp at c1
theorem aEm(l:Ls)(c:ByteArray)(σ:List (List D))(hl:l.length≤1000000):Ct prog 186 [dl l,D.str c] σ (fun r σ'=>r=dl (Ri l c)∧σ'=σ):=
 (aHe l c σ hl).strip fun r σ' ⟨hr,hs⟩=>⟨by rw [hr];rfl,by rw [hr];rfl,hs⟩
theorem aBq(m:Nat)(id c:Int)(s:ByteArray)(σ:List (List D))(hown:Ct prog 217 [.ref m 0,D.int id,D.int 2,D.str s] σ (fun r σ'=>r= .tup [.v (.pointer none),D.int c]∧σ'=σ))(hc:¬c=0):Ct prog 200 [.ref m 0,D.int id,D.str s] σ (fun r σ'=>r= .int c∧σ'=σ):=by
 refine zf (rs:=[.tmp 6]) func200 ntmps200 results200 ?_;simp only [aO];refine aV fun _ _ Z=>?_;simp;apply Z;refine aV fun _ _ Z=>?_;refine zs 3 fun _ Y=>?_;simp;apply Y;refine aD fun _ Y=>?_;simp;refine cD (hown) ?_;apply Y;simp;apply Z;apply aC;refine aV fun _ _ Z=>?_;simp;apply Z;refine zi ?_;refine⟨fun c1=>?_,fun c1=>?_⟩
 ·try simp at c1
  refine zk [2,6,7,8] ?_;refine aV fun _ _ Z=>?_;simp;apply Z;apply aB;apply aI;simp [aJ]
 try simp at c1
 exact absurd c1 hc
theorem aCa(m o:Nat)(id:Int)(n:ND)(s:ByteArray)(σ:List (List D))(hown:Ct prog 217 [.ref m 0,D.int id,D.int 2,D.str s] σ (fun r σ'=>r= .tup [.ref o 0,D.int 0]∧σ'=σ))(hno:σ[o]?=some (dX n))(hl:n.attrs.length≤1000)(hs:cK nA n.attrs)(hbad:mU nA n.attrs s=false):Ct prog 200 [.ref m 0,D.int id,D.str s] σ (fun r σ'=>r= .int 1∧σ'=σ):=by
 refine zf (rs:=[.tmp 6]) func200 ntmps200 results200 ?_;simp only [aO];refine aV fun _ _ Z=>?_;simp[hno,aK hno,List.set_set];apply Z;refine aV fun _ _ Z=>?_;refine zs 3 fun _ Y=>?_;simp[hno,aK hno,List.set_set];apply Y;refine aD fun _ Y=>?_;simp[hno,aK hno,List.set_set];refine cD (hown) ?_;apply Y;simp[hno,aK hno,List.set_set];apply Z;apply aC;refine aV fun _ _ Z=>?_;simp[hno,aK hno,List.set_set];apply Z;refine zi ?_;refine⟨fun c1=>?_,fun c1=>?_⟩
 ·simp at c1
 try simp at c1
 apply aE;apply aA;apply aC;refine zk [2,6,7] ?_;refine aV fun _ _ Z=>?_;refine zs 5 fun _ Y=>?_;simp[hno,aK hno,List.set_set];apply Y;refine aD fun _ Y=>?_;simp[hno,aK hno,List.set_set];refine zcm (Om n.attrs s _ (by omega) hs) ?_;rintro _ _ ⟨⟨gv,hr9⟩,hs9⟩;subst hr9;replace hs9:=hs9.symm;subst hs9;apply Y;simp[hno,aK hno,List.set_set];apply Z;refine zk [2,6,7,10] ?_;refine aV fun _ _ Z=>?_;simp[hno,aK hno,List.set_set];apply Z;refine zi ?_;refine⟨fun c2=>?_,fun c2=>?_⟩
 ·try simp at c2
  refine aV fun _ _ Z=>?_;simp[hno,aK hno,List.set_set];apply Z;apply aB;apply aI;simp [aJ]
 try simp at c2
 rw [hbad] at c2;cases c2
theorem aB9(m o:Nat)(id:Int)(n:ND)(s:ByteArray)(σ:List (List D))(hown:Ct prog 217 [.ref m 0,D.int id,D.int 2,D.str s] σ (fun r σ'=>r= .tup [.ref o 0,D.int 0]∧σ'=σ))(hno:σ[o]?=some (dX n))(hl:n.attrs.length≤1000)(hs:cK nA n.attrs)(hgood:mU nA n.attrs s=true):Ct prog 200 [.ref m 0,D.int id,D.str s] σ (fun r σ'=>r=D.int 0∧σ'=σ.set o (dX { n with attrs:=jA nA n.attrs s })):=by
 refine zf (rs:=[.tmp 6]) func200 ntmps200 results200 ?_;simp only [aO];refine aV fun _ _ Z=>?_;simp[hno,aK hno,List.set_set];apply Z;refine aV fun _ _ Z=>?_;refine zs 3 fun _ Y=>?_;simp[hno,aK hno,List.set_set];apply Y;refine aD fun _ Y=>?_;simp[hno,aK hno,List.set_set];refine cD (hown) ?_;apply Y;simp[hno,aK hno,List.set_set];apply Z;apply aC;refine aV fun _ _ Z=>?_;simp[hno,aK hno,List.set_set];apply Z;refine zi ?_;refine⟨fun c1=>?_,fun c1=>?_⟩
 ·simp at c1
 try simp at c1
 apply aE;apply aA;apply aC;refine zk [2,6,7] ?_;refine aV fun _ _ Z=>?_;refine zs 5 fun _ Y=>?_;simp[hno,aK hno,List.set_set];apply Y;refine aD fun _ Y=>?_;simp[hno,aK hno,List.set_set];refine zcm (Om n.attrs s _ (by omega) hs) ?_;rintro _ _ ⟨⟨gv,hr9⟩,hs9⟩;subst hr9;replace hs9:=hs9.symm;subst hs9;apply Y;simp[hno,aK hno,List.set_set];apply Z;refine zk [2,6,7,10] ?_;refine aV fun _ _ Z=>?_;simp[hno,aK hno,List.set_set];apply Z;refine zi ?_;refine⟨fun c2=>?_,fun c2=>?_⟩
 ·try simp at c2
  rw [hgood] at c2;cases c2
 try simp at c2
 apply aE;apply aA;refine aV fun _ _ Z=>?_;refine zs 6 fun _ Y=>?_;simp[hno,aK hno,List.set_set];apply Y;refine aD fun _ Y=>?_;simp[hno,aK hno,List.set_set];refine cD (Xk n.attrs s _ (by omega) hs) ?_;apply Y;simp[hno,aK hno,List.set_set];apply Z;refine zk [6] ?_;refine aV fun _ _ Z=>?_;simp[hno,aK hno,List.set_set];apply Z;apply aB;simp [aJ,dX]
theorem aAt(m:Nat)(id c:Int)(s:ByteArray)(σ:List (List D))(hown:Ct prog 217 [.ref m 0,D.int id,D.int 2,D.str s] σ (fun r σ'=>r= .tup [.v (.pointer none),D.int c]∧σ'=σ))(hc:¬c=0):Ct prog 203 [.ref m 0,D.int id,D.str s] σ (fun r σ'=>r= .int c∧σ'=σ):=by
 refine zf (rs:=[.tmp 6]) func203 ntmps203 results203 ?_;simp only [aO];refine aV fun _ _ Z=>?_;simp;apply Z;refine aV fun _ _ Z=>?_;refine zs 3 fun _ Y=>?_;simp;apply Y;refine aD fun _ Y=>?_;simp;refine cD (hown) ?_;apply Y;simp;apply Z;apply aC;refine aV fun _ _ Z=>?_;simp;apply Z;refine zi ?_;refine⟨fun c1=>?_,fun c1=>?_⟩
 ·try simp at c1
  refine zk [2,6,7,8] ?_;refine aV fun _ _ Z=>?_;simp;apply Z;apply aB;apply aI;simp [aJ]
 try simp at c1
 exact absurd c1 hc
theorem aCh(m o:Nat)(id:Int)(n:ND)(s:ByteArray)(σ:List (List D))(hown:Ct prog 217 [.ref m 0,D.int id,D.int 2,D.str s] σ (fun r σ'=>r= .tup [.ref o 0,D.int 0]∧σ'=σ))(hno:σ[o]?=some (dX n))(hl:n.styles.length≤1000)(hs:cK nP n.styles)(hbad:mU nP n.styles s=false):Ct prog 203 [.ref m 0,D.int id,D.str s] σ (fun r σ'=>r= .int 1∧σ'=σ):=by
 refine zf (rs:=[.tmp 6]) func203 ntmps203 results203 ?_;simp only [aO];refine aV fun _ _ Z=>?_;simp[hno,aK hno,List.set_set];apply Z;refine aV fun _ _ Z=>?_;refine zs 3 fun _ Y=>?_;simp[hno,aK hno,List.set_set];apply Y;refine aD fun _ Y=>?_;simp[hno,aK hno,List.set_set];refine cD (hown) ?_;apply Y;simp[hno,aK hno,List.set_set];apply Z;apply aC;refine aV fun _ _ Z=>?_;simp[hno,aK hno,List.set_set];apply Z;refine zi ?_;refine⟨fun c1=>?_,fun c1=>?_⟩
 ·simp at c1
 try simp at c1
 apply aE;apply aA;apply aC;refine zk [2,6,7] ?_;refine aV fun _ _ Z=>?_;refine zs 5 fun _ Y=>?_;simp[hno,aK hno,List.set_set];apply Y;refine aD fun _ Y=>?_;simp[hno,aK hno,List.set_set];refine zcm (Pn n.styles s _ (by omega) hs) ?_;rintro _ _ ⟨⟨gv,hr9⟩,hs9⟩;subst hr9;replace hs9:=hs9.symm;subst hs9;apply Y;simp[hno,aK hno,List.set_set];apply Z;refine zk [2,6,7,10] ?_;refine aV fun _ _ Z=>?_;simp[hno,aK hno,List.set_set];apply Z;refine zi ?_;refine⟨fun c2=>?_,fun c2=>?_⟩
 ·try simp at c2
  refine aV fun _ _ Z=>?_;simp[hno,aK hno,List.set_set];apply Z;apply aB;apply aI;simp [aJ]
 try simp at c2
 rw [hbad] at c2;cases c2
theorem Ym(m o:Nat)(id:Int)(n:ND)(s:ByteArray)(σ:List (List D))(hown:Ct prog 217 [.ref m 0,D.int id,D.int 2,D.str s] σ (fun r σ'=>r= .tup [.ref o 0,D.int 0]∧σ'=σ))(hno:σ[o]?=some (dX n))(hl:n.styles.length≤1000)(hs:cK nP n.styles)(hgood:mU nP n.styles s=true):Ct prog 203 [.ref m 0,D.int id,D.str s] σ (fun r σ'=>r=D.int 0∧σ'=σ.set o (dX { n with styles:=jA nP n.styles s })):=by
 refine zf (rs:=[.tmp 6]) func203 ntmps203 results203 ?_;simp only [aO];refine aV fun _ _ Z=>?_;simp[hno,aK hno,List.set_set];apply Z;refine aV fun _ _ Z=>?_;refine zs 3 fun _ Y=>?_;simp[hno,aK hno,List.set_set];apply Y;refine aD fun _ Y=>?_;simp[hno,aK hno,List.set_set];refine cD (hown) ?_;apply Y;simp[hno,aK hno,List.set_set];apply Z;apply aC;refine aV fun _ _ Z=>?_;simp[hno,aK hno,List.set_set];apply Z;refine zi ?_;refine⟨fun c1=>?_,fun c1=>?_⟩
 ·simp at c1
 try simp at c1
 apply aE;apply aA;apply aC;refine zk [2,6,7] ?_;refine aV fun _ _ Z=>?_;refine zs 5 fun _ Y=>?_;simp[hno,aK hno,List.set_set];apply Y;refine aD fun _ Y=>?_;simp[hno,aK hno,List.set_set];refine zcm (Pn n.styles s _ (by omega) hs) ?_;rintro _ _ ⟨⟨gv,hr9⟩,hs9⟩;subst hr9;replace hs9:=hs9.symm;subst hs9;apply Y;simp[hno,aK hno,List.set_set];apply Z;refine zk [2,6,7,10] ?_;refine aV fun _ _ Z=>?_;simp[hno,aK hno,List.set_set];apply Z;refine zi ?_;refine⟨fun c2=>?_,fun c2=>?_⟩
 ·try simp at c2
  rw [hgood] at c2;cases c2
 try simp at c2
 apply aE;apply aA;refine aV fun _ _ Z=>?_;refine zs 6 fun _ Y=>?_;simp[hno,aK hno,List.set_set];apply Y;refine aD fun _ Y=>?_;simp[hno,aK hno,List.set_set];refine cD (Yy n.styles s _ (by omega) hs) ?_;apply Y;simp[hno,aK hno,List.set_set];apply Z;refine zk [6] ?_;refine aV fun _ _ Z=>?_;simp[hno,aK hno,List.set_set];apply Z;apply aB;simp [aJ,dX]
theorem aBm(m:Nat)(id c:Int)(s:ByteArray)(σ:List (List D))(hown:Ct prog 217 [.ref m 0,D.int id,D.int 2,D.str s] σ (fun r σ'=>r= .tup [.v (.pointer none),D.int c]∧σ'=σ))(hc:¬c=0):Ct prog 197 [.ref m 0,D.int id,D.str s] σ (fun r σ'=>r= .int c∧σ'=σ):=by
 refine zf (rs:=[.tmp 6]) func197 ntmps197 results197 ?_;simp only [aO];refine aV fun _ _ Z=>?_;simp;apply Z;refine aV fun _ _ Z=>?_;refine zs 3 fun _ Y=>?_;simp;apply Y;refine aD fun _ Y=>?_;simp;refine cD (hown) ?_;apply Y;simp;apply Z;apply aC;apply aH;refine aV fun _ _ Z=>?_;simp;apply Z;refine zi ?_;refine⟨fun c1=>?_,fun c1=>?_⟩
 ·try simp at c1
  refine zk [2,6,7,8] ?_;refine aV fun _ _ Z=>?_;simp;apply Z;apply aB;apply aQ;apply aI;simp [aJ]
 try simp at c1
 exact absurd c1 hc
theorem aBy(m o:Nat)(id:Int)(n:ND)(s:ByteArray)(σ:List (List D))(hown:Ct prog 217 [.ref m 0,D.int id,D.int 2,D.str s] σ (fun r σ'=>r= .tup [.ref o 0,D.int 0]∧σ'=σ))(hno:σ[o]?=some (dX n))(hl:n.classes.length≤1000)(hbad:sQ s n.classes=true):Ct prog 197 [.ref m 0,D.int id,D.str s] σ (fun r σ'=>r= .int 1∧σ'=σ):=by
 refine zf (rs:=[.tmp 6]) func197 ntmps197 results197 ?_;simp only [aO];refine aV fun _ _ Z=>?_;simp[hno,aK hno,List.set_set];apply Z;refine aV fun _ _ Z=>?_;refine zs 3 fun _ Y=>?_;simp[hno,aK hno,List.set_set];apply Y;refine aD fun _ Y=>?_;simp[hno,aK hno,List.set_set];refine cD (hown) ?_;apply Y;simp[hno,aK hno,List.set_set];apply Z;apply aC;apply aH;refine aV fun _ _ Z=>?_;simp[hno,aK hno,List.set_set];apply Z;refine zi ?_;refine⟨fun c1=>?_,fun c1=>?_⟩
 ·simp at c1
 try simp at c1
 refine zk [2,6,7] ?_;refine aV fun _ _ Z=>?_;refine zs 5 fun _ Y=>?_;simp[hno,aK hno,List.set_set];apply Y;refine aD fun _ Y=>?_;simp[hno,aK hno,List.set_set];refine cD (tV n.classes s _ (by omega)) ?_;apply Y;simp[hno,aK hno,List.set_set];apply Z;refine zi ?_;refine⟨fun c2=>?_,fun c2=>?_⟩
 ·try simp at c2
  refine aV fun _ _ Z=>?_;simp[hno,aK hno,List.set_set];apply Z;apply aB;apply aQ;apply aI;simp [aJ]
 try simp at c2
 rw [hbad] at c2;cases c2
theorem aAc(m o:Nat)(id:Int)(n:ND)(s:ByteArray)(σ:List (List D))(hown:Ct prog 217 [.ref m 0,D.int id,D.int 2,D.str s] σ (fun r σ'=>r= .tup [.ref o 0,D.int 0]∧σ'=σ))(hno:σ[o]?=some (dX n))(hl:n.classes.length≤1000)(hgood:sQ s n.classes=false):Ct prog 197 [.ref m 0,D.int id,D.str s] σ (fun r σ'=>r=D.int 0∧σ'=σ.set o (dX { n with classes:=n.classes++ [s] })):=by
 refine zf (rs:=[.tmp 6]) func197 ntmps197 results197 ?_;simp only [aO];refine aV fun _ _ Z=>?_;simp[hno,aK hno,List.set_set];apply Z;refine aV fun _ _ Z=>?_;refine zs 3 fun _ Y=>?_;simp[hno,aK hno,List.set_set];apply Y;refine aD fun _ Y=>?_;simp[hno,aK hno,List.set_set];refine cD (hown) ?_;apply Y;simp[hno,aK hno,List.set_set];apply Z;apply aC;apply aH;refine aV fun _ _ Z=>?_;simp[hno,aK hno,List.set_set];apply Z;refine zi ?_;refine⟨fun c1=>?_,fun c1=>?_⟩
 ·simp at c1
 try simp at c1
 refine zk [2,6,7] ?_;refine aV fun _ _ Z=>?_;refine zs 5 fun _ Y=>?_;simp[hno,aK hno,List.set_set];apply Y;refine aD fun _ Y=>?_;simp[hno,aK hno,List.set_set];refine cD (tV n.classes s _ (by omega)) ?_;apply Y;simp[hno,aK hno,List.set_set];apply Z;refine zi ?_;refine⟨fun c2=>?_,fun c2=>?_⟩
 ·try simp at c2
  rw [hgood] at c2;cases c2
 try simp at c2
 apply aE;apply aL;apply aA;refine aV fun _ _ Z=>?_;refine zs 6 fun _ Y=>?_;simp[hno,aK hno,List.set_set];apply Y;refine aD fun _ Y=>?_;simp[hno,aK hno,List.set_set];refine cD (aEm n.classes s _ (by omega)) ?_;rw [show Ri n.classes s=n.classes++ [s] from by unfold Ri;rw [hgood];rfl];apply Y;simp[hno,aK hno,List.set_set];apply Z;refine zk [6] ?_;refine aV fun _ _ Z=>?_;simp[hno,aK hno,List.set_set];apply Z;apply aB;simp [aJ,dX]
theorem Zx(m:Nat)(id c:Int)(s:ByteArray)(σ:List (List D))(hown:Ct prog 217 [.ref m 0,D.int id,D.int 2,D.str s] σ (fun r σ'=>r= .tup [.v (.pointer none),D.int c]∧σ'=σ))(hc:¬c=0):Ct prog 196 [.ref m 0,D.int id,D.str s] σ (fun r σ'=>r= .int c∧σ'=σ):=by
 refine zf (rs:=[.tmp 6]) func196 ntmps196 results196 ?_;simp only [aO];refine aV fun _ _ Z=>?_;simp;apply Z;refine aV fun _ _ Z=>?_;refine zs 3 fun _ Y=>?_;simp;apply Y;refine aD fun _ Y=>?_;simp;refine cD (hown) ?_;apply Y;simp;apply Z;apply aC;apply aH;refine aV fun _ _ Z=>?_;simp;apply Z;refine zi ?_;refine⟨fun c1=>?_,fun c1=>?_⟩
 ·try simp at c1
  refine zk [2,6,7,8] ?_;refine aV fun _ _ Z=>?_;simp;apply Z;apply aB;apply aQ;apply aI;simp [aJ]
 try simp at c1
 exact absurd c1 hc
theorem aC1(m o:Nat)(id:Int)(n:ND)(s:ByteArray)(σ:List (List D))(hown:Ct prog 217 [.ref m 0,D.int id,D.int 2,D.str s] σ (fun r σ'=>r= .tup [.ref o 0,D.int 0]∧σ'=σ))(hno:σ[o]?=some (dX n))(hl:n.classes.length≤1000)(hbad:sQ s n.classes=false):Ct prog 196 [.ref m 0,D.int id,D.str s] σ (fun r σ'=>r= .int 1∧σ'=σ):=by
 refine zf (rs:=[.tmp 6]) func196 ntmps196 results196 ?_;simp only [aO];refine aV fun _ _ Z=>?_;simp[hno,aK hno,List.set_set];apply Z;refine aV fun _ _ Z=>?_;refine zs 3 fun _ Y=>?_;simp[hno,aK hno,List.set_set];apply Y;refine aD fun _ Y=>?_;simp[hno,aK hno,List.set_set];refine cD (hown) ?_;apply Y;simp[hno,aK hno,List.set_set];apply Z;apply aC;apply aH;refine aV fun _ _ Z=>?_;simp[hno,aK hno,List.set_set];apply Z;refine zi ?_;refine⟨fun c1=>?_,fun c1=>?_⟩
 ·simp at c1
 try simp at c1
 refine zk [2,6,7] ?_;refine aV fun _ _ Z=>?_;refine zs 5 fun _ Y=>?_;simp[hno,aK hno,List.set_set];apply Y;refine aD fun _ Y=>?_;simp[hno,aK hno,List.set_set];refine cD (tV n.classes s _ (by omega)) ?_;apply Y;simp[hno,aK hno,List.set_set];apply Z;refine zi ?_;refine⟨fun c2=>?_,fun c2=>?_⟩
 ·try simp at c2
  refine aV fun _ _ Z=>?_;simp[hno,aK hno,List.set_set];apply Z;apply aB;apply aQ;apply aI;simp [aJ]
 try simp at c2
 rw [hbad] at c2;cases c2
theorem Ws(m o:Nat)(id:Int)(n:ND)(s:ByteArray)(σ:List (List D))(hown:Ct prog 217 [.ref m 0,D.int id,D.int 2,D.str s] σ (fun r σ'=>r= .tup [.ref o 0,D.int 0]∧σ'=σ))(hno:σ[o]?=some (dX n))(hl:n.classes.length≤1000)(hgood:sQ s n.classes=true):Ct prog 196 [.ref m 0,D.int id,D.str s] σ (fun r σ'=>r=D.int 0∧σ'=σ.set o (dX { n with classes:=lD n.classes s })):=by
 refine zf (rs:=[.tmp 6]) func196 ntmps196 results196 ?_;simp only [aO];refine aV fun _ _ Z=>?_;simp[hno,aK hno,List.set_set];apply Z;refine aV fun _ _ Z=>?_;refine zs 3 fun _ Y=>?_;simp[hno,aK hno,List.set_set];apply Y;refine aD fun _ Y=>?_;simp[hno,aK hno,List.set_set];refine cD (hown) ?_;apply Y;simp[hno,aK hno,List.set_set];apply Z;apply aC;apply aH;refine aV fun _ _ Z=>?_;simp[hno,aK hno,List.set_set];apply Z;refine zi ?_;refine⟨fun c1=>?_,fun c1=>?_⟩
 ·simp at c1
 try simp at c1
 refine zk [2,6,7] ?_;refine aV fun _ _ Z=>?_;refine zs 5 fun _ Y=>?_;simp[hno,aK hno,List.set_set];apply Y;refine aD fun _ Y=>?_;simp[hno,aK hno,List.set_set];refine cD (tV n.classes s _ (by omega)) ?_;apply Y;simp[hno,aK hno,List.set_set];apply Z;refine zi ?_;refine⟨fun c2=>?_,fun c2=>?_⟩
 ·try simp at c2
  rw [hgood] at c2;cases c2
 try simp at c2
 apply aE;apply aL;apply aA;refine aV fun _ _ Z=>?_;refine zs 6 fun _ Y=>?_;simp[hno,aK hno,List.set_set];apply Y;refine aD fun _ Y=>?_;simp[hno,aK hno,List.set_set];refine cD (aCl n.classes s _ (by omega)) ?_;apply Y;simp[hno,aK hno,List.set_set];apply Z;refine zk [6] ?_;refine aV fun _ _ Z=>?_;simp[hno,aK hno,List.set_set];apply Z;apply aB;simp [aJ,dX]
end Go.Proofs.YtbgfljpnhhdkoaaGreat
