import Derived.Test.YtbgfljpnhhdkoaaGreatWkAr14
open Go.Proofs.Tryz
namespace Go.Proofs.YtbgfljpnhhdkoaaGreat
open Go Go.Vm
set_option maxRecDepth 20000
set_option linter.all false
set_option maxHeartbeats 8000000
def nB(n:ND)(kind:Int)(name:ByteArray):Int:=if n.ID=0 then 1 else if ¬n.kind=kind then 14 else if kind=2∧fP name=false then 2 else 0
theorem Qq {n:ND} {kind:Int} {name:ByteArray} (h:nB n kind name=0):¬n.ID=0∧n.kind=kind∧(kind=2→fP name=true):=by
 unfold nB at h;split at h
 ·cases h
 split at h
 ·cases h
 split at h
 ·cases h
 rename_i h1 h2 h3;refine⟨h1,Classical.not_not.1 h2,fun hk=>?_⟩;cases hn:fP name with
 | true=>rfl
 | false=>exact absurd ⟨hk,hn⟩ h3
theorem aCt(m M:Nat)(d:DS)(id kind:Int)(name:ByteArray)(σ:List (List D))(ho:DO m M d σ)(hno:cZ d.l id=false):Ct prog 217 [.ref m 0,D.int id,D.int kind,D.str name] σ (fun r σ'=>r= .tup [.v (.pointer none),D.int 11]∧σ'=σ):=by
 refine zf (rs:=[.tmp 8,.tmp 9]) func217 ntmps217 results217 ?_;simp only [aN];have hq:=ho.hm;refine aW fun _ _ Z=>?_;simp[hq];apply Z;refine aW fun _ _ Z=>?_;refine zs 6 fun _ Y=>?_;simp[hq];refine⟨m,2,d.ck,_,.v (.pointer none),⟨⟨_,hq,rfl⟩,iF _,.inl (mV hno _)⟩,?_⟩;and_intros<;>(try omega);apply Y;simp[hq];apply Z;apply aB;apply aF;refine aW fun _ _ Z=>?_;simp[hq];apply Z;refine zi ?_;refine⟨fun c1=>?_,fun c1=>?_⟩
 ·try simp at c1
  refine zk [8,9,10] ?_;refine aW fun _ _ Z=>?_;simp[hq];apply Z;apply aC;apply aP;apply aI;simp [aK]
 simp at c1
theorem aFe(m M:Nat)(d:DS)(e:EN)(kind:Int)(name:ByteArray)(σ:List (List D))(ho:DO m M d σ)(he:e∈d.es)(hs:name.size≤1000)(hb:¬nB e.n kind name=0):Ct prog 217 [.ref m 0,D.int e.n.ID,D.int kind,D.str name] σ (fun r σ'=>r= .tup [.v (.pointer none),D.int (nB e.n kind name)]∧σ'=σ):=by
 refine zf (rs:=[.tmp 8,.tmp 9]) func217 ntmps217 results217 ?_;simp only [aN];have hq:=ho.hm;have hne:=ho.hn e he;refine aW fun _ _ Z=>?_;simp[hq,hne];apply Z;refine aW fun _ _ Z=>?_;refine zs 6 fun _ Y=>?_;simp[hq,hne];refine⟨m,2,d.ck,_,.ref e.o 0,⟨⟨_,hq,rfl⟩,iF _,.inr (eM he _)⟩,?_⟩;and_intros<;>(try omega);apply Y;simp[hq,hne];apply Z;apply aB;apply aF;refine aW fun _ _ Z=>?_;simp[hq,hne];apply Z;refine zi ?_;refine⟨fun c1=>?_,fun c1=>?_⟩
 ·simp at c1
 try simp at c1
 refine zk [1,2,3,8,9,10] ?_;refine aW fun _ _ Z=>?_;simp[hq,hne];apply Z;refine zi ?_;refine⟨fun c2=>?_,fun c2=>?_⟩
 ·try simp at c2
  refine aW fun _ _ Z=>?_;simp[hq,hne];apply Z;apply aC;apply aP;apply aI;simp [aK,nB, *]
 try simp at c2
 refine aW fun _ _ Z=>?_;simp[hq,hne];apply Z;refine zi ?_;refine⟨fun c3=>?_,fun c3=>?_⟩
 ·try simp at c3
  refine zk [8,9,10] ?_;refine aW fun _ _ Z=>?_;simp[hq,hne];apply Z;apply aC;apply aP;apply aI;simp [aK,nB, *]
 try simp at c3
 refine zk [2,3,8,9,10] ?_;refine kX ⟨[],[],[],[],[]⟩ fun all hall _ Z=>?_;have ga2:aO all 2=some 33:=hall 2;refine zs 3 fun _ Y=>?_;simp[hq,hne,ga2];apply Y;refine aS 33 (by simp <;> rfl) ?_;refine⟨fun g4=>?_,fun g4=>?_⟩
 ·try simp at g4
  refine zs 1 fun _ Y=>?_;simp[hq,hne,ga2];apply Y;refine zg ga2 fun _ Y=>?_;simp[hq,hne,ga2];refine bX (pV name _ (by omega)) ?_;apply Y;simp[hq,hne,ga2];apply Z;refine zi ?_;refine⟨fun c5=>?_,fun c5=>?_⟩
  ·try simp at c5
   refine zk [8,9,10] ?_;refine aW fun _ _ Z=>?_;simp[hq,hne];apply Z;apply aC;apply aP;apply aI;simp [aK,nB, *]
  try simp at c5
  exact absurd (by simp [nB,c2,c3,g4,c5]) hb
 try simp at g4
 exact absurd (by simp [nB,c2,c3,g4]) hb
theorem aF3(m M:Nat)(d:DS)(e:EN)(kind:Int)(name:ByteArray)(σ:List (List D))(ho:DO m M d σ)(he:e∈d.es)(hs:name.size≤1000)(hb:nB e.n kind name=0):Ct prog 217 [.ref m 0,D.int e.n.ID,D.int kind,D.str name] σ (fun r σ'=>r= .tup [.ref e.o 0,D.int 0]∧σ'=σ):=by
 refine zf (rs:=[.tmp 8,.tmp 9]) func217 ntmps217 results217 ?_;simp only [aN];have hq:=ho.hm;have hne:=ho.hn e he;obtain⟨o1,o2,o3⟩:=Qq hb;refine aW fun _ _ Z=>?_;simp[hq,hne];apply Z;refine aW fun _ _ Z=>?_;refine zs 6 fun _ Y=>?_;simp[hq,hne];refine⟨m,2,d.ck,_,.ref e.o 0,⟨⟨_,hq,rfl⟩,iF _,.inr (eM he _)⟩,?_⟩;and_intros<;>(try omega);apply Y;simp[hq,hne];apply Z;apply aB;apply aF;refine aW fun _ _ Z=>?_;simp[hq,hne];apply Z;refine zi ?_;refine⟨fun c1=>?_,fun c1=>?_⟩
 ·simp at c1
 try simp at c1
 refine zk [1,2,3,8,9,10] ?_;refine aW fun _ _ Z=>?_;simp[hq,hne];apply Z;refine zi ?_;refine⟨fun c2=>?_,fun c2=>?_⟩
 ·try simp at c2
  exact absurd c2 o1
 try simp at c2
 refine aW fun _ _ Z=>?_;simp[hq,hne];apply Z;refine zi ?_;refine⟨fun c3=>?_,fun c3=>?_⟩
 ·try simp at c3
  exact absurd o2 c3
 try simp at c3
 refine zk [2,3,8,9,10] ?_;refine kX ⟨[],[],[],[],[]⟩ fun all hall _ Z=>?_;have ga2:aO all 2=some 33:=hall 2;refine zs 3 fun _ Y=>?_;simp[hq,hne,ga2];apply Y;refine aS 33 (by simp <;> rfl) ?_;refine⟨fun g4=>?_,fun g4=>?_⟩
 ·try simp at g4
  refine zs 1 fun _ Y=>?_;simp[hq,hne,ga2];apply Y;refine zg ga2 fun _ Y=>?_;simp[hq,hne,ga2];refine bX (pV name _ (by omega)) ?_;apply Y;simp[hq,hne,ga2];apply Z;refine zi ?_;refine⟨fun c5=>?_,fun c5=>?_⟩
  ·try simp at c5
   rw [o3 g4] at c5;cases c5
  try simp at c5
  apply aD;apply aH;apply aA;refine zk [8,9,10] ?_;refine aW fun _ _ Z=>?_;simp[hq,hne];apply Z;apply aC;simp [aK]
 try simp at g4
 simp[hq,hne,ga2];apply Z;refine bD (t:=false) (by simp) (fun h=>by cases h) (fun _=>?_);apply aD;apply aH;apply aA;refine zk [8,9,10] ?_;refine aW fun _ _ Z=>?_;simp[hq,hne];apply Z;apply aC;simp [aK]
theorem aCh(m:Nat)(id c:Int)(s:ByteArray)(σ:List (List D))(hown:Ct prog 217 [.ref m 0,D.int id,D.int 2,D.str s] σ (fun r σ'=>r= .tup [.v (.pointer none),D.int c]∧σ'=σ))(hc:¬c=0):Ct prog 163 [.ref m 0,D.int id,D.str s] σ (fun r σ'=>r= .int c∧σ'=σ):=by
 refine zf (rs:=[.tmp 6]) func163 ntmps163 results163 ?_;simp only [aN];refine aW fun _ _ Z=>?_;simp;apply Z;refine aW fun _ _ Z=>?_;refine zs 3 fun _ Y=>?_;simp;apply Y;refine aE fun _ Y=>?_;simp;refine bX (hown) ?_;apply Y;simp;apply Z;apply aB;refine aW fun _ _ Z=>?_;simp;apply Z;refine zi ?_;refine⟨fun c1=>?_,fun c1=>?_⟩
 ·try simp at c1
  exact absurd c1 hc
 try simp at c1
 apply aD;apply aA;refine zk [6,8] ?_;refine aW fun _ _ Z=>?_;simp;apply Z;apply aC;simp [aK]
theorem aCj(m o:Nat)(id:Int)(n:ND)(s:ByteArray)(σ:List (List D))(hown:Ct prog 217 [.ref m 0,D.int id,D.int 2,D.str s] σ (fun r σ'=>r= .tup [.ref o 0,D.int 0]∧σ'=σ))(hno:σ[o]?=some (dV n)):Ct prog 163 [.ref m 0,D.int id,D.str s] σ (fun r σ'=>r=D.int 0∧σ'=σ.set o (dV { n with tag:=s })):=by
 refine zf (rs:=[.tmp 6]) func163 ntmps163 results163 ?_;simp only [aN];refine aW fun _ _ Z=>?_;simp[hno,aL hno,List.set_set];apply Z;refine aW fun _ _ Z=>?_;refine zs 3 fun _ Y=>?_;simp[hno,aL hno,List.set_set];apply Y;refine aE fun _ Y=>?_;simp[hno,aL hno,List.set_set];refine bX (hown) ?_;apply Y;simp[hno,aL hno,List.set_set];apply Z;apply aB;refine aW fun _ _ Z=>?_;simp[hno,aL hno,List.set_set];apply Z;refine zi ?_;refine⟨fun c1=>?_,fun c1=>?_⟩
 ·try simp at c1
  refine zk [2,6,7,8] ?_;refine pP fun _ _ Z=>?_;simp[hno,aL hno,List.set_set];apply Z;apply aA;refine aW fun _ _ Z=>?_;simp[hno,aL hno,List.set_set];apply Z;apply aC;simp [aK,dV]
 simp at c1
theorem aBo(m:Nat)(id c:Int)(s:ByteArray)(σ:List (List D))(hown:Ct prog 217 [.ref m 0,D.int id,D.int 1,D.str ⟨#[]⟩] σ (fun r σ'=>r= .tup [.v (.pointer none),D.int c]∧σ'=σ))(hc:¬c=0):Ct prog 164 [.ref m 0,D.int id,D.str s] σ (fun r σ'=>r= .int c∧σ'=σ):=by
 refine zf (rs:=[.tmp 6]) func164 ntmps164 results164 ?_;simp only [aN];refine aW fun _ _ Z=>?_;simp;apply Z;refine aW fun _ _ Z=>?_;refine zs 2 fun _ Y=>?_;simp;apply Y;refine aE fun _ Y=>?_;simp;refine bX (hown) ?_;apply Y;simp;apply Z;apply aB;refine aW fun _ _ Z=>?_;simp;apply Z;refine zi ?_;refine⟨fun c1=>?_,fun c1=>?_⟩
 ·try simp at c1
  exact absurd c1 hc
 try simp at c1
 apply aD;apply aA;refine aW fun _ _ Z=>?_;simp;apply Z;apply aC;simp [aK]
theorem aBh(m o:Nat)(id:Int)(n:ND)(s:ByteArray)(σ:List (List D))(hown:Ct prog 217 [.ref m 0,D.int id,D.int 1,D.str ⟨#[]⟩] σ (fun r σ'=>r= .tup [.ref o 0,D.int 0]∧σ'=σ))(hno:σ[o]?=some (dV n)):Ct prog 164 [.ref m 0,D.int id,D.str s] σ (fun r σ'=>r=D.int 0∧σ'=σ.set o (dV { n with text:=s })):=by
 refine zf (rs:=[.tmp 6]) func164 ntmps164 results164 ?_;simp only [aN];refine aW fun _ _ Z=>?_;simp[hno,aL hno,List.set_set];apply Z;refine aW fun _ _ Z=>?_;refine zs 2 fun _ Y=>?_;simp[hno,aL hno,List.set_set];apply Y;refine aE fun _ Y=>?_;simp[hno,aL hno,List.set_set];refine bX (hown) ?_;apply Y;simp[hno,aL hno,List.set_set];apply Z;apply aB;refine aW fun _ _ Z=>?_;simp[hno,aL hno,List.set_set];apply Z;refine zi ?_;refine⟨fun c1=>?_,fun c1=>?_⟩
 ·try simp at c1
  refine pP fun _ _ Z=>?_;simp[hno,aL hno,List.set_set];apply Z;apply aA;refine zk [6,8] ?_;refine aW fun _ _ Z=>?_;simp[hno,aL hno,List.set_set];apply Z;apply aC;simp [aK,dV]
 simp at c1
theorem Xv(m:Nat)(id c:Int)(s:ByteArray)(v:ByteArray)(σ:List (List D))(hown:Ct prog 217 [.ref m 0,D.int id,D.int 2,D.str s] σ (fun r σ'=>r= .tup [.v (.pointer none),D.int c]∧σ'=σ))(hc:¬c=0):Ct prog 199 [.ref m 0,D.int id,D.str s,D.str v] σ (fun r σ'=>r= .int c∧σ'=σ):=by
 refine zf (rs:=[.tmp 8]) func199 ntmps199 results199 ?_;simp only [aN];refine aW fun _ _ Z=>?_;simp;apply Z;refine aW fun _ _ Z=>?_;refine zs 3 fun _ Y=>?_;simp;apply Y;refine aE fun _ Y=>?_;simp;refine bX (hown) ?_;apply Y;simp;apply Z;apply aB;refine aW fun _ _ Z=>?_;simp;apply Z;refine zi ?_;refine⟨fun c1=>?_,fun c1=>?_⟩
 ·try simp at c1
  exact absurd c1 hc
 try simp at c1
 apply aD;apply aA;refine zk [8,10] ?_;refine aW fun _ _ Z=>?_;simp;apply Z;apply aC;simp [aK]
theorem Xi(m o:Nat)(id:Int)(n:ND)(s:ByteArray)(v:ByteArray)(σ:List (List D))(hown:Ct prog 217 [.ref m 0,D.int id,D.int 2,D.str s] σ (fun r σ'=>r= .tup [.ref o 0,D.int 0]∧σ'=σ))(hno:σ[o]?=some (dV n))(hl:n.attrs.length≤1000)(hs:cG nA n.attrs):Ct prog 199 [.ref m 0,D.int id,D.str s,D.str v] σ (fun r σ'=>r=D.int 0∧σ'=σ.set o (dV { n with attrs:=fC nA n.attrs ⟨s,v⟩ })):=by
 refine zf (rs:=[.tmp 8]) func199 ntmps199 results199 ?_;simp only [aN];refine aW fun _ _ Z=>?_;simp[hno,aL hno,List.set_set];apply Z;refine aW fun _ _ Z=>?_;refine zs 3 fun _ Y=>?_;simp[hno,aL hno,List.set_set];apply Y;refine aE fun _ Y=>?_;simp[hno,aL hno,List.set_set];refine bX (hown) ?_;apply Y;simp[hno,aL hno,List.set_set];apply Z;apply aB;refine aW fun _ _ Z=>?_;simp[hno,aL hno,List.set_set];apply Z;refine zi ?_;refine⟨fun c1=>?_,fun c1=>?_⟩
 ·try simp at c1
  refine zk [2,3,8,9,10] ?_;refine pP fun _ _ Z=>?_;refine zs 7 fun _ Y=>?_;simp[hno,aL hno,List.set_set];apply Y;refine aE fun _ Y=>?_;simp[hno,aL hno,List.set_set];refine bX (aE4 n.attrs s v _ (by omega) hs) ?_;apply Y;simp[hno,aL hno,List.set_set];apply Z;apply aA;refine zk [8,10] ?_;refine aW fun _ _ Z=>?_;simp[hno,aL hno,List.set_set];apply Z;apply aC;simp [aK,dV]
 simp at c1
theorem aAy(m:Nat)(id c:Int)(s:ByteArray)(v:Int)(σ:List (List D))(hown:Ct prog 217 [.ref m 0,D.int id,D.int 2,D.str s] σ (fun r σ'=>r= .tup [.v (.pointer none),D.int c]∧σ'=σ))(hc:¬c=0):Ct prog 202 [.ref m 0,D.int id,D.str s,D.int v] σ (fun r σ'=>r= .int c∧σ'=σ):=by
 refine zf (rs:=[.tmp 8]) func202 ntmps202 results202 ?_;simp only [aN];refine aW fun _ _ Z=>?_;simp;apply Z;refine aW fun _ _ Z=>?_;refine zs 3 fun _ Y=>?_;simp;apply Y;refine aE fun _ Y=>?_;simp;refine bX (hown) ?_;apply Y;simp;apply Z;apply aB;refine aW fun _ _ Z=>?_;simp;apply Z;refine zi ?_;refine⟨fun c1=>?_,fun c1=>?_⟩
 ·try simp at c1
  exact absurd c1 hc
 try simp at c1
 apply aD;apply aA;refine zk [8,10] ?_;refine aW fun _ _ Z=>?_;simp;apply Z;apply aC;simp [aK]
theorem aA4(m o:Nat)(id:Int)(n:ND)(s:ByteArray)(v:Int)(σ:List (List D))(hown:Ct prog 217 [.ref m 0,D.int id,D.int 2,D.str s] σ (fun r σ'=>r= .tup [.ref o 0,D.int 0]∧σ'=σ))(hno:σ[o]?=some (dV n))(hl:n.styles.length≤1000)(hs:cG nP n.styles):Ct prog 202 [.ref m 0,D.int id,D.str s,D.int v] σ (fun r σ'=>r=D.int 0∧σ'=σ.set o (dV { n with styles:=fC nP n.styles ⟨s,Hs v⟩ })):=by
 refine zf (rs:=[.tmp 8]) func202 ntmps202 results202 ?_;simp only [aN];refine aW fun _ _ Z=>?_;simp[hno,aL hno,List.set_set];apply Z;refine aW fun _ _ Z=>?_;refine zs 3 fun _ Y=>?_;simp[hno,aL hno,List.set_set];apply Y;refine aE fun _ Y=>?_;simp[hno,aL hno,List.set_set];refine bX (hown) ?_;apply Y;simp[hno,aL hno,List.set_set];apply Z;apply aB;refine aW fun _ _ Z=>?_;simp[hno,aL hno,List.set_set];apply Z;refine zi ?_;refine⟨fun c1=>?_,fun c1=>?_⟩
 ·try simp at c1
  refine zk [2,3,8,9,10] ?_;refine ze ⟨[],[],[],[],[]⟩ [.op {},.op {},.op {},.op {},.op {rO:=true},.op {},.op {},.pure,.pure,.op {},.op {},.op {rO:=true,wO:=true}] fun all hall _ Z=>?_;refine eR 7 fun _ Y=>?_;simp[hno,aL hno,List.set_set];apply Y;refine dI fun _ Y=>?_;simp[hno,aL hno,List.set_set];refine Hp (fun _=>(aI6 v _)) ?_;apply Y;refine dI fun _ Y=>?_;simp[hno,aL hno,List.set_set];refine Hp (fun _=>(aD0 n.styles s (Hs v) _ (by omega) hs)) ?_;apply Y;simp[hno,aL hno,List.set_set];apply Z;apply aA;refine zk [8,10] ?_;refine aW fun _ _ Z=>?_;simp[hno,aL hno,List.set_set];apply Z;apply aC;simp [aK,dV]
 simp at c1
theorem aFw(l:Ls)(c:ByteArray)(σ:List (List D))(hl:l.length≤1000000):Ct prog 186 [dl l,D.str c] σ (fun r σ'=>r=dl (Uz l c)∧σ'=σ):=
 (aI8 l c σ hl).strip fun r σ' ⟨hr,hs⟩=>⟨by rw [hr];rfl,by rw [hr];rfl,hs⟩
theorem aBb(m:Nat)(id c:Int)(s:ByteArray)(σ:List (List D))(hown:Ct prog 217 [.ref m 0,D.int id,D.int 2,D.str s] σ (fun r σ'=>r= .tup [.v (.pointer none),D.int c]∧σ'=σ))(hc:¬c=0):Ct prog 200 [.ref m 0,D.int id,D.str s] σ (fun r σ'=>r= .int c∧σ'=σ):=by
 refine zf (rs:=[.tmp 6]) func200 ntmps200 results200 ?_;simp only [aN];refine aW fun _ _ Z=>?_;simp;apply Z;refine aW fun _ _ Z=>?_;refine zs 3 fun _ Y=>?_;simp;apply Y;refine aE fun _ Y=>?_;simp;refine bX (hown) ?_;apply Y;simp;apply Z;apply aB;refine aW fun _ _ Z=>?_;simp;apply Z;refine zi ?_;refine⟨fun c1=>?_,fun c1=>?_⟩
 ·try simp at c1
  refine zk [2,6,7,8] ?_;refine aW fun _ _ Z=>?_;simp;apply Z;apply aC;apply aI;simp [aK]
 try simp at c1
 exact absurd c1 hc
theorem aBp(m o:Nat)(id:Int)(n:ND)(s:ByteArray)(σ:List (List D))(hown:Ct prog 217 [.ref m 0,D.int id,D.int 2,D.str s] σ (fun r σ'=>r= .tup [.ref o 0,D.int 0]∧σ'=σ))(hno:σ[o]?=some (dV n))(hl:n.attrs.length≤1000)(hs:cG nA n.attrs)(hbad:mY nA n.attrs s=false):Ct prog 200 [.ref m 0,D.int id,D.str s] σ (fun r σ'=>r= .int 1∧σ'=σ):=by
 refine zf (rs:=[.tmp 6]) func200 ntmps200 results200 ?_;simp only [aN];refine aW fun _ _ Z=>?_;simp[hno,aL hno,List.set_set];apply Z;refine aW fun _ _ Z=>?_;refine zs 3 fun _ Y=>?_;simp[hno,aL hno,List.set_set];apply Y;refine aE fun _ Y=>?_;simp[hno,aL hno,List.set_set];refine bX (hown) ?_;apply Y;simp[hno,aL hno,List.set_set];apply Z;apply aB;refine aW fun _ _ Z=>?_;simp[hno,aL hno,List.set_set];apply Z;refine zi ?_;refine⟨fun c1=>?_,fun c1=>?_⟩
 ·simp at c1
 try simp at c1
 apply aD;apply aA;apply aB;refine zk [2,6,7] ?_;refine aW fun _ _ Z=>?_;refine zs 5 fun _ Y=>?_;simp[hno,aL hno,List.set_set];apply Y;refine aE fun _ Y=>?_;simp[hno,aL hno,List.set_set];refine Vo (Pq n.attrs s _ (by omega) hs) ?_;rintro _ _ ⟨⟨gv,hr9⟩,hs9⟩;subst hr9;replace hs9:=hs9.symm;subst hs9;apply Y;simp[hno,aL hno,List.set_set];apply Z;refine zk [2,6,7,10] ?_;refine aW fun _ _ Z=>?_;simp[hno,aL hno,List.set_set];apply Z;refine zi ?_;refine⟨fun c2=>?_,fun c2=>?_⟩
 ·try simp at c2
  refine aW fun _ _ Z=>?_;simp[hno,aL hno,List.set_set];apply Z;apply aC;apply aI;simp [aK]
 try simp at c2
 rw [hbad] at c2;cases c2
theorem aDf(m o:Nat)(id:Int)(n:ND)(s:ByteArray)(σ:List (List D))(hown:Ct prog 217 [.ref m 0,D.int id,D.int 2,D.str s] σ (fun r σ'=>r= .tup [.ref o 0,D.int 0]∧σ'=σ))(hno:σ[o]?=some (dV n))(hl:n.attrs.length≤1000)(hs:cG nA n.attrs)(hgood:mY nA n.attrs s=true):Ct prog 200 [.ref m 0,D.int id,D.str s] σ (fun r σ'=>r=D.int 0∧σ'=σ.set o (dV { n with attrs:=jF nA n.attrs s })):=by
 refine zf (rs:=[.tmp 6]) func200 ntmps200 results200 ?_;simp only [aN];refine aW fun _ _ Z=>?_;simp[hno,aL hno,List.set_set];apply Z;refine aW fun _ _ Z=>?_;refine zs 3 fun _ Y=>?_;simp[hno,aL hno,List.set_set];apply Y;refine aE fun _ Y=>?_;simp[hno,aL hno,List.set_set];refine bX (hown) ?_;apply Y;simp[hno,aL hno,List.set_set];apply Z;apply aB;refine aW fun _ _ Z=>?_;simp[hno,aL hno,List.set_set];apply Z;refine zi ?_;refine⟨fun c1=>?_,fun c1=>?_⟩
 ·simp at c1
 try simp at c1
 apply aD;apply aA;apply aB;refine zk [2,6,7] ?_;refine aW fun _ _ Z=>?_;refine zs 5 fun _ Y=>?_;simp[hno,aL hno,List.set_set];apply Y;refine aE fun _ Y=>?_;simp[hno,aL hno,List.set_set];refine Vo (Pq n.attrs s _ (by omega) hs) ?_;rintro _ _ ⟨⟨gv,hr9⟩,hs9⟩;subst hr9;replace hs9:=hs9.symm;subst hs9;apply Y;simp[hno,aL hno,List.set_set];apply Z;refine zk [2,6,7,10] ?_;refine aW fun _ _ Z=>?_;simp[hno,aL hno,List.set_set];apply Z;refine zi ?_;refine⟨fun c2=>?_,fun c2=>?_⟩
 ·try simp at c2
  rw [hgood] at c2;cases c2
 try simp at c2
 apply aD;apply aA;refine aW fun _ _ Z=>?_;refine zs 6 fun _ Y=>?_;simp[hno,aL hno,List.set_set];apply Y;refine aE fun _ Y=>?_;simp[hno,aL hno,List.set_set];refine bX (aA6 n.attrs s _ (by omega) hs) ?_;apply Y;simp[hno,aL hno,List.set_set];apply Z;refine zk [6] ?_;refine aW fun _ _ Z=>?_;simp[hno,aL hno,List.set_set];apply Z;apply aC;simp [aK,dV]
theorem aAc(m:Nat)(id c:Int)(s:ByteArray)(σ:List (List D))(hown:Ct prog 217 [.ref m 0,D.int id,D.int 2,D.str s] σ (fun r σ'=>r= .tup [.v (.pointer none),D.int c]∧σ'=σ))(hc:¬c=0):Ct prog 203 [.ref m 0,D.int id,D.str s] σ (fun r σ'=>r= .int c∧σ'=σ):=by
 refine zf (rs:=[.tmp 6]) func203 ntmps203 results203 ?_;simp only [aN];refine aW fun _ _ Z=>?_;simp;apply Z;refine aW fun _ _ Z=>?_;refine zs 3 fun _ Y=>?_;simp;apply Y;refine aE fun _ Y=>?_;simp;refine bX (hown) ?_;apply Y;simp;apply Z;apply aB;refine aW fun _ _ Z=>?_;simp;apply Z;refine zi ?_;refine⟨fun c1=>?_,fun c1=>?_⟩
 ·try simp at c1
  refine zk [2,6,7,8] ?_;refine aW fun _ _ Z=>?_;simp;apply Z;apply aC;apply aI;simp [aK]
 try simp at c1
 exact absurd c1 hc
theorem aAd(m o:Nat)(id:Int)(n:ND)(s:ByteArray)(σ:List (List D))(hown:Ct prog 217 [.ref m 0,D.int id,D.int 2,D.str s] σ (fun r σ'=>r= .tup [.ref o 0,D.int 0]∧σ'=σ))(hno:σ[o]?=some (dV n))(hl:n.styles.length≤1000)(hs:cG nP n.styles)(hbad:mY nP n.styles s=false):Ct prog 203 [.ref m 0,D.int id,D.str s] σ (fun r σ'=>r= .int 1∧σ'=σ):=by
 refine zf (rs:=[.tmp 6]) func203 ntmps203 results203 ?_;simp only [aN];refine aW fun _ _ Z=>?_;simp[hno,aL hno,List.set_set];apply Z;refine aW fun _ _ Z=>?_;refine zs 3 fun _ Y=>?_;simp[hno,aL hno,List.set_set];apply Y;refine aE fun _ Y=>?_;simp[hno,aL hno,List.set_set];refine bX (hown) ?_;apply Y;simp[hno,aL hno,List.set_set];apply Z;apply aB;refine aW fun _ _ Z=>?_;simp[hno,aL hno,List.set_set];apply Z;refine zi ?_;refine⟨fun c1=>?_,fun c1=>?_⟩
 ·simp at c1
 try simp at c1
 apply aD;apply aA;apply aB;refine zk [2,6,7] ?_;refine aW fun _ _ Z=>?_;refine zs 5 fun _ Y=>?_;simp[hno,aL hno,List.set_set];apply Y;refine aE fun _ Y=>?_;simp[hno,aL hno,List.set_set];refine Vo (Qw n.styles s _ (by omega) hs) ?_;rintro _ _ ⟨⟨gv,hr9⟩,hs9⟩;subst hr9;replace hs9:=hs9.symm;subst hs9;apply Y;simp[hno,aL hno,List.set_set];apply Z;refine zk [2,6,7,10] ?_;refine aW fun _ _ Z=>?_;simp[hno,aL hno,List.set_set];apply Z;refine zi ?_;refine⟨fun c2=>?_,fun c2=>?_⟩
 ·try simp at c2
  refine aW fun _ _ Z=>?_;simp[hno,aL hno,List.set_set];apply Z;apply aC;apply aI;simp [aK]
 try simp at c2
 rw [hbad] at c2;cases c2
theorem aA2(m o:Nat)(id:Int)(n:ND)(s:ByteArray)(σ:List (List D))(hown:Ct prog 217 [.ref m 0,D.int id,D.int 2,D.str s] σ (fun r σ'=>r= .tup [.ref o 0,D.int 0]∧σ'=σ))(hno:σ[o]?=some (dV n))(hl:n.styles.length≤1000)(hs:cG nP n.styles)(hgood:mY nP n.styles s=true):Ct prog 203 [.ref m 0,D.int id,D.str s] σ (fun r σ'=>r=D.int 0∧σ'=σ.set o (dV { n with styles:=jF nP n.styles s })):=by
 refine zf (rs:=[.tmp 6]) func203 ntmps203 results203 ?_;simp only [aN];refine aW fun _ _ Z=>?_;simp[hno,aL hno,List.set_set];apply Z;refine aW fun _ _ Z=>?_;refine zs 3 fun _ Y=>?_;simp[hno,aL hno,List.set_set];apply Y;refine aE fun _ Y=>?_;simp[hno,aL hno,List.set_set];refine bX (hown) ?_;apply Y;simp[hno,aL hno,List.set_set];apply Z;apply aB;refine aW fun _ _ Z=>?_;simp[hno,aL hno,List.set_set];apply Z;refine zi ?_;refine⟨fun c1=>?_,fun c1=>?_⟩
 ·simp at c1
 try simp at c1
 apply aD;apply aA;apply aB;refine zk [2,6,7] ?_;refine aW fun _ _ Z=>?_;refine zs 5 fun _ Y=>?_;simp[hno,aL hno,List.set_set];apply Y;refine aE fun _ Y=>?_;simp[hno,aL hno,List.set_set];refine Vo (Qw n.styles s _ (by omega) hs) ?_;rintro _ _ ⟨⟨gv,hr9⟩,hs9⟩;subst hr9;replace hs9:=hs9.symm;subst hs9;apply Y;simp[hno,aL hno,List.set_set];apply Z;refine zk [2,6,7,10] ?_;refine aW fun _ _ Z=>?_;simp[hno,aL hno,List.set_set];apply Z;refine zi ?_;refine⟨fun c2=>?_,fun c2=>?_⟩
 ·try simp at c2
  rw [hgood] at c2;cases c2
 try simp at c2
 apply aD;apply aA;refine aW fun _ _ Z=>?_;refine zs 6 fun _ Y=>?_;simp[hno,aL hno,List.set_set];apply Y;refine aE fun _ Y=>?_;simp[hno,aL hno,List.set_set];refine bX (Ys n.styles s _ (by omega) hs) ?_;apply Y;simp[hno,aL hno,List.set_set];apply Z;refine zk [6] ?_;refine aW fun _ _ Z=>?_;simp[hno,aL hno,List.set_set];apply Z;apply aC;simp [aK,dV]
theorem Zd(m:Nat)(id c:Int)(s:ByteArray)(σ:List (List D))(hown:Ct prog 217 [.ref m 0,D.int id,D.int 2,D.str s] σ (fun r σ'=>r= .tup [.v (.pointer none),D.int c]∧σ'=σ))(hc:¬c=0):Ct prog 197 [.ref m 0,D.int id,D.str s] σ (fun r σ'=>r= .int c∧σ'=σ):=by
 refine zf (rs:=[.tmp 6]) func197 ntmps197 results197 ?_;simp only [aN];refine aW fun _ _ Z=>?_;simp;apply Z;refine aW fun _ _ Z=>?_;refine zs 3 fun _ Y=>?_;simp;apply Y;refine aE fun _ Y=>?_;simp;refine bX (hown) ?_;apply Y;simp;apply Z;apply aB;apply aF;refine aW fun _ _ Z=>?_;simp;apply Z;refine zi ?_;refine⟨fun c1=>?_,fun c1=>?_⟩
 ·try simp at c1
  refine zk [2,6,7,8] ?_;refine aW fun _ _ Z=>?_;simp;apply Z;apply aC;apply aP;apply aI;simp [aK]
 try simp at c1
 exact absurd c1 hc
theorem Zn(m o:Nat)(id:Int)(n:ND)(s:ByteArray)(σ:List (List D))(hown:Ct prog 217 [.ref m 0,D.int id,D.int 2,D.str s] σ (fun r σ'=>r= .tup [.ref o 0,D.int 0]∧σ'=σ))(hno:σ[o]?=some (dV n))(hl:n.classes.length≤1000)(hbad:sZ s n.classes=true):Ct prog 197 [.ref m 0,D.int id,D.str s] σ (fun r σ'=>r= .int 1∧σ'=σ):=by
 refine zf (rs:=[.tmp 6]) func197 ntmps197 results197 ?_;simp only [aN];refine aW fun _ _ Z=>?_;simp[hno,aL hno,List.set_set];apply Z;refine aW fun _ _ Z=>?_;refine zs 3 fun _ Y=>?_;simp[hno,aL hno,List.set_set];apply Y;refine aE fun _ Y=>?_;simp[hno,aL hno,List.set_set];refine bX (hown) ?_;apply Y;simp[hno,aL hno,List.set_set];apply Z;apply aB;apply aF;refine aW fun _ _ Z=>?_;simp[hno,aL hno,List.set_set];apply Z;refine zi ?_;refine⟨fun c1=>?_,fun c1=>?_⟩
 ·simp at c1
 try simp at c1
 refine zk [2,6,7] ?_;refine aW fun _ _ Z=>?_;refine zs 5 fun _ Y=>?_;simp[hno,aL hno,List.set_set];apply Y;refine aE fun _ Y=>?_;simp[hno,aL hno,List.set_set];refine bX (uG n.classes s _ (by omega)) ?_;apply Y;simp[hno,aL hno,List.set_set];apply Z;refine zi ?_;refine⟨fun c2=>?_,fun c2=>?_⟩
 ·try simp at c2
  refine aW fun _ _ Z=>?_;simp[hno,aL hno,List.set_set];apply Z;apply aC;apply aP;apply aI;simp [aK]
 try simp at c2
 rw [hbad] at c2;cases c2
theorem aDc(m o:Nat)(id:Int)(n:ND)(s:ByteArray)(σ:List (List D))(hown:Ct prog 217 [.ref m 0,D.int id,D.int 2,D.str s] σ (fun r σ'=>r= .tup [.ref o 0,D.int 0]∧σ'=σ))(hno:σ[o]?=some (dV n))(hl:n.classes.length≤1000)(hgood:sZ s n.classes=false):Ct prog 197 [.ref m 0,D.int id,D.str s] σ (fun r σ'=>r=D.int 0∧σ'=σ.set o (dV { n with classes:=n.classes++ [s] })):=by
 refine zf (rs:=[.tmp 6]) func197 ntmps197 results197 ?_;simp only [aN];refine aW fun _ _ Z=>?_;simp[hno,aL hno,List.set_set];apply Z;refine aW fun _ _ Z=>?_;refine zs 3 fun _ Y=>?_;simp[hno,aL hno,List.set_set];apply Y;refine aE fun _ Y=>?_;simp[hno,aL hno,List.set_set];refine bX (hown) ?_;apply Y;simp[hno,aL hno,List.set_set];apply Z;apply aB;apply aF;refine aW fun _ _ Z=>?_;simp[hno,aL hno,List.set_set];apply Z;refine zi ?_;refine⟨fun c1=>?_,fun c1=>?_⟩
 ·simp at c1
 try simp at c1
 refine zk [2,6,7] ?_;refine aW fun _ _ Z=>?_;refine zs 5 fun _ Y=>?_;simp[hno,aL hno,List.set_set];apply Y;refine aE fun _ Y=>?_;simp[hno,aL hno,List.set_set];refine bX (uG n.classes s _ (by omega)) ?_;apply Y;simp[hno,aL hno,List.set_set];apply Z;refine zi ?_;refine⟨fun c2=>?_,fun c2=>?_⟩
 ·try simp at c2
  rw [hgood] at c2;cases c2
 try simp at c2
 apply aD;apply aH;apply aA;refine aW fun _ _ Z=>?_;refine zs 6 fun _ Y=>?_;simp[hno,aL hno,List.set_set];apply Y;refine aE fun _ Y=>?_;simp[hno,aL hno,List.set_set];refine bX (aFw n.classes s _ (by omega)) ?_;rw [show Uz n.classes s=n.classes++ [s] from by unfold Uz;rw [hgood];rfl];apply Y;simp[hno,aL hno,List.set_set];apply Z;refine zk [6] ?_;refine aW fun _ _ Z=>?_;simp[hno,aL hno,List.set_set];apply Z;apply aC;simp [aK,dV]
theorem aBm(m:Nat)(id c:Int)(s:ByteArray)(σ:List (List D))(hown:Ct prog 217 [.ref m 0,D.int id,D.int 2,D.str s] σ (fun r σ'=>r= .tup [.v (.pointer none),D.int c]∧σ'=σ))(hc:¬c=0):Ct prog 196 [.ref m 0,D.int id,D.str s] σ (fun r σ'=>r= .int c∧σ'=σ):=by
 refine zf (rs:=[.tmp 6]) func196 ntmps196 results196 ?_;simp only [aN];refine aW fun _ _ Z=>?_;simp;apply Z;refine aW fun _ _ Z=>?_;refine zs 3 fun _ Y=>?_;simp;apply Y;refine aE fun _ Y=>?_;simp;refine bX (hown) ?_;apply Y;simp;apply Z;apply aB;apply aF;refine aW fun _ _ Z=>?_;simp;apply Z;refine zi ?_;refine⟨fun c1=>?_,fun c1=>?_⟩
 ·try simp at c1
  refine zk [2,6,7,8] ?_;refine aW fun _ _ Z=>?_;simp;apply Z;apply aC;apply aP;apply aI;simp [aK]
 try simp at c1
 exact absurd c1 hc
theorem Xn(m o:Nat)(id:Int)(n:ND)(s:ByteArray)(σ:List (List D))(hown:Ct prog 217 [.ref m 0,D.int id,D.int 2,D.str s] σ (fun r σ'=>r= .tup [.ref o 0,D.int 0]∧σ'=σ))(hno:σ[o]?=some (dV n))(hl:n.classes.length≤1000)(hbad:sZ s n.classes=false):Ct prog 196 [.ref m 0,D.int id,D.str s] σ (fun r σ'=>r= .int 1∧σ'=σ):=by
 refine zf (rs:=[.tmp 6]) func196 ntmps196 results196 ?_;simp only [aN];refine aW fun _ _ Z=>?_;simp[hno,aL hno,List.set_set];apply Z;refine aW fun _ _ Z=>?_;refine zs 3 fun _ Y=>?_;simp[hno,aL hno,List.set_set];apply Y;refine aE fun _ Y=>?_;simp[hno,aL hno,List.set_set];refine bX (hown) ?_;apply Y;simp[hno,aL hno,List.set_set];apply Z;apply aB;apply aF;refine aW fun _ _ Z=>?_;simp[hno,aL hno,List.set_set];apply Z;refine zi ?_;refine⟨fun c1=>?_,fun c1=>?_⟩
 ·simp at c1
 try simp at c1
 refine zk [2,6,7] ?_;refine aW fun _ _ Z=>?_;refine zs 5 fun _ Y=>?_;simp[hno,aL hno,List.set_set];apply Y;refine aE fun _ Y=>?_;simp[hno,aL hno,List.set_set];refine bX (uG n.classes s _ (by omega)) ?_;apply Y;simp[hno,aL hno,List.set_set];apply Z;refine zi ?_;refine⟨fun c2=>?_,fun c2=>?_⟩
 ·try simp at c2
  refine aW fun _ _ Z=>?_;simp[hno,aL hno,List.set_set];apply Z;apply aC;apply aP;apply aI;simp [aK]
 try simp at c2
 rw [hbad] at c2;cases c2
theorem Yj(m o:Nat)(id:Int)(n:ND)(s:ByteArray)(σ:List (List D))(hown:Ct prog 217 [.ref m 0,D.int id,D.int 2,D.str s] σ (fun r σ'=>r= .tup [.ref o 0,D.int 0]∧σ'=σ))(hno:σ[o]?=some (dV n))(hl:n.classes.length≤1000)(hgood:sZ s n.classes=true):Ct prog 196 [.ref m 0,D.int id,D.str s] σ (fun r σ'=>r=D.int 0∧σ'=σ.set o (dV { n with classes:=kV n.classes s })):=by
 refine zf (rs:=[.tmp 6]) func196 ntmps196 results196 ?_;simp only [aN];refine aW fun _ _ Z=>?_;simp[hno,aL hno,List.set_set];apply Z;refine aW fun _ _ Z=>?_;refine zs 3 fun _ Y=>?_;simp[hno,aL hno,List.set_set];apply Y;refine aE fun _ Y=>?_;simp[hno,aL hno,List.set_set];refine bX (hown) ?_;apply Y;simp[hno,aL hno,List.set_set];apply Z;apply aB;apply aF;refine aW fun _ _ Z=>?_;simp[hno,aL hno,List.set_set];apply Z;refine zi ?_;refine⟨fun c1=>?_,fun c1=>?_⟩
 ·simp at c1
 try simp at c1
 refine zk [2,6,7] ?_;refine aW fun _ _ Z=>?_;refine zs 5 fun _ Y=>?_;simp[hno,aL hno,List.set_set];apply Y;refine aE fun _ Y=>?_;simp[hno,aL hno,List.set_set];refine bX (uG n.classes s _ (by omega)) ?_;apply Y;simp[hno,aL hno,List.set_set];apply Z;refine zi ?_;refine⟨fun c2=>?_,fun c2=>?_⟩
 ·try simp at c2
  rw [hgood] at c2;cases c2
 try simp at c2
 apply aD;apply aH;apply aA;refine aW fun _ _ Z=>?_;refine zs 6 fun _ Y=>?_;simp[hno,aL hno,List.set_set];apply Y;refine aE fun _ Y=>?_;simp[hno,aL hno,List.set_set];refine bX (aCi n.classes s _ (by omega)) ?_;apply Y;simp[hno,aL hno,List.set_set];apply Z;refine zk [6] ?_;refine aW fun _ _ Z=>?_;simp[hno,aL hno,List.set_set];apply Z;apply aC;simp [aK,dV]
end Go.Proofs.YtbgfljpnhhdkoaaGreat
