import Derived.Test.YtbgfljpnhhdkoaaGreatWkAr14
open Go.Proofs.Tryz
namespace Go.Proofs.YtbgfljpnhhdkoaaGreat
open Go Go.Vm
set_option maxRecDepth 20000
set_option linter.all false
set_option maxHeartbeats 8000000
def mZ(n:ND)(kind:Int)(name:ByteArray):Int:=if n.ID=0 then 1 else if ¬n.kind=kind then 14 else if kind=2∧fS name=false then 2 else 0
theorem Qk {n:ND} {kind:Int} {name:ByteArray} (h:mZ n kind name=0):¬n.ID=0∧n.kind=kind∧(kind=2→fS name=true):=by
 unfold mZ at h;split at h
 ·cases h
 split at h
 ·cases h
 split at h
 ·cases h
 rename_i h1 h2 h3;refine⟨h1,Classical.not_not.1 h2,fun hk=>?_⟩;cases hn:fS name with
 | true=>rfl
 | false=>exact absurd ⟨hk,hn⟩ h3
theorem Zm(m M:Nat)(d:DS)(id kind:Int)(name:ByteArray)(σ:List (List D))(ho:DO m M d σ)(hno:dF d.l id=false):Ct prog 217 [.ref m 0,D.int id,D.int kind,D.str name] σ (fun r σ'=>r= .tup [.v (.pointer none),D.int 11]∧σ'=σ):=by
 refine zf (rs:=[.tmp 8,.tmp 9]) func217 ntmps217 results217 ?_;simp only [aN];have hq:=ho.hm;refine aY fun _ _ Z=>?_;simp[hq];apply Z;refine aY fun _ _ Z=>?_;refine zs 6 fun _ Y=>?_;simp[hq];refine⟨m,2,d.ck,_,.v (.pointer none),⟨⟨_,hq,rfl⟩,iZ _,.inl (nI hno _)⟩,?_⟩;and_intros<;>(try omega);apply Y;simp[hq];apply Z;apply aC;apply aG;refine aY fun _ _ Z=>?_;simp[hq];apply Z;refine zi ?_;refine⟨fun c1=>?_,fun c1=>?_⟩
 ·try simp at c1
  refine zk [8,9,10] ?_;refine aY fun _ _ Z=>?_;simp[hq];apply Z;apply aB;apply aQ;apply aJ;simp [aL]
 simp at c1
theorem aDs(m M:Nat)(d:DS)(e:EN)(kind:Int)(name:ByteArray)(σ:List (List D))(ho:DO m M d σ)(he:e∈d.es)(hs:name.size≤1000)(hb:¬mZ e.n kind name=0):Ct prog 217 [.ref m 0,D.int e.n.ID,D.int kind,D.str name] σ (fun r σ'=>r= .tup [.v (.pointer none),D.int (mZ e.n kind name)]∧σ'=σ):=by
 refine zf (rs:=[.tmp 8,.tmp 9]) func217 ntmps217 results217 ?_;simp only [aN];have hq:=ho.hm;have hne:=ho.hn e he;refine aY fun _ _ Z=>?_;simp[hq,hne];apply Z;refine aY fun _ _ Z=>?_;refine zs 6 fun _ Y=>?_;simp[hq,hne];refine⟨m,2,d.ck,_,.ref e.o 0,⟨⟨_,hq,rfl⟩,iZ _,.inr (fH he _)⟩,?_⟩;and_intros<;>(try omega);apply Y;simp[hq,hne];apply Z;apply aC;apply aG;refine aY fun _ _ Z=>?_;simp[hq,hne];apply Z;refine zi ?_;refine⟨fun c1=>?_,fun c1=>?_⟩
 ·simp at c1
 try simp at c1
 refine zk [1,2,3,8,9,10] ?_;refine aY fun _ _ Z=>?_;simp[hq,hne];apply Z;refine zi ?_;refine⟨fun c2=>?_,fun c2=>?_⟩
 ·try simp at c2
  refine aY fun _ _ Z=>?_;simp[hq,hne];apply Z;apply aB;apply aQ;apply aJ;simp [aL,mZ, *]
 try simp at c2
 refine aY fun _ _ Z=>?_;simp[hq,hne];apply Z;refine zi ?_;refine⟨fun c3=>?_,fun c3=>?_⟩
 ·try simp at c3
  refine zk [8,9,10] ?_;refine aY fun _ _ Z=>?_;simp[hq,hne];apply Z;apply aB;apply aQ;apply aJ;simp [aL,mZ, *]
 try simp at c3
 refine zk [2,3,8,9,10] ?_;refine mY ⟨[],[],[],[],[]⟩ fun all hall _ Z=>?_;have ga2:aR all 2=some 33:=hall 2;refine zs 3 fun _ Y=>?_;simp[hq,hne,ga2];apply Y;refine aU 33 (by simp <;> rfl) ?_;refine⟨fun g4=>?_,fun g4=>?_⟩
 ·try simp at g4
  refine zs 1 fun _ Y=>?_;simp[hq,hne,ga2];apply Y;refine zg ga2 fun _ Y=>?_;simp[hq,hne,ga2];refine cH (pY name _ (by omega)) ?_;apply Y;simp[hq,hne,ga2];apply Z;refine zi ?_;refine⟨fun c5=>?_,fun c5=>?_⟩
  ·try simp at c5
   refine zk [8,9,10] ?_;refine aY fun _ _ Z=>?_;simp[hq,hne];apply Z;apply aB;apply aQ;apply aJ;simp [aL,mZ, *]
  try simp at c5
  exact absurd (by simp [mZ,c2,c3,g4,c5]) hb
 try simp at g4
 exact absurd (by simp [mZ,c2,c3,g4]) hb
theorem aF9(m M:Nat)(d:DS)(e:EN)(kind:Int)(name:ByteArray)(σ:List (List D))(ho:DO m M d σ)(he:e∈d.es)(hs:name.size≤1000)(hb:mZ e.n kind name=0):Ct prog 217 [.ref m 0,D.int e.n.ID,D.int kind,D.str name] σ (fun r σ'=>r= .tup [.ref e.o 0,D.int 0]∧σ'=σ):=by
 refine zf (rs:=[.tmp 8,.tmp 9]) func217 ntmps217 results217 ?_;simp only [aN];have hq:=ho.hm;have hne:=ho.hn e he;obtain⟨o1,o2,o3⟩:=Qk hb;refine aY fun _ _ Z=>?_;simp[hq,hne];apply Z;refine aY fun _ _ Z=>?_;refine zs 6 fun _ Y=>?_;simp[hq,hne];refine⟨m,2,d.ck,_,.ref e.o 0,⟨⟨_,hq,rfl⟩,iZ _,.inr (fH he _)⟩,?_⟩;and_intros<;>(try omega);apply Y;simp[hq,hne];apply Z;apply aC;apply aG;refine aY fun _ _ Z=>?_;simp[hq,hne];apply Z;refine zi ?_;refine⟨fun c1=>?_,fun c1=>?_⟩
 ·simp at c1
 try simp at c1
 refine zk [1,2,3,8,9,10] ?_;refine aY fun _ _ Z=>?_;simp[hq,hne];apply Z;refine zi ?_;refine⟨fun c2=>?_,fun c2=>?_⟩
 ·try simp at c2
  exact absurd c2 o1
 try simp at c2
 refine aY fun _ _ Z=>?_;simp[hq,hne];apply Z;refine zi ?_;refine⟨fun c3=>?_,fun c3=>?_⟩
 ·try simp at c3
  exact absurd o2 c3
 try simp at c3
 refine zk [2,3,8,9,10] ?_;refine mY ⟨[],[],[],[],[]⟩ fun all hall _ Z=>?_;have ga2:aR all 2=some 33:=hall 2;refine zs 3 fun _ Y=>?_;simp[hq,hne,ga2];apply Y;refine aU 33 (by simp <;> rfl) ?_;refine⟨fun g4=>?_,fun g4=>?_⟩
 ·try simp at g4
  refine zs 1 fun _ Y=>?_;simp[hq,hne,ga2];apply Y;refine zg ga2 fun _ Y=>?_;simp[hq,hne,ga2];refine cH (pY name _ (by omega)) ?_;apply Y;simp[hq,hne,ga2];apply Z;refine zi ?_;refine⟨fun c5=>?_,fun c5=>?_⟩
  ·try simp at c5
   rw [o3 g4] at c5;cases c5
  try simp at c5
  apply aE;apply aK;apply aA;refine zk [8,9,10] ?_;refine aY fun _ _ Z=>?_;simp[hq,hne];apply Z;apply aB;simp [aL]
 try simp at g4
 simp[hq,hne,ga2];apply Z;refine bM (t:=false) (by simp) (fun h=>by cases h) (fun _=>?_);apply aE;apply aK;apply aA;refine zk [8,9,10] ?_;refine aY fun _ _ Z=>?_;simp[hq,hne];apply Z;apply aB;simp [aL]
theorem Vy(m:Nat)(id c:Int)(s:ByteArray)(σ:List (List D))(hown:Ct prog 217 [.ref m 0,D.int id,D.int 2,D.str s] σ (fun r σ'=>r= .tup [.v (.pointer none),D.int c]∧σ'=σ))(hc:¬c=0):Ct prog 163 [.ref m 0,D.int id,D.str s] σ (fun r σ'=>r= .int c∧σ'=σ):=by
 refine zf (rs:=[.tmp 6]) func163 ntmps163 results163 ?_;simp only [aN];refine aY fun _ _ Z=>?_;simp;apply Z;refine aY fun _ _ Z=>?_;refine zs 3 fun _ Y=>?_;simp;apply Y;refine aD fun _ Y=>?_;simp;refine cH (hown) ?_;apply Y;simp;apply Z;apply aC;refine aY fun _ _ Z=>?_;simp;apply Z;refine zi ?_;refine⟨fun c1=>?_,fun c1=>?_⟩
 ·try simp at c1
  exact absurd c1 hc
 try simp at c1
 apply aE;apply aA;refine zk [6,8] ?_;refine aY fun _ _ Z=>?_;simp;apply Z;apply aB;simp [aL]
theorem Yn(m o:Nat)(id:Int)(n:ND)(s:ByteArray)(σ:List (List D))(hown:Ct prog 217 [.ref m 0,D.int id,D.int 2,D.str s] σ (fun r σ'=>r= .tup [.ref o 0,D.int 0]∧σ'=σ))(hno:σ[o]?=some (eG n)):Ct prog 163 [.ref m 0,D.int id,D.str s] σ (fun r σ'=>r=D.int 0∧σ'=σ.set o (eG { n with tag:=s })):=by
 refine zf (rs:=[.tmp 6]) func163 ntmps163 results163 ?_;simp only [aN];refine aY fun _ _ Z=>?_;simp[hno,aI hno,List.set_set];apply Z;refine aY fun _ _ Z=>?_;refine zs 3 fun _ Y=>?_;simp[hno,aI hno,List.set_set];apply Y;refine aD fun _ Y=>?_;simp[hno,aI hno,List.set_set];refine cH (hown) ?_;apply Y;simp[hno,aI hno,List.set_set];apply Z;apply aC;refine aY fun _ _ Z=>?_;simp[hno,aI hno,List.set_set];apply Z;refine zi ?_;refine⟨fun c1=>?_,fun c1=>?_⟩
 ·try simp at c1
  refine zk [2,6,7,8] ?_;refine yL fun _ _ Z=>?_;simp[hno,aI hno,List.set_set];apply Z;apply aA;refine aY fun _ _ Z=>?_;simp[hno,aI hno,List.set_set];apply Z;apply aB;simp [aL,eG]
 simp at c1
theorem aAg(m:Nat)(id c:Int)(s:ByteArray)(σ:List (List D))(hown:Ct prog 217 [.ref m 0,D.int id,D.int 1,D.str ⟨#[]⟩] σ (fun r σ'=>r= .tup [.v (.pointer none),D.int c]∧σ'=σ))(hc:¬c=0):Ct prog 164 [.ref m 0,D.int id,D.str s] σ (fun r σ'=>r= .int c∧σ'=σ):=by
 refine zf (rs:=[.tmp 6]) func164 ntmps164 results164 ?_;simp only [aN];refine aY fun _ _ Z=>?_;simp;apply Z;refine aY fun _ _ Z=>?_;refine zs 2 fun _ Y=>?_;simp;apply Y;refine aD fun _ Y=>?_;simp;refine cH (hown) ?_;apply Y;simp;apply Z;apply aC;refine aY fun _ _ Z=>?_;simp;apply Z;refine zi ?_;refine⟨fun c1=>?_,fun c1=>?_⟩
 ·try simp at c1
  exact absurd c1 hc
 try simp at c1
 apply aE;apply aA;refine aY fun _ _ Z=>?_;simp;apply Z;apply aB;simp [aL]
theorem aAu(m o:Nat)(id:Int)(n:ND)(s:ByteArray)(σ:List (List D))(hown:Ct prog 217 [.ref m 0,D.int id,D.int 1,D.str ⟨#[]⟩] σ (fun r σ'=>r= .tup [.ref o 0,D.int 0]∧σ'=σ))(hno:σ[o]?=some (eG n)):Ct prog 164 [.ref m 0,D.int id,D.str s] σ (fun r σ'=>r=D.int 0∧σ'=σ.set o (eG { n with text:=s })):=by
 refine zf (rs:=[.tmp 6]) func164 ntmps164 results164 ?_;simp only [aN];refine aY fun _ _ Z=>?_;simp[hno,aI hno,List.set_set];apply Z;refine aY fun _ _ Z=>?_;refine zs 2 fun _ Y=>?_;simp[hno,aI hno,List.set_set];apply Y;refine aD fun _ Y=>?_;simp[hno,aI hno,List.set_set];refine cH (hown) ?_;apply Y;simp[hno,aI hno,List.set_set];apply Z;apply aC;refine aY fun _ _ Z=>?_;simp[hno,aI hno,List.set_set];apply Z;refine zi ?_;refine⟨fun c1=>?_,fun c1=>?_⟩
 ·try simp at c1
  refine yL fun _ _ Z=>?_;simp[hno,aI hno,List.set_set];apply Z;apply aA;refine zk [6,8] ?_;refine aY fun _ _ Z=>?_;simp[hno,aI hno,List.set_set];apply Z;apply aB;simp [aL,eG]
 simp at c1
theorem aBb(m:Nat)(id c:Int)(s:ByteArray)(v:ByteArray)(σ:List (List D))(hown:Ct prog 217 [.ref m 0,D.int id,D.int 2,D.str s] σ (fun r σ'=>r= .tup [.v (.pointer none),D.int c]∧σ'=σ))(hc:¬c=0):Ct prog 199 [.ref m 0,D.int id,D.str s,D.str v] σ (fun r σ'=>r= .int c∧σ'=σ):=by
 refine zf (rs:=[.tmp 8]) func199 ntmps199 results199 ?_;simp only [aN];refine aY fun _ _ Z=>?_;simp;apply Z;refine aY fun _ _ Z=>?_;refine zs 3 fun _ Y=>?_;simp;apply Y;refine aD fun _ Y=>?_;simp;refine cH (hown) ?_;apply Y;simp;apply Z;apply aC;refine aY fun _ _ Z=>?_;simp;apply Z;refine zi ?_;refine⟨fun c1=>?_,fun c1=>?_⟩
 ·try simp at c1
  exact absurd c1 hc
 try simp at c1
 apply aE;apply aA;refine zk [8,10] ?_;refine aY fun _ _ Z=>?_;simp;apply Z;apply aB;simp [aL]
theorem aAs(m o:Nat)(id:Int)(n:ND)(s:ByteArray)(v:ByteArray)(σ:List (List D))(hown:Ct prog 217 [.ref m 0,D.int id,D.int 2,D.str s] σ (fun r σ'=>r= .tup [.ref o 0,D.int 0]∧σ'=σ))(hno:σ[o]?=some (eG n))(hl:n.attrs.length≤1000)(hs:cJ nA n.attrs):Ct prog 199 [.ref m 0,D.int id,D.str s,D.str v] σ (fun r σ'=>r=D.int 0∧σ'=σ.set o (eG { n with attrs:=fB nA n.attrs ⟨s,v⟩ })):=by
 refine zf (rs:=[.tmp 8]) func199 ntmps199 results199 ?_;simp only [aN];refine aY fun _ _ Z=>?_;simp[hno,aI hno,List.set_set];apply Z;refine aY fun _ _ Z=>?_;refine zs 3 fun _ Y=>?_;simp[hno,aI hno,List.set_set];apply Y;refine aD fun _ Y=>?_;simp[hno,aI hno,List.set_set];refine cH (hown) ?_;apply Y;simp[hno,aI hno,List.set_set];apply Z;apply aC;refine aY fun _ _ Z=>?_;simp[hno,aI hno,List.set_set];apply Z;refine zi ?_;refine⟨fun c1=>?_,fun c1=>?_⟩
 ·try simp at c1
  refine zk [2,3,8,9,10] ?_;refine yL fun _ _ Z=>?_;refine zs 7 fun _ Y=>?_;simp[hno,aI hno,List.set_set];apply Y;refine aD fun _ Y=>?_;simp[hno,aI hno,List.set_set];refine cH (aEx n.attrs s v _ (by omega) hs) ?_;apply Y;simp[hno,aI hno,List.set_set];apply Z;apply aA;refine zk [8,10] ?_;refine aY fun _ _ Z=>?_;simp[hno,aI hno,List.set_set];apply Z;apply aB;simp [aL,eG]
 simp at c1
theorem Ye(m:Nat)(id c:Int)(s:ByteArray)(v:Int)(σ:List (List D))(hown:Ct prog 217 [.ref m 0,D.int id,D.int 2,D.str s] σ (fun r σ'=>r= .tup [.v (.pointer none),D.int c]∧σ'=σ))(hc:¬c=0):Ct prog 202 [.ref m 0,D.int id,D.str s,D.int v] σ (fun r σ'=>r= .int c∧σ'=σ):=by
 refine zf (rs:=[.tmp 8]) func202 ntmps202 results202 ?_;simp only [aN];refine aY fun _ _ Z=>?_;simp;apply Z;refine aY fun _ _ Z=>?_;refine zs 3 fun _ Y=>?_;simp;apply Y;refine aD fun _ Y=>?_;simp;refine cH (hown) ?_;apply Y;simp;apply Z;apply aC;refine aY fun _ _ Z=>?_;simp;apply Z;refine zi ?_;refine⟨fun c1=>?_,fun c1=>?_⟩
 ·try simp at c1
  exact absurd c1 hc
 try simp at c1
 apply aE;apply aA;refine zk [8,10] ?_;refine aY fun _ _ Z=>?_;simp;apply Z;apply aB;simp [aL]
theorem Xp(m o:Nat)(id:Int)(n:ND)(s:ByteArray)(v:Int)(σ:List (List D))(hown:Ct prog 217 [.ref m 0,D.int id,D.int 2,D.str s] σ (fun r σ'=>r= .tup [.ref o 0,D.int 0]∧σ'=σ))(hno:σ[o]?=some (eG n))(hl:n.styles.length≤1000)(hs:cJ nP n.styles):Ct prog 202 [.ref m 0,D.int id,D.str s,D.int v] σ (fun r σ'=>r=D.int 0∧σ'=σ.set o (eG { n with styles:=fB nP n.styles ⟨s,Hc v⟩ })):=by
 refine zf (rs:=[.tmp 8]) func202 ntmps202 results202 ?_;simp only [aN];refine aY fun _ _ Z=>?_;simp[hno,aI hno,List.set_set];apply Z;refine aY fun _ _ Z=>?_;refine zs 3 fun _ Y=>?_;simp[hno,aI hno,List.set_set];apply Y;refine aD fun _ Y=>?_;simp[hno,aI hno,List.set_set];refine cH (hown) ?_;apply Y;simp[hno,aI hno,List.set_set];apply Z;apply aC;refine aY fun _ _ Z=>?_;simp[hno,aI hno,List.set_set];apply Z;refine zi ?_;refine⟨fun c1=>?_,fun c1=>?_⟩
 ·try simp at c1
  refine zk [2,3,8,9,10] ?_;refine ze ⟨[],[],[],[],[]⟩ [.op {},.op {},.op {},.op {},.op {rO:=true},.op {},.op {},.pure,.pure,.op {},.op {},.op {rO:=true,wO:=true}] fun all hall _ Z=>?_;refine jD 7 fun _ Y=>?_;simp[hno,aI hno,List.set_set];apply Y;refine dR fun _ Y=>?_;simp[hno,aI hno,List.set_set];refine To (fun _=>(aIw v _)) ?_;apply Y;refine dR fun _ Y=>?_;simp[hno,aI hno,List.set_set];refine To (fun _=>(aF2 n.styles s (Hc v) _ (by omega) hs)) ?_;apply Y;simp[hno,aI hno,List.set_set];apply Z;apply aA;refine zk [8,10] ?_;refine aY fun _ _ Z=>?_;simp[hno,aI hno,List.set_set];apply Z;apply aB;simp [aL,eG]
 simp at c1
theorem aE3(l:Ls)(c:ByteArray)(σ:List (List D))(hl:l.length≤1000000):Ct prog 186 [dl l,D.str c] σ (fun r σ'=>r=dl (Ta l c)∧σ'=σ):=
 (aI6 l c σ hl).strip fun r σ' ⟨hr,hs⟩=>⟨by rw [hr];rfl,by rw [hr];rfl,hs⟩
theorem aB3(m:Nat)(id c:Int)(s:ByteArray)(σ:List (List D))(hown:Ct prog 217 [.ref m 0,D.int id,D.int 2,D.str s] σ (fun r σ'=>r= .tup [.v (.pointer none),D.int c]∧σ'=σ))(hc:¬c=0):Ct prog 200 [.ref m 0,D.int id,D.str s] σ (fun r σ'=>r= .int c∧σ'=σ):=by
 refine zf (rs:=[.tmp 6]) func200 ntmps200 results200 ?_;simp only [aN];refine aY fun _ _ Z=>?_;simp;apply Z;refine aY fun _ _ Z=>?_;refine zs 3 fun _ Y=>?_;simp;apply Y;refine aD fun _ Y=>?_;simp;refine cH (hown) ?_;apply Y;simp;apply Z;apply aC;refine aY fun _ _ Z=>?_;simp;apply Z;refine zi ?_;refine⟨fun c1=>?_,fun c1=>?_⟩
 ·try simp at c1
  refine zk [2,6,7,8] ?_;refine aY fun _ _ Z=>?_;simp;apply Z;apply aB;apply aJ;simp [aL]
 try simp at c1
 exact absurd c1 hc
theorem aAf(m o:Nat)(id:Int)(n:ND)(s:ByteArray)(σ:List (List D))(hown:Ct prog 217 [.ref m 0,D.int id,D.int 2,D.str s] σ (fun r σ'=>r= .tup [.ref o 0,D.int 0]∧σ'=σ))(hno:σ[o]?=some (eG n))(hl:n.attrs.length≤1000)(hs:cJ nA n.attrs)(hbad:mW nA n.attrs s=false):Ct prog 200 [.ref m 0,D.int id,D.str s] σ (fun r σ'=>r= .int 1∧σ'=σ):=by
 refine zf (rs:=[.tmp 6]) func200 ntmps200 results200 ?_;simp only [aN];refine aY fun _ _ Z=>?_;simp[hno,aI hno,List.set_set];apply Z;refine aY fun _ _ Z=>?_;refine zs 3 fun _ Y=>?_;simp[hno,aI hno,List.set_set];apply Y;refine aD fun _ Y=>?_;simp[hno,aI hno,List.set_set];refine cH (hown) ?_;apply Y;simp[hno,aI hno,List.set_set];apply Z;apply aC;refine aY fun _ _ Z=>?_;simp[hno,aI hno,List.set_set];apply Z;refine zi ?_;refine⟨fun c1=>?_,fun c1=>?_⟩
 ·simp at c1
 try simp at c1
 apply aE;apply aA;apply aC;refine zk [2,6,7] ?_;refine aY fun _ _ Z=>?_;refine zs 5 fun _ Y=>?_;simp[hno,aI hno,List.set_set];apply Y;refine aD fun _ Y=>?_;simp[hno,aI hno,List.set_set];refine Uj (Pe n.attrs s _ (by omega) hs) ?_;rintro _ _ ⟨⟨gv,hr9⟩,hs9⟩;subst hr9;replace hs9:=hs9.symm;subst hs9;apply Y;simp[hno,aI hno,List.set_set];apply Z;refine zk [2,6,7,10] ?_;refine aY fun _ _ Z=>?_;simp[hno,aI hno,List.set_set];apply Z;refine zi ?_;refine⟨fun c2=>?_,fun c2=>?_⟩
 ·try simp at c2
  refine aY fun _ _ Z=>?_;simp[hno,aI hno,List.set_set];apply Z;apply aB;apply aJ;simp [aL]
 try simp at c2
 rw [hbad] at c2;cases c2
theorem aAd(m o:Nat)(id:Int)(n:ND)(s:ByteArray)(σ:List (List D))(hown:Ct prog 217 [.ref m 0,D.int id,D.int 2,D.str s] σ (fun r σ'=>r= .tup [.ref o 0,D.int 0]∧σ'=σ))(hno:σ[o]?=some (eG n))(hl:n.attrs.length≤1000)(hs:cJ nA n.attrs)(hgood:mW nA n.attrs s=true):Ct prog 200 [.ref m 0,D.int id,D.str s] σ (fun r σ'=>r=D.int 0∧σ'=σ.set o (eG { n with attrs:=iY nA n.attrs s })):=by
 refine zf (rs:=[.tmp 6]) func200 ntmps200 results200 ?_;simp only [aN];refine aY fun _ _ Z=>?_;simp[hno,aI hno,List.set_set];apply Z;refine aY fun _ _ Z=>?_;refine zs 3 fun _ Y=>?_;simp[hno,aI hno,List.set_set];apply Y;refine aD fun _ Y=>?_;simp[hno,aI hno,List.set_set];refine cH (hown) ?_;apply Y;simp[hno,aI hno,List.set_set];apply Z;apply aC;refine aY fun _ _ Z=>?_;simp[hno,aI hno,List.set_set];apply Z;refine zi ?_;refine⟨fun c1=>?_,fun c1=>?_⟩
 ·simp at c1
 try simp at c1
 apply aE;apply aA;apply aC;refine zk [2,6,7] ?_;refine aY fun _ _ Z=>?_;refine zs 5 fun _ Y=>?_;simp[hno,aI hno,List.set_set];apply Y;refine aD fun _ Y=>?_;simp[hno,aI hno,List.set_set];refine Uj (Pe n.attrs s _ (by omega) hs) ?_;rintro _ _ ⟨⟨gv,hr9⟩,hs9⟩;subst hr9;replace hs9:=hs9.symm;subst hs9;apply Y;simp[hno,aI hno,List.set_set];apply Z;refine zk [2,6,7,10] ?_;refine aY fun _ _ Z=>?_;simp[hno,aI hno,List.set_set];apply Z;refine zi ?_;refine⟨fun c2=>?_,fun c2=>?_⟩
 ·try simp at c2
  rw [hgood] at c2;cases c2
 try simp at c2
 apply aE;apply aA;refine aY fun _ _ Z=>?_;refine zs 6 fun _ Y=>?_;simp[hno,aI hno,List.set_set];apply Y;refine aD fun _ Y=>?_;simp[hno,aI hno,List.set_set];refine cH (aDc n.attrs s _ (by omega) hs) ?_;apply Y;simp[hno,aI hno,List.set_set];apply Z;refine zk [6] ?_;refine aY fun _ _ Z=>?_;simp[hno,aI hno,List.set_set];apply Z;apply aB;simp [aL,eG]
theorem Xw(m:Nat)(id c:Int)(s:ByteArray)(σ:List (List D))(hown:Ct prog 217 [.ref m 0,D.int id,D.int 2,D.str s] σ (fun r σ'=>r= .tup [.v (.pointer none),D.int c]∧σ'=σ))(hc:¬c=0):Ct prog 203 [.ref m 0,D.int id,D.str s] σ (fun r σ'=>r= .int c∧σ'=σ):=by
 refine zf (rs:=[.tmp 6]) func203 ntmps203 results203 ?_;simp only [aN];refine aY fun _ _ Z=>?_;simp;apply Z;refine aY fun _ _ Z=>?_;refine zs 3 fun _ Y=>?_;simp;apply Y;refine aD fun _ Y=>?_;simp;refine cH (hown) ?_;apply Y;simp;apply Z;apply aC;refine aY fun _ _ Z=>?_;simp;apply Z;refine zi ?_;refine⟨fun c1=>?_,fun c1=>?_⟩
 ·try simp at c1
  refine zk [2,6,7,8] ?_;refine aY fun _ _ Z=>?_;simp;apply Z;apply aB;apply aJ;simp [aL]
 try simp at c1
 exact absurd c1 hc
theorem Zj(m o:Nat)(id:Int)(n:ND)(s:ByteArray)(σ:List (List D))(hown:Ct prog 217 [.ref m 0,D.int id,D.int 2,D.str s] σ (fun r σ'=>r= .tup [.ref o 0,D.int 0]∧σ'=σ))(hno:σ[o]?=some (eG n))(hl:n.styles.length≤1000)(hs:cJ nP n.styles)(hbad:mW nP n.styles s=false):Ct prog 203 [.ref m 0,D.int id,D.str s] σ (fun r σ'=>r= .int 1∧σ'=σ):=by
 refine zf (rs:=[.tmp 6]) func203 ntmps203 results203 ?_;simp only [aN];refine aY fun _ _ Z=>?_;simp[hno,aI hno,List.set_set];apply Z;refine aY fun _ _ Z=>?_;refine zs 3 fun _ Y=>?_;simp[hno,aI hno,List.set_set];apply Y;refine aD fun _ Y=>?_;simp[hno,aI hno,List.set_set];refine cH (hown) ?_;apply Y;simp[hno,aI hno,List.set_set];apply Z;apply aC;refine aY fun _ _ Z=>?_;simp[hno,aI hno,List.set_set];apply Z;refine zi ?_;refine⟨fun c1=>?_,fun c1=>?_⟩
 ·simp at c1
 try simp at c1
 apply aE;apply aA;apply aC;refine zk [2,6,7] ?_;refine aY fun _ _ Z=>?_;refine zs 5 fun _ Y=>?_;simp[hno,aI hno,List.set_set];apply Y;refine aD fun _ Y=>?_;simp[hno,aI hno,List.set_set];refine Uj (Qe n.styles s _ (by omega) hs) ?_;rintro _ _ ⟨⟨gv,hr9⟩,hs9⟩;subst hr9;replace hs9:=hs9.symm;subst hs9;apply Y;simp[hno,aI hno,List.set_set];apply Z;refine zk [2,6,7,10] ?_;refine aY fun _ _ Z=>?_;simp[hno,aI hno,List.set_set];apply Z;refine zi ?_;refine⟨fun c2=>?_,fun c2=>?_⟩
 ·try simp at c2
  refine aY fun _ _ Z=>?_;simp[hno,aI hno,List.set_set];apply Z;apply aB;apply aJ;simp [aL]
 try simp at c2
 rw [hbad] at c2;cases c2
theorem aB5(m o:Nat)(id:Int)(n:ND)(s:ByteArray)(σ:List (List D))(hown:Ct prog 217 [.ref m 0,D.int id,D.int 2,D.str s] σ (fun r σ'=>r= .tup [.ref o 0,D.int 0]∧σ'=σ))(hno:σ[o]?=some (eG n))(hl:n.styles.length≤1000)(hs:cJ nP n.styles)(hgood:mW nP n.styles s=true):Ct prog 203 [.ref m 0,D.int id,D.str s] σ (fun r σ'=>r=D.int 0∧σ'=σ.set o (eG { n with styles:=iY nP n.styles s })):=by
 refine zf (rs:=[.tmp 6]) func203 ntmps203 results203 ?_;simp only [aN];refine aY fun _ _ Z=>?_;simp[hno,aI hno,List.set_set];apply Z;refine aY fun _ _ Z=>?_;refine zs 3 fun _ Y=>?_;simp[hno,aI hno,List.set_set];apply Y;refine aD fun _ Y=>?_;simp[hno,aI hno,List.set_set];refine cH (hown) ?_;apply Y;simp[hno,aI hno,List.set_set];apply Z;apply aC;refine aY fun _ _ Z=>?_;simp[hno,aI hno,List.set_set];apply Z;refine zi ?_;refine⟨fun c1=>?_,fun c1=>?_⟩
 ·simp at c1
 try simp at c1
 apply aE;apply aA;apply aC;refine zk [2,6,7] ?_;refine aY fun _ _ Z=>?_;refine zs 5 fun _ Y=>?_;simp[hno,aI hno,List.set_set];apply Y;refine aD fun _ Y=>?_;simp[hno,aI hno,List.set_set];refine Uj (Qe n.styles s _ (by omega) hs) ?_;rintro _ _ ⟨⟨gv,hr9⟩,hs9⟩;subst hr9;replace hs9:=hs9.symm;subst hs9;apply Y;simp[hno,aI hno,List.set_set];apply Z;refine zk [2,6,7,10] ?_;refine aY fun _ _ Z=>?_;simp[hno,aI hno,List.set_set];apply Z;refine zi ?_;refine⟨fun c2=>?_,fun c2=>?_⟩
 ·try simp at c2
  rw [hgood] at c2;cases c2
 try simp at c2
 apply aE;apply aA;refine aY fun _ _ Z=>?_;refine zs 6 fun _ Y=>?_;simp[hno,aI hno,List.set_set];apply Y;refine aD fun _ Y=>?_;simp[hno,aI hno,List.set_set];refine cH (aDd n.styles s _ (by omega) hs) ?_;apply Y;simp[hno,aI hno,List.set_set];apply Z;refine zk [6] ?_;refine aY fun _ _ Z=>?_;simp[hno,aI hno,List.set_set];apply Z;apply aB;simp [aL,eG]
theorem Xx(m:Nat)(id c:Int)(s:ByteArray)(σ:List (List D))(hown:Ct prog 217 [.ref m 0,D.int id,D.int 2,D.str s] σ (fun r σ'=>r= .tup [.v (.pointer none),D.int c]∧σ'=σ))(hc:¬c=0):Ct prog 197 [.ref m 0,D.int id,D.str s] σ (fun r σ'=>r= .int c∧σ'=σ):=by
 refine zf (rs:=[.tmp 6]) func197 ntmps197 results197 ?_;simp only [aN];refine aY fun _ _ Z=>?_;simp;apply Z;refine aY fun _ _ Z=>?_;refine zs 3 fun _ Y=>?_;simp;apply Y;refine aD fun _ Y=>?_;simp;refine cH (hown) ?_;apply Y;simp;apply Z;apply aC;apply aG;refine aY fun _ _ Z=>?_;simp;apply Z;refine zi ?_;refine⟨fun c1=>?_,fun c1=>?_⟩
 ·try simp at c1
  refine zk [2,6,7,8] ?_;refine aY fun _ _ Z=>?_;simp;apply Z;apply aB;apply aQ;apply aJ;simp [aL]
 try simp at c1
 exact absurd c1 hc
theorem aCo(m o:Nat)(id:Int)(n:ND)(s:ByteArray)(σ:List (List D))(hown:Ct prog 217 [.ref m 0,D.int id,D.int 2,D.str s] σ (fun r σ'=>r= .tup [.ref o 0,D.int 0]∧σ'=σ))(hno:σ[o]?=some (eG n))(hl:n.classes.length≤1000)(hbad:sY s n.classes=true):Ct prog 197 [.ref m 0,D.int id,D.str s] σ (fun r σ'=>r= .int 1∧σ'=σ):=by
 refine zf (rs:=[.tmp 6]) func197 ntmps197 results197 ?_;simp only [aN];refine aY fun _ _ Z=>?_;simp[hno,aI hno,List.set_set];apply Z;refine aY fun _ _ Z=>?_;refine zs 3 fun _ Y=>?_;simp[hno,aI hno,List.set_set];apply Y;refine aD fun _ Y=>?_;simp[hno,aI hno,List.set_set];refine cH (hown) ?_;apply Y;simp[hno,aI hno,List.set_set];apply Z;apply aC;apply aG;refine aY fun _ _ Z=>?_;simp[hno,aI hno,List.set_set];apply Z;refine zi ?_;refine⟨fun c1=>?_,fun c1=>?_⟩
 ·simp at c1
 try simp at c1
 refine zk [2,6,7] ?_;refine aY fun _ _ Z=>?_;refine zs 5 fun _ Y=>?_;simp[hno,aI hno,List.set_set];apply Y;refine aD fun _ Y=>?_;simp[hno,aI hno,List.set_set];refine cH (uS n.classes s _ (by omega)) ?_;apply Y;simp[hno,aI hno,List.set_set];apply Z;refine zi ?_;refine⟨fun c2=>?_,fun c2=>?_⟩
 ·try simp at c2
  refine aY fun _ _ Z=>?_;simp[hno,aI hno,List.set_set];apply Z;apply aB;apply aQ;apply aJ;simp [aL]
 try simp at c2
 rw [hbad] at c2;cases c2
theorem Xm(m o:Nat)(id:Int)(n:ND)(s:ByteArray)(σ:List (List D))(hown:Ct prog 217 [.ref m 0,D.int id,D.int 2,D.str s] σ (fun r σ'=>r= .tup [.ref o 0,D.int 0]∧σ'=σ))(hno:σ[o]?=some (eG n))(hl:n.classes.length≤1000)(hgood:sY s n.classes=false):Ct prog 197 [.ref m 0,D.int id,D.str s] σ (fun r σ'=>r=D.int 0∧σ'=σ.set o (eG { n with classes:=n.classes++ [s] })):=by
 refine zf (rs:=[.tmp 6]) func197 ntmps197 results197 ?_;simp only [aN];refine aY fun _ _ Z=>?_;simp[hno,aI hno,List.set_set];apply Z;refine aY fun _ _ Z=>?_;refine zs 3 fun _ Y=>?_;simp[hno,aI hno,List.set_set];apply Y;refine aD fun _ Y=>?_;simp[hno,aI hno,List.set_set];refine cH (hown) ?_;apply Y;simp[hno,aI hno,List.set_set];apply Z;apply aC;apply aG;refine aY fun _ _ Z=>?_;simp[hno,aI hno,List.set_set];apply Z;refine zi ?_;refine⟨fun c1=>?_,fun c1=>?_⟩
 ·simp at c1
 try simp at c1
 refine zk [2,6,7] ?_;refine aY fun _ _ Z=>?_;refine zs 5 fun _ Y=>?_;simp[hno,aI hno,List.set_set];apply Y;refine aD fun _ Y=>?_;simp[hno,aI hno,List.set_set];refine cH (uS n.classes s _ (by omega)) ?_;apply Y;simp[hno,aI hno,List.set_set];apply Z;refine zi ?_;refine⟨fun c2=>?_,fun c2=>?_⟩
 ·try simp at c2
  rw [hgood] at c2;cases c2
 try simp at c2
 apply aE;apply aK;apply aA;refine aY fun _ _ Z=>?_;refine zs 6 fun _ Y=>?_;simp[hno,aI hno,List.set_set];apply Y;refine aD fun _ Y=>?_;simp[hno,aI hno,List.set_set];refine cH (aE3 n.classes s _ (by omega)) ?_;rw [show Ta n.classes s=n.classes++ [s] from by unfold Ta;rw [hgood];rfl];apply Y;simp[hno,aI hno,List.set_set];apply Z;refine zk [6] ?_;refine aY fun _ _ Z=>?_;simp[hno,aI hno,List.set_set];apply Z;apply aB;simp [aL,eG]
theorem Wj(m:Nat)(id c:Int)(s:ByteArray)(σ:List (List D))(hown:Ct prog 217 [.ref m 0,D.int id,D.int 2,D.str s] σ (fun r σ'=>r= .tup [.v (.pointer none),D.int c]∧σ'=σ))(hc:¬c=0):Ct prog 196 [.ref m 0,D.int id,D.str s] σ (fun r σ'=>r= .int c∧σ'=σ):=by
 refine zf (rs:=[.tmp 6]) func196 ntmps196 results196 ?_;simp only [aN];refine aY fun _ _ Z=>?_;simp;apply Z;refine aY fun _ _ Z=>?_;refine zs 3 fun _ Y=>?_;simp;apply Y;refine aD fun _ Y=>?_;simp;refine cH (hown) ?_;apply Y;simp;apply Z;apply aC;apply aG;refine aY fun _ _ Z=>?_;simp;apply Z;refine zi ?_;refine⟨fun c1=>?_,fun c1=>?_⟩
 ·try simp at c1
  refine zk [2,6,7,8] ?_;refine aY fun _ _ Z=>?_;simp;apply Z;apply aB;apply aQ;apply aJ;simp [aL]
 try simp at c1
 exact absurd c1 hc
theorem Zz(m o:Nat)(id:Int)(n:ND)(s:ByteArray)(σ:List (List D))(hown:Ct prog 217 [.ref m 0,D.int id,D.int 2,D.str s] σ (fun r σ'=>r= .tup [.ref o 0,D.int 0]∧σ'=σ))(hno:σ[o]?=some (eG n))(hl:n.classes.length≤1000)(hbad:sY s n.classes=false):Ct prog 196 [.ref m 0,D.int id,D.str s] σ (fun r σ'=>r= .int 1∧σ'=σ):=by
 refine zf (rs:=[.tmp 6]) func196 ntmps196 results196 ?_;simp only [aN];refine aY fun _ _ Z=>?_;simp[hno,aI hno,List.set_set];apply Z;refine aY fun _ _ Z=>?_;refine zs 3 fun _ Y=>?_;simp[hno,aI hno,List.set_set];apply Y;refine aD fun _ Y=>?_;simp[hno,aI hno,List.set_set];refine cH (hown) ?_;apply Y;simp[hno,aI hno,List.set_set];apply Z;apply aC;apply aG;refine aY fun _ _ Z=>?_;simp[hno,aI hno,List.set_set];apply Z;refine zi ?_;refine⟨fun c1=>?_,fun c1=>?_⟩
 ·simp at c1
 try simp at c1
 refine zk [2,6,7] ?_;refine aY fun _ _ Z=>?_;refine zs 5 fun _ Y=>?_;simp[hno,aI hno,List.set_set];apply Y;refine aD fun _ Y=>?_;simp[hno,aI hno,List.set_set];refine cH (uS n.classes s _ (by omega)) ?_;apply Y;simp[hno,aI hno,List.set_set];apply Z;refine zi ?_;refine⟨fun c2=>?_,fun c2=>?_⟩
 ·try simp at c2
  refine aY fun _ _ Z=>?_;simp[hno,aI hno,List.set_set];apply Z;apply aB;apply aQ;apply aJ;simp [aL]
 try simp at c2
 rw [hbad] at c2;cases c2
theorem aBu(m o:Nat)(id:Int)(n:ND)(s:ByteArray)(σ:List (List D))(hown:Ct prog 217 [.ref m 0,D.int id,D.int 2,D.str s] σ (fun r σ'=>r= .tup [.ref o 0,D.int 0]∧σ'=σ))(hno:σ[o]?=some (eG n))(hl:n.classes.length≤1000)(hgood:sY s n.classes=true):Ct prog 196 [.ref m 0,D.int id,D.str s] σ (fun r σ'=>r=D.int 0∧σ'=σ.set o (eG { n with classes:=lG n.classes s })):=by
 refine zf (rs:=[.tmp 6]) func196 ntmps196 results196 ?_;simp only [aN];refine aY fun _ _ Z=>?_;simp[hno,aI hno,List.set_set];apply Z;refine aY fun _ _ Z=>?_;refine zs 3 fun _ Y=>?_;simp[hno,aI hno,List.set_set];apply Y;refine aD fun _ Y=>?_;simp[hno,aI hno,List.set_set];refine cH (hown) ?_;apply Y;simp[hno,aI hno,List.set_set];apply Z;apply aC;apply aG;refine aY fun _ _ Z=>?_;simp[hno,aI hno,List.set_set];apply Z;refine zi ?_;refine⟨fun c1=>?_,fun c1=>?_⟩
 ·simp at c1
 try simp at c1
 refine zk [2,6,7] ?_;refine aY fun _ _ Z=>?_;refine zs 5 fun _ Y=>?_;simp[hno,aI hno,List.set_set];apply Y;refine aD fun _ Y=>?_;simp[hno,aI hno,List.set_set];refine cH (uS n.classes s _ (by omega)) ?_;apply Y;simp[hno,aI hno,List.set_set];apply Z;refine zi ?_;refine⟨fun c2=>?_,fun c2=>?_⟩
 ·try simp at c2
  rw [hgood] at c2;cases c2
 try simp at c2
 apply aE;apply aK;apply aA;refine aY fun _ _ Z=>?_;refine zs 6 fun _ Y=>?_;simp[hno,aI hno,List.set_set];apply Y;refine aD fun _ Y=>?_;simp[hno,aI hno,List.set_set];refine cH (Xv n.classes s _ (by omega)) ?_;apply Y;simp[hno,aI hno,List.set_set];apply Z;refine zk [6] ?_;refine aY fun _ _ Z=>?_;simp[hno,aI hno,List.set_set];apply Z;apply aB;simp [aL,eG]
end Go.Proofs.YtbgfljpnhhdkoaaGreat
