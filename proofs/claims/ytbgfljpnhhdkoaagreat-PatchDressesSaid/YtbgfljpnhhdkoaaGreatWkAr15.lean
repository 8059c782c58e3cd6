import Derived.Test.YtbgfljpnhhdkoaaGreatWkAr14
set_option maxRecDepth 20000
set_option linter.all false
set_option maxHeartbeats 8000000
open Go.Proofs.Tryz
namespace Go.Proofs.YtbgfljpnhhdkoaaGreat
open Go Go.Vm
def tO(n:ND)(kind:Int)(name:ByteArray):Int:=if n.ID=0 then 1 else if ¬n.kind=kind then 14 else if kind=2/\fF name=false then 2 else 0
theorem aBp {n:ND} {kind:Int} {name:ByteArray} (h:tO n kind name=0):¬n.ID=0/\n.kind=kind/\(kind=2->fF name=true):=by
 unfold tO at h;split at h
 .cases h
 split at h
 .cases h
 split at h
 .cases h
 rename_i h1 h2 h3;refine⟨h1,He.1 h2,fun hk=>?_⟩;cases hn:fF name with
 | true=>rfl
 | false=>exact absurd ⟨hk,hn⟩ h3
theorem aJ1(m M:Nat)(d:DS)(id kind:Int)(name:ByteArray)(σ:List (List D))(ho:DO m M d σ)(hno:eN d.l id=false):Ct prog 217 [.ref m 0,D.int id,D.int kind,D.str name] σ (fun r σ'=>r= .tup [.v (.pointer none),D.int 11]/\σ'=σ):=by
 refine zf func217 ?_;have hq:=ho.hm;refine bE fun _ _ Z=>?_;simp[hq];apply Z;refine bE fun _ _ Z=>?_;refine zs 6 fun _ Y=>?_;simp[hq];refine⟨m,2,d.ck,_,.v (.pointer none),⟨⟨_,hq,rfl⟩,mT _,.inl (tK hno _)⟩,?_⟩;and_intros<;>(try omega);apply Y;simp[hq];apply Z;apply Ea;refine bE fun _ _ Z=>?_;simp[hq];apply Z;refine zI ?_ ?_<;>intro c1<;>try simp at c1
 refine zk [8,9,10] ?_;refine bE fun _ _ Z=>?_;simp[hq];apply Z;apply aD;simp [aK]
theorem aRw(m M:Nat)(d:DS)(e:EN)(kind:Int)(name:ByteArray)(σ:List (List D))(ho:DO m M d σ)(he:e∈d.es)(hs:name.size<=1000)(hb:¬tO e.n kind name=0):Ct prog 217 [.ref m 0,D.int e.n.ID,D.int kind,D.str name] σ (fun r σ'=>r= .tup [.v (.pointer none),D.int (tO e.n kind name)]/\σ'=σ):=by
 refine zf func217 ?_;have hq:=ho.hm;have hne:=ho.hn e he;refine bE fun _ _ Z=>?_;simp[hq,hne];apply Z;refine bE fun _ _ Z=>?_;refine zs 6 fun _ Y=>?_;simp[hq,hne];refine⟨m,2,d.ck,_,.ref e.o 0,⟨⟨_,hq,rfl⟩,mT _,.inr (iL he _)⟩,?_⟩;and_intros<;>(try omega);apply Y;simp[hq,hne];apply Z;apply Ea;refine bE fun _ _ Z=>?_;simp[hq,hne];apply Z;refine zI ?_ ?_<;>intro c1<;>try simp at c1
 refine zk [1,2,3,8,9,10] ?_;refine bE fun _ _ Z=>?_;simp[hq,hne];apply Z;refine zI ?_ ?_<;>intro c2<;>try simp at c2
 .refine bE fun _ _ Z=>?_;simp[hq,hne];apply Z;apply aD;simp [aK,tO, *]
 refine bE fun _ _ Z=>?_;simp[hq,hne];apply Z;refine zI ?_ ?_<;>intro c3<;>try simp at c3
 .refine zk [8,9,10] ?_;refine bE fun _ _ Z=>?_;simp[hq,hne];apply Z;apply aD;simp [aK,tO, *]
 refine zk [2,3,8,9,10] ?_;refine pB ⟨[],[],[],[],[]⟩ fun all hall _ Z=>?_;have ga2:aT all 2=some 33:=hall 2;refine zs 3 fun _ Y=>?_;simp[hq,hne,ga2];apply Y;refine zb 33 ?_ ?_<;>intro g4<;>try simp at g4
 .refine zs 1 fun _ Y=>?_;simp[hq,hne,ga2];apply Y;refine zg ga2 fun _ Y=>?_;simp[hq,hne,ga2];refine cB (uG name _ (by omega)) ?_;apply Y;simp[hq,hne,ga2];apply Z;refine zI ?_ ?_<;>intro c5<;>try simp at c5
  .refine zk [8,9,10] ?_;refine bE fun _ _ Z=>?_;simp[hq,hne];apply Z;apply aD;simp [aK,tO, *]
  exact absurd (by simp [tO,c2,c3,g4,c5]) hb
 exact absurd (by simp [tO,c2,c3,g4]) hb
theorem aPk(m M:Nat)(d:DS)(e:EN)(kind:Int)(name:ByteArray)(σ:List (List D))(ho:DO m M d σ)(he:e∈d.es)(hs:name.size<=1000)(hb:tO e.n kind name=0):Ct prog 217 [.ref m 0,D.int e.n.ID,D.int kind,D.str name] σ (fun r σ'=>r= .tup [.ref e.o 0,D.int 0]/\σ'=σ):=by
 refine zf func217 ?_;have hq:=ho.hm;have hne:=ho.hn e he;obtain⟨o1,o2,o3⟩:=aBp hb;refine bE fun _ _ Z=>?_;simp[hq,hne];apply Z;refine bE fun _ _ Z=>?_;refine zs 6 fun _ Y=>?_;simp[hq,hne];refine⟨m,2,d.ck,_,.ref e.o 0,⟨⟨_,hq,rfl⟩,mT _,.inr (iL he _)⟩,?_⟩;and_intros<;>(try omega);apply Y;simp[hq,hne];apply Z;apply Ea;refine bE fun _ _ Z=>?_;simp[hq,hne];apply Z;refine zI ?_ ?_<;>intro c1<;>try simp at c1
 refine zk [1,2,3,8,9,10] ?_;refine bE fun _ _ Z=>?_;simp[hq,hne];apply Z;refine zI ?_ ?_<;>intro c2<;>try simp at c2
 .exact absurd c2 o1
 refine bE fun _ _ Z=>?_;simp[hq,hne];apply Z;refine zI ?_ ?_<;>intro c3<;>try simp at c3
 .exact absurd o2 c3
 refine zk [2,3,8,9,10] ?_;refine pB ⟨[],[],[],[],[]⟩ fun all hall _ Z=>?_;have ga2:aT all 2=some 33:=hall 2;refine zs 3 fun _ Y=>?_;simp[hq,hne,ga2];apply Y;refine zb 33 ?_ ?_<;>intro g4<;>try simp at g4
 .refine zs 1 fun _ Y=>?_;simp[hq,hne,ga2];apply Y;refine zg ga2 fun _ Y=>?_;simp[hq,hne,ga2];refine cB (uG name _ (by omega)) ?_;apply Y;simp[hq,hne,ga2];apply Z;refine zI ?_ ?_<;>intro c5<;>try simp at c5
  .rw [o3 g4] at c5;cases c5
  apply mM;refine zk [8,9,10] ?_;refine bE fun _ _ Z=>?_;simp[hq,hne];apply Z;apply aD;simp [aK]
 simp[hq,hne,ga2];apply Z;refine bS (t:=false) (by simp) (fun h=>by cases h) (fun _=>?_);apply mM;refine zk [8,9,10] ?_;refine bE fun _ _ Z=>?_;simp[hq,hne];apply Z;apply aD;simp [aK]
theorem aMn(m:Nat)(id c:Int)(s:ByteArray)(σ:List (List D))(hown:Ct prog 217 [.ref m 0,D.int id,D.int 2,D.str s] σ (fun r σ'=>r= .tup [.v (.pointer none),D.int c]/\σ'=σ))(hc:¬c=0):Ct prog 163 [.ref m 0,D.int id,D.str s] σ (fun r σ'=>r= .int c/\σ'=σ):=by
 refine zf func163 ?_;refine bE fun _ _ Z=>?_;simp;apply Z;refine bE fun _ _ Z=>?_;refine zs 3 fun _ Y=>?_;simp;apply Y;refine aE fun _ Y=>?_;simp;refine cB (hown) ?_;apply Y;simp;apply Z;apply aF;refine bE fun _ _ Z=>?_;simp;apply Z;refine zI ?_ ?_<;>intro c1<;>try simp at c1
 .exact absurd c1 hc
 apply zA;refine zk [6,8] ?_;refine bE fun _ _ Z=>?_;simp;apply Z;apply aD;simp [aK]
theorem aNq(m o:Nat)(id:Int)(n:ND)(s:ByteArray)(σ:List (List D))(hown:Ct prog 217 [.ref m 0,D.int id,D.int 2,D.str s] σ (fun r σ'=>r= .tup [.ref o 0,D.int 0]/\σ'=σ))(hno:σ[o]?=some (gT n)):Ct prog 163 [.ref m 0,D.int id,D.str s] σ (fun r σ'=>r=D.int 0/\σ'=σ.set o (gT { n with tag:=s })):=by
 refine zf func163 ?_;refine bE fun _ _ Z=>?_;simp[hno,aO hno,aH];apply Z;refine bE fun _ _ Z=>?_;refine zs 3 fun _ Y=>?_;simp[hno,aO hno,aH];apply Y;refine aE fun _ Y=>?_;simp[hno,aO hno,aH];refine cB (hown) ?_;apply Y;simp[hno,aO hno,aH];apply Z;apply aF;refine bE fun _ _ Z=>?_;simp[hno,aO hno,aH];apply Z;refine zI ?_ ?_<;>intro c1<;>try simp at c1
 refine zk [2,6,7,8] ?_;refine rB fun _ _ Z=>?_;simp[hno,aO hno,aH];apply Z;apply gI;refine bE fun _ _ Z=>?_;simp[hno,aO hno,aH];apply Z;apply aD;simp [aK,gT]
theorem aN9(m:Nat)(id c:Int)(s:ByteArray)(σ:List (List D))(hown:Ct prog 217 [.ref m 0,D.int id,D.int 1,D.str ⟨#[]⟩] σ (fun r σ'=>r= .tup [.v (.pointer none),D.int c]/\σ'=σ))(hc:¬c=0):Ct prog 164 [.ref m 0,D.int id,D.str s] σ (fun r σ'=>r= .int c/\σ'=σ):=by
 refine zf func164 ?_;refine bE fun _ _ Z=>?_;simp;apply Z;refine bE fun _ _ Z=>?_;refine zs 2 fun _ Y=>?_;simp;apply Y;refine aE fun _ Y=>?_;simp;refine cB (hown) ?_;apply Y;simp;apply Z;apply aF;refine bE fun _ _ Z=>?_;simp;apply Z;refine zI ?_ ?_<;>intro c1<;>try simp at c1
 .exact absurd c1 hc
 apply zA;refine bE fun _ _ Z=>?_;simp;apply Z;apply aD;simp [aK]
theorem aM4(m o:Nat)(id:Int)(n:ND)(s:ByteArray)(σ:List (List D))(hown:Ct prog 217 [.ref m 0,D.int id,D.int 1,D.str ⟨#[]⟩] σ (fun r σ'=>r= .tup [.ref o 0,D.int 0]/\σ'=σ))(hno:σ[o]?=some (gT n)):Ct prog 164 [.ref m 0,D.int id,D.str s] σ (fun r σ'=>r=D.int 0/\σ'=σ.set o (gT { n with text:=s })):=by
 refine zf func164 ?_;refine bE fun _ _ Z=>?_;simp[hno,aO hno,aH];apply Z;refine bE fun _ _ Z=>?_;refine zs 2 fun _ Y=>?_;simp[hno,aO hno,aH];apply Y;refine aE fun _ Y=>?_;simp[hno,aO hno,aH];refine cB (hown) ?_;apply Y;simp[hno,aO hno,aH];apply Z;apply aF;refine bE fun _ _ Z=>?_;simp[hno,aO hno,aH];apply Z;refine zI ?_ ?_<;>intro c1<;>try simp at c1
 refine rB fun _ _ Z=>?_;simp[hno,aO hno,aH];apply Z;apply gI;refine zk [6,8] ?_;refine bE fun _ _ Z=>?_;simp[hno,aO hno,aH];apply Z;apply aD;simp [aK,gT]
theorem aI9(m:Nat)(id c:Int)(s:ByteArray)(v:ByteArray)(σ:List (List D))(hown:Ct prog 217 [.ref m 0,D.int id,D.int 2,D.str s] σ (fun r σ'=>r= .tup [.v (.pointer none),D.int c]/\σ'=σ))(hc:¬c=0):Ct prog 199 [.ref m 0,D.int id,D.str s,D.str v] σ (fun r σ'=>r= .int c/\σ'=σ):=by
 refine zf func199 ?_;refine bE fun _ _ Z=>?_;simp;apply Z;refine bE fun _ _ Z=>?_;refine zs 3 fun _ Y=>?_;simp;apply Y;refine aE fun _ Y=>?_;simp;refine cB (hown) ?_;apply Y;simp;apply Z;apply aF;refine bE fun _ _ Z=>?_;simp;apply Z;refine zI ?_ ?_<;>intro c1<;>try simp at c1
 .exact absurd c1 hc
 apply zA;refine zk [8,10] ?_;refine bE fun _ _ Z=>?_;simp;apply Z;apply aD;simp [aK]
theorem aMx(m o:Nat)(id:Int)(n:ND)(s:ByteArray)(v:ByteArray)(σ:List (List D))(hown:Ct prog 217 [.ref m 0,D.int id,D.int 2,D.str s] σ (fun r σ'=>r= .tup [.ref o 0,D.int 0]/\σ'=σ))(hno:σ[o]?=some (gT n))(hl:n.attrs.length<=1000)(hs:Sorted nA n.attrs):Ct prog 199 [.ref m 0,D.int id,D.str s,D.str v] σ (fun r σ'=>r=D.int 0/\σ'=σ.set o (gT { n with attrs:=gS nA n.attrs ⟨s,v⟩ })):=by
 refine zf func199 ?_;refine bE fun _ _ Z=>?_;simp[hno,aO hno,aH];apply Z;refine bE fun _ _ Z=>?_;refine zs 3 fun _ Y=>?_;simp[hno,aO hno,aH];apply Y;refine aE fun _ Y=>?_;simp[hno,aO hno,aH];refine cB (hown) ?_;apply Y;simp[hno,aO hno,aH];apply Z;apply aF;refine bE fun _ _ Z=>?_;simp[hno,aO hno,aH];apply Z;refine zI ?_ ?_<;>intro c1<;>try simp at c1
 refine zk [2,3,8,9,10] ?_;refine rB fun _ _ Z=>?_;refine zs 7 fun _ Y=>?_;simp[hno,aO hno,aH];apply Y;refine aE fun _ Y=>?_;simp[hno,aO hno,aH];refine cB (aPz n.attrs s v _ (by omega) hs) ?_;apply Y;simp[hno,aO hno,aH];apply Z;apply gI;refine zk [8,10] ?_;refine bE fun _ _ Z=>?_;simp[hno,aO hno,aH];apply Z;apply aD;simp [aK,gT]
theorem aMj(m:Nat)(id c:Int)(s:ByteArray)(v:Int)(σ:List (List D))(hown:Ct prog 217 [.ref m 0,D.int id,D.int 2,D.str s] σ (fun r σ'=>r= .tup [.v (.pointer none),D.int c]/\σ'=σ))(hc:¬c=0):Ct prog 202 [.ref m 0,D.int id,D.str s,D.int v] σ (fun r σ'=>r= .int c/\σ'=σ):=by
 refine zf func202 ?_;refine bE fun _ _ Z=>?_;simp;apply Z;refine bE fun _ _ Z=>?_;refine zs 3 fun _ Y=>?_;simp;apply Y;refine aE fun _ Y=>?_;simp;refine cB (hown) ?_;apply Y;simp;apply Z;apply aF;refine bE fun _ _ Z=>?_;simp;apply Z;refine zI ?_ ?_<;>intro c1<;>try simp at c1
 .exact absurd c1 hc
 apply zA;refine zk [8,10] ?_;refine bE fun _ _ Z=>?_;simp;apply Z;apply aD;simp [aK]
theorem aJf(m o:Nat)(id:Int)(n:ND)(s:ByteArray)(v:Int)(σ:List (List D))(hown:Ct prog 217 [.ref m 0,D.int id,D.int 2,D.str s] σ (fun r σ'=>r= .tup [.ref o 0,D.int 0]/\σ'=σ))(hno:σ[o]?=some (gT n))(hl:n.styles.length<=1000)(hs:Sorted nP n.styles):Ct prog 202 [.ref m 0,D.int id,D.str s,D.int v] σ (fun r σ'=>r=D.int 0/\σ'=σ.set o (gT { n with styles:=gS nP n.styles ⟨s,Ny v⟩ })):=by
 refine zf func202 ?_;refine bE fun _ _ Z=>?_;simp[hno,aO hno,aH];apply Z;refine bE fun _ _ Z=>?_;refine zs 3 fun _ Y=>?_;simp[hno,aO hno,aH];apply Y;refine aE fun _ Y=>?_;simp[hno,aO hno,aH];refine cB (hown) ?_;apply Y;simp[hno,aO hno,aH];apply Z;apply aF;refine bE fun _ _ Z=>?_;simp[hno,aO hno,aH];apply Z;refine zI ?_ ?_<;>intro c1<;>try simp at c1
 refine zk [2,3,8,9,10] ?_;refine ze ⟨[],[],[],[],[]⟩ [.op {},.op {},.op {},.op {},.op {rO:=true},.op {},.op {},.pure,.pure,.op {},.op {},.op {rO:=true,wO:=true}] fun all hall _ Z=>?_;refine iU 7 fun _ Y=>?_;simp[hno,aO hno,aH];apply Y;refine dL fun _ Y=>?_;simp[hno,aO hno,aH];refine Ia (fun _=>(aTs v _)) ?_;apply Y;refine dL fun _ Y=>?_;simp[hno,aO hno,aH];refine Ia (fun _=>(aQ6 n.styles s (Ny v) _ (by omega) hs)) ?_;apply Y;simp[hno,aO hno,aH];apply Z;apply gI;refine zk [8,10] ?_;refine bE fun _ _ Z=>?_;simp[hno,aO hno,aH];apply Z;apply aD;simp [aK,gT]
theorem aRb(l:Ls)(c:ByteArray)(σ:List (List D))(hl:l.length<=1000000):Ct prog 186 [dl l,D.str c] σ (fun r σ'=>r=dl (tQ l c)/\σ'=σ):=
 (aI3 l c σ hl).strip fun r σ' ⟨hr,hs⟩=>⟨by rw [hr];rfl,by rw [hr];rfl,hs⟩
theorem aMd(m:Nat)(id c:Int)(s:ByteArray)(σ:List (List D))(hown:Ct prog 217 [.ref m 0,D.int id,D.int 2,D.str s] σ (fun r σ'=>r= .tup [.v (.pointer none),D.int c]/\σ'=σ))(hc:¬c=0):Ct prog 200 [.ref m 0,D.int id,D.str s] σ (fun r σ'=>r= .int c/\σ'=σ):=by
 refine zf func200 ?_;refine bE fun _ _ Z=>?_;simp;apply Z;refine bE fun _ _ Z=>?_;refine zs 3 fun _ Y=>?_;simp;apply Y;refine aE fun _ Y=>?_;simp;refine cB (hown) ?_;apply Y;simp;apply Z;apply aF;refine bE fun _ _ Z=>?_;simp;apply Z;refine zI ?_ ?_<;>intro c1<;>try simp at c1
 .refine zk [2,6,7,8] ?_;refine bE fun _ _ Z=>?_;simp;apply Z;apply aD;simp [aK]
 exact absurd c1 hc
theorem aJ3(m o:Nat)(id:Int)(n:ND)(s:ByteArray)(σ:List (List D))(hown:Ct prog 217 [.ref m 0,D.int id,D.int 2,D.str s] σ (fun r σ'=>r= .tup [.ref o 0,D.int 0]/\σ'=σ))(hno:σ[o]?=some (gT n))(hl:n.attrs.length<=1000)(hs:Sorted nA n.attrs)(hbad:jJ nA n.attrs s=false):Ct prog 200 [.ref m 0,D.int id,D.str s] σ (fun r σ'=>r= .int 1/\σ'=σ):=by
 refine zf func200 ?_;refine bE fun _ _ Z=>?_;simp[hno,aO hno,aH];apply Z;refine bE fun _ _ Z=>?_;refine zs 3 fun _ Y=>?_;simp[hno,aO hno,aH];apply Y;refine aE fun _ Y=>?_;simp[hno,aO hno,aH];refine cB (hown) ?_;apply Y;simp[hno,aO hno,aH];apply Z;apply aF;refine bE fun _ _ Z=>?_;simp[hno,aO hno,aH];apply Z;refine zI ?_ ?_<;>intro c1<;>try simp at c1
 apply zA;apply aF;refine zk [2,6,7] ?_;refine bE fun _ _ Z=>?_;refine zs 5 fun _ Y=>?_;simp[hno,aO hno,aH];apply Y;refine aE fun _ Y=>?_;simp[hno,aO hno,aH];refine zcm (aBs n.attrs s _ (by omega) hs) ?_;rintro _ _ ⟨⟨gv,hr9⟩,hs9⟩;subst hr9;replace hs9:=hs9.symm;subst hs9;apply Y;simp[hno,aO hno,aH];apply Z;refine zk [2,6,7,10] ?_;refine bE fun _ _ Z=>?_;simp[hno,aO hno,aH];apply Z;refine zI ?_ ?_<;>intro c2<;>try simp at c2
 .refine bE fun _ _ Z=>?_;simp[hno,aO hno,aH];apply Z;apply aD;simp [aK]
 rw [hbad] at c2;cases c2
theorem aH8(m o:Nat)(id:Int)(n:ND)(s:ByteArray)(σ:List (List D))(hown:Ct prog 217 [.ref m 0,D.int id,D.int 2,D.str s] σ (fun r σ'=>r= .tup [.ref o 0,D.int 0]/\σ'=σ))(hno:σ[o]?=some (gT n))(hl:n.attrs.length<=1000)(hs:Sorted nA n.attrs)(hgood:jJ nA n.attrs s=true):Ct prog 200 [.ref m 0,D.int id,D.str s] σ (fun r σ'=>r=D.int 0/\σ'=σ.set o (gT { n with attrs:=lN nA n.attrs s })):=by
 refine zf func200 ?_;refine bE fun _ _ Z=>?_;simp[hno,aO hno,aH];apply Z;refine bE fun _ _ Z=>?_;refine zs 3 fun _ Y=>?_;simp[hno,aO hno,aH];apply Y;refine aE fun _ Y=>?_;simp[hno,aO hno,aH];refine cB (hown) ?_;apply Y;simp[hno,aO hno,aH];apply Z;apply aF;refine bE fun _ _ Z=>?_;simp[hno,aO hno,aH];apply Z;refine zI ?_ ?_<;>intro c1<;>try simp at c1
 apply zA;apply aF;refine zk [2,6,7] ?_;refine bE fun _ _ Z=>?_;refine zs 5 fun _ Y=>?_;simp[hno,aO hno,aH];apply Y;refine aE fun _ Y=>?_;simp[hno,aO hno,aH];refine zcm (aBs n.attrs s _ (by omega) hs) ?_;rintro _ _ ⟨⟨gv,hr9⟩,hs9⟩;subst hr9;replace hs9:=hs9.symm;subst hs9;apply Y;simp[hno,aO hno,aH];apply Z;refine zk [2,6,7,10] ?_;refine bE fun _ _ Z=>?_;simp[hno,aO hno,aH];apply Z;refine zI ?_ ?_<;>intro c2<;>try simp at c2
 .rw [hgood] at c2;cases c2
 apply zA;refine bE fun _ _ Z=>?_;refine zs 6 fun _ Y=>?_;simp[hno,aO hno,aH];apply Y;refine aE fun _ Y=>?_;simp[hno,aO hno,aH];refine cB (aKs n.attrs s _ (by omega) hs) ?_;apply Y;simp[hno,aO hno,aH];apply Z;refine zk [6] ?_;refine bE fun _ _ Z=>?_;simp[hno,aO hno,aH];apply Z;apply aD;simp [aK,gT]
theorem aLj(m:Nat)(id c:Int)(s:ByteArray)(σ:List (List D))(hown:Ct prog 217 [.ref m 0,D.int id,D.int 2,D.str s] σ (fun r σ'=>r= .tup [.v (.pointer none),D.int c]/\σ'=σ))(hc:¬c=0):Ct prog 203 [.ref m 0,D.int id,D.str s] σ (fun r σ'=>r= .int c/\σ'=σ):=by
 refine zf func203 ?_;refine bE fun _ _ Z=>?_;simp;apply Z;refine bE fun _ _ Z=>?_;refine zs 3 fun _ Y=>?_;simp;apply Y;refine aE fun _ Y=>?_;simp;refine cB (hown) ?_;apply Y;simp;apply Z;apply aF;refine bE fun _ _ Z=>?_;simp;apply Z;refine zI ?_ ?_<;>intro c1<;>try simp at c1
 .refine zk [2,6,7,8] ?_;refine bE fun _ _ Z=>?_;simp;apply Z;apply aD;simp [aK]
 exact absurd c1 hc
theorem aOk(m o:Nat)(id:Int)(n:ND)(s:ByteArray)(σ:List (List D))(hown:Ct prog 217 [.ref m 0,D.int id,D.int 2,D.str s] σ (fun r σ'=>r= .tup [.ref o 0,D.int 0]/\σ'=σ))(hno:σ[o]?=some (gT n))(hl:n.styles.length<=1000)(hs:Sorted nP n.styles)(hbad:jJ nP n.styles s=false):Ct prog 203 [.ref m 0,D.int id,D.str s] σ (fun r σ'=>r= .int 1/\σ'=σ):=by
 refine zf func203 ?_;refine bE fun _ _ Z=>?_;simp[hno,aO hno,aH];apply Z;refine bE fun _ _ Z=>?_;refine zs 3 fun _ Y=>?_;simp[hno,aO hno,aH];apply Y;refine aE fun _ Y=>?_;simp[hno,aO hno,aH];refine cB (hown) ?_;apply Y;simp[hno,aO hno,aH];apply Z;apply aF;refine bE fun _ _ Z=>?_;simp[hno,aO hno,aH];apply Z;refine zI ?_ ?_<;>intro c1<;>try simp at c1
 apply zA;apply aF;refine zk [2,6,7] ?_;refine bE fun _ _ Z=>?_;refine zs 5 fun _ Y=>?_;simp[hno,aO hno,aH];apply Y;refine aE fun _ Y=>?_;simp[hno,aO hno,aH];refine zcm (aCy n.styles s _ (by omega) hs) ?_;rintro _ _ ⟨⟨gv,hr9⟩,hs9⟩;subst hr9;replace hs9:=hs9.symm;subst hs9;apply Y;simp[hno,aO hno,aH];apply Z;refine zk [2,6,7,10] ?_;refine bE fun _ _ Z=>?_;simp[hno,aO hno,aH];apply Z;refine zI ?_ ?_<;>intro c2<;>try simp at c2
 .refine bE fun _ _ Z=>?_;simp[hno,aO hno,aH];apply Z;apply aD;simp [aK]
 rw [hbad] at c2;cases c2
theorem aNg(m o:Nat)(id:Int)(n:ND)(s:ByteArray)(σ:List (List D))(hown:Ct prog 217 [.ref m 0,D.int id,D.int 2,D.str s] σ (fun r σ'=>r= .tup [.ref o 0,D.int 0]/\σ'=σ))(hno:σ[o]?=some (gT n))(hl:n.styles.length<=1000)(hs:Sorted nP n.styles)(hgood:jJ nP n.styles s=true):Ct prog 203 [.ref m 0,D.int id,D.str s] σ (fun r σ'=>r=D.int 0/\σ'=σ.set o (gT { n with styles:=lN nP n.styles s })):=by
 refine zf func203 ?_;refine bE fun _ _ Z=>?_;simp[hno,aO hno,aH];apply Z;refine bE fun _ _ Z=>?_;refine zs 3 fun _ Y=>?_;simp[hno,aO hno,aH];apply Y;refine aE fun _ Y=>?_;simp[hno,aO hno,aH];refine cB (hown) ?_;apply Y;simp[hno,aO hno,aH];apply Z;apply aF;refine bE fun _ _ Z=>?_;simp[hno,aO hno,aH];apply Z;refine zI ?_ ?_<;>intro c1<;>try simp at c1
 apply zA;apply aF;refine zk [2,6,7] ?_;refine bE fun _ _ Z=>?_;refine zs 5 fun _ Y=>?_;simp[hno,aO hno,aH];apply Y;refine aE fun _ Y=>?_;simp[hno,aO hno,aH];refine zcm (aCy n.styles s _ (by omega) hs) ?_;rintro _ _ ⟨⟨gv,hr9⟩,hs9⟩;subst hr9;replace hs9:=hs9.symm;subst hs9;apply Y;simp[hno,aO hno,aH];apply Z;refine zk [2,6,7,10] ?_;refine bE fun _ _ Z=>?_;simp[hno,aO hno,aH];apply Z;refine zI ?_ ?_<;>intro c2<;>try simp at c2
 .rw [hgood] at c2;cases c2
 apply zA;refine bE fun _ _ Z=>?_;refine zs 6 fun _ Y=>?_;simp[hno,aO hno,aH];apply Y;refine aE fun _ Y=>?_;simp[hno,aO hno,aH];refine cB (aJq n.styles s _ (by omega) hs) ?_;apply Y;simp[hno,aO hno,aH];apply Z;refine zk [6] ?_;refine bE fun _ _ Z=>?_;simp[hno,aO hno,aH];apply Z;apply aD;simp [aK,gT]
theorem aLl(m:Nat)(id c:Int)(s:ByteArray)(σ:List (List D))(hown:Ct prog 217 [.ref m 0,D.int id,D.int 2,D.str s] σ (fun r σ'=>r= .tup [.v (.pointer none),D.int c]/\σ'=σ))(hc:¬c=0):Ct prog 197 [.ref m 0,D.int id,D.str s] σ (fun r σ'=>r= .int c/\σ'=σ):=by
 refine zf func197 ?_;refine bE fun _ _ Z=>?_;simp;apply Z;refine bE fun _ _ Z=>?_;refine zs 3 fun _ Y=>?_;simp;apply Y;refine aE fun _ Y=>?_;simp;refine cB (hown) ?_;apply Y;simp;apply Z;apply Ea;refine bE fun _ _ Z=>?_;simp;apply Z;refine zI ?_ ?_<;>intro c1<;>try simp at c1
 .refine zk [2,6,7,8] ?_;refine bE fun _ _ Z=>?_;simp;apply Z;apply aD;simp [aK]
 exact absurd c1 hc
theorem aH1(m o:Nat)(id:Int)(n:ND)(s:ByteArray)(σ:List (List D))(hown:Ct prog 217 [.ref m 0,D.int id,D.int 2,D.str s] σ (fun r σ'=>r= .tup [.ref o 0,D.int 0]/\σ'=σ))(hno:σ[o]?=some (gT n))(hl:n.classes.length<=1000)(hbad:has s n.classes=true):Ct prog 197 [.ref m 0,D.int id,D.str s] σ (fun r σ'=>r= .int 1/\σ'=σ):=by
 refine zf func197 ?_;refine bE fun _ _ Z=>?_;simp[hno,aO hno,aH];apply Z;refine bE fun _ _ Z=>?_;refine zs 3 fun _ Y=>?_;simp[hno,aO hno,aH];apply Y;refine aE fun _ Y=>?_;simp[hno,aO hno,aH];refine cB (hown) ?_;apply Y;simp[hno,aO hno,aH];apply Z;apply Ea;refine bE fun _ _ Z=>?_;simp[hno,aO hno,aH];apply Z;refine zI ?_ ?_<;>intro c1<;>try simp at c1
 refine zk [2,6,7] ?_;refine bE fun _ _ Z=>?_;refine zs 5 fun _ Y=>?_;simp[hno,aO hno,aH];apply Y;refine aE fun _ Y=>?_;simp[hno,aO hno,aH];refine cB (yP n.classes s _ (by omega)) ?_;apply Y;simp[hno,aO hno,aH];apply Z;refine zI ?_ ?_<;>intro c2<;>try simp at c2
 .refine bE fun _ _ Z=>?_;simp[hno,aO hno,aH];apply Z;apply aD;simp [aK]
 rw [hbad] at c2;cases c2
theorem aIs(m o:Nat)(id:Int)(n:ND)(s:ByteArray)(σ:List (List D))(hown:Ct prog 217 [.ref m 0,D.int id,D.int 2,D.str s] σ (fun r σ'=>r= .tup [.ref o 0,D.int 0]/\σ'=σ))(hno:σ[o]?=some (gT n))(hl:n.classes.length<=1000)(hgood:has s n.classes=false):Ct prog 197 [.ref m 0,D.int id,D.str s] σ (fun r σ'=>r=D.int 0/\σ'=σ.set o (gT { n with classes:=n.classes++ [s] })):=by
 refine zf func197 ?_;refine bE fun _ _ Z=>?_;simp[hno,aO hno,aH];apply Z;refine bE fun _ _ Z=>?_;refine zs 3 fun _ Y=>?_;simp[hno,aO hno,aH];apply Y;refine aE fun _ Y=>?_;simp[hno,aO hno,aH];refine cB (hown) ?_;apply Y;simp[hno,aO hno,aH];apply Z;apply Ea;refine bE fun _ _ Z=>?_;simp[hno,aO hno,aH];apply Z;refine zI ?_ ?_<;>intro c1<;>try simp at c1
 refine zk [2,6,7] ?_;refine bE fun _ _ Z=>?_;refine zs 5 fun _ Y=>?_;simp[hno,aO hno,aH];apply Y;refine aE fun _ Y=>?_;simp[hno,aO hno,aH];refine cB (yP n.classes s _ (by omega)) ?_;apply Y;simp[hno,aO hno,aH];apply Z;refine zI ?_ ?_<;>intro c2<;>try simp at c2
 .rw [hgood] at c2;cases c2
 apply mM;refine bE fun _ _ Z=>?_;refine zs 6 fun _ Y=>?_;simp[hno,aO hno,aH];apply Y;refine aE fun _ Y=>?_;simp[hno,aO hno,aH];refine cB (aRb n.classes s _ (by omega)) ?_;rw [show tQ n.classes s=n.classes++ [s] from by unfold tQ;rw [hgood];rfl];apply Y;simp[hno,aO hno,aH];apply Z;refine zk [6] ?_;refine bE fun _ _ Z=>?_;simp[hno,aO hno,aH];apply Z;apply aD;simp [aK,gT]
theorem aNj(m:Nat)(id c:Int)(s:ByteArray)(σ:List (List D))(hown:Ct prog 217 [.ref m 0,D.int id,D.int 2,D.str s] σ (fun r σ'=>r= .tup [.v (.pointer none),D.int c]/\σ'=σ))(hc:¬c=0):Ct prog 196 [.ref m 0,D.int id,D.str s] σ (fun r σ'=>r= .int c/\σ'=σ):=by
 refine zf func196 ?_;refine bE fun _ _ Z=>?_;simp;apply Z;refine bE fun _ _ Z=>?_;refine zs 3 fun _ Y=>?_;simp;apply Y;refine aE fun _ Y=>?_;simp;refine cB (hown) ?_;apply Y;simp;apply Z;apply Ea;refine bE fun _ _ Z=>?_;simp;apply Z;refine zI ?_ ?_<;>intro c1<;>try simp at c1
 .refine zk [2,6,7,8] ?_;refine bE fun _ _ Z=>?_;simp;apply Z;apply aD;simp [aK]
 exact absurd c1 hc
theorem aN6(m o:Nat)(id:Int)(n:ND)(s:ByteArray)(σ:List (List D))(hown:Ct prog 217 [.ref m 0,D.int id,D.int 2,D.str s] σ (fun r σ'=>r= .tup [.ref o 0,D.int 0]/\σ'=σ))(hno:σ[o]?=some (gT n))(hl:n.classes.length<=1000)(hbad:has s n.classes=false):Ct prog 196 [.ref m 0,D.int id,D.str s] σ (fun r σ'=>r= .int 1/\σ'=σ):=by
 refine zf func196 ?_;refine bE fun _ _ Z=>?_;simp[hno,aO hno,aH];apply Z;refine bE fun _ _ Z=>?_;refine zs 3 fun _ Y=>?_;simp[hno,aO hno,aH];apply Y;refine aE fun _ Y=>?_;simp[hno,aO hno,aH];refine cB (hown) ?_;apply Y;simp[hno,aO hno,aH];apply Z;apply Ea;refine bE fun _ _ Z=>?_;simp[hno,aO hno,aH];apply Z;refine zI ?_ ?_<;>intro c1<;>try simp at c1
 refine zk [2,6,7] ?_;refine bE fun _ _ Z=>?_;refine zs 5 fun _ Y=>?_;simp[hno,aO hno,aH];apply Y;refine aE fun _ Y=>?_;simp[hno,aO hno,aH];refine cB (yP n.classes s _ (by omega)) ?_;apply Y;simp[hno,aO hno,aH];apply Z;refine zI ?_ ?_<;>intro c2<;>try simp at c2
 .refine bE fun _ _ Z=>?_;simp[hno,aO hno,aH];apply Z;apply aD;simp [aK]
 rw [hbad] at c2;cases c2
theorem aOi(m o:Nat)(id:Int)(n:ND)(s:ByteArray)(σ:List (List D))(hown:Ct prog 217 [.ref m 0,D.int id,D.int 2,D.str s] σ (fun r σ'=>r= .tup [.ref o 0,D.int 0]/\σ'=σ))(hno:σ[o]?=some (gT n))(hl:n.classes.length<=1000)(hgood:has s n.classes=true):Ct prog 196 [.ref m 0,D.int id,D.str s] σ (fun r σ'=>r=D.int 0/\σ'=σ.set o (gT { n with classes:=kX n.classes s })):=by
 refine zf func196 ?_;refine bE fun _ _ Z=>?_;simp[hno,aO hno,aH];apply Z;refine bE fun _ _ Z=>?_;refine zs 3 fun _ Y=>?_;simp[hno,aO hno,aH];apply Y;refine aE fun _ Y=>?_;simp[hno,aO hno,aH];refine cB (hown) ?_;apply Y;simp[hno,aO hno,aH];apply Z;apply Ea;refine bE fun _ _ Z=>?_;simp[hno,aO hno,aH];apply Z;refine zI ?_ ?_<;>intro c1<;>try simp at c1
 refine zk [2,6,7] ?_;refine bE fun _ _ Z=>?_;refine zs 5 fun _ Y=>?_;simp[hno,aO hno,aH];apply Y;refine aE fun _ Y=>?_;simp[hno,aO hno,aH];refine cB (yP n.classes s _ (by omega)) ?_;apply Y;simp[hno,aO hno,aH];apply Z;refine zI ?_ ?_<;>intro c2<;>try simp at c2
 .rw [hgood] at c2;cases c2
 apply mM;refine bE fun _ _ Z=>?_;refine zs 6 fun _ Y=>?_;simp[hno,aO hno,aH];apply Y;refine aE fun _ Y=>?_;simp[hno,aO hno,aH];refine cB (aJd n.classes s _ (by omega)) ?_;apply Y;simp[hno,aO hno,aH];apply Z;refine zk [6] ?_;refine bE fun _ _ Z=>?_;simp[hno,aO hno,aH];apply Z;apply aD;simp [aK,gT]
end Go.Proofs.YtbgfljpnhhdkoaaGreat
