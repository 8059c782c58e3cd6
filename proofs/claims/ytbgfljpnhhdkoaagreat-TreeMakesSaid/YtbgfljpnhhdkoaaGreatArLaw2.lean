import Derived.Test.YtbgfljpnhhdkoaaGreatWkAr14
set_option linter.all false
set_option maxRecDepth 20000
set_option maxHeartbeats 8000000
open Go.Proofs.Tryz
namespace Go.Proofs.YtbgfljpnhhdkoaaGreat
open Go Go.Vm
variable {K:List Int}{n p:ND}{x:Int}
def tP(n:ND)(kind:Int)(name:ByteArray):Int:=if n.ID=0 then 1 else if ¬n.kind=kind then 14 else if kind=2/\dT name=false then 2 else 0
theorem aCg {kind:Int} {name:ByteArray} (h:tP n kind name=0):¬n.ID=0/\n.kind=kind/\(kind=2->dT name=true):=by
 unfold tP at h;split at h
 .cases h
 split at h
 .cases h
 split at h
 .cases h
 rename_i h1 h2 h3;refine⟨h1,Gf.1 h2,fun hk=>?_⟩;cases hn:dT name with
 | true=>rfl
 | false=>exact absurd ⟨hk,hn⟩ h3
theorem aNe(m M:Nat)(d:DS)(id kind:Int)(name:ByteArray)(σ:List (List D))(ho:DO m M d σ)(hno:fP d.l id=false):Ct prog 217 [.ref m 0,D.int id,D.int kind,D.str name] σ (fun r σ'=>r= .tup [.v (.pointer none),D.int 11]/\σ'=σ):=by
 refine zf func217 ?_;have hq:=ho.hm;refine bB fun _ _ Z=>?_;simp[hq];apply Z;refine bB fun _ _ Z=>?_;refine zs 6 fun _ Y=>?_;simp[hq];refine⟨m,2,d.ck,_,.v (.pointer none),⟨⟨_,hq,rfl⟩,uD _,.inl (Bm hno _)⟩,?_⟩;and_intros<;>(try omega);apply Y;simp[hq];apply Z;apply Od;refine bB fun _ _ Z=>?_;simp[hq];apply Z;refine zI ?_ ?_<;>intro c1<;>try simp at c1
 refine zk [8,9,10] ?_;refine bB fun _ _ Z=>?_;simp[hq];apply Z;apply aC;simp [aH]
theorem aQ7(m M:Nat)(d:DS)(e:EN)(kind:Int)(name:ByteArray)(σ:List (List D))(ho:DO m M d σ)(he:e∈d.es)(hs:name.size<=1000)(hb:¬tP e.n kind name=0):Ct prog 217 [.ref m 0,D.int e.n.ID,D.int kind,D.str name] σ (fun r σ'=>r= .tup [.v (.pointer none),D.int (tP e.n kind name)]/\σ'=σ):=by
 refine zf func217 ?_;have hq:=ho.hm;have hne:=ho.hn e he;refine bB fun _ _ Z=>?_;simp[hq,hne];apply Z;refine bB fun _ _ Z=>?_;refine zs 6 fun _ Y=>?_;simp[hq,hne];refine⟨m,2,d.ck,_,.ref e.o 0,⟨⟨_,hq,rfl⟩,uD _,.inr (oL he _)⟩,?_⟩;and_intros<;>(try omega);apply Y;simp[hq,hne];apply Z;apply Od;refine bB fun _ _ Z=>?_;simp[hq,hne];apply Z;refine zI ?_ ?_<;>intro c1<;>try simp at c1
 refine zk [1,2,3,8,9,10] ?_;refine bB fun _ _ Z=>?_;simp[hq,hne];apply Z;refine zI ?_ ?_<;>intro c2<;>try simp at c2
 .refine bB fun _ _ Z=>?_;simp[hq,hne];apply Z;apply aC;simp [aH,tP, *]
 refine bB fun _ _ Z=>?_;simp[hq,hne];apply Z;refine zI ?_ ?_<;>intro c3<;>try simp at c3
 .refine zk [8,9,10] ?_;refine bB fun _ _ Z=>?_;simp[hq,hne];apply Z;apply aC;simp [aH,tP, *]
 refine zk [2,3,8,9,10] ?_;refine mH ⟨[],[],[],[],[]⟩ fun all hall _ Z=>?_;have ga2:aN all 2=some 33:=hall 2;refine zs 3 fun _ Y=>?_;simp[hq,hne,ga2];apply Y;refine zb 33 ?_ ?_<;>intro g4<;>try simp at g4
 .refine zs 1 fun _ Y=>?_;simp[hq,hne,ga2];apply Y;refine zg ga2 fun _ Y=>?_;simp[hq,hne,ga2];refine cT (uY name _ (by omega)) ?_;apply Y;simp[hq,hne,ga2];apply Z;refine zI ?_ ?_<;>intro c5<;>try simp at c5
  .refine zk [8,9,10] ?_;refine bB fun _ _ Z=>?_;simp[hq,hne];apply Z;apply aC;simp [aH,tP, *]
  exact absurd (by simp [tP,c2,c3,g4,c5]) hb
 exact absurd (by simp [tP,c2,c3,g4]) hb
theorem aRh(m M:Nat)(d:DS)(e:EN)(kind:Int)(name:ByteArray)(σ:List (List D))(ho:DO m M d σ)(he:e∈d.es)(hs:name.size<=1000)(hb:tP e.n kind name=0):Ct prog 217 [.ref m 0,D.int e.n.ID,D.int kind,D.str name] σ (fun r σ'=>r= .tup [.ref e.o 0,D.int 0]/\σ'=σ):=by
 refine zf func217 ?_;have hq:=ho.hm;have hne:=ho.hn e he;obtain⟨o1,o2,o3⟩:=aCg hb;refine bB fun _ _ Z=>?_;simp[hq,hne];apply Z;refine bB fun _ _ Z=>?_;refine zs 6 fun _ Y=>?_;simp[hq,hne];refine⟨m,2,d.ck,_,.ref e.o 0,⟨⟨_,hq,rfl⟩,uD _,.inr (oL he _)⟩,?_⟩;and_intros<;>(try omega);apply Y;simp[hq,hne];apply Z;apply Od;refine bB fun _ _ Z=>?_;simp[hq,hne];apply Z;refine zI ?_ ?_<;>intro c1<;>try simp at c1
 refine zk [1,2,3,8,9,10] ?_;refine bB fun _ _ Z=>?_;simp[hq,hne];apply Z;refine zI ?_ ?_<;>intro c2<;>try simp at c2
 .exact absurd c2 o1
 refine bB fun _ _ Z=>?_;simp[hq,hne];apply Z;refine zI ?_ ?_<;>intro c3<;>try simp at c3
 .exact absurd o2 c3
 refine zk [2,3,8,9,10] ?_;refine mH ⟨[],[],[],[],[]⟩ fun all hall _ Z=>?_;have ga2:aN all 2=some 33:=hall 2;refine zs 3 fun _ Y=>?_;simp[hq,hne,ga2];apply Y;refine zb 33 ?_ ?_<;>intro g4<;>try simp at g4
 .refine zs 1 fun _ Y=>?_;simp[hq,hne,ga2];apply Y;refine zg ga2 fun _ Y=>?_;simp[hq,hne,ga2];refine cT (uY name _ (by omega)) ?_;apply Y;simp[hq,hne,ga2];apply Z;refine zI ?_ ?_<;>intro c5<;>try simp at c5
  .rw [o3 g4] at c5;cases c5
  apply mS;refine zk [8,9,10] ?_;refine bB fun _ _ Z=>?_;simp[hq,hne];apply Z;apply aC;simp [aH]
 simp[hq,hne,ga2];apply Z;refine bA (t:=false) (by simp) (fun h=>by cases h) (fun _=>?_);apply mS;refine zk [8,9,10] ?_;refine bB fun _ _ Z=>?_;simp[hq,hne];apply Z;apply aC;simp [aH]
theorem aMr(m:Nat)(id c:Int)(s:ByteArray)(v:ByteArray)(σ:List (List D))(hown:Ct prog 217 [.ref m 0,D.int id,D.int 2,D.str s] σ (fun r σ'=>r= .tup [.v (.pointer none),D.int c]/\σ'=σ))(hc:¬c=0):Ct prog 199 [.ref m 0,D.int id,D.str s,D.str v] σ (fun r σ'=>r= .int c/\σ'=σ):=by
 refine zf func199 ?_;refine bB fun _ _ Z=>?_;simp;apply Z;refine bB fun _ _ Z=>?_;refine zs 3 fun _ Y=>?_;simp;apply Y;refine aF fun _ Y=>?_;simp;refine cT (hown) ?_;apply Y;simp;apply Z;apply aE;refine bB fun _ _ Z=>?_;simp;apply Z;refine zI ?_ ?_<;>intro c1<;>try simp at c1
 .exact absurd c1 hc
 apply zA;refine zk [8,10] ?_;refine bB fun _ _ Z=>?_;simp;apply Z;apply aC;simp [aH]
theorem aL8(m o:Nat)(id:Int)(n:ND)(s:ByteArray)(v:ByteArray)(σ:List (List D))(hown:Ct prog 217 [.ref m 0,D.int id,D.int 2,D.str s] σ (fun r σ'=>r= .tup [.ref o 0,D.int 0]/\σ'=σ))(hno:σ[o]?=some (jU n))(hl:n.attrs.length<=1000)(hs:Sorted nA n.attrs):Ct prog 199 [.ref m 0,D.int id,D.str s,D.str v] σ (fun r σ'=>r=D.int 0/\σ'=σ.set o (jU { n with attrs:=fU nA n.attrs ⟨s,v⟩ })):=by
 refine zf func199 ?_;refine bB fun _ _ Z=>?_;simp[hno,aM hno,aL];apply Z;refine bB fun _ _ Z=>?_;refine zs 3 fun _ Y=>?_;simp[hno,aM hno,aL];apply Y;refine aF fun _ Y=>?_;simp[hno,aM hno,aL];refine cT (hown) ?_;apply Y;simp[hno,aM hno,aL];apply Z;apply aE;refine bB fun _ _ Z=>?_;simp[hno,aM hno,aL];apply Z;refine zI ?_ ?_<;>intro c1<;>try simp at c1
 refine zk [2,3,8,9,10] ?_;refine pF fun _ _ Z=>?_;refine zs 7 fun _ Y=>?_;simp[hno,aM hno,aL];apply Y;refine aF fun _ Y=>?_;simp[hno,aM hno,aL];refine cT (aCi n.attrs s v _ (by omega) hs) ?_;apply Y;simp[hno,aM hno,aL];apply Z;apply fW;refine zk [8,10] ?_;refine bB fun _ _ Z=>?_;simp[hno,aM hno,aL];apply Z;apply aC;simp [aH,jU]
theorem aJl(m:Nat)(id c:Int)(s:ByteArray)(v:Int)(σ:List (List D))(hown:Ct prog 217 [.ref m 0,D.int id,D.int 2,D.str s] σ (fun r σ'=>r= .tup [.v (.pointer none),D.int c]/\σ'=σ))(hc:¬c=0):Ct prog 202 [.ref m 0,D.int id,D.str s,D.int v] σ (fun r σ'=>r= .int c/\σ'=σ):=by
 refine zf func202 ?_;refine bB fun _ _ Z=>?_;simp;apply Z;refine bB fun _ _ Z=>?_;refine zs 3 fun _ Y=>?_;simp;apply Y;refine aF fun _ Y=>?_;simp;refine cT (hown) ?_;apply Y;simp;apply Z;apply aE;refine bB fun _ _ Z=>?_;simp;apply Z;refine zI ?_ ?_<;>intro c1<;>try simp at c1
 .exact absurd c1 hc
 apply zA;refine zk [8,10] ?_;refine bB fun _ _ Z=>?_;simp;apply Z;apply aC;simp [aH]
theorem aHt(m o:Nat)(id:Int)(n:ND)(s:ByteArray)(v:Int)(σ:List (List D))(hown:Ct prog 217 [.ref m 0,D.int id,D.int 2,D.str s] σ (fun r σ'=>r= .tup [.ref o 0,D.int 0]/\σ'=σ))(hno:σ[o]?=some (jU n))(hl:n.styles.length<=1000)(hs:Sorted nP n.styles):Ct prog 202 [.ref m 0,D.int id,D.str s,D.int v] σ (fun r σ'=>r=D.int 0/\σ'=σ.set o (jU { n with styles:=fU nP n.styles ⟨s,Av v⟩ })):=by
 refine zf func202 ?_;refine bB fun _ _ Z=>?_;simp[hno,aM hno,aL];apply Z;refine bB fun _ _ Z=>?_;refine zs 3 fun _ Y=>?_;simp[hno,aM hno,aL];apply Y;refine aF fun _ Y=>?_;simp[hno,aM hno,aL];refine cT (hown) ?_;apply Y;simp[hno,aM hno,aL];apply Z;apply aE;refine bB fun _ _ Z=>?_;simp[hno,aM hno,aL];apply Z;refine zI ?_ ?_<;>intro c1<;>try simp at c1
 refine zk [2,3,8,9,10] ?_;refine ze ⟨[],[],[],[],[]⟩ [.op {},.op {},.op {},.op {},.op {rO:=true},.op {},.op {},.pure,.pure,.op {},.op {},.op {rO:=true,wO:=true}] fun all hall _ Z=>?_;refine kF 7 fun _ Y=>?_;simp[hno,aM hno,aL];apply Y;refine bY fun _ Y=>?_;simp[hno,aM hno,aL];refine wI (fun _=>(Sk v _)) ?_;apply Y;refine bY fun _ Y=>?_;simp[hno,aM hno,aL];refine wI (fun _=>(Cj n.styles s (Av v) _ (by omega) hs)) ?_;apply Y;simp[hno,aM hno,aL];apply Z;apply fW;refine zk [8,10] ?_;refine bB fun _ _ Z=>?_;simp[hno,aM hno,aL];apply Z;apply aC;simp [aH,jU]
theorem aPt(l:Ls)(c:ByteArray)(σ:List (List D))(hl:l.length<=1000000):Ct prog 186 [dl l,D.str c] σ (fun r σ'=>r=dl (rN l c)/\σ'=σ):=
 (aJn l c σ hl).strip fun r σ' ⟨hr,hs⟩=>⟨by rw [hr];rfl,by rw [hr];rfl,hs⟩
theorem aK6(m:Nat)(id c:Int)(s:ByteArray)(σ:List (List D))(hown:Ct prog 217 [.ref m 0,D.int id,D.int 2,D.str s] σ (fun r σ'=>r= .tup [.v (.pointer none),D.int c]/\σ'=σ))(hc:¬c=0):Ct prog 200 [.ref m 0,D.int id,D.str s] σ (fun r σ'=>r= .int c/\σ'=σ):=by
 refine zf func200 ?_;refine bB fun _ _ Z=>?_;simp;apply Z;refine bB fun _ _ Z=>?_;refine zs 3 fun _ Y=>?_;simp;apply Y;refine aF fun _ Y=>?_;simp;refine cT (hown) ?_;apply Y;simp;apply Z;apply aE;refine bB fun _ _ Z=>?_;simp;apply Z;refine zI ?_ ?_<;>intro c1<;>try simp at c1
 .refine zk [2,6,7,8] ?_;refine bB fun _ _ Z=>?_;simp;apply Z;apply aC;simp [aH]
 exact absurd c1 hc
theorem aLu(m o:Nat)(id:Int)(n:ND)(s:ByteArray)(σ:List (List D))(hown:Ct prog 217 [.ref m 0,D.int id,D.int 2,D.str s] σ (fun r σ'=>r= .tup [.ref o 0,D.int 0]/\σ'=σ))(hno:σ[o]?=some (jU n))(hl:n.attrs.length<=1000)(hs:Sorted nA n.attrs)(hbad:mA nA n.attrs s=false):Ct prog 200 [.ref m 0,D.int id,D.str s] σ (fun r σ'=>r= .int 1/\σ'=σ):=by
 refine zf func200 ?_;refine bB fun _ _ Z=>?_;simp[hno,aM hno,aL];apply Z;refine bB fun _ _ Z=>?_;refine zs 3 fun _ Y=>?_;simp[hno,aM hno,aL];apply Y;refine aF fun _ Y=>?_;simp[hno,aM hno,aL];refine cT (hown) ?_;apply Y;simp[hno,aM hno,aL];apply Z;apply aE;refine bB fun _ _ Z=>?_;simp[hno,aM hno,aL];apply Z;refine zI ?_ ?_<;>intro c1<;>try simp at c1
 apply zA;apply aE;refine zk [2,6,7] ?_;refine bB fun _ _ Z=>?_;refine zs 5 fun _ Y=>?_;simp[hno,aM hno,aL];apply Y;refine aF fun _ Y=>?_;simp[hno,aM hno,aL];refine Mo (aBh n.attrs s _ (by omega) hs) ?_;rintro _ _ ⟨⟨gv,hr9⟩,hs9⟩;subst hr9;replace hs9:=hs9.symm;subst hs9;apply Y;simp[hno,aM hno,aL];apply Z;refine zk [2,6,7,10] ?_;refine bB fun _ _ Z=>?_;simp[hno,aM hno,aL];apply Z;refine zI ?_ ?_<;>intro c2<;>try simp at c2
 .refine bB fun _ _ Z=>?_;simp[hno,aM hno,aL];apply Z;apply aC;simp [aH]
 rw [hbad] at c2;cases c2
theorem aJe(m o:Nat)(id:Int)(n:ND)(s:ByteArray)(σ:List (List D))(hown:Ct prog 217 [.ref m 0,D.int id,D.int 2,D.str s] σ (fun r σ'=>r= .tup [.ref o 0,D.int 0]/\σ'=σ))(hno:σ[o]?=some (jU n))(hl:n.attrs.length<=1000)(hs:Sorted nA n.attrs)(hgood:mA nA n.attrs s=true):Ct prog 200 [.ref m 0,D.int id,D.str s] σ (fun r σ'=>r=D.int 0/\σ'=σ.set o (jU { n with attrs:=lF nA n.attrs s })):=by
 refine zf func200 ?_;refine bB fun _ _ Z=>?_;simp[hno,aM hno,aL];apply Z;refine bB fun _ _ Z=>?_;refine zs 3 fun _ Y=>?_;simp[hno,aM hno,aL];apply Y;refine aF fun _ Y=>?_;simp[hno,aM hno,aL];refine cT (hown) ?_;apply Y;simp[hno,aM hno,aL];apply Z;apply aE;refine bB fun _ _ Z=>?_;simp[hno,aM hno,aL];apply Z;refine zI ?_ ?_<;>intro c1<;>try simp at c1
 apply zA;apply aE;refine zk [2,6,7] ?_;refine bB fun _ _ Z=>?_;refine zs 5 fun _ Y=>?_;simp[hno,aM hno,aL];apply Y;refine aF fun _ Y=>?_;simp[hno,aM hno,aL];refine Mo (aBh n.attrs s _ (by omega) hs) ?_;rintro _ _ ⟨⟨gv,hr9⟩,hs9⟩;subst hr9;replace hs9:=hs9.symm;subst hs9;apply Y;simp[hno,aM hno,aL];apply Z;refine zk [2,6,7,10] ?_;refine bB fun _ _ Z=>?_;simp[hno,aM hno,aL];apply Z;refine zI ?_ ?_<;>intro c2<;>try simp at c2
 .rw [hgood] at c2;cases c2
 apply zA;refine bB fun _ _ Z=>?_;refine zs 6 fun _ Y=>?_;simp[hno,aM hno,aL];apply Y;refine aF fun _ Y=>?_;simp[hno,aM hno,aL];refine cT (aHw n.attrs s _ (by omega) hs) ?_;apply Y;simp[hno,aM hno,aL];apply Z;refine zk [6] ?_;refine bB fun _ _ Z=>?_;simp[hno,aM hno,aL];apply Z;apply aC;simp [aH,jU]
theorem aMt(m:Nat)(id c:Int)(s:ByteArray)(σ:List (List D))(hown:Ct prog 217 [.ref m 0,D.int id,D.int 2,D.str s] σ (fun r σ'=>r= .tup [.v (.pointer none),D.int c]/\σ'=σ))(hc:¬c=0):Ct prog 203 [.ref m 0,D.int id,D.str s] σ (fun r σ'=>r= .int c/\σ'=σ):=by
 refine zf func203 ?_;refine bB fun _ _ Z=>?_;simp;apply Z;refine bB fun _ _ Z=>?_;refine zs 3 fun _ Y=>?_;simp;apply Y;refine aF fun _ Y=>?_;simp;refine cT (hown) ?_;apply Y;simp;apply Z;apply aE;refine bB fun _ _ Z=>?_;simp;apply Z;refine zI ?_ ?_<;>intro c1<;>try simp at c1
 .refine zk [2,6,7,8] ?_;refine bB fun _ _ Z=>?_;simp;apply Z;apply aC;simp [aH]
 exact absurd c1 hc
theorem aL4(m o:Nat)(id:Int)(n:ND)(s:ByteArray)(σ:List (List D))(hown:Ct prog 217 [.ref m 0,D.int id,D.int 2,D.str s] σ (fun r σ'=>r= .tup [.ref o 0,D.int 0]/\σ'=σ))(hno:σ[o]?=some (jU n))(hl:n.styles.length<=1000)(hs:Sorted nP n.styles)(hbad:mA nP n.styles s=false):Ct prog 203 [.ref m 0,D.int id,D.str s] σ (fun r σ'=>r= .int 1/\σ'=σ):=by
 refine zf func203 ?_;refine bB fun _ _ Z=>?_;simp[hno,aM hno,aL];apply Z;refine bB fun _ _ Z=>?_;refine zs 3 fun _ Y=>?_;simp[hno,aM hno,aL];apply Y;refine aF fun _ Y=>?_;simp[hno,aM hno,aL];refine cT (hown) ?_;apply Y;simp[hno,aM hno,aL];apply Z;apply aE;refine bB fun _ _ Z=>?_;simp[hno,aM hno,aL];apply Z;refine zI ?_ ?_<;>intro c1<;>try simp at c1
 apply zA;apply aE;refine zk [2,6,7] ?_;refine bB fun _ _ Z=>?_;refine zs 5 fun _ Y=>?_;simp[hno,aM hno,aL];apply Y;refine aF fun _ Y=>?_;simp[hno,aM hno,aL];refine Mo (aCp n.styles s _ (by omega) hs) ?_;rintro _ _ ⟨⟨gv,hr9⟩,hs9⟩;subst hr9;replace hs9:=hs9.symm;subst hs9;apply Y;simp[hno,aM hno,aL];apply Z;refine zk [2,6,7,10] ?_;refine bB fun _ _ Z=>?_;simp[hno,aM hno,aL];apply Z;refine zI ?_ ?_<;>intro c2<;>try simp at c2
 .refine bB fun _ _ Z=>?_;simp[hno,aM hno,aL];apply Z;apply aC;simp [aH]
 rw [hbad] at c2;cases c2
theorem aNm(m o:Nat)(id:Int)(n:ND)(s:ByteArray)(σ:List (List D))(hown:Ct prog 217 [.ref m 0,D.int id,D.int 2,D.str s] σ (fun r σ'=>r= .tup [.ref o 0,D.int 0]/\σ'=σ))(hno:σ[o]?=some (jU n))(hl:n.styles.length<=1000)(hs:Sorted nP n.styles)(hgood:mA nP n.styles s=true):Ct prog 203 [.ref m 0,D.int id,D.str s] σ (fun r σ'=>r=D.int 0/\σ'=σ.set o (jU { n with styles:=lF nP n.styles s })):=by
 refine zf func203 ?_;refine bB fun _ _ Z=>?_;simp[hno,aM hno,aL];apply Z;refine bB fun _ _ Z=>?_;refine zs 3 fun _ Y=>?_;simp[hno,aM hno,aL];apply Y;refine aF fun _ Y=>?_;simp[hno,aM hno,aL];refine cT (hown) ?_;apply Y;simp[hno,aM hno,aL];apply Z;apply aE;refine bB fun _ _ Z=>?_;simp[hno,aM hno,aL];apply Z;refine zI ?_ ?_<;>intro c1<;>try simp at c1
 apply zA;apply aE;refine zk [2,6,7] ?_;refine bB fun _ _ Z=>?_;refine zs 5 fun _ Y=>?_;simp[hno,aM hno,aL];apply Y;refine aF fun _ Y=>?_;simp[hno,aM hno,aL];refine Mo (aCp n.styles s _ (by omega) hs) ?_;rintro _ _ ⟨⟨gv,hr9⟩,hs9⟩;subst hr9;replace hs9:=hs9.symm;subst hs9;apply Y;simp[hno,aM hno,aL];apply Z;refine zk [2,6,7,10] ?_;refine bB fun _ _ Z=>?_;simp[hno,aM hno,aL];apply Z;refine zI ?_ ?_<;>intro c2<;>try simp at c2
 .rw [hgood] at c2;cases c2
 apply zA;refine bB fun _ _ Z=>?_;refine zs 6 fun _ Y=>?_;simp[hno,aM hno,aL];apply Y;refine aF fun _ Y=>?_;simp[hno,aM hno,aL];refine cT (aOe n.styles s _ (by omega) hs) ?_;apply Y;simp[hno,aM hno,aL];apply Z;refine zk [6] ?_;refine bB fun _ _ Z=>?_;simp[hno,aM hno,aL];apply Z;apply aC;simp [aH,jU]
theorem aKt(m:Nat)(id c:Int)(s:ByteArray)(σ:List (List D))(hown:Ct prog 217 [.ref m 0,D.int id,D.int 2,D.str s] σ (fun r σ'=>r= .tup [.v (.pointer none),D.int c]/\σ'=σ))(hc:¬c=0):Ct prog 197 [.ref m 0,D.int id,D.str s] σ (fun r σ'=>r= .int c/\σ'=σ):=by
 refine zf func197 ?_;refine bB fun _ _ Z=>?_;simp;apply Z;refine bB fun _ _ Z=>?_;refine zs 3 fun _ Y=>?_;simp;apply Y;refine aF fun _ Y=>?_;simp;refine cT (hown) ?_;apply Y;simp;apply Z;apply Od;refine bB fun _ _ Z=>?_;simp;apply Z;refine zI ?_ ?_<;>intro c1<;>try simp at c1
 .refine zk [2,6,7,8] ?_;refine bB fun _ _ Z=>?_;simp;apply Z;apply aC;simp [aH]
 exact absurd c1 hc
theorem aMk(m o:Nat)(id:Int)(n:ND)(s:ByteArray)(σ:List (List D))(hown:Ct prog 217 [.ref m 0,D.int id,D.int 2,D.str s] σ (fun r σ'=>r= .tup [.ref o 0,D.int 0]/\σ'=σ))(hno:σ[o]?=some (jU n))(hl:n.classes.length<=1000)(hbad:has s n.classes=true):Ct prog 197 [.ref m 0,D.int id,D.str s] σ (fun r σ'=>r= .int 1/\σ'=σ):=by
 refine zf func197 ?_;refine bB fun _ _ Z=>?_;simp[hno,aM hno,aL];apply Z;refine bB fun _ _ Z=>?_;refine zs 3 fun _ Y=>?_;simp[hno,aM hno,aL];apply Y;refine aF fun _ Y=>?_;simp[hno,aM hno,aL];refine cT (hown) ?_;apply Y;simp[hno,aM hno,aL];apply Z;apply Od;refine bB fun _ _ Z=>?_;simp[hno,aM hno,aL];apply Z;refine zI ?_ ?_<;>intro c1<;>try simp at c1
 refine zk [2,6,7] ?_;refine bB fun _ _ Z=>?_;refine zs 5 fun _ Y=>?_;simp[hno,aM hno,aL];apply Y;refine aF fun _ Y=>?_;simp[hno,aM hno,aL];refine cT (xZ n.classes s _ (by omega)) ?_;apply Y;simp[hno,aM hno,aL];apply Z;refine zI ?_ ?_<;>intro c2<;>try simp at c2
 .refine bB fun _ _ Z=>?_;simp[hno,aM hno,aL];apply Z;apply aC;simp [aH]
 rw [hbad] at c2;cases c2
theorem aMp(m o:Nat)(id:Int)(n:ND)(s:ByteArray)(σ:List (List D))(hown:Ct prog 217 [.ref m 0,D.int id,D.int 2,D.str s] σ (fun r σ'=>r= .tup [.ref o 0,D.int 0]/\σ'=σ))(hno:σ[o]?=some (jU n))(hl:n.classes.length<=1000)(hgood:has s n.classes=false):Ct prog 197 [.ref m 0,D.int id,D.str s] σ (fun r σ'=>r=D.int 0/\σ'=σ.set o (jU { n with classes:=n.classes++ [s] })):=by
 refine zf func197 ?_;refine bB fun _ _ Z=>?_;simp[hno,aM hno,aL];apply Z;refine bB fun _ _ Z=>?_;refine zs 3 fun _ Y=>?_;simp[hno,aM hno,aL];apply Y;refine aF fun _ Y=>?_;simp[hno,aM hno,aL];refine cT (hown) ?_;apply Y;simp[hno,aM hno,aL];apply Z;apply Od;refine bB fun _ _ Z=>?_;simp[hno,aM hno,aL];apply Z;refine zI ?_ ?_<;>intro c1<;>try simp at c1
 refine zk [2,6,7] ?_;refine bB fun _ _ Z=>?_;refine zs 5 fun _ Y=>?_;simp[hno,aM hno,aL];apply Y;refine aF fun _ Y=>?_;simp[hno,aM hno,aL];refine cT (xZ n.classes s _ (by omega)) ?_;apply Y;simp[hno,aM hno,aL];apply Z;refine zI ?_ ?_<;>intro c2<;>try simp at c2
 .rw [hgood] at c2;cases c2
 apply mS;refine bB fun _ _ Z=>?_;refine zs 6 fun _ Y=>?_;simp[hno,aM hno,aL];apply Y;refine aF fun _ Y=>?_;simp[hno,aM hno,aL];refine cT (aPt n.classes s _ (by omega)) ?_;rw [show rN n.classes s=n.classes++ [s] from by unfold rN;rw [hgood];rfl];apply Y;simp[hno,aM hno,aL];apply Z;refine zk [6] ?_;refine bB fun _ _ Z=>?_;simp[hno,aM hno,aL];apply Z;apply aC;simp [aH,jU]
theorem aHy(m:Nat)(id c:Int)(s:ByteArray)(σ:List (List D))(hown:Ct prog 217 [.ref m 0,D.int id,D.int 2,D.str s] σ (fun r σ'=>r= .tup [.v (.pointer none),D.int c]/\σ'=σ))(hc:¬c=0):Ct prog 196 [.ref m 0,D.int id,D.str s] σ (fun r σ'=>r= .int c/\σ'=σ):=by
 refine zf func196 ?_;refine bB fun _ _ Z=>?_;simp;apply Z;refine bB fun _ _ Z=>?_;refine zs 3 fun _ Y=>?_;simp;apply Y;refine aF fun _ Y=>?_;simp;refine cT (hown) ?_;apply Y;simp;apply Z;apply Od;refine bB fun _ _ Z=>?_;simp;apply Z;refine zI ?_ ?_<;>intro c1<;>try simp at c1
 .refine zk [2,6,7,8] ?_;refine bB fun _ _ Z=>?_;simp;apply Z;apply aC;simp [aH]
 exact absurd c1 hc
theorem aJd(m o:Nat)(id:Int)(n:ND)(s:ByteArray)(σ:List (List D))(hown:Ct prog 217 [.ref m 0,D.int id,D.int 2,D.str s] σ (fun r σ'=>r= .tup [.ref o 0,D.int 0]/\σ'=σ))(hno:σ[o]?=some (jU n))(hl:n.classes.length<=1000)(hbad:has s n.classes=false):Ct prog 196 [.ref m 0,D.int id,D.str s] σ (fun r σ'=>r= .int 1/\σ'=σ):=by
 refine zf func196 ?_;refine bB fun _ _ Z=>?_;simp[hno,aM hno,aL];apply Z;refine bB fun _ _ Z=>?_;refine zs 3 fun _ Y=>?_;simp[hno,aM hno,aL];apply Y;refine aF fun _ Y=>?_;simp[hno,aM hno,aL];refine cT (hown) ?_;apply Y;simp[hno,aM hno,aL];apply Z;apply Od;refine bB fun _ _ Z=>?_;simp[hno,aM hno,aL];apply Z;refine zI ?_ ?_<;>intro c1<;>try simp at c1
 refine zk [2,6,7] ?_;refine bB fun _ _ Z=>?_;refine zs 5 fun _ Y=>?_;simp[hno,aM hno,aL];apply Y;refine aF fun _ Y=>?_;simp[hno,aM hno,aL];refine cT (xZ n.classes s _ (by omega)) ?_;apply Y;simp[hno,aM hno,aL];apply Z;refine zI ?_ ?_<;>intro c2<;>try simp at c2
 .refine bB fun _ _ Z=>?_;simp[hno,aM hno,aL];apply Z;apply aC;simp [aH]
 rw [hbad] at c2;cases c2
theorem aH0(m o:Nat)(id:Int)(n:ND)(s:ByteArray)(σ:List (List D))(hown:Ct prog 217 [.ref m 0,D.int id,D.int 2,D.str s] σ (fun r σ'=>r= .tup [.ref o 0,D.int 0]/\σ'=σ))(hno:σ[o]?=some (jU n))(hl:n.classes.length<=1000)(hgood:has s n.classes=true):Ct prog 196 [.ref m 0,D.int id,D.str s] σ (fun r σ'=>r=D.int 0/\σ'=σ.set o (jU { n with classes:=kS n.classes s })):=by
 refine zf func196 ?_;refine bB fun _ _ Z=>?_;simp[hno,aM hno,aL];apply Z;refine bB fun _ _ Z=>?_;refine zs 3 fun _ Y=>?_;simp[hno,aM hno,aL];apply Y;refine aF fun _ Y=>?_;simp[hno,aM hno,aL];refine cT (hown) ?_;apply Y;simp[hno,aM hno,aL];apply Z;apply Od;refine bB fun _ _ Z=>?_;simp[hno,aM hno,aL];apply Z;refine zI ?_ ?_<;>intro c1<;>try simp at c1
 refine zk [2,6,7] ?_;refine bB fun _ _ Z=>?_;refine zs 5 fun _ Y=>?_;simp[hno,aM hno,aL];apply Y;refine aF fun _ Y=>?_;simp[hno,aM hno,aL];refine cT (xZ n.classes s _ (by omega)) ?_;apply Y;simp[hno,aM hno,aL];apply Z;refine zI ?_ ?_<;>intro c2<;>try simp at c2
 .rw [hgood] at c2;cases c2
 apply mS;refine bB fun _ _ Z=>?_;refine zs 6 fun _ Y=>?_;simp[hno,aM hno,aL];apply Y;refine aF fun _ Y=>?_;simp[hno,aM hno,aL];refine cT (aOh n.classes s _ (by omega)) ?_;apply Y;simp[hno,aM hno,aL];apply Z;refine zk [6] ?_;refine bB fun _ _ Z=>?_;simp[hno,aM hno,aL];apply Z;apply aC;simp [aH,jU]
variable {l:List ND} {rk:Int->Nat}
theorem WT.map(h:WT l rk)(f:ND->ND)(rk':Int->Nat)(hID:∀n∈l,(f n).ID=n.ID)(hk:∀n∈l,∀k∈(f n).kids,∃c∈l,c.ID=k/\(f c).parent=n.ID)
  (hp:∀n∈l,(f n).parent= -1\/∃p∈l,p.ID=(f n).parent/\n.ID∈(f p).kids) (hn:∀n∈l,(f n).kids.Nodup) (hd:∀n∈l,∀k∈(f n).kids,rk' k<rk' n.ID):WT (l.map f) rk':=by
 refine⟨?_,fun n hn' k hk'=>?_,fun n hn'=>?_,fun n hn'=>?_,fun n hn'=>?_,fun n hn' k hk'=>?_⟩
 .have:(l.map f).map ND.ID=l.map ND.ID:=by
   rw [eA];exact cW fun n hn=>hID n hn
  rw [this];exact h.nd
 all_goals obtain⟨x,hx,rfl⟩:=aV.1 hn'
 .obtain⟨c,c1,c2,c3⟩:=hk x hx k hk';exact⟨f c,aV.2 ⟨c,c1,rfl⟩,by rw [hID c c1,c2],by rw [hID x hx,c3]⟩
 .rcases hp x hx with e | ⟨p,p1,p2,p3⟩
  .exact .inl e
  exact .inr ⟨f p,aV.2 ⟨p,p1,rfl⟩,by rw [hID p p1,p2],by rw [hID x hx];exact p3⟩
 .rw [hID x hx];exact h.nn x hx
 .exact hn x hx
 rw [hID x hx];exact hd x hx k hk'
theorem tH(l:List ND)(n:ND):dK l n=l.map fun x=>if x.ID=n.ID then n else x:=rfl
theorem WT.put(h:WT l rk) {n':ND} (hn:n∈l)(h1:n'.ID=n.ID)(h2:n'.kids=n.kids)(h3:n'.parent=n.parent):WT (dK l n') rk:=by
 have hx:∀x∈l,(if x.ID=n'.ID then n' else x).ID=x.ID/\(if x.ID=n'.ID then n' else x).kids=x.kids/\(if x.ID=n'.ID then n' else x).parent=x.parent:=by
  intro x hx;split
  .rename_i e;have:x=n:=mP h.nd hx hn (by rw [e,h1]);subst this;exact⟨h1,h2,h3⟩
  exact⟨rfl,rfl,rfl⟩
 refine h.map _ rk (fun x m=>(hx x m).1) (fun x m k hk=>?_) (fun x m=>?_) (fun x m=>?_) (fun x m k hk=>?_)
 .rw [(hx x m).2.1] at hk;obtain⟨c,c1,c2,c3⟩:=h.kids x m k hk;exact⟨c,c1,c2,by rw [(hx c c1).2.2];exact c3⟩
 .rw [(hx x m).2.2];rcases h.par x m with e | ⟨p,p1,p2,p3⟩
  .exact .inl e
  exact .inr ⟨p,p1,p2,by rw [(hx p p1).2.1];exact p3⟩
 .rw [(hx x m).2.1];exact h.kn x m
 rw [(hx x m).2.1] at hk;exact h.dec x m k hk
theorem WT.add(h:WT l rk) (h1:n.ID∉l.map ND.ID)(h2:0<=n.ID)(h3:n.kids= [])(h4:n.parent= -1):WT (l++ [n]) rk:=by
 refine⟨?_,fun x hx k hk=>?_,fun x hx=>?_,fun x hx=>?_,fun x hx=>?_,fun x hx k hk=>?_⟩
 .rw [cE,mJ];refine⟨h.nd,by simp,fun a ha b hb=>?_⟩;simp at hb;subst hb;rintro rfl;exact h1 ha
 all_goals rcases bT.1 hx with hx | hx
 all_goals try (simp only [fS] at hx;subst hx)
 .obtain⟨c,c1,c2⟩:=h.kids x hx k hk;exact⟨c,gE _ c1,c2⟩
 .rw [h3] at hk;cases hk
 .rcases h.par x hx with e | ⟨p,p1,p2⟩
  .exact .inl e
  exact .inr ⟨p,gE _ p1,p2⟩
 .exact .inl h4
 .exact h.nn x hx
 .exact h2
 .exact h.kn x hx
 .rw [h3];exact vL
 .exact h.dec x hx k hk
 rw [h3] at hk;cases hk
theorem xV {i:Nat} {y:Int} :y∈fQ K i x↔y=x\/y∈K:=by
 unfold fQ;rw [bT,bM];have:=bT (a:=y) (s:=K.take i) (t:=K.drop i);rw [eZ] at this;rw [this];constructor
 .rintro(h | h | h)
  .exact .inr (.inl h)
  .exact .inl h
  exact .inr (.inr h)
 rintro(h | h | h)
 .exact .inr (.inl h)
 .exact .inl h
 exact .inr (.inr h)
theorem Bv {i:Nat} (h:K.Nodup)(hx:x∉K):(fQ K i x).Nodup:=by
 unfold fQ;have h0:(K.take i++K.drop i).Nodup:=by rw [eZ];exact h
 rw [mJ] at h0 |-;refine⟨h0.1,gY.2 ⟨fun hm=>hx (zN hm),h0.2.1⟩,fun a ha b hb=>?_⟩;rcases bM.1 hb with rfl | hb
 .rintro rfl;exact hx (mD ha)
 exact h0.2.2 a ha b hb
theorem Cg {y:Int} :y∈kY K x↔y∈K/\y≠x:=by
 unfold kY;simp
theorem Mb (h:K.Nodup):(kY K x).Nodup:=h.sublist zF
theorem WT.ins(h:WT l rk) (hp:p∈l)(hn:n∈l)(hpar:n.parent= -1)(hw:p.ID∉dU l rk n.ID)(i:Nat):
  ∃rk',WT (dK (dK l (lA p (fQ p.kids i n.ID))) (Jo n p.ID)) rk':=by
 have hd:=h.Dec;have hne:p.ID≠n.ID:=fun e=>hw (by rw [e];exact mY hd _)
 let f:ND->ND:=fun x=>if x.ID=n.ID then Jo n p.ID else if x.ID=p.ID then lA p (fQ p.kids i n.ID)else x
 have hl:dK (dK l (lA p (fQ p.kids i n.ID))) (Jo n p.ID)=l.map f:=by
  unfold dK;rw [eA];refine cW fun x hx=>?_;simp only [Function.comp,f];have e1:(lA p (fQ p.kids i n.ID)).ID=p.ID:=rfl;have e2:(Jo n p.ID).ID=n.ID:=rfl;rw [e1,e2];by_cases h1:x.ID=p.ID
  .rw [aK h1,aD (by rw [e1];exact hne),aD (by rw [h1];exact hne)]
  rw [aD h1]
 have fp:f p=lA p (fQ p.kids i n.ID):=by simp only [f];rw [aD hne];simp
 have fn:f n=Jo n p.ID:=by simp only [f];simp
 have fo:∀x∈l,x≠p->x≠n->f x=x:=fun x hx h1 h2=>by
  simp only [f];rw [aD fun e=>h2 (mP h.nd hx hn e),aD fun e=>h1 (mP h.nd hx hp e)]
 have hpn:p≠n:=fun e=>hne (by rw [e]);have hID:∀x∈l,(f x).ID=x.ID:=fun x hx=>by
  by_cases h1:x=p
  .subst h1;rw [fp];rfl
  by_cases h2:x=n
  .subst h2;rw [fn];rfl
  rw [fo x hx h1 h2]
 have hkids:∀x∈l,x≠p->(f x).kids=x.kids:=fun x hx h1=>by
  by_cases h2:x=n
  .subst h2;rw [fn];rfl
  rw [fo x hx h1 h2]
 have hparx:∀x∈l,x≠n->(f x).parent=x.parent:=fun x hx h2=>by
  by_cases h1:x=p
  .subst h1;rw [fp];rfl
  rw [fo x hx h1 h2]
 have hpnn:=h.nn p hp;have hnk:∀x∈l,n.ID∉x.kids:=fun x hx hk=>by
  obtain⟨c,c1,c2,c3⟩:=h.kids x hx _ hk;have:c=n:=mP h.nd c1 hn c2;subst this;have:=h.nn x hx;omega
 refine⟨fun x=>if x∈dU l rk n.ID then rk x else rk x+(rk n.ID+1),?_⟩;rw [hl];refine h.map f _ hID (fun x hx k hk=>?_) (fun x hx=>?_) (fun x hx=>?_) (fun x hx k hk=>?_)
 .by_cases h1:x=p
  .subst h1;rw [fp] at hk;rcases xV.1 hk with rfl | hk
   .exact⟨n,hn,rfl,by rw [fn];rfl⟩
   obtain⟨c,c1,c2,c3⟩:=h.kids x hx k hk;refine⟨c,c1,c2,?_⟩;rw [hparx c c1 (by rintro rfl;omega)];exact c3
  rw [hkids x hx h1] at hk;obtain⟨c,c1,c2,c3⟩:=h.kids x hx k hk;have:=h.nn x hx;refine⟨c,c1,c2,?_⟩;rw [hparx c c1 (by rintro rfl;omega)];exact c3
 .by_cases h2:x=n
  .subst h2;rw [fn];exact .inr ⟨p,hp,rfl,by rw [fp];exact xV.2 (.inl rfl)⟩
  rw [hparx x hx h2];rcases h.par x hx with e | ⟨q,q1,q2,q3⟩
  .exact .inl e
  refine .inr ⟨q,q1,q2,?_⟩;by_cases h1:q=p
  .subst h1;rw [fp];exact xV.2 (.inr q3)
  rw [hkids q q1 h1];exact q3
 .by_cases h1:x=p
  .subst h1;rw [fp];exact Bv (h.kn x hx) (hnk x hx)
  rw [hkids x hx h1];exact h.kn x hx
 have old:∀k∈x.kids,(if k∈dU l rk n.ID then rk k else rk k+(rk n.ID+1))<if x.ID∈dU l rk n.ID then rk x.ID else rk x.ID+(rk n.ID+1):=fun k hk=>by
  have h3:=h.dec x hx k hk;by_cases h4:x.ID∈dU l rk n.ID
  .rw [aK h4,aK (Lr h hx hk h4)];exact h3
  rw [aD h4];split <;> omega
 by_cases h1:x=p
 .subst h1;rw [fp] at hk;rcases xV.1 hk with rfl | hk
  .show(if n.ID∈dU l rk n.ID then _ else _)<if x.ID∈dU l rk n.ID then _ else _
   rw [aK (mY hd _),aD hw];omega
  exact old k hk
 rw [hkids x hx h1] at hk;exact old k hk
theorem WT.mov(h:WT l rk) (hp:p∈l) (hK:K.Nodup)(hm:∀k,k∈K↔k∈p.kids):WT (dK l (lA p K)) rk:=by
 have hx:∀x∈l,(if x.ID=(lA p K).ID then lA p K else x).ID=x.ID/\(∀k,k∈(if x.ID=(lA p K).ID then lA p K else x).kids↔k∈x.kids)/\(if x.ID=(lA p K).ID then lA p K else x).parent=x.parent/\(if x.ID=(lA p K).ID then lA p K else x).kids.Nodup:=by
  intro x hx;split
  .rename_i e;have:x=p:=mP h.nd hx hp e;subst this;exact⟨rfl,hm,rfl,hK⟩
  exact⟨rfl,fun k=>Iff.rfl,rfl,h.kn x hx⟩
 refine h.map _ rk (fun x m=>(hx x m).1) (fun x m k hk=>?_) (fun x m=>?_) (fun x m=>(hx x m).2.2.2) (fun x m k hk=>?_)
 .obtain⟨c,c1,c2,c3⟩:=h.kids x m k (((hx x m).2.1 k).1 hk);exact⟨c,c1,c2,by rw [(hx c c1).2.2.1];exact c3⟩
 .rw [(hx x m).2.2.1];rcases h.par x m with e | ⟨q,q1,q2,q3⟩
  .exact .inl e
  exact .inr ⟨q,q1,q2,((hx q q1).2.1 _).2 q3⟩
 exact h.dec x m k (((hx x m).2.1 k).1 hk)
theorem sL(hnd:(l.map ND.ID).Nodup) {p':ND} (hp:p∈l)(e:p'.ID=p.ID)(id:Int):aJ (dK l p') id=if id=p.ID then p' else aJ l id:=by
 have hnd':((dK l p').map ND.ID).Nodup:=by
  have:(dK l p').map ND.ID=l.map ND.ID:=by
   unfold dK;rw [eA];refine cW fun x hx=>?_;simp only [Function.comp];split
   .rename_i h;exact h.symm
   rfl
  rw [this];exact hnd
 split
 .rename_i h;subst h;have hm:p'∈dK l p':=aV.2 ⟨p,hp,by rw [aK e.symm]⟩;rw [<- e];exact pH hnd' hm
 rename_i h;cases hl:fP l id with
 | true=>
  obtain⟨x,x1,x2,x3⟩:=eX hl;have hx:x∈dK l p':=aV.2 ⟨x,x1,by rw [aD (by rw [x2,e];exact h)]⟩;rw [x3,<- x2];exact pH hnd' hx
 | false =>
  rw [kV hl];refine kV ?_;cases hl2:fP (dK l p') id with
  | false=>rfl
  | true =>
   obtain⟨y,y1,y2⟩:=qV.1 hl2;obtain⟨x,hx,hy⟩:=aV.1 y1;have:fP l id=true:=by
    refine qV.2 ⟨x,hx,?_⟩;rw [<- y2,<- hy];split
    .rename_i h;exact h
    rfl
   rw [hl] at this;cases this
theorem Is(p':ND)(id:Int):fP (dK l p') id=fP l id:=by
 rw [iZ,qV,qV];constructor
 .rintro⟨y,y1,y2⟩;obtain⟨x,hx,hy⟩:=aV.1 y1;refine⟨x,hx,?_⟩;rw [<- y2,<- hy];split
  .rename_i h;exact h
  rfl
 rintro⟨x,x1,x2⟩;refine⟨_,aV.2 ⟨x,x1,rfl⟩,?_⟩;split
 .rename_i h;rw [<- h];exact x2
 exact x2
theorem Dec.rem(h:WT l rk)(id:Int):Dec (remP l id) rk:=fun i k hk=>by
 unfold remP at hk;split at hk
 .rename_i hp;obtain⟨p,p1,p2,p3⟩:=eX hp;rw [p3,sL h.nd p1 (p':=lA p (kY p.kids id)) rfl] at hk;split at hk
  .rename_i e;subst e;exact h.dec p p1 k (Cg.1 hk).1
  exact h.Dec i k hk
 exact h.Dec i k hk
theorem aLi(h:WT l rk)(id j:Int):((aJ (remP l id) j).kids).Sublist (aJ l j).kids:=by
 unfold remP;split
 .rename_i hp;obtain⟨p,p1,p2,p3⟩:=eX hp;rw [p3,sL h.nd p1 (p':=lA p (kY p.kids id)) rfl];split
  .rename_i e;subst e;rw [pH h.nd p1];exact zF
  exact yC _
 exact yC _
theorem Xp {K1:List Int} (hs:K1.Sublist K) {f g:Int->List Int} (h:∀k∈K,(f k).length<=(g k).length):(K1.flatMap f).length<=(K.flatMap g).length:=by
 induction hs with
 | slnil=>simp
 | cons a hs ih=>
  rw [gG,aZ];have:=ih fun k hk=>h k (by simp [hk]);omega
 | cons_cons a hs ih=>
  rw [gG,gG,aZ,aZ];have h1:=ih fun k hk=>h k (by simp [hk]);have h2:=h a (by simp);omega
theorem aQk(h:WT l rk)(id:Int):∀j,(dU (remP l id) rk j).length<=(dU l rk j).length:=by
 intro j;generalize hm:rk j=m;induction m using Nat.strongRecOn generalizing j with
 | _ m ih=>
  rw [jZ (Dec.rem h id),jZ h.Dec,bJ,bJ];have:=Xp (aLi h id j) (f:=dU (remP l id) rk) (g:=dU l rk) fun k hk=>ih (rk k) (by have:=h.Dec j k hk;omega) k rfl;omega
theorem aUr(h:WT l rk)(hl:l.length<=1000)(id:Int):Tr (remP l id) (dU (remP l id) rk) rk:=
 ⟨jZ (Dec.rem h id),Dec.rem h id,fun j=>by have h1:=aQk h id j;have h2:=aCc h j;omega⟩
theorem Uu(B:List Int)(i:Int):(B.any fun k=>decide (k=i))=true↔i∈B:=by rw [Iz];simp
theorem WT.rem(h:WT l rk) (hn:n∈l):WT (Ck (remP l n.ID) (dU l rk n.ID)) rk:=by
 have hd:=h.Dec
 let pid:=n.parent
 let f:ND->ND:=fun x=>if fP l n.parent=true/\x.ID=n.parent then lA x (kY x.kids n.ID)else x
 have hl:remP l n.ID=l.map f:=by
  unfold remP;rw [pH h.nd hn];split
  .rename_i hp;obtain⟨p,p1,p2,p3⟩:=eX hp;unfold dK;refine cW fun x hx=>?_;rw [p3];have e1:(lA p (kY p.kids n.ID)).ID=p.ID:=rfl;simp only [f,e1];by_cases e:x.ID=p.ID
   .have:x=p:=mP h.nd hx p1 e;subst this;rw [aK rfl,aK ⟨hp,p2⟩]
   rw [aD e,aD fun e2=>e (by rw [e2.2,p2])]
  rename_i hp;rw [cW (g:=id)]
  .simp
  intro x _;simp only [f];rw [aD fun e=>hp e.1];rfl
 have fID:∀x,(f x).ID=x.ID:=fun x=>by simp only [f];split <;> rfl
 have fpar:∀x,(f x).parent=x.parent:=fun x=>by simp only [f];split <;> rfl
 have fk:∀x k,k∈(f x).kids->k∈x.kids:=fun x k hk=>by
  simp only [f] at hk;split at hk
  .exact(Cg.1 hk).1
  exact hk
 have fk2:∀x k,k∈x.kids->k≠n.ID->k∈(f x).kids:=fun x k hk hne=>by
  simp only [f];split
  .exact Cg.2 ⟨hk,hne⟩
  exact hk
 have hB:∀y,y∈Ck (remP l n.ID) (dU l rk n.ID)↔∃x∈l,f x=y/\x.ID∉dU l rk n.ID:=fun y=>by
  unfold Ck;rw [cS,hl,aV];constructor
  .rintro⟨⟨x,hx,rfl⟩,hb⟩;refine⟨x,hx,rfl,fun hm=>?_⟩;rw [fID] at hb;rw [(Uu _ _).2 hm] at hb;cases hb
  rintro⟨x,hx,rfl,hb⟩;refine⟨⟨x,hx,rfl⟩,?_⟩;rw [fID];cases hc:(dU l rk n.ID).any fun k=>decide (k=x.ID)with
  | false=>rfl
  | true=>exact absurd ((Uu _ _).1 hc) hb
 have hself:=mY hd n.ID;refine⟨?_,fun y hy k hk=>?_,fun y hy=>?_,fun y hy=>?_,fun y hy=>?_,fun y hy k hk=>?_⟩
 .have:(Ck (remP l n.ID) (dU l rk n.ID)).map ND.ID=(l.filter fun x=> !(dU l rk n.ID).any fun k=>decide (k=x.ID)).map ND.ID:=by
   unfold Ck;rw [hl,List.filter_map,eA];have e1:((fun n_1:ND=> !(dU l rk n.ID).any fun k=>decide (k=n_1.ID)) ∘ f)=fun x=> !(dU l rk n.ID).any fun k=>decide (k=x.ID):=by
    funext x;simp only [Function.comp,fID]
   rw [e1];exact cW fun x _=>fID x
  rw [this];exact h.nd.sublist (List.Sublist.map _ zF)
 all_goals obtain⟨x,hx,rfl,hb⟩:=(hB _).1 hy
 .have hkx:=fk x k hk;obtain⟨c,c1,c2,c3⟩:=h.kids x hx k hkx;refine⟨f c,(hB _).2 ⟨c,c1,rfl,fun hm=>?_⟩,by rw [fID,c2],by rw [fpar,fID,c3]⟩;rcases Br h c1 hm with e | ⟨q,q1,q2,q3,q4⟩
  .have:c=n:=mP h.nd c1 hn e;subst this
   -- its parent has it no more
   have hpl:fP l c.parent=true:=qV.2 ⟨x,hx,c3.symm⟩;simp only [f] at hk;rw [aK ⟨hpl,c3.symm⟩] at hk;exact(Cg.1 hk).2 c2.symm
  have:q=x:=mP h.nd q1 hx (by rw [q2,c3]);subst this;exact hb q4
 .rw [fpar,fID];rcases h.par x hx with e | ⟨p,p1,p2,p3⟩
  .exact .inl e
  refine .inr ⟨f p,(hB _).2 ⟨p,p1,rfl,fun hm=>hb (Lr h p1 p3 hm)⟩,by rw [fID,p2],fk2 p _ p3 fun e=>hb (by rw [e];exact hself)⟩
 .rw [fID];exact h.nn x hx
 .simp only [f];split
  .exact Mb (h.kn x hx)
  exact h.kn x hx
 rw [fID];exact h.dec x hx k (fk x k hk)
variable {e:EN}{n':ND}
variable {k m M:Nat} {d:DS} {rk:Int->Nat} {σ:List (List D)}
theorem aPl(es:List EN) (hid:∀x∈es,x.o=e.o->x.n.ID=n'.ID):(Rn es e.o n').map kvE=es.map kvE:=by
 unfold Rn;rw [eA];refine cW fun x hx=>?_;simp only [Function.comp];split
 .rename_i h;simp only [kvE,hid x hx h]
 rfl
theorem aUx(es:List EN)(o:Nat)(n':ND):(Rn es o n').map EN.o=es.map EN.o:=by
 unfold Rn;rw [eA];refine cW fun x hx=>?_;simp only [Function.comp];split <;> rfl
theorem DO.upd(h:DO m M d σ) (he:e∈d.es) (hid:n'.ID=e.n.ID):DO m M (Af d e.o n') (σ.set e.o (jU n')):=by
 have hx:∀x∈d.es,x.o=e.o->x.n.ID=n'.ID:=fun x hx ho=>by rw [Uy h.nd hx he ho,hid]
 have hdc:At M (Af d e.o n')=At M d:=by simp only [Af,At,aPl d.es hx]
 refine⟨?_,fun y hy=>?_,fun y hy=>?_,?_,by rw [cK];exact h.hM⟩
 .rw [eR (h.nm e he),hdc];exact h.hm
 .obtain⟨x,hx',rfl⟩:=aV.1 hy;by_cases ho:x.o=e.o
  .rw [aK ho];show(σ.set e.o (jU n'))[x.o]?=some (jU n')
   rw [ho];exact aM (h.hn e he) _
  rw [aD ho,eR (Ne.symm ho)];exact h.hn x hx'
 .obtain⟨x,hx',rfl⟩:=aV.1 hy;split <;> exact h.nm x hx'
 show((Rn d.es e.o n').map EN.o).Nodup
 rw [aUx];exact h.nd
theorem Ko(ho:(d.es.map EN.o).Nodup)(hn:(d.l.map ND.ID).Nodup) (he:e∈d.es) (hid:n'.ID=e.n.ID):(Af d e.o n').l=dK d.l n':=by
 unfold Af Rn dK;simp only [DS.l,eA];refine cW fun x hx=>?_;simp only [Function.comp];by_cases h:x.o=e.o
 .have:=Uy ho hx he h;subst this;rw [aK rfl,aK hid.symm]
 rw [aD h,aD];intro h2;apply h;have h3:x.n=e.n:=mP hn (jN hx) (jN he) (by rw [h2,hid]);obtain⟨i,hi,rfl⟩:=iN hx;obtain⟨j,hj,rfl⟩:=iN he;have hp:=qR.1 hn;rcases vK i j with h1 | rfl | h1
 .exact absurd (congrArg ND.ID h3) (by have:=hp i j (by simpa using hi) (by simpa using hj) h1;simpa using this)
 .rfl
 exact absurd (congrArg ND.ID h3.symm) (by have:=hp j i (by simpa using hj) (by simpa using hi) h1;simpa using this)
theorem aIp {es:List EN} {x:EN} {o:Nat} (hx:x∈es)(h:x.o≠o):x∈Rn es o n':=aV.2 ⟨x,hx,by rw [aD h]⟩
theorem nC(l:List ND)(n':ND):(dK l n').map ND.ID=l.map ND.ID:=by
 unfold dK;rw [eA];refine cW fun x hx=>?_;simp only [Function.comp];split
 .rename_i h;exact h.symm
 rfl
theorem DO.add(h:DO m M d σ)(n:ND):DO m M (wB d n σ.length) (σ.set m (At M (wB d n σ.length))++ [jU n]):=by
 refine⟨iF h.hm _ _,fun y hy=>?_,fun y hy=>?_,?_,by rw [aZ,cK];have:=h.hM;omega⟩
 .rcases bT.1 hy with hy | hy
  .rw [bC (by rw [cK];exact h.lt hy),eR (Ne.symm (h.nm y hy))];exact h.hn y hy
  simp only [fS] at hy;subst hy;show(σ.set m _++ [jU n])[σ.length]?=_
  rw [bX (by simp)];simp
 .rcases bT.1 hy with hy | hy
  .exact h.nm y hy
  simp only [fS] at hy;subst hy;have:=pY h.hm;show σ.length≠m;omega
 show((d.es++ [_]).map EN.o).Nodup
 rw [cE,mJ];refine⟨h.nd,by simp,fun a ha b hb=>?_⟩;simp at hb;subst hb;obtain⟨x,hx,rfl⟩:=aV.1 ha;have:=h.lt hx;omega
structure IP0(k:Nat)(d:DS):Prop where
 nd:(d.l.map ND.ID).Nodup
 len:d.es.length<=k+1
 most:1<=d.most/\d.most<=65536
 nx:1<=d.next/\d.next<=k+1
 lt:∀n∈d.l,n.ID<d.next
 sz:∀n∈d.l,n.kids.length<=k/\n.classes.length<=k/\n.attrs.length<=k/\n.styles.length<=k
 st:∀n∈d.l,Sorted nA n.attrs/\Sorted nP n.styles
 rt:∃n∈d.l,n.ID=0/\n.parent= -1/\n.kind=2
 kd:∀n∈d.l,n.kind=1\/n.kind=2
 room:(d.es.length:Int) - 1<=d.most
structure IV(k m M:Nat)(d:DS)(rk:Int->Nat)(σ:List (List D)):Prop where
 ho:DO m M d σ
 ip:IP0 k d
 wt:WT d.l rk
theorem IP0.mono(h:IP0 k d) {k':Nat} (hk:k<=k'):IP0 k' d:=
 ⟨h.nd,by have:=h.len;omega,h.most,⟨h.nx.1,by have:=h.nx.2;omega⟩,h.lt,fun n hn=>by obtain⟨a,b,c,e⟩:=h.sz n hn;exact⟨by omega,by omega,by omega,by omega⟩,h.st,h.rt,h.kd,h.room⟩
theorem IV.mono(h:IV k m M d rk σ):IV (k+1) m M d rk σ:=⟨h.ho,h.ip.mono (by omega),h.wt⟩
theorem IV.app(h:IV k m M d rk σ)(J:List (List D)):IV k m M d rk (σ++J):=⟨h.ho.app J,h.ip,h.wt⟩
theorem IP0.NB(h:IP0 k d)(hk:k<=900):NB d.l:=
 ⟨by have:=h.len;simp only [DS.l,bQ];omega,fun n hn=>by have:=(h.sz n hn).1;omega,fun n hn=>by have:=(h.sz n hn).2.1;omega,fun n hn=>by have:=(h.sz n hn).2.2.1;omega,fun n hn=>by have:=(h.sz n hn).2.2.2;omega⟩
theorem Ai(d:DS):d.l.length=d.es.length:=by simp
theorem IV.WD(h:IV k m M d rk σ)(hk:k<=900):WD d (dU d.l rk) rk:=
 ⟨h.ip.NB hk,fun e he=>pH h.ip.nd (jN he),h.wt.Tr (by have:=h.ip.len;rw [Ai];omega),fun e he k hk=>by
  obtain⟨c,c1,c2,_⟩:=h.wt.kids _ (jN he) k hk;exact qV.2 ⟨c,c1,c2⟩⟩
theorem aVb {n:ND} (h:n∈d.l):∃e∈d.es,e.n=n:=aV.1 h
theorem IV.WP(h:IV k m M d rk σ):WP d:=by
 refine⟨fun e he=>?_,fun e he=>h.wt.nn _ (jN he)⟩;rcases h.wt.par _ (jN he)with e1 | ⟨p,p1,p2,p3⟩
 .exact .inl e1
 obtain⟨q,q1,rfl⟩:=aVb p1;refine .inr ⟨q,q1,p2,fun ho=>?_⟩;have:=Uy h.ho.nd q1 he ho;subst this;have:=h.wt.dec _ p1 _ p3;omega
theorem IP0.fresh(h:IP0 k d):fP d.l d.next=false:=by
 cases hl:fP d.l d.next with
 | false=>rfl
 | true=>obtain⟨n,h1,h2⟩:=qV.1 hl;have:=h.lt n h1;omega
theorem We(d:DS)(o:Nat)(n':ND):(Af d o n').es.length=d.es.length:=by simp [Af,Rn]
theorem IP0.put(h:IP0 k d)(ho:(d.es.map EN.o).Nodup) (he:e∈d.es) {k':Nat} (hk:k<=k')(hid:n'.ID=e.n.ID)(hs:n'.kids.length<=k'/\n'.classes.length<=k'/\n'.attrs.length<=k'/\n'.styles.length<=k')
  (hst:Sorted nA n'.attrs/\Sorted nP n'.styles) (hr:n'.ID=0->n'.parent=e.n.parent) (hkd:n'.kind=e.n.kind):IP0 k' (Af d e.o n'):=by
 have hl:=Ko ho h.nd he hid;have hm:∀y∈(Af d e.o n').l,y=n'\/y∈d.l:=fun y hy=>by
  rw [hl] at hy;unfold dK at hy;obtain⟨x,hx,rfl⟩:=aV.1 hy;split
  .exact .inl rfl
  exact .inr hx
 refine⟨by rw [hl,nC];exact h.nd,by rw [We];have:=h.len;omega,h.most,⟨h.nx.1,by have:=h.nx.2;show d.next<=_;omega⟩,fun y hy=>?_,fun y hy=>?_,fun y hy=>?_,?_,fun y hy=>?_,by rw [We];exact h.room⟩
 .rcases hm y hy with rfl | hy
  .rw [hid];exact h.lt _ (jN he)
  exact h.lt y hy
 .rcases hm y hy with rfl | hy
  .exact hs
  obtain⟨a,b,c,e⟩:=h.sz y hy;exact⟨by omega,by omega,by omega,by omega⟩
 .rcases hm y hy with rfl | hy
  .exact hst
  exact h.st y hy
 .obtain⟨r,r1,r2,r3,r4⟩:=h.rt;rw [hl];by_cases e0:r.ID=n'.ID
  .have:r=e.n:=mP h.nd r1 (jN he) (by rw [e0,hid]);subst this;exact⟨n',aV.2 ⟨e.n,r1,by rw [aK e0]⟩,by rw [<- e0,r2],by rw [hr (by rw [<- e0,r2]),r3],by rw [hkd,r4]⟩
  exact⟨r,aV.2 ⟨r,r1,by rw [aD e0]⟩,r2,r3,r4⟩
 rcases hm y hy with rfl | hy
 .rw [hkd];exact h.kd _ (jN he)
 exact h.kd y hy
theorem IV.add(h:IV k m M d rk σ) {n:ND} (hr:(d.es.length:Int) - 1<d.most)(h1:n.ID=d.next)(h3:n.kids= [])(h4:n.parent= -1)(h5:n.classes= [])(h6:n.attrs= [])(h7:n.styles= [])(h8:n.kind=1\/n.kind=2):IV (k+1) m M (wB d n σ.length) rk (σ.set m (At M (wB d n σ.length))++ [jU n]):=by
 have hl:(wB d n σ.length).l=d.l++ [n]:=by simp [wB,DS.l]
 have hm:∀y∈(wB d n σ.length).l,y∈d.l\/y=n:=fun y hy=>by rw [hl] at hy;simpa using hy
 have hnin:n.ID∉d.l.map ND.ID:=fun hm=>by
  obtain⟨x,hx,e⟩:=aV.1 hm;have:=h.ip.lt x hx;omega
 have hwt:WT (wB d n σ.length).l rk:=by rw [hl];exact h.wt.add hnin (by have:=h.ip.nx.1;omega) h3 h4
 refine⟨h.ho.add n,⟨hwt.nd,?_,h.ip.most,?_,fun y hy=>?_,fun y hy=>?_,fun y hy=>?_,?_,fun y hy=>?_,?_⟩,hwt⟩
 .have:=h.ip.len;simp only [wB,aZ,bJ,cY];omega
 .have:=h.ip.nx;show 1<=d.next+1/\d.next+1<=((k+1:Nat):Int)+1;omega
 .show y.ID<d.next+1
  rcases hm y hy with hy | rfl
  .have:=h.ip.lt y hy;omega
  omega
 .rcases hm y hy with hy | rfl
  .obtain⟨a,b,c,e⟩:=h.ip.sz y hy;exact⟨by omega,by omega,by omega,by omega⟩
  rw [h3,h5,h6,h7];simp
 .rcases hm y hy with hy | rfl
  .exact h.ip.st y hy
  rw [h6,h7];exact⟨List.Pairwise.nil,List.Pairwise.nil⟩
 .obtain⟨r,r1,r2⟩:=h.ip.rt;exact⟨r,by rw [hl];exact gE _ r1,r2⟩
 .rcases hm y hy with hy | rfl
  .exact h.ip.kd y hy
  exact h8
 simp only [wB,aZ,bJ,cY];omega
theorem IV.set(h:IV k m M d rk σ) (he:e∈d.es) (hid:n'.ID=e.n.ID)(h2:n'.kids=e.n.kids)(h3:n'.parent=e.n.parent)(h4:n'.kind=e.n.kind)(hs:n'.classes.length<=k+1/\n'.attrs.length<=k+1/\n'.styles.length<=k+1)(hst:Sorted nA n'.attrs/\Sorted nP n'.styles):
  IV (k+1) m M (Af d e.o n') rk (σ.set e.o (jU n'))/\(Af d e.o n').x=⟨d.most,d.next,dK d.l n'⟩:=by
 have hl:=Ko h.ho.nd h.ip.nd he hid;have hk:=(h.ip.sz _ (jN he)).1;refine⟨⟨h.ho.upd he hid,h.ip.put h.ho.nd he (by omega) hid ⟨by rw [h2];omega,hs⟩ hst (fun _=>h3) h4,by rw [hl];exact h.wt.put (jN he) hid h2 h3⟩,?_⟩;show(⟨d.most,d.next,(Af d e.o n').l⟩:RD)=_
 rw [hl]
theorem zK(n:ND)(K:List Int):(lA n K).ID=n.ID:=rfl
theorem Rv(n:ND)(p:Int):(Jo n p).ID=n.ID:=rfl
theorem Eg(d:DS)(o:Nat)(n':ND):∀e∈(Af d o n').es,∃e0∈d.es,e0.o=e.o:=fun e he=>by
 obtain⟨x,hx,rfl⟩:=aV.1 he;exact⟨x,hx,by split <;> rfl⟩
theorem IV.ins(h:IV k m M d rk σ) {p n:EN} (hp:p∈d.es)(hn:n∈d.es)(hpar:n.n.parent= -1)(h0:¬n.n.ID=0)(hw:p.n.ID∉dU d.l rk n.n.ID)(i:Nat)(hi:i<=p.n.kids.length):
  ∃d' rk',IV (k+1) m M d' rk' ((σ.set p.o (jU (lA p.n (fQ p.n.kids i n.n.ID)))).set n.o (jU (Jo n.n p.n.ID)))/\d'.x=⟨d.most,d.next,dK (dK d.l (lA p.n (fQ p.n.kids i n.n.ID))) (Jo n.n p.n.ID)⟩/\∀e∈d'.es,∃e0∈d.es,e0.o=e.o:=by
 have hne:n.o≠p.o:=fun e=>by
  have:=Uy h.ho.nd hn hp e;subst this;exact hw (mY h.wt.Dec _)
 obtain⟨rk',hwt⟩:=h.wt.ins (jN hp) (jN hn) hpar hw i;have hd1:=h.ho.upd hp (zK p.n (fQ p.n.kids i n.n.ID));have hn1:n∈(Af d p.o (lA p.n (fQ p.n.kids i n.n.ID))).es:=aIp hn hne;obtain⟨s1,s2,s3,s4⟩:=h.ip.sz _ (jN hp);obtain⟨t1,t2,t3,t4⟩:=h.ip.sz _ (jN hn);have hp1:=h.ip.put h.ho.nd hp (k':=k+1) (by omega) (zK p.n (fQ p.n.kids i n.n.ID)) ⟨by show(fQ _ _ _).length<=_;rw [jS _ _ _ hi];omega,by show p.n.classes.length<=_;omega,by show p.n.attrs.length<=_;omega,by show p.n.styles.length<=_;omega⟩ (h.ip.st p.n (jN hp)) (fun _=>rfl) rfl;have hl1:=Ko h.ho.nd h.ip.nd hp (zK p.n (fQ p.n.kids i n.n.ID));have hd2:=hd1.upd hn1 (Rv n.n p.n.ID);have hp2:=hp1.put hd1.nd hn1 (k':=k+1) (aW _) (Rv n.n p.n.ID) ⟨by show n.n.kids.length<=_;omega,by show n.n.classes.length<=_;omega,by show n.n.attrs.length<=_;omega,by show n.n.styles.length<=_;omega⟩ (h.ip.st n.n (jN hn)) (fun e=>absurd e h0) rfl;have hl2:=Ko hd1.nd hp1.nd hn1 (Rv n.n p.n.ID);refine⟨_,rk',⟨hd2,hp2,by rw [hl2,hl1];exact hwt⟩,?_,fun e he=>by
  obtain⟨e1,h1,q1⟩:=Eg _ _ _ e he;obtain⟨e2,h2,q2⟩:=Eg _ _ _ e1 h1;exact⟨e2,h2,q2.trans q1⟩⟩
 show(⟨d.most,d.next,(Af _ n.o _).l⟩:RD)=_
 rw [hl2,hl1]
theorem IV.mov(h:IV k m M d rk σ) {p:EN} (hp:p∈d.es) {K:List Int} (hK:K.Nodup)(hm:∀j,j∈K↔j∈p.n.kids)(hlen:K.length<=k+1):
  ∃d',IV (k+1) m M d' rk (σ.set p.o (jU (lA p.n K)))/\d'.x=⟨d.most,d.next,dK d.l (lA p.n K)⟩/\∀e∈d'.es,∃e0∈d.es,e0.o=e.o:=by
 obtain⟨s1,s2,s3,s4⟩:=h.ip.sz _ (jN hp);have hl:=Ko h.ho.nd h.ip.nd hp (zK p.n K);refine⟨_,⟨h.ho.upd hp (zK p.n K),h.ip.put h.ho.nd hp (k':=k+1) (by omega) (zK p.n K) ⟨hlen,by show p.n.classes.length<=_;omega,by show p.n.attrs.length<=_;omega,by show p.n.styles.length<=_;omega⟩ (h.ip.st p.n (jN hp)) (fun _=>rfl) rfl,by rw [hl];exact h.wt.mov (jN hp) hK hm⟩,?_,Eg _ _ _⟩;show(⟨d.most,d.next,(Af _ p.o _).l⟩:RD)=_
 rw [hl]
end Go.Proofs.YtbgfljpnhhdkoaaGreat
