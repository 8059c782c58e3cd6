import Derived.Test.YtbgfljpnhhdkoaaGreatWkAr16
set_option linter.all false
set_option maxHeartbeats 8000000
set_option maxRecDepth 20000
open Go.Proofs.Tryz
namespace Go.Proofs.YtbgfljpnhhdkoaaGreat
open Go Go.Vm
variable {k m M:Nat} {d:DS} {rk:Int->Nat} {σ:List (List D)} {x:RD}
theorem aAs(a:Act)(h:IV k m M d rk σ)(hk:k<=800)(hs:a.name.size<=1000)(hb:10<=a.kind/\a.kind<=17):DetQ 142 [.ref m 0,uA a] σ d k m M (setX d.x (a.kind - 10) a.a a.name a.value a.c):=by
 by_cases q0:a.kind=10
 .obtain⟨d',rk',σ',hc,hi,e,fr⟩:=aCf k m M d rk σ a.a a.name a.value a.c h hk hs;rw [show a.kind - 10=0 by omega];exact⟨d',rk',σ',nT m a _ σ' σ hb (fun _=>hc) (fun q=>by omega) (fun q=>by omega) (fun q=>by omega) (fun q=>by omega) (fun q=>by omega) (fun q=>by omega) (fun q=>by omega),hi,e,fr⟩
 by_cases q1:a.kind=11
 .obtain⟨d',rk',σ',hc,hi,e,fr⟩:=aQ9 k m M d rk σ a.a a.name a.value a.c h hk;rw [show a.kind - 10=1 by omega];exact⟨d',rk',σ',nT m a _ σ' σ hb (fun q=>by omega) (fun _=>hc) (fun q=>by omega) (fun q=>by omega) (fun q=>by omega) (fun q=>by omega) (fun q=>by omega) (fun q=>by omega),hi,e,fr⟩
 by_cases q2:a.kind=12
 .obtain⟨d',rk',σ',hc,hi,e,fr⟩:=aCb k m M d rk σ a.a a.name a.value a.c h hk hs;rw [show a.kind - 10=2 by omega];exact⟨d',rk',σ',nT m a _ σ' σ hb (fun q=>by omega) (fun q=>by omega) (fun _=>hc) (fun q=>by omega) (fun q=>by omega) (fun q=>by omega) (fun q=>by omega) (fun q=>by omega),hi,e,fr⟩
 by_cases q3:a.kind=13
 .obtain⟨d',rk',σ',hc,hi,e,fr⟩:=Vx k m M d rk σ a.a a.name a.value a.c h hk hs;rw [show a.kind - 10=3 by omega];exact⟨d',rk',σ',nT m a _ σ' σ hb (fun q=>by omega) (fun q=>by omega) (fun q=>by omega) (fun _=>hc) (fun q=>by omega) (fun q=>by omega) (fun q=>by omega) (fun q=>by omega),hi,e,fr⟩
 by_cases q4:a.kind=14
 .obtain⟨d',rk',σ',hc,hi,e,fr⟩:=aB5 k m M d rk σ a.a a.name a.value a.c h hk hs;rw [show a.kind - 10=4 by omega];exact⟨d',rk',σ',nT m a _ σ' σ hb (fun q=>by omega) (fun q=>by omega) (fun q=>by omega) (fun q=>by omega) (fun _=>hc) (fun q=>by omega) (fun q=>by omega) (fun q=>by omega),hi,e,fr⟩
 by_cases q5:a.kind=15
 .obtain⟨d',rk',σ',hc,hi,e,fr⟩:=Xk k m M d rk σ a.a a.name a.value a.c h hk hs;rw [show a.kind - 10=5 by omega];exact⟨d',rk',σ',nT m a _ σ' σ hb (fun q=>by omega) (fun q=>by omega) (fun q=>by omega) (fun q=>by omega) (fun q=>by omega) (fun _=>hc) (fun q=>by omega) (fun q=>by omega),hi,e,fr⟩
 by_cases q6:a.kind=16
 .obtain⟨d',rk',σ',hc,hi,e,fr⟩:=Xg k m M d rk σ a.a a.name a.value a.c h hk hs;rw [show a.kind - 10=6 by omega];exact⟨d',rk',σ',nT m a _ σ' σ hb (fun q=>by omega) (fun q=>by omega) (fun q=>by omega) (fun q=>by omega) (fun q=>by omega) (fun q=>by omega) (fun _=>hc) (fun q=>by omega),hi,e,fr⟩
 obtain⟨d',rk',σ',hc,hi,e,fr⟩:=Ui k m M d rk σ a.a a.name a.value a.c (a.kind - 10) (by omega) h hk hs;exact⟨d',rk',σ',nT m a _ σ' σ hb (fun q=>by omega) (fun q=>by omega) (fun q=>by omega) (fun q=>by omega) (fun q=>by omega) (fun q=>by omega) (fun q=>by omega) (fun _=>hc),hi,e,fr⟩
theorem jH {α β:Type} {p:α×β} {c:β} (h:p.2=c):p=(p.1,c):=by rw [<- h]
theorem aS3(l:List PI)(σ:List (List D))(hl:l.length<=10000):Ct prog 168 [.sl false (l.map cM),.sl false (l.map cM)] σ (fun r σ'=>r= .bool true/\σ'=σ):=by
 refine zf func168 ?_;refine bE fun _ _ Z=>?_;simp(disch:=omega);apply Z;apply aF;refine bE fun _ _ Z=>?_;simp(disch:=omega);and_intros<;>(try omega);apply Z;refine zI ?_ ?_<;>intro c1<;>try simp at c1
 apply zA;apply aF;refine bE fun _ _ Z=>?_;simp(disch:=omega);and_intros<;>(try omega);apply Z;apply aS;refine zk [0,1,4,12,13] ?_;refine aZ (fun(k:Nat)=> [(13,.d (.v (.int .i64 (k:Int)))),(5,.d (.any))]) [4,5,13,14,15,16,17,18,19,20,21,22,23,24,25] (fun(k:Nat)=>k<=l.length) (fun(k:Nat)=>l.length - k) (0) (by simp <;> rfl) ?_ ?_ ?_
 .simp
 .simp
 rintro k hk;simp only [aP,aN];refine bE fun _ _ Z=>?_;simp(disch:=omega);apply Z;apply aF;refine zI ?_ ?_<;>intro c2<;>try simp at c2
 .apply kR;refine bE fun _ _ Z=>?_;simp(disch:=omega);apply Z;refine zd ⟨[],[],[],[],[]⟩ [.op {},.op {},.op {},.op {},.op {},.op {},.op {},.op {},.op {}] fun all hall _ Z=>?_;refine iU 8 fun _ Y=>?_;simp(disch:=omega);and_intros<;>(try omega);apply Y;simp(disch:=omega);apply Z;refine zI ?_ ?_<;>intro c3<;>try simp at c3
  apply mM;refine zk [0,1,5,12,13] ?_;refine rB fun _ _ Z=>?_;simp(disch:=omega);and_intros<;>(try omega);apply Z;refine zq (k+1) ?_ ?_ ?_
  .omega
  .try dsimp only
   omega
  simp(disch:=omega)
 apply zE;refine bE fun _ _ Z=>?_;simp(disch:=omega);apply Z;apply aD;simp [aK]
theorem aFi(n:ND)(σ:List (List D))(h1:n.kids.length<=10000)(h2:n.classes.length<=10000)(h3:n.attrs.length<=10000)(h4:n.styles.length<=10000):Ct prog 86 [xE n,xE n] σ (fun r σ'=>r= .bool true/\σ'=σ):=by
 refine zf func86 ?_;refine bE fun _ _ Z=>?_;simp(disch:=omega);apply Z;apply aF;refine pB ⟨[],[],[],[],[]⟩ fun all hall _ Z=>?_;have ga5:aT all 5=some 12:=hall 5;have ga12:aT all 12=some 19:=hall 12;have ga19:aT all 19=some 26:=hall 19;have ga26:aT all 26=some 33:=hall 26;have ga33:aT all 33=some 40:=hall 33;refine zs 6 fun _ Y=>?_;simp(disch:=omega)[ga5,ga12,ga19,ga26,ga33];apply Y;refine zb 12 ?_ ?_<;>intro g1<;>try simp at g1
 refine zs 7 fun _ Y=>?_;simp(disch:=omega)[ga5,ga12,ga19,ga26,ga33];apply Y;refine zb 19 ?_ ?_<;>intro g2<;>try simp at g2
 refine zs 7 fun _ Y=>?_;simp(disch:=omega)[ga5,ga12,ga19,ga26,ga33];apply Y;refine zb 26 ?_ ?_<;>intro g3<;>try simp at g3
 refine zs 7 fun _ Y=>?_;simp(disch:=omega)[ga5,ga12,ga19,ga26,ga33];apply Y;refine zb 33 ?_ ?_<;>intro g4<;>try simp at g4
 refine zs 7 fun _ Y=>?_;simp(disch:=omega)[ga5,ga12,ga19,ga26,ga33];apply Y;refine zb 40 ?_ ?_<;>intro g5<;>try simp at g5
 simp(disch:=omega)[ga5,ga12,ga19,ga26,ga33];and_intros<;>(try omega);apply Z;refine zI ?_ ?_<;>intro c6<;>try simp at c6
 apply zA;apply aF;refine zk [2,3,4] ?_;refine bE fun _ _ Z=>?_;simp(disch:=omega);and_intros<;>(try omega);apply Z;apply aS;refine zk [2,3,4,50,51,52] ?_;refine aZ (fun(k:Nat)=> [(52,.d (.v (.int .i64 (k:Int)))),(5,.d (.any))]) [4,5,6,52,53,54,55,56,57,58,59,60,61,62,63,64,65,66,67,68,69,70,71,72,73,74,75,76,77] (fun(k:Nat)=>k<=n.attrs.length) (fun(k:Nat)=>n.attrs.length - k) (0) (by simp <;> rfl) ?_ ?_ ?_
 .simp
 .simp
 rintro k hk;simp only [aP,aN];refine bE fun _ _ Z=>?_;simp(disch:=omega);apply Z;apply aF;refine zI ?_ ?_<;>intro c7<;>try simp at c7
 .apply kR;refine bE fun _ _ Z=>?_;simp(disch:=omega);and_intros<;>(try omega);apply Z;refine zk [2,3,5,6,50,51,52] ?_;refine zd ⟨[],[],[],[],[]⟩ [.op {},.op {rL:=true},.op {},.op {},.op {},.op {},.op {},.op {rL:=true},.op {},.op {},.op {},.op {rL:=true},.op {},.op {},.op {},.op {},.op {},.op {rL:=true},.op {},.op {}] fun all hall _ Z=>?_;have ga9:aT all 9=some 66:=hall 9;refine iU 8 fun _ Y=>?_;simp(disch:=omega)[ga9];and_intros<;>(try omega);apply Y;refine iU 2 fun _ Y=>?_;simp(disch:=omega)[ga9];apply Y;refine Yg 66 ?_ ?_<;>intro g8<;>try simp at g8
  refine iU 8 fun _ Y=>?_;simp(disch:=omega)[ga9];and_intros<;>(try omega);apply Y;simp(disch:=omega)[ga9];apply Z;refine zI ?_ ?_<;>intro c9<;>try simp at c9
  apply mM;refine zk [2,3,5,50,51,52] ?_;refine rB fun _ _ Z=>?_;simp(disch:=omega);and_intros<;>(try omega);apply Z;refine zq (k+1) ?_ ?_ ?_
  .omega
  .try dsimp only
   omega
  simp(disch:=omega)
 apply zE;refine zk [2,3] ?_;refine pB ⟨[],[],[],[],[]⟩ fun all hall _ Z=>?_;have ga5:aT all 5=some 83:=hall 5;have ga12:aT all 12=some 90:=hall 12;refine zs 4 fun _ Y=>?_;simp(disch:=omega)[ga5,ga12];apply Y;refine aE fun _ Y=>?_;simp(disch:=omega)[ga5,ga12];refine cB (aPi n.classes n.classes _ (by omega) (by omega)) ?_;apply Y;refine zs 1 fun _ Y=>?_;simp(disch:=omega)[ga5,ga12];apply Y;refine zb 83 ?_ ?_<;>intro g10<;>try simp at g10
 refine zs 4 fun _ Y=>?_;simp(disch:=omega)[ga5,ga12];apply Y;refine zg ga5 fun _ Y=>?_;simp(disch:=omega)[ga5,ga12];refine cB (aS3 n.styles _ h4) ?_;apply Y;refine zs 2 fun _ Y=>?_;simp(disch:=omega)[ga5,ga12];apply Y;refine zb 90 ?_ ?_<;>intro g11<;>try simp at g11
 refine zs 4 fun _ Y=>?_;simp(disch:=omega)[ga5,ga12];apply Y;refine zg ga12 fun _ Y=>?_;simp(disch:=omega)[ga5,ga12];refine cB (Nd n.kids n.kids _ (by omega) (by omega)) ?_;apply Y;simp(disch:=omega)[ga5,ga12];apply Z;apply aD;simp [aK]
theorem aXn(k m M:Nat)(d:DS)(rk:Int->Nat)(x:RD)(σ:List (List D))(hi:IX k m M d rk x σ)(hk:k<=800):Ct prog 25 [.ref m 0,gB x] σ (fun r σ'=>r= .bool true/\σ'=σ):=by
 refine zf func25 ?_;obtain⟨h,hxp⟩:=hi;have hnb:=h.ip.NB (by omega);have hll:=vO d;have htr:=h.wt.Tr (by have:=h.ip.len;rw [vO];omega);obtain⟨b1,b2,b3⟩:=h.bounds (by omega);have hxx:NB x.l:=hxp.nb hnb;have htx:Tr x.l (cF d.l rk) rk:=htr.perm hxp.fd;have hxl:x.l.length=d.es.length:=by rw [hxp.len];exact hll
 have hxm:x.most=d.most:=hxp.most;have hxn:x.next=d.next:=hxp.next;have hbl:=htr.len 0;have hro:=h.ip.room;refine bE fun _ _ Z=>?_;simp(disch:=omega);apply Z;apply aF;refine zd ⟨[],[],[],[],[]⟩ [.op {},.read,.op {},.op {rL:=true},.op {},.op {},.op {},.op {},.op {},.read,.op {},.op {rL:=true},.op {},.op {rL:=true},.op {},.op {},.op {},.op {},.op {},.op {},.op {},.read,.op {},.op {rL:=true},.op {},.op {},.op {},.op {},.read,.op {rL:=true},.pure,.pure,.op {},.op {}] fun all hall _ Z=>?_;have ga7:aT all 7=some 17:=hall 7;have ga19:aT all 19=some 29:=hall 19;have ga26:aT all 26=some 36:=hall 26;refine iU 1 fun _ Y=>?_;simp(disch:=omega)[ga7,ga19,ga26];apply Y;refine dL fun _ Y=>?_;simp(disch:=omega)[ga7,ga19,ga26];refine zdr (Qa m M d _ h.ho b1) ?_;apply Y;refine iU 6 fun _ Y=>?_;simp(disch:=omega)[ga7,ga19,ga26];and_intros<;>(try omega);apply Y;refine Yg 17 ?_ ?_<;>intro g1<;>try simp at g1
 .omega
 refine iU 1 fun _ Y=>?_;simp(disch:=omega)[ga7,ga19,ga26];apply Y;refine zdg ga7 fun _ Y=>?_;simp(disch:=omega)[ga7,ga19,ga26];refine zdr (Kk m M d _ h.ho b1 b2) ?_;apply Y;refine iU 8 fun _ Y=>?_;simp(disch:=omega)[ga7,ga19,ga26];and_intros<;>(try omega);apply Y;refine iU 2 fun _ Y=>?_;simp(disch:=omega)[ga7,ga19,ga26];apply Y;refine Yg 29 ?_ ?_<;>intro g2<;>try simp at g2
 .omega
 refine iU 1 fun _ Y=>?_;simp(disch:=omega)[ga7,ga19,ga26];apply Y;refine zdg ga19 fun _ Y=>?_;simp(disch:=omega)[ga7,ga19,ga26];refine zdr (aJw m M d _ h.ho) ?_;apply Y;refine iU 5 fun _ Y=>?_;simp(disch:=omega)[ga7,ga19,ga26];apply Y;refine Yg 36 ?_ ?_<;>intro g3<;>try simp at g3
 .omega
 refine iU 1 fun _ Y=>?_;simp(disch:=omega)[ga7,ga19,ga26];apply Y;refine zdg ga26 fun _ Y=>?_;simp(disch:=omega)[ga7,ga19,ga26];refine zdr (aJ0 m M d (cF d.l rk) rk _ h.ho (h.WD (by omega)) h.ip.root) ?_;apply Y;refine iU 1 fun _ Y=>?_;simp(disch:=omega)[ga7,ga19,ga26];apply Y;refine zdg ga26 fun _ Y=>?_;simp(disch:=omega)[ga7,ga19,ga26];refine Ia (fun _=>(Cm x 0 (cF d.l rk) rk _ hxx htx)) ?_;apply Y;refine zdg ga26 fun _ Y=>?_;simp(disch:=omega)[ga7,ga19,ga26];refine Ia (fun _=>(Nd (cF d.l rk 0) (cF d.l rk 0) _ (by omega) (by omega))) ?_;apply Y;simp(disch:=omega)[ga7,ga19,ga26];apply Z;refine zI ?_ ?_<;>intro c4<;>try simp at c4
 apply zA;apply aF;refine zk [0,3,4] ?_;refine bE fun _ _ Z=>?_;simp(disch:=omega);apply Z;apply aS;refine zk [0,3,4,5] ?_;refine aZ (fun(j:Nat)=> [(5,.d (.int ((j:Int) - 1)))]) [4,5,6,7,8,9,44,45,46,47,48,49,50,51,52,53,54,55,56,57,58,59,60,61,62,63,64,65,66,67,68,69,70,71,72,73,74,75,76,77,78,79,80,81,82] (fun(j:Nat)=>(j:Int)<=d.next+2) (fun(j:Nat)=>(d.next+2).toNat - j) (0) (by simp <;> rfl) ?_ ?_ ?_
 .simp
 .omega
 rintro j hj;simp only [aP,aN];apply aF;refine bE fun _ _ Z=>?_;simp(disch:=omega);apply Z;refine zI ?_ ?_<;>intro c5<;>try simp at c5
 .apply kR;refine bE fun _ _ Z=>?_;refine zs 2 fun _ Y=>?_;simp(disch:=omega);apply Y;refine aE fun _ Y=>?_;simp(disch:=omega);refine cB (Be m M d ((j:Int) - 1) _ h.ho hnb) ?_;apply Y;simp(disch:=omega);apply Z;refine zk [0,3,5,6,7] ?_;refine bE fun _ _ Z=>?_;refine zs 2 fun _ Y=>?_;simp(disch:=omega);apply Y;refine aE fun _ Y=>?_;simp(disch:=omega);refine cB (lD x ((j:Int) - 1) _ hxx) ?_;rw [hxp.fd,hxp.il];apply Y;simp(disch:=omega);apply Z;refine zk [0,3,5,6,7,8,9] ?_;refine zd ⟨[],[],[],[],[]⟩ [.op {},.op {},.op {},.op {},.op {},.op {},.op {rL:=true},.op {rL:=true},.pure,.op {},.op {},.op {},.op {},.op {},.op {},.read,.op {rL:=true},.op {},.pure,.op {},.op {}] fun all hall _ Z=>?_;have ga3:aT all 3=some 65:=hall 3;have ga5:aT all 5=some 67:=hall 5;have ga12:aT all 12=some 74:=hall 12;refine iU 4 fun _ Y=>?_;simp(disch:=omega)[ga3,ga5,ga12];apply Y;refine Yg 65 ?_ ?_<;>intro g6<;>try simp at g6
  refine iU 2 fun _ Y=>?_;simp(disch:=omega)[ga3,ga5,ga12];apply Y;refine Yg 67 ?_ ?_<;>intro g7<;>try simp at g7
  .refine iU 2 fun _ Y=>?_;simp(disch:=omega)[ga3,ga5,ga12];apply Y;refine zdg ga5 fun _ Y=>?_;simp(disch:=omega)[ga3,ga5,ga12];refine Ia (fun _=>(aFi (aG d.l ((j:Int) - 1)) _ (by have:=hnb.fk ((j:Int) - 1);omega) (by have:=hnb.fc ((j:Int) - 1);omega) (by have:=hnb.fa ((j:Int) - 1);omega) (by have:=hnb.fs ((j:Int) - 1);omega))) ?_;apply Y;refine iU 4 fun _ Y=>?_;simp(disch:=omega)[ga3,ga5,ga12];apply Y;refine Yg 74 ?_ ?_<;>intro g8<;>try simp at g8
   refine iU 2 fun _ Y=>?_;simp(disch:=omega)[ga3,ga5,ga12];apply Y;refine zdg ga12 fun _ Y=>?_;simp(disch:=omega)[ga3,ga5,ga12];refine zdr (Ri m M d ((j:Int) - 1) _ h.ho hnb h.WP (fun e he=>h.fd he)) ?_;apply Y;refine iU 2 fun _ Y=>?_;simp(disch:=omega)[ga3,ga5,ga12];apply Y;refine zdg ga12 fun _ Y=>?_;simp(disch:=omega)[ga3,ga5,ga12];refine Ia (fun _=>(Ra x ((j:Int) - 1) _ hxx)) ?_;rw [hxp.ix];apply Y;simp(disch:=omega)[ga3,ga5,ga12];apply Z;refine zI ?_ ?_<;>intro c9<;>try simp at c9
   apply mM;refine zk [0,3,5] ?_;refine rB fun _ _ Z=>?_;simp(disch:=omega);and_intros<;>(try omega);apply Z;refine zq (j+1) ?_ ?_ ?_
   .omega
   .try dsimp only
    omega
   first | (simp [Mh];done) | (simp [Mh];omega)
  refine iU 7 fun _ Y=>?_;simp(disch:=omega)[ga3,ga5,ga12];apply Y;refine iU 2 fun _ Y=>?_;simp(disch:=omega)[ga3,ga5,ga12];apply Y;refine zdg ga12 fun _ Y=>?_;simp(disch:=omega)[ga3,ga5,ga12];refine zdr (Ri m M d ((j:Int) - 1) _ h.ho hnb h.WP (fun e he=>h.fd he)) ?_;apply Y;refine iU 2 fun _ Y=>?_;simp(disch:=omega)[ga3,ga5,ga12];apply Y;refine zdg ga12 fun _ Y=>?_;simp(disch:=omega)[ga3,ga5,ga12];refine Ia (fun _=>(Ra x ((j:Int) - 1) _ hxx)) ?_;rw [hxp.ix];apply Y;simp(disch:=omega)[ga3,ga5,ga12];apply Z;refine zI ?_ ?_<;>intro c10<;>try simp at c10
  apply mM;refine zk [0,3,5] ?_;refine rB fun _ _ Z=>?_;simp(disch:=omega);and_intros<;>(try omega);apply Z;refine zq (j+1) ?_ ?_ ?_
  .omega
  .try dsimp only
   omega
  first | (simp [Mh];done) | (simp [Mh];omega)
 apply zE;refine bE fun _ _ Z=>?_;simp(disch:=omega);apply Z;apply aD;simp [aK]
theorem aTu(most:Int)(σ τ:List (List D))(hs:τ=σ++ [[],sW σ.length (d0 most (σ.length+2)),gT pF]):∃m M d rk,σ.length+1=m/\d.x=newX most/\IX 0 m M d rk (newX most) τ:=
 ⟨_,_,d0 most (σ.length+2),_,rfl,rfl,by rw [hs];exact aW0 most σ,XP.refl (d:=newX most) (by simp [newX])⟩
theorem aNz {acts:List Act} (ha:∀a∈acts,a.name.size<=9223372036854775807/\a.value.size<=9223372036854775807) {k:Nat} (hk:k<acts.length):acts[k].name.size<=9223372036854775807/\acts[k].value.size<=9223372036854775807:=ha _ (cN hk)
structure TOp where
 kind:Int
 a:Int
 b:Int
 c:Int
 name:ByteArray
 value:ByteArray
 deriving DecidableEq
@[simp] abbrev kF(s:TOp):D:= .agg [.v (.int .i64 s.kind),.v (.int .i64 s.a),.v (.int .i64 s.b),.v (.int .i64 s.c),.v (.string s.name),.v (.string s.value)]
abbrev nX(m:Nat)(ops:List TOp):List D:= [.ref m 0,.sl true ((ops).map kF)]
def nt(l m:Nat)(ops:List TOp)(c:Int)(o:TOp)(σ:List (List D)):List (List D):=if c=0 then σ.set l (nX m (ops++ [o]))else σ
def Nv(ops:List TOp)(c:Int)(o:TOp):List TOp:=if c=0 then ops++ [o] else ops
theorem aTt {l m:Nat} {ops:List TOp} {c:Int} {o:TOp} {σ:List (List D)} (h:σ[l]?=some (nX m ops)):(nt l m ops c o σ)[l]?=some (nX m (Nv ops c o)):=by
 unfold nt Nv;split
 .exact aO h _
 exact h
theorem aQi(ops:List TOp)(c:Int)(o:TOp):(Nv ops c o).length<=ops.length+1:=by
 unfold Nv;split <;> simp
theorem pG(l m:Nat)(ops:List TOp)(c:Int)(o:TOp)(σ:List (List D))(hq:σ[l]?=some (nX m ops))(hl:ops.length<=100000):Ct prog 151 [.ref l 0,D.int c,kF o] σ (fun r σ'=>r=D.int c/\σ'=nt l m ops c o σ):=by
 refine zf func151 ?_;refine zr ⟨[13],[5],[],[],[]⟩ fun _ _ Z=>?_;simp[hq,aO hq];apply Z;apply aF;refine zr ⟨[13],[5],[],[],[]⟩ fun _ _ Z=>?_;simp[hq,aO hq];apply Z;refine zI ?_ ?_<;>intro c1<;>try simp at c1
 .refine ze ⟨[13],[5],[],[],[]⟩ [.op {},.op {},.op {},.op {},.op {rO:=true,wO:=true},.op {},.op {},.op {},.op {},.op {},.op {rO:=true,wO:=true}] fun all hall _ Z=>?_;refine iU 8 fun _ Y=>?_;simp[hq,aO hq];and_intros<;>(try omega);apply Y;simp[hq,aO hq];apply Z;apply gI;refine zk [1,6] ?_;refine zr ⟨[13],[5],[],[],[]⟩ fun _ _ Z=>?_;simp[hq,aO hq];apply Z;apply aD;simp [aK,nt,c1,nX]
 apply zA;refine zr ⟨[13],[5],[],[],[]⟩ fun _ _ Z=>?_;simp[hq,aO hq];apply Z;apply aD;simp [aK,nt,c1,nX]
theorem aAp(l m:Nat)(ops:List TOp)(p at_ id:Int)(c:Int)(σ2:List (List D))(σ:List (List D))(hg:σ[l]?=some (nX m ops))(hc:Ct prog 136 [.ref m 0,D.int p,D.int at_,D.int id] σ (fun r τ=>r=D.int c/\τ=σ2))(h2:σ2[l]?=some (nX m ops))(hl:ops.length<=100000):Ct prog 64 [.ref l 0,D.int p,D.int at_,D.int id] σ (fun r σ'=>r=D.int c/\σ'=nt l m ops c ⟨3,p,at_,id,⟨#[]⟩,⟨#[]⟩⟩ σ2):=by
 refine zf func64 ?_;refine bE fun _ _ Z=>?_;simp[hg];apply Z;refine bE fun _ _ Z=>?_;refine zs 8 fun _ Y=>?_;simp[hg];apply Y;refine aE fun _ Y=>?_;simp[hg];refine cB (hc) ?_;apply Y;refine zs 4 fun _ Y=>?_;simp[hg];apply Y;refine aE fun _ Y=>?_;simp[hg];refine cB (pG l m ops c ⟨3,p,at_,id,⟨#[]⟩,⟨#[]⟩⟩ _ h2 hl) ?_;apply Y;simp[hg];apply Z;apply aD;simp [aK]
theorem aM0(l m:Nat)(ops:List TOp)(id at_:Int)(c:Int)(σ2:List (List D))(σ:List (List D))(hg:σ[l]?=some (nX m ops))(hc:Ct prog 138 [.ref m 0,D.int id,D.int at_] σ (fun r τ=>r=D.int c/\τ=σ2))(h2:σ2[l]?=some (nX m ops))(hl:ops.length<=100000):Ct prog 65 [.ref l 0,D.int id,D.int at_] σ (fun r σ'=>r=D.int c/\σ'=nt l m ops c ⟨4,id,at_,0,⟨#[]⟩,⟨#[]⟩⟩ σ2):=by
 refine zf func65 ?_;refine bE fun _ _ Z=>?_;simp[hg];apply Z;refine bE fun _ _ Z=>?_;refine zs 7 fun _ Y=>?_;simp[hg];apply Y;refine aE fun _ Y=>?_;simp[hg];refine cB (hc) ?_;apply Y;refine zs 3 fun _ Y=>?_;simp[hg];apply Y;refine aE fun _ Y=>?_;simp[hg];refine cB (pG l m ops c ⟨4,id,at_,0,⟨#[]⟩,⟨#[]⟩⟩ _ h2 hl) ?_;apply Y;simp[hg];apply Z;apply aD;simp [aK]
theorem aBa(l m:Nat)(ops:List TOp)(id:Int)(s:ByteArray)(c:Int)(σ2:List (List D))(σ:List (List D))(hg:σ[l]?=some (nX m ops))(hc:Ct prog 163 [.ref m 0,D.int id,D.str s] σ (fun r τ=>r=D.int c/\τ=σ2))(h2:σ2[l]?=some (nX m ops))(hl:ops.length<=100000):Ct prog 80 [.ref l 0,D.int id,D.str s] σ (fun r σ'=>r=D.int c/\σ'=nt l m ops c ⟨6,id,0,0,s,⟨#[]⟩⟩ σ2):=by
 refine zf func80 ?_;refine bE fun _ _ Z=>?_;simp[hg];apply Z;refine bE fun _ _ Z=>?_;refine zs 7 fun _ Y=>?_;simp[hg];apply Y;refine aE fun _ Y=>?_;simp[hg];refine cB (hc) ?_;apply Y;refine zs 3 fun _ Y=>?_;simp[hg];apply Y;refine aE fun _ Y=>?_;simp[hg];refine cB (pG l m ops c ⟨6,id,0,0,s,⟨#[]⟩⟩ _ h2 hl) ?_;apply Y;simp[hg];apply Z;apply aD;simp [aK]
theorem Wg(l m:Nat)(ops:List TOp)(id:Int)(s v:ByteArray)(c:Int)(σ2:List (List D))(σ:List (List D))(hg:σ[l]?=some (nX m ops))(hc:Ct prog 199 [.ref m 0,D.int id,D.str s,D.str v] σ (fun r τ=>r=D.int c/\τ=σ2))(h2:σ2[l]?=some (nX m ops))(hl:ops.length<=100000):Ct prog 120 [.ref l 0,D.int id,D.str s,D.str v] σ (fun r σ'=>r=D.int c/\σ'=nt l m ops c ⟨8,id,0,0,s,v⟩ σ2):=by
 refine zf func120 ?_;refine bE fun _ _ Z=>?_;simp[hg];apply Z;refine bE fun _ _ Z=>?_;refine zs 8 fun _ Y=>?_;simp[hg];apply Y;refine aE fun _ Y=>?_;simp[hg];refine cB (hc) ?_;apply Y;refine zs 4 fun _ Y=>?_;simp[hg];apply Y;refine aE fun _ Y=>?_;simp[hg];refine cB (pG l m ops c ⟨8,id,0,0,s,v⟩ _ h2 hl) ?_;apply Y;simp[hg];apply Z;apply aD;simp [aK]
theorem Rs(l m:Nat)(ops:List TOp)(id:Int)(s:ByteArray)(c:Int)(σ2:List (List D))(σ:List (List D))(hg:σ[l]?=some (nX m ops))(hc:Ct prog 200 [.ref m 0,D.int id,D.str s] σ (fun r τ=>r=D.int c/\τ=σ2))(h2:σ2[l]?=some (nX m ops))(hl:ops.length<=100000):Ct prog 122 [.ref l 0,D.int id,D.str s] σ (fun r σ'=>r=D.int c/\σ'=nt l m ops c ⟨9,id,0,0,s,⟨#[]⟩⟩ σ2):=by
 refine zf func122 ?_;refine bE fun _ _ Z=>?_;simp[hg];apply Z;refine bE fun _ _ Z=>?_;refine zs 7 fun _ Y=>?_;simp[hg];apply Y;refine aE fun _ Y=>?_;simp[hg];refine cB (hc) ?_;apply Y;refine zs 3 fun _ Y=>?_;simp[hg];apply Y;refine aE fun _ Y=>?_;simp[hg];refine cB (pG l m ops c ⟨9,id,0,0,s,⟨#[]⟩⟩ _ h2 hl) ?_;apply Y;simp[hg];apply Z;apply aD;simp [aK]
theorem Uc(l m:Nat)(ops:List TOp)(id:Int)(s:ByteArray)(v:Int)(c:Int)(σ2:List (List D))(σ:List (List D))(hg:σ[l]?=some (nX m ops))(hc:Ct prog 202 [.ref m 0,D.int id,D.str s,D.int v] σ (fun r τ=>r=D.int c/\τ=σ2))(h2:σ2[l]?=some (nX m ops))(hl:ops.length<=100000):Ct prog 126 [.ref l 0,D.int id,D.str s,D.int v] σ (fun r σ'=>r=D.int c/\σ'=nt l m ops c ⟨10,id,0,v,s,⟨#[]⟩⟩ σ2):=by
 refine zf func126 ?_;refine bE fun _ _ Z=>?_;simp[hg];apply Z;refine bE fun _ _ Z=>?_;refine zs 8 fun _ Y=>?_;simp[hg];apply Y;refine aE fun _ Y=>?_;simp[hg];refine cB (hc) ?_;apply Y;refine zs 4 fun _ Y=>?_;simp[hg];apply Y;refine aE fun _ Y=>?_;simp[hg];refine cB (pG l m ops c ⟨10,id,0,v,s,⟨#[]⟩⟩ _ h2 hl) ?_;apply Y;simp[hg];apply Z;apply aD;simp [aK]
theorem Od(l m:Nat)(ops:List TOp)(id:Int)(s:ByteArray)(c:Int)(σ2:List (List D))(σ:List (List D))(hg:σ[l]?=some (nX m ops))(hc:Ct prog 203 [.ref m 0,D.int id,D.str s] σ (fun r τ=>r=D.int c/\τ=σ2))(h2:σ2[l]?=some (nX m ops))(hl:ops.length<=100000):Ct prog 128 [.ref l 0,D.int id,D.str s] σ (fun r σ'=>r=D.int c/\σ'=nt l m ops c ⟨11,id,0,0,s,⟨#[]⟩⟩ σ2):=by
 refine zf func128 ?_;refine bE fun _ _ Z=>?_;simp[hg];apply Z;refine bE fun _ _ Z=>?_;refine zs 7 fun _ Y=>?_;simp[hg];apply Y;refine aE fun _ Y=>?_;simp[hg];refine cB (hc) ?_;apply Y;refine zs 3 fun _ Y=>?_;simp[hg];apply Y;refine aE fun _ Y=>?_;simp[hg];refine cB (pG l m ops c ⟨11,id,0,0,s,⟨#[]⟩⟩ _ h2 hl) ?_;apply Y;simp[hg];apply Z;apply aD;simp [aK]
theorem Sm(l m:Nat)(ops:List TOp)(id:Int)(s:ByteArray)(c:Int)(σ2:List (List D))(σ:List (List D))(hg:σ[l]?=some (nX m ops))(hc:Ct prog 197 [.ref m 0,D.int id,D.str s] σ (fun r τ=>r=D.int c/\τ=σ2))(h2:σ2[l]?=some (nX m ops))(hl:ops.length<=100000):Ct prog 116 [.ref l 0,D.int id,D.str s] σ (fun r σ'=>r=D.int c/\σ'=nt l m ops c ⟨12,id,0,0,s,⟨#[]⟩⟩ σ2):=by
 refine zf func116 ?_;refine bE fun _ _ Z=>?_;simp[hg];apply Z;refine bE fun _ _ Z=>?_;refine zs 7 fun _ Y=>?_;simp[hg];apply Y;refine aE fun _ Y=>?_;simp[hg];refine cB (hc) ?_;apply Y;refine zs 3 fun _ Y=>?_;simp[hg];apply Y;refine aE fun _ Y=>?_;simp[hg];refine cB (pG l m ops c ⟨12,id,0,0,s,⟨#[]⟩⟩ _ h2 hl) ?_;apply Y;simp[hg];apply Z;apply aD;simp [aK]
theorem Nz(l m:Nat)(ops:List TOp)(id:Int)(s:ByteArray)(c:Int)(σ2:List (List D))(σ:List (List D))(hg:σ[l]?=some (nX m ops))(hc:Ct prog 196 [.ref m 0,D.int id,D.str s] σ (fun r τ=>r=D.int c/\τ=σ2))(h2:σ2[l]?=some (nX m ops))(hl:ops.length<=100000):Ct prog 115 [.ref l 0,D.int id,D.str s] σ (fun r σ'=>r=D.int c/\σ'=nt l m ops c ⟨13,id,0,0,s,⟨#[]⟩⟩ σ2):=by
 refine zf func115 ?_;refine bE fun _ _ Z=>?_;simp[hg];apply Z;refine bE fun _ _ Z=>?_;refine zs 7 fun _ Y=>?_;simp[hg];apply Y;refine aE fun _ Y=>?_;simp[hg];refine cB (hc) ?_;apply Y;refine zs 3 fun _ Y=>?_;simp[hg];apply Y;refine aE fun _ Y=>?_;simp[hg];refine cB (pG l m ops c ⟨13,id,0,0,s,⟨#[]⟩⟩ _ h2 hl) ?_;apply Y;simp[hg];apply Z;apply aD;simp [aK]
theorem aDp(ops:List TOp)(σ:List (List D))(hl:ops.length<=100000):Ct prog 67 [.sl false (ops.map kF)] σ (fun r σ'=>r= .sl true (ops.map kF)/\σ'=σ):=by
 refine zf func67 ?_;refine zr ⟨[2],[],[],[],[]⟩ fun _ _ Z=>?_;simp;apply Z;apply aF;refine zr ⟨[2],[],[],[],[]⟩ fun _ _ Z=>?_;refine zs 1 fun _ Y=>?_;simp;apply Y;refine aE fun _ Y=>?_;simp;refine⟨Y _ ?_,fun e1=>Y _ ?_⟩
 .simp only [eE];apply Z;refine bS (t:=false) (by simp) (fun h=>by cases h) (fun _=>?_);apply zA;refine zr ⟨[2],[],[],[],[]⟩ fun _ _ Z=>?_;simp;and_intros<;>(try omega);apply Z;apply aD;simp [aK]
 simp only [eE];apply Z;refine bS (t:=true) (by simp) (fun _=>?_) (fun h=>by cases h);refine zr ⟨[2],[],[],[],[]⟩ fun _ _ Z=>?_;simp;apply Z;apply aD;simp [aK,e1]
theorem aKf(l m:Nat)(ops:List TOp)(σ:List (List D))(hl:ops.length<=100000)(hg:σ[l]?=some (nX m ops)):Ct prog 16 [.ref l 0] σ (fun r σ'=>r= .sl true (ops.map kF)/\σ'=σ):=by
 refine zf func16 ?_;refine zr ⟨[2],[],[],[],[]⟩ fun _ _ Z=>?_;simp[hg];apply Z;refine zr ⟨[2],[],[],[],[]⟩ fun _ _ Z=>?_;refine zs 4 fun _ Y=>?_;simp[hg];apply Y;refine aE fun _ Y=>?_;simp[hg];refine cB (aDp ops _ hl) ?_;apply Y;simp[hg];apply Z;apply aD;simp [aK]
theorem Jd(l m:Nat)(ops:List TOp)(σ:List (List D))(hl:ops.length<=100000)(hg:σ[l]?=some (nX m ops)):Ct prog 16 [.ref l 0] σ (fun r σ'=>r= .sl false (ops.map kF)/\σ'=σ):=
 (aKf l m ops σ hl hg).strip fun r σ' ⟨hr,hs⟩=>⟨by rw [hr];rfl,by rw [hr];rfl,hs⟩
theorem aHq(l m:Nat)(ops:List TOp)(σ:List (List D))(hg:σ[l]?=some (nX m ops)):Ct prog 52 [.ref l 0] σ (fun r σ'=>r= .tup []/\σ'=σ.set l (nX m [])):=by
 refine zf func52 ?_;refine rB fun _ _ Z=>?_;simp[hg];apply Z;simp [aK,nX]
theorem aNn(m:Nat)(σ:List (List D))  :Ct prog 61 [.ref m 0] σ (fun r σ'=>r= .ref σ.length 0/\σ'=σ++ [nX m []]):=by
 refine zf func61 ?_;refine zr ⟨[],[],[5],[],[]⟩ fun _ _ Z=>?_;simp[aY,aR,aL,aJ];apply Z;refine zr ⟨[],[],[5],[],[]⟩ fun _ _ Z=>?_;simp[aY,aR,aL,aJ];and_intros<;>(try omega);apply Z;apply aD;simp [aK]
end Go.Proofs.YtbgfljpnhhdkoaaGreat
