import Derived.Test.YtbgfljpnhhdkoaaGreatWkAr11
open Go.Proofs.Tryz
namespace Go.Proofs.YtbgfljpnhhdkoaaGreat
open Go Go.Vm
set_option maxRecDepth 20000
set_option linter.all false
set_option maxHeartbeats 8000000
def wV(id kind:Int)(tag text:ByteArray):ND:=⟨id,kind,tag,text, [], [], [], -1, []⟩
def oG(d:DS)(n:ND)(o:Nat):DS:=⟨d.most,d.next+1,d.ck+1,d.es++ [⟨n,o,d.ck⟩]⟩
theorem aGd {d:DS} {id:Int} (h:cZ d.l id=false)(x:D):Rs (d.es.map Ho) d.ck (.int .i64 id) x (d.es.map Ho++ [(.int .i64 id,d.ck,x)]) (d.ck+1):=by
 refine .inr ⟨fun kv hkv=>?_,rfl,rfl⟩;obtain⟨e,he,rfl⟩:=List.mem_map.1 hkv;intro h2;simp only [Ho,Value.int.injEq,true_and] at h2;exact rK h e.n (eE he) h2
theorem aCn(m M:Nat)(d:DS)(kind:Int)(tag text:ByteArray)(σ:List (List D))(ho:DO m M d σ)(hl:d.es.length≤100000)(hmo:0≤d.most∧d.most≤100000)(hr:d.most≤(d.es.length:Int) - 1):Ct prog 204 [.ref m 0,.agg [D.int 0,D.int kind,D.str tag,D.str text,.sl true [],.sl true [],.sl true [],D.int 0,.sl true []]] σ (fun r σ'=>r= .tup [D.int 0,D.int 8]∧∃J,σ'=σ++J):=by
 refine zf (rs:=[.tmp 4,.tmp 5]) func204 ntmps204 results204 ?_;simp only [aN];have hq:=ho.hm;refine zr ⟨[],[],[3],[],[]⟩ fun _ _ Z=>?_;simp[hq,aL hq,bW hq,dA hq,cO hq,eA hq,bS,bN,bP,bV,bU,cE,dG,cD];and_intros<;>(try omega);apply Z;apply aB;refine zr ⟨[],[],[3],[],[]⟩ fun _ _ Z=>?_;refine zs 1 fun _ Y=>?_;simp[hq,aL hq,bW hq,dA hq,cO hq,eA hq,bS,bN,bP,bV,bU,cE,dG,cD];apply Y;refine aE fun _ Y=>?_;simp[hq,aL hq,bW hq,dA hq,cO hq,eA hq,bS,bN,bP,bV,bU,cE,dG,cD];refine bX (zS m M d _ (ho.app _) hl hmo) ?_;apply Y;simp[hq,aL hq,bW hq,dA hq,cO hq,eA hq,bS,bN,bP,bV,bU,cE,dG,cD];apply Z;refine zi ?_;refine⟨fun c1=>?_,fun c1=>?_⟩
 ·try simp at c1
  refine zr ⟨[],[],[3],[],[]⟩ fun _ _ Z=>?_;simp[hq,aL hq,bW hq,dA hq,cO hq,eA hq,bS,bN,bP,bV,bU,cE,dG,cD];apply Z;apply aC;apply aI;simp [aK]
 try simp at c1
 omega
theorem Iu(m M:Nat)(d:DS)(kind:Int)(tag text:ByteArray)(σ:List (List D))(ho:DO m M d σ)(hl:d.es.length≤100000)(hmo:0≤d.most∧d.most≤100000)(hr:(d.es.length:Int) - 1<d.most)(hn:0≤d.next∧d.next≤1000000)(hno:cZ d.l d.next=false):Ct prog 204 [.ref m 0,.agg [D.int 0,D.int kind,D.str tag,D.str text,.sl true [],.sl true [],.sl true [],D.int 0,.sl true []]] σ (fun r σ'=>r= .tup [D.int d.next,D.int 0]∧σ'=σ.set m (mF M (oG d (wV d.next kind tag text) σ.length))++ [dV (wV d.next kind tag text)]):=by
 refine zf (rs:=[.tmp 4,.tmp 5]) func204 ntmps204 results204 ?_;simp only [aN];have hq:=ho.hm;refine zr ⟨[],[],[3],[],[]⟩ fun _ _ Z=>?_;simp[hq,aL hq,bW hq,dA hq,cO hq,eA hq,bS,bN,bP,bV,bU,cE,dG,cD];and_intros<;>(try omega);apply Z;apply aB;refine zr ⟨[],[],[3],[],[]⟩ fun _ _ Z=>?_;refine zs 1 fun _ Y=>?_;simp[hq,aL hq,bW hq,dA hq,cO hq,eA hq,bS,bN,bP,bV,bU,cE,dG,cD];apply Y;refine aE fun _ Y=>?_;simp[hq,aL hq,bW hq,dA hq,cO hq,eA hq,bS,bN,bP,bV,bU,cE,dG,cD];refine bX (zS m M d _ (ho.app _) hl hmo) ?_;apply Y;simp[hq,aL hq,bW hq,dA hq,cO hq,eA hq,bS,bN,bP,bV,bU,cE,dG,cD];apply Z;refine zi ?_;refine⟨fun c1=>?_,fun c1=>?_⟩
 ·try simp at c1
  omega
 try simp at c1
 apply aD;apply aA;refine zr ⟨[],[],[3],[],[]⟩ fun _ _ Z=>?_;simp[hq,aL hq,bW hq,dA hq,cO hq,eA hq,bS,bN,bP,bV,bU,cE,dG,cD];apply Z;refine zk [0,3,4,5] ?_;refine zd ⟨[],[],[3],[],[]⟩ [.op {},.op {},.op {},.op {rO:=true},.op {},.op {rO:=true},.op {rO:=true,wO:=true}] fun all hall _ Z=>?_;simp[hq,aL hq,bW hq,dA hq,cO hq,eA hq,bS,bN,bP,bV,bU,cE,dG,cD];refine⟨m,2,d.ck,_,d.ck+1,_,⟨⟨_,dA hq _,rfl⟩,iF _,rfl,aGd hno _⟩,?_⟩;rw [Hn (dA hq _)];and_intros<;>(try omega);apply Z;refine zr ⟨[],[],[3],[],[]⟩ fun _ _ Z=>?_;simp[hq,aL hq,bW hq,dA hq,cO hq,eA hq,bS,bN,bP,bV,bU,cE,dG,cD];and_intros<;>(try omega);apply Z;refine qS σ.length 8 1 (by simp [bS,bP];rfl) rfl ?_;simp only [bN,bV,List.set_cons_zero,List.set_cons_succ];refine Cy σ.length (dV (wV d.next kind tag text)) (by simp [bS,bP];rfl) (by simp [leC,wV,D.s1]) ?_;simp only [bN,bV];refine zk [3,4,5] ?_;refine zr ⟨[],[],[3],[],[]⟩ fun _ _ Z=>?_;simp[hq,aL hq,bW hq,dA hq,cO hq,eA hq,bS,bN,bP,bV,bU,cE,dG,cD];apply Z;apply aC;simp [aK,Ho,oG,wV,mF]
theorem Ki(m M:Nat)(d:DS)(kind:Int)(tag text:ByteArray)(σ:List (List D))(ho:DO m M d σ)(hl:d.es.length≤100000)(hmo:0≤d.most∧d.most≤100000)(hr:d.most≤(d.es.length:Int) - 1):Ct prog 204 [.ref m 0,.agg [D.int 0,D.int kind,D.str tag,D.str text,.sl true [],.sl true [],.sl true [],D.int 0,.sl true []]] σ (fun r σ'=>r= .tup [D.int 0,D.int 8]∧σ'=σ):=
 rZ (aCn m M d kind tag text σ ho hl hmo hr) fun r hr=>by rw [hr];exact Gq (Sc.v _) (Sc.v _)
theorem aCq(m:Nat)(s:ByteArray)(σ:List (List D))(hs:s.size≤1000)(hnm:fP s=false):Ct prog 133 [.ref m 0,D.str s] σ (fun r σ'=>r= .tup [D.int 0,D.int 2]∧σ'=σ):=by
 refine zf (rs:=[.tmp 4,.tmp 5]) func133 ntmps133 results133 ?_;simp only [aN];refine zr ⟨[9,10],[],[],[],[]⟩ fun _ _ Z=>?_;simp;apply Z;apply aB;refine zr ⟨[9,10],[],[],[],[]⟩ fun _ _ Z=>?_;refine zs 1 fun _ Y=>?_;simp;apply Y;refine aE fun _ Y=>?_;simp;refine bX (pV s _ (by omega)) ?_;rw [hnm];apply Y;simp;apply Z;refine zi ?_;refine⟨fun c1=>?_,fun c1=>?_⟩
 ·try simp at c1
  refine zr ⟨[9,10],[],[],[],[]⟩ fun _ _ Z=>?_;simp;apply Z;apply aC;apply aI;simp [aK]
 simp at c1
theorem Yc(m M:Nat)(d:DS)(s:ByteArray)(σ:List (List D))(ho:DO m M d σ)(hl:d.es.length≤100000)(hmo:0≤d.most∧d.most≤100000)(hr:d.most≤(d.es.length:Int) - 1)(hs:s.size≤1000)(hnm:fP s=true):Ct prog 133 [.ref m 0,D.str s] σ (fun r σ'=>r= .tup [D.int 0,D.int 8]∧σ'=σ):=by
 refine zf (rs:=[.tmp 4,.tmp 5]) func133 ntmps133 results133 ?_;simp only [aN];refine zr ⟨[9,10,12],[],[],[],[]⟩ fun _ _ Z=>?_;simp;apply Z;apply aB;refine zr ⟨[9,10,12],[],[],[],[]⟩ fun _ _ Z=>?_;refine zs 1 fun _ Y=>?_;simp;apply Y;refine aE fun _ Y=>?_;simp;refine bX (pV s _ (by omega)) ?_;rw [hnm];apply Y;simp;apply Z;refine zi ?_;refine⟨fun c1=>?_,fun c1=>?_⟩
 ·simp at c1
 try simp at c1
 apply aD;apply aA;refine zr ⟨[9,10,12],[],[],[],[]⟩ fun _ _ Z=>?_;refine zs 3 fun _ Y=>?_;simp;apply Y;refine aE fun _ Y=>?_;simp;refine bX (Ki m M d 2 s ⟨#[]⟩ _ ho hl hmo hr) ?_;apply Y;simp;apply Z;apply aC;simp [aK]
theorem aC7(m M:Nat)(d:DS)(s:ByteArray)(σ:List (List D))(ho:DO m M d σ)(hl:d.es.length≤100000)(hmo:0≤d.most∧d.most≤100000)(hr:(d.es.length:Int) - 1<d.most)(hn:0≤d.next∧d.next≤1000000)(hno:cZ d.l d.next=false)(hs:s.size≤1000)(hnm:fP s=true):Ct prog 133 [.ref m 0,D.str s] σ (fun r σ'=>r= .tup [D.int d.next,D.int 0]∧σ'=σ.set m (mF M (oG d (wV d.next 2 s ⟨#[]⟩) σ.length))++ [dV (wV d.next 2 s ⟨#[]⟩)]):=by
 refine zf (rs:=[.tmp 4,.tmp 5]) func133 ntmps133 results133 ?_;simp only [aN];refine zr ⟨[9,10,12],[],[],[],[]⟩ fun _ _ Z=>?_;simp;apply Z;apply aB;refine zr ⟨[9,10,12],[],[],[],[]⟩ fun _ _ Z=>?_;refine zs 1 fun _ Y=>?_;simp;apply Y;refine aE fun _ Y=>?_;simp;refine bX (pV s _ (by omega)) ?_;rw [hnm];apply Y;simp;apply Z;refine zi ?_;refine⟨fun c1=>?_,fun c1=>?_⟩
 ·simp at c1
 try simp at c1
 apply aD;apply aA;refine zr ⟨[9,10,12],[],[],[],[]⟩ fun _ _ Z=>?_;refine zs 3 fun _ Y=>?_;simp;apply Y;refine aE fun _ Y=>?_;simp;refine bX (Iu m M d 2 s ⟨#[]⟩ _ ho hl hmo hr hn hno) ?_;apply Y;simp;apply Z;apply aC;simp [aK]
theorem Zg(m M:Nat)(d:DS)(s:ByteArray)(σ:List (List D))(ho:DO m M d σ)(hl:d.es.length≤100000)(hmo:0≤d.most∧d.most≤100000)(hr:d.most≤(d.es.length:Int) - 1):Ct prog 135 [.ref m 0,D.str s] σ (fun r σ'=>r= .tup [D.int 0,D.int 8]∧σ'=σ):=by
 refine zf (rs:=[.tmp 4,.tmp 5]) func135 ntmps135 results135 ?_;simp only [aN];refine zr ⟨[6,7,9],[],[],[],[]⟩ fun _ _ Z=>?_;simp;apply Z;refine zr ⟨[6,7,9],[],[],[],[]⟩ fun _ _ Z=>?_;refine zs 3 fun _ Y=>?_;simp;apply Y;refine aE fun _ Y=>?_;simp;refine bX (Ki m M d 1 ⟨#[]⟩ s _ ho hl hmo hr) ?_;apply Y;simp;apply Z;apply aC;simp [aK]
theorem Yy(m M:Nat)(d:DS)(s:ByteArray)(σ:List (List D))(ho:DO m M d σ)(hl:d.es.length≤100000)(hmo:0≤d.most∧d.most≤100000)(hr:(d.es.length:Int) - 1<d.most)(hn:0≤d.next∧d.next≤1000000)(hno:cZ d.l d.next=false):Ct prog 135 [.ref m 0,D.str s] σ (fun r σ'=>r= .tup [D.int d.next,D.int 0]∧σ'=σ.set m (mF M (oG d (wV d.next 1 ⟨#[]⟩ s) σ.length))++ [dV (wV d.next 1 ⟨#[]⟩ s)]):=by
 refine zf (rs:=[.tmp 4,.tmp 5]) func135 ntmps135 results135 ?_;simp only [aN];refine zr ⟨[6,7,9],[],[],[],[]⟩ fun _ _ Z=>?_;simp;apply Z;refine zr ⟨[6,7,9],[],[],[],[]⟩ fun _ _ Z=>?_;refine zs 3 fun _ Y=>?_;simp;apply Y;refine aE fun _ Y=>?_;simp;refine bX (Iu m M d 1 ⟨#[]⟩ s _ ho hl hmo hr hn hno) ?_;apply Y;simp;apply Z;apply aC;simp [aK]
def vI(d:DS)(rk:Int→Nat)(p n:EN)(at_:Int):Prop:=n.n.ID=0∨¬n.n.parent= -1∨iM d.l (bJ d.l rk) p.n.ID n.n.ID=true∨at_<0∨(p.n.kids.length:Int)<at_
def Bn(n:ND)(p:Int):ND:= { n with parent:=p }
theorem Nm {l:List ND} {rk:Int→Nat} (h:WT l rk) {id:Int} (hi:cZ l id=true):iM l (bJ l rk) id id=true:=by
 unfold iM;rw [hi,yS];simpa using iJ h.Dec id
theorem Mx(m M:Nat)(d:DS)(id at_ pid:Int)(σ:List (List D))(ho:DO m M d σ)(hno:cZ d.l pid=false):Ct prog 136 [.ref m 0,D.int pid,D.int at_,D.int id] σ (fun r σ'=>r= .int 11∧σ'=σ):=by
 refine zf (rs:=[.tmp 8]) func136 ntmps136 results136 ?_;simp only [aN];have hq:=ho.hm;refine zr ⟨[71],[],[],[],[]⟩ fun _ _ Z=>?_;simp[hq];and_intros<;>(try omega)
 all_goals first | (generalize nx d id=s9;cases s9 <;> rfl) | skip
 apply Z;refine zd ⟨[71],[],[],[],[]⟩ [.op {},.op {},.op {},.op {rO:=true},.op {},.op {rO:=true},.op {},.op {},.op {},.op {rO:=true},.op {},.op {rO:=true},.op {},.op {}] fun all hall _ Z=>?_;refine eR 6 fun _ Y=>?_;simp[hq];refine⟨m,2,d.ck,_,.v (.pointer none),⟨⟨_,hq,rfl⟩,iF _,.inl (mV hno _)⟩,?_⟩;and_intros<;>(try omega)
 all_goals first | (generalize nx d id=s9;cases s9 <;> rfl) | skip
 apply Y;refine eR 6 fun _ Y=>?_;simp[hq];refine⟨m,2,d.ck,_,pD (nx d id),⟨⟨_,hq,rfl⟩,iF _,Xy d _⟩,?_⟩;and_intros<;>(try omega)
 all_goals first | (generalize nx d id=s9;cases s9 <;> rfl) | skip
 apply Y;simp[hq];and_intros<;>(try omega)
 all_goals first | (generalize nx d id=s9;cases s9 <;> rfl) | skip
 apply Z;apply aB;apply aF;refine zk [0,1,2,3,8,9,10] ?_;refine kX ⟨[71],[],[],[],[]⟩ fun all hall _ Z=>?_;have ga2:aO all 2=some 26:=hall 2;refine zs 3 fun _ Y=>?_;simp[hq,ga2];and_intros<;>(try omega)
 all_goals first | (generalize nx d id=s9;cases s9 <;> rfl) | skip
 apply Y;refine aS 26 (by simp <;> rfl) ?_;refine⟨fun g1=>?_,fun g1=>?_⟩
 ·try simp at g1
  simp[hq,ga2];and_intros<;>(try omega)
  all_goals first | (generalize nx d id=s9;cases s9 <;> rfl) | skip
  apply Z;refine bD (t:=true) (by simp) (fun _=>?_) (fun h=>by cases h);refine zk [1,2,3,8,9,10] ?_;refine zr ⟨[71],[],[],[],[]⟩ fun _ _ Z=>?_;simp[hq];and_intros<;>(try omega)
  all_goals first | (generalize nx d id=s9;cases s9 <;> rfl) | skip
  apply Z;apply aC;apply aP;apply aI;simp [aK]
 simp at g1
theorem Mr(m M:Nat)(d:DS)(p:EN)(at_ id:Int)(σ:List (List D))(ho:DO m M d σ)(hp:p∈d.es)(hno:cZ d.l id=false):Ct prog 136 [.ref m 0,D.int p.n.ID,D.int at_,D.int id] σ (fun r σ'=>r= .int 11∧σ'=σ):=by
 refine zf (rs:=[.tmp 8]) func136 ntmps136 results136 ?_;simp only [aN];have hq:=ho.hm;refine zr ⟨[71],[],[],[],[]⟩ fun _ _ Z=>?_;simp[hq];apply Z;refine zd ⟨[71],[],[],[],[]⟩ [.op {},.op {},.op {},.op {rO:=true},.op {},.op {rO:=true},.op {},.op {},.op {},.op {rO:=true},.op {},.op {rO:=true},.op {},.op {}] fun all hall _ Z=>?_;refine eR 6 fun _ Y=>?_;simp[hq];refine⟨m,2,d.ck,_,.ref p.o 0,⟨⟨_,hq,rfl⟩,iF _,.inr (eM hp _)⟩,?_⟩;and_intros<;>(try omega);apply Y;refine eR 6 fun _ Y=>?_;simp[hq];refine⟨m,2,d.ck,_,.v (.pointer none),⟨⟨_,hq,rfl⟩,iF _,.inl (mV hno _)⟩,?_⟩;and_intros<;>(try omega);apply Y;simp[hq];apply Z;apply aB;apply aF;refine zk [0,1,2,3,8,9,10] ?_;refine kX ⟨[71],[],[],[],[]⟩ fun all hall _ Z=>?_;have ga2:aO all 2=some 26:=hall 2;refine zs 3 fun _ Y=>?_;simp[hq,ga2];apply Y;refine aS 26 (by simp <;> rfl) ?_;refine⟨fun g1=>?_,fun g1=>?_⟩
 ·simp at g1
 try simp at g1
 simp[hq,ga2];apply Z;refine zi ?_;refine⟨fun c2=>?_,fun c2=>?_⟩
 ·try simp at c2
  refine zk [1,2,3,8,9,10] ?_;refine zr ⟨[71],[],[],[],[]⟩ fun _ _ Z=>?_;simp[hq];apply Z;apply aC;apply aP;apply aI;simp [aK]
 simp at c2
theorem Wf(m M:Nat)(d:DS)(p n:EN)(at_:Int)(σ:List (List D))(ho:DO m M d σ)(hp:p∈d.es)(hn:n∈d.es)(hk:¬p.n.kind=2):Ct prog 136 [.ref m 0,D.int p.n.ID,D.int at_,D.int n.n.ID] σ (fun r σ'=>r= .int 14∧σ'=σ):=by
 refine zf (rs:=[.tmp 8]) func136 ntmps136 results136 ?_;simp only [aN];have hq:=ho.hm;have hnn:=ho.hn;refine zr ⟨[71],[],[],[],[]⟩ fun _ _ Z=>?_;simp(disch:=omega)[hq,hnn,hk];apply Z;refine zd ⟨[71],[],[],[],[]⟩ [.op {},.op {},.op {},.op {rO:=true},.op {},.op {rO:=true},.op {},.op {},.op {},.op {rO:=true},.op {},.op {rO:=true},.op {},.op {}] fun all hall _ Z=>?_;refine eR 6 fun _ Y=>?_;simp(disch:=omega)[hq,hnn,hk];refine⟨m,2,d.ck,_,.ref p.o 0,⟨⟨_,hq,rfl⟩,iF _,.inr (eM hp _)⟩,?_⟩;and_intros<;>(try omega);apply Y;refine eR 6 fun _ Y=>?_;simp(disch:=omega)[hq,hnn,hk];refine⟨m,2,d.ck,_,.ref n.o 0,⟨⟨_,hq,rfl⟩,iF _,.inr (eM hn _)⟩,?_⟩;and_intros<;>(try omega);apply Y;simp(disch:=omega)[hq,hnn,hk];apply Z;apply aB;apply aF;refine zk [0,1,2,3,8,9,10] ?_;refine kX ⟨[71],[],[],[],[]⟩ fun all hall _ Z=>?_;have ga2:aO all 2=some 26:=hall 2;refine zs 3 fun _ Y=>?_;simp(disch:=omega)[hq,hnn,hk,ga2];apply Y;refine aS 26 (by simp <;> rfl) ?_;refine⟨fun g1=>?_,fun g1=>?_⟩
 ·simp at g1
 try simp at g1
 simp(disch:=omega)[hq,hnn,hk,ga2];apply Z;refine zi ?_;refine⟨fun c2=>?_,fun c2=>?_⟩
 ·simp at c2
 try simp at c2
 refine zk [0,1,2,3,8,9,10] ?_;refine zr ⟨[71],[],[],[],[]⟩ fun _ _ Z=>?_;simp(disch:=omega)[hq,hnn,hk];apply Z;refine zi ?_;refine⟨fun c3=>?_,fun c3=>?_⟩
 ·try simp at c3
  refine zk [1,2,3,8,9,10] ?_;refine zr ⟨[71],[],[],[],[]⟩ fun _ _ Z=>?_;simp(disch:=omega)[hq,hnn,hk];apply Z;apply aC;apply aP;apply aI;simp [aK]
 simp at c3
@[simp] abbrev qr121:Cfg:=⟨[70,71,74],[],[],[62],[]⟩
theorem aFm(m M:Nat)(d:DS)(rk:Int→Nat)(p n:EN)(at_:Int)(σ:List (List D))(ho:DO m M d σ)(hp:p∈d.es)(hn:n∈d.es)(hk:p.n.kind=2)(hwt:WT d.l rk)(hlen:p.n.kids.length≤1000):Ct prog 136 [.ref m 0,D.int p.n.ID,D.int at_,D.int n.n.ID] σ (fun r σ'=>(r=D.int 1∧vI d rk p n at_∧σ'=σ)∨(r=D.int 0∧¬vI d rk p n at_∧∃i:Nat,at_=i∧σ'=(σ.set p.o (dV (fI p.n (dE p.n.kids i n.n.ID)))).set n.o (dV (Bn n.n p.n.ID)))):=by
 refine zf (rs:=[.tmp 8]) func136 ntmps136 results136 ?_;simp only [aN];have hq:=ho.hm;have hpo:=ho.hn p hp;have hno:=ho.hn n hn;have hn2:n.o≠p.o→∀a,(σ.set p.o a)[n.o]?=some (dV n.n):=fun h a=>by rw [List.getElem?_set_ne (Ne.symm h)];exact hno
 refine zr qr121 fun _ _ Z=>?_;simp(disch:=omega)[hq,hpo,hno,hk,hn2,aL hpo,List.set_set];apply Z;refine zd qr121 [.op {},.op {},.op {},.op {rO:=true},.op {},.op {rO:=true},.op {},.op {},.op {},.op {rO:=true},.op {},.op {rO:=true},.op {},.op {}] fun all hall _ Z=>?_;refine eR 6 fun _ Y=>?_;simp(disch:=omega)[hq,hpo,hno,hk,hn2,aL hpo,List.set_set];refine⟨m,2,d.ck,_,.ref p.o 0,⟨⟨_,hq,rfl⟩,iF _,.inr (eM hp _)⟩,?_⟩;and_intros<;>(try omega);apply Y;refine eR 6 fun _ Y=>?_;simp(disch:=omega)[hq,hpo,hno,hk,hn2,aL hpo,List.set_set];refine⟨m,2,d.ck,_,.ref n.o 0,⟨⟨_,hq,rfl⟩,iF _,.inr (eM hn _)⟩,?_⟩;and_intros<;>(try omega);apply Y;simp(disch:=omega)[hq,hpo,hno,hk,hn2,aL hpo,List.set_set];apply Z;apply aB;apply aF;refine zk [0,1,2,3,8,9,10] ?_;refine kX qr121 fun all hall _ Z=>?_;have ga2:aO all 2=some 26:=hall 2;refine zs 3 fun _ Y=>?_;simp(disch:=omega)[hq,hpo,hno,hk,hn2,aL hpo,List.set_set,ga2];apply Y;refine aS 26 (by simp <;> rfl) ?_;refine⟨fun g1=>?_,fun g1=>?_⟩
 ·simp at g1
 try simp at g1
 simp(disch:=omega)[hq,hpo,hno,hk,hn2,aL hpo,List.set_set,ga2];apply Z;refine zi ?_;refine⟨fun c2=>?_,fun c2=>?_⟩
 ·simp at c2
 try simp at c2
 refine zk [0,1,2,3,8,9,10] ?_;refine zr qr121 fun _ _ Z=>?_;simp(disch:=omega)[hq,hpo,hno,hk,hn2,aL hpo,List.set_set];apply Z;refine zi ?_;refine⟨fun c3=>?_,fun c3=>?_⟩
 ·simp at c3
 try simp at c3
 refine zk [0,1,2,3,8,9,10] ?_;refine kX qr121 fun all hall _ Z=>?_;have ga2:aO all 2=some 39:=hall 2;have ga9:aO all 9=some 46:=hall 9;have ga15:aO all 15=some 52:=hall 15;have ga19:aO all 19=some 56:=hall 19;refine zs 3 fun _ Y=>?_;simp(disch:=omega)[hq,hpo,hno,hk,hn2,aL hpo,List.set_set,ga2,ga9,ga15,ga19];apply Y;refine aS 39 (by simp <;> rfl) ?_;refine⟨fun g4=>?_,fun g4=>?_⟩
 ·try simp at g4
  refine zs 7 fun _ Y=>?_;simp(disch:=omega)[hq,hpo,hno,hk,hn2,aL hpo,List.set_set,ga2,ga9,ga15,ga19];apply Y;refine zs 6 fun _ Y=>?_;simp(disch:=omega)[hq,hpo,hno,hk,hn2,aL hpo,List.set_set,ga2,ga9,ga15,ga19];apply Y;refine zs 4 fun _ Y=>?_;simp(disch:=omega)[hq,hpo,hno,hk,hn2,aL hpo,List.set_set,ga2,ga9,ga15,ga19];apply Y;refine zs 8 fun _ Y=>?_;simp(disch:=omega)[hq,hpo,hno,hk,hn2,aL hpo,List.set_set,ga2,ga9,ga15,ga19];apply Y;simp(disch:=omega)[hq,hpo,hno,hk,hn2,aL hpo,List.set_set,ga2,ga9,ga15,ga19];apply Z;refine bD (t:=true) (by simp) (fun _=>?_) (fun h=>by cases h);refine zk [1,2,3,8,9,10] ?_;refine zr qr121 fun _ _ Z=>?_;simp(disch:=omega)[hq,hpo,hno,hk,hn2,aL hpo,List.set_set];apply Z;apply aC;apply aP;apply aI;simp [aK];exact .inl g4
 try simp at g4
 refine zs 7 fun _ Y=>?_;simp(disch:=omega)[hq,hpo,hno,hk,hn2,aL hpo,List.set_set,ga2,ga9,ga15,ga19];apply Y;refine aS 46 (by simp <;> rfl) ?_;refine⟨fun g5=>?_,fun g5=>?_⟩
 ·try simp at g5
  refine zs 6 fun _ Y=>?_;simp(disch:=omega)[hq,hpo,hno,hk,hn2,aL hpo,List.set_set,ga2,ga9,ga15,ga19];apply Y;refine zs 4 fun _ Y=>?_;simp(disch:=omega)[hq,hpo,hno,hk,hn2,aL hpo,List.set_set,ga2,ga9,ga15,ga19];apply Y;refine zs 8 fun _ Y=>?_;simp(disch:=omega)[hq,hpo,hno,hk,hn2,aL hpo,List.set_set,ga2,ga9,ga15,ga19];apply Y;simp(disch:=omega)[hq,hpo,hno,hk,hn2,aL hpo,List.set_set,ga2,ga9,ga15,ga19];apply Z;refine bD (t:=true) (by simp) (fun _=>?_) (fun h=>by cases h);refine zk [1,2,3,8,9,10] ?_;refine zr qr121 fun _ _ Z=>?_;simp(disch:=omega)[hq,hpo,hno,hk,hn2,aL hpo,List.set_set];apply Z;apply aC;apply aP;apply aI;simp [aK];exact .inr (.inl g5)
 try simp at g5
 refine zs 3 fun _ Y=>?_;simp(disch:=omega)[hq,hpo,hno,hk,hn2,aL hpo,List.set_set,ga2,ga9,ga15,ga19];apply Y;refine zg ga9 fun _ Y=>?_;simp(disch:=omega)[hq,hpo,hno,hk,hn2,aL hpo,List.set_set,ga2,ga9,ga15,ga19];refine bX (Ej m M d rk p.n.ID n.n.ID _ ho hwt) ?_;apply Y;refine zs 2 fun _ Y=>?_;simp(disch:=omega)[hq,hpo,hno,hk,hn2,aL hpo,List.set_set,ga2,ga9,ga15,ga19];apply Y;refine aS 52 (by simp <;> rfl) ?_;refine⟨fun g6=>?_,fun g6=>?_⟩
 ·try simp at g6
  refine zs 4 fun _ Y=>?_;simp(disch:=omega)[hq,hpo,hno,hk,hn2,aL hpo,List.set_set,ga2,ga9,ga15,ga19];apply Y;refine zs 8 fun _ Y=>?_;simp(disch:=omega)[hq,hpo,hno,hk,hn2,aL hpo,List.set_set,ga2,ga9,ga15,ga19];apply Y;simp(disch:=omega)[hq,hpo,hno,hk,hn2,aL hpo,List.set_set,ga2,ga9,ga15,ga19];apply Z;refine bD (t:=true) (by simp) (fun _=>?_) (fun h=>by cases h);refine zk [1,2,3,8,9,10] ?_;refine zr qr121 fun _ _ Z=>?_;simp(disch:=omega)[hq,hpo,hno,hk,hn2,aL hpo,List.set_set];apply Z;apply aC;apply aP;apply aI;simp [aK];exact .inr (.inr (.inl g6))
 try simp at g6
 refine zs 4 fun _ Y=>?_;simp(disch:=omega)[hq,hpo,hno,hk,hn2,aL hpo,List.set_set,ga2,ga9,ga15,ga19];apply Y;refine aS 56 (by simp <;> rfl) ?_;refine⟨fun g7=>?_,fun g7=>?_⟩
 ·try simp at g7
  refine zs 8 fun _ Y=>?_;simp(disch:=omega)[hq,hpo,hno,hk,hn2,aL hpo,List.set_set,ga2,ga9,ga15,ga19];apply Y;simp(disch:=omega)[hq,hpo,hno,hk,hn2,aL hpo,List.set_set,ga2,ga9,ga15,ga19];apply Z;refine bD (t:=true) (by simp) (fun _=>?_) (fun h=>by cases h);refine zk [1,2,3,8,9,10] ?_;refine zr qr121 fun _ _ Z=>?_;simp(disch:=omega)[hq,hpo,hno,hk,hn2,aL hpo,List.set_set];apply Z;apply aC;apply aP;apply aI;simp [aK];exact .inr (.inr (.inr (.inl (by omega))))
 try simp at g7
 refine zs 8 fun _ Y=>?_;simp(disch:=omega)[hq,hpo,hno,hk,hn2,aL hpo,List.set_set,ga2,ga9,ga15,ga19];and_intros<;>(try omega);apply Y;simp(disch:=omega)[hq,hpo,hno,hk,hn2,aL hpo,List.set_set,ga2,ga9,ga15,ga19];apply Z;refine zi ?_;refine⟨fun c8=>?_,fun c8=>?_⟩
 ·try simp at c8
  refine zk [1,2,3,8,9,10] ?_;refine zr qr121 fun _ _ Z=>?_;simp(disch:=omega)[hq,hpo,hno,hk,hn2,aL hpo,List.set_set];apply Z;apply aC;apply aP;apply aI;simp [aK];exact .inr (.inr (.inr (.inr (by omega))))
 try simp at c8
 have hoo:n.o≠p.o:=fun e=>by
   have:=Dz ho.nd hn hp e;subst this;rw [Nm hwt (wB hn)] at g6;cases g6
 obtain⟨i,rfl⟩:∃i:Nat,at_=i:=⟨at_.toNat,by omega⟩;apply aD;apply aH;apply aA;refine zk [1,2,3,8,9,10] ?_;refine zr qr121 fun _ _ Z=>?_;refine zs 8 fun _ Y=>?_;simp(disch:=omega)[hq,hpo,hno,hk,hn2,aL hpo,List.set_set];apply Y;refine zs 1 fun _ Y=>?_;simp(disch:=omega)[hq,hpo,hno,hk,hn2,aL hpo,List.set_set];and_intros<;>(try omega);apply Y;refine aE fun _ Y=>?_;simp(disch:=omega)[hq,hpo,hno,hk,hn2,aL hpo,List.set_set];refine bX (Gx p.n.kids n.n.ID i _ (by omega) (by omega)) ?_;apply Y;simp(disch:=omega)[hq,hpo,hno,hk,hn2,aL hpo,List.set_set];apply Z;refine zk [8] ?_;refine zr qr121 fun _ _ Z=>?_;simp(disch:=omega)[hq,hpo,hno,hk,hn2,aL hpo,List.set_set];apply Z;apply aC;simp [aK,fI,Bn];unfold vI;rw [g6];simp;exact⟨⟨g4,g5,by omega⟩,i,rfl,by simp only [hk]⟩
end Go.Proofs.YtbgfljpnhhdkoaaGreat
