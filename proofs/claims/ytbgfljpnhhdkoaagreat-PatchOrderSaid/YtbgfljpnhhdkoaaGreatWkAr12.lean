import Derived.Test.YtbgfljpnhhdkoaaGreatWkAr11
open Go.Proofs.Tryz
namespace Go.Proofs.YtbgfljpnhhdkoaaGreat
open Go Go.Vm
set_option maxRecDepth 20000
set_option linter.all false
set_option maxHeartbeats 8000000
def vW(id kind:Int)(tag text:ByteArray):ND:=⟨id,kind,tag,text, [], [], [], -1, []⟩
def oJ(d:DS)(n:ND)(o:Nat):DS:=⟨d.most,d.next+1,d.ck+1,d.es++ [⟨n,o,d.ck⟩]⟩
theorem aD7 {d:DS} {id:Int} (h:dF d.l id=false)(x:D):Ts (d.es.map Hd) d.ck (.int .i64 id) x (d.es.map Hd++ [(.int .i64 id,d.ck,x)]) (d.ck+1):=by
 refine .inr ⟨fun kv hkv=>?_,rfl,rfl⟩;obtain⟨e,he,rfl⟩:=List.mem_map.1 hkv;intro h2;simp only [Hd,Value.int.injEq,true_and] at h2;exact rJ h e.n (eE he) h2
theorem aC1(m M:Nat)(d:DS)(kind:Int)(tag text:ByteArray)(σ:List (List D))(ho:DO m M d σ)(hl:d.es.length≤100000)(hmo:0≤d.most∧d.most≤100000)(hr:d.most≤(d.es.length:Int) - 1):Ct prog 204 [.ref m 0,.agg [D.int 0,D.int kind,D.str tag,D.str text,.sl true [],.sl true [],.sl true [],D.int 0,.sl true []]] σ (fun r σ'=>r= .tup [D.int 0,D.int 8]∧∃J,σ'=σ++J):=by
 refine zf (rs:=[.tmp 4,.tmp 5]) func204 ntmps204 results204 ?_;simp only [aN];have hq:=ho.hm;refine zr ⟨[],[],[3],[],[]⟩ fun _ _ Z=>?_;simp[hq,aI hq,cR hq,dC hq,cU hq,eB hq,cB,bY,bO,bW,bU,cF,dI,cE];and_intros<;>(try omega);apply Z;apply aC;refine zr ⟨[],[],[3],[],[]⟩ fun _ _ Z=>?_;refine zs 1 fun _ Y=>?_;simp[hq,aI hq,cR hq,dC hq,cU hq,eB hq,cB,bY,bO,bW,bU,cF,dI,cE];apply Y;refine aD fun _ Y=>?_;simp[hq,aI hq,cR hq,dC hq,cU hq,eB hq,cB,bY,bO,bW,bU,cF,dI,cE];refine cH (Ib m M d _ (ho.app _) hl hmo) ?_;apply Y;simp[hq,aI hq,cR hq,dC hq,cU hq,eB hq,cB,bY,bO,bW,bU,cF,dI,cE];apply Z;refine zi ?_;refine⟨fun c1=>?_,fun c1=>?_⟩
 ·try simp at c1
  refine zr ⟨[],[],[3],[],[]⟩ fun _ _ Z=>?_;simp[hq,aI hq,cR hq,dC hq,cU hq,eB hq,cB,bY,bO,bW,bU,cF,dI,cE];apply Z;apply aB;apply aJ;simp [aL]
 try simp at c1
 omega
theorem Jw(m M:Nat)(d:DS)(kind:Int)(tag text:ByteArray)(σ:List (List D))(ho:DO m M d σ)(hl:d.es.length≤100000)(hmo:0≤d.most∧d.most≤100000)(hr:(d.es.length:Int) - 1<d.most)(hn:0≤d.next∧d.next≤1000000)(hno:dF d.l d.next=false):Ct prog 204 [.ref m 0,.agg [D.int 0,D.int kind,D.str tag,D.str text,.sl true [],.sl true [],.sl true [],D.int 0,.sl true []]] σ (fun r σ'=>r= .tup [D.int d.next,D.int 0]∧σ'=σ.set m (mX M (oJ d (vW d.next kind tag text) σ.length))++ [eG (vW d.next kind tag text)]):=by
 refine zf (rs:=[.tmp 4,.tmp 5]) func204 ntmps204 results204 ?_;simp only [aN];have hq:=ho.hm;refine zr ⟨[],[],[3],[],[]⟩ fun _ _ Z=>?_;simp[hq,aI hq,cR hq,dC hq,cU hq,eB hq,cB,bY,bO,bW,bU,cF,dI,cE];and_intros<;>(try omega);apply Z;apply aC;refine zr ⟨[],[],[3],[],[]⟩ fun _ _ Z=>?_;refine zs 1 fun _ Y=>?_;simp[hq,aI hq,cR hq,dC hq,cU hq,eB hq,cB,bY,bO,bW,bU,cF,dI,cE];apply Y;refine aD fun _ Y=>?_;simp[hq,aI hq,cR hq,dC hq,cU hq,eB hq,cB,bY,bO,bW,bU,cF,dI,cE];refine cH (Ib m M d _ (ho.app _) hl hmo) ?_;apply Y;simp[hq,aI hq,cR hq,dC hq,cU hq,eB hq,cB,bY,bO,bW,bU,cF,dI,cE];apply Z;refine zi ?_;refine⟨fun c1=>?_,fun c1=>?_⟩
 ·try simp at c1
  omega
 try simp at c1
 apply aE;apply aA;refine zr ⟨[],[],[3],[],[]⟩ fun _ _ Z=>?_;simp[hq,aI hq,cR hq,dC hq,cU hq,eB hq,cB,bY,bO,bW,bU,cF,dI,cE];apply Z;refine zk [0,3,4,5] ?_;refine zd ⟨[],[],[3],[],[]⟩ [.op {},.op {},.op {},.op {rO:=true},.op {},.op {rO:=true},.op {rO:=true,wO:=true}] fun all hall _ Z=>?_;simp[hq,aI hq,cR hq,dC hq,cU hq,eB hq,cB,bY,bO,bW,bU,cF,dI,cE];refine⟨m,2,d.ck,_,d.ck+1,_,⟨⟨_,dC hq _,rfl⟩,iZ _,rfl,aD7 hno _⟩,?_⟩;rw [Fg (dC hq _)];and_intros<;>(try omega);apply Z;refine zr ⟨[],[],[3],[],[]⟩ fun _ _ Z=>?_;simp[hq,aI hq,cR hq,dC hq,cU hq,eB hq,cB,bY,bO,bW,bU,cF,dI,cE];and_intros<;>(try omega);apply Z;refine tM σ.length 8 1 (by simp [cB,bO];rfl) rfl ?_;simp only [bY,bW,List.set_cons_zero,List.set_cons_succ];refine Cz σ.length (eG (vW d.next kind tag text)) (by simp [cB,bO];rfl) (by simp [leC,vW,D.s1]) ?_;simp only [bY,bW];refine zk [3,4,5] ?_;refine zr ⟨[],[],[3],[],[]⟩ fun _ _ Z=>?_;simp[hq,aI hq,cR hq,dC hq,cU hq,eB hq,cB,bY,bO,bW,bU,cF,dI,cE];apply Z;apply aB;simp [aL,Hd,oJ,vW,mX]
theorem It(m M:Nat)(d:DS)(kind:Int)(tag text:ByteArray)(σ:List (List D))(ho:DO m M d σ)(hl:d.es.length≤100000)(hmo:0≤d.most∧d.most≤100000)(hr:d.most≤(d.es.length:Int) - 1):Ct prog 204 [.ref m 0,.agg [D.int 0,D.int kind,D.str tag,D.str text,.sl true [],.sl true [],.sl true [],D.int 0,.sl true []]] σ (fun r σ'=>r= .tup [D.int 0,D.int 8]∧σ'=σ):=
 xB (aC1 m M d kind tag text σ ho hl hmo hr) fun r hr=>by rw [hr];exact Eo (Sc.v _) (Sc.v _)
theorem Zt(m:Nat)(s:ByteArray)(σ:List (List D))(hs:s.size≤1000)(hnm:fS s=false):Ct prog 133 [.ref m 0,D.str s] σ (fun r σ'=>r= .tup [D.int 0,D.int 2]∧σ'=σ):=by
 refine zf (rs:=[.tmp 4,.tmp 5]) func133 ntmps133 results133 ?_;simp only [aN];refine zr ⟨[9,10],[],[],[],[]⟩ fun _ _ Z=>?_;simp;apply Z;apply aC;refine zr ⟨[9,10],[],[],[],[]⟩ fun _ _ Z=>?_;refine zs 1 fun _ Y=>?_;simp;apply Y;refine aD fun _ Y=>?_;simp;refine cH (pY s _ (by omega)) ?_;rw [hnm];apply Y;simp;apply Z;refine zi ?_;refine⟨fun c1=>?_,fun c1=>?_⟩
 ·try simp at c1
  refine zr ⟨[9,10],[],[],[],[]⟩ fun _ _ Z=>?_;simp;apply Z;apply aB;apply aJ;simp [aL]
 simp at c1
theorem Wd(m M:Nat)(d:DS)(s:ByteArray)(σ:List (List D))(ho:DO m M d σ)(hl:d.es.length≤100000)(hmo:0≤d.most∧d.most≤100000)(hr:d.most≤(d.es.length:Int) - 1)(hs:s.size≤1000)(hnm:fS s=true):Ct prog 133 [.ref m 0,D.str s] σ (fun r σ'=>r= .tup [D.int 0,D.int 8]∧σ'=σ):=by
 refine zf (rs:=[.tmp 4,.tmp 5]) func133 ntmps133 results133 ?_;simp only [aN];refine zr ⟨[9,10,12],[],[],[],[]⟩ fun _ _ Z=>?_;simp;apply Z;apply aC;refine zr ⟨[9,10,12],[],[],[],[]⟩ fun _ _ Z=>?_;refine zs 1 fun _ Y=>?_;simp;apply Y;refine aD fun _ Y=>?_;simp;refine cH (pY s _ (by omega)) ?_;rw [hnm];apply Y;simp;apply Z;refine zi ?_;refine⟨fun c1=>?_,fun c1=>?_⟩
 ·simp at c1
 try simp at c1
 apply aE;apply aA;refine zr ⟨[9,10,12],[],[],[],[]⟩ fun _ _ Z=>?_;refine zs 3 fun _ Y=>?_;simp;apply Y;refine aD fun _ Y=>?_;simp;refine cH (It m M d 2 s ⟨#[]⟩ _ ho hl hmo hr) ?_;apply Y;simp;apply Z;apply aB;simp [aL]
theorem Yy(m M:Nat)(d:DS)(s:ByteArray)(σ:List (List D))(ho:DO m M d σ)(hl:d.es.length≤100000)(hmo:0≤d.most∧d.most≤100000)(hr:(d.es.length:Int) - 1<d.most)(hn:0≤d.next∧d.next≤1000000)(hno:dF d.l d.next=false)(hs:s.size≤1000)(hnm:fS s=true):Ct prog 133 [.ref m 0,D.str s] σ (fun r σ'=>r= .tup [D.int d.next,D.int 0]∧σ'=σ.set m (mX M (oJ d (vW d.next 2 s ⟨#[]⟩) σ.length))++ [eG (vW d.next 2 s ⟨#[]⟩)]):=by
 refine zf (rs:=[.tmp 4,.tmp 5]) func133 ntmps133 results133 ?_;simp only [aN];refine zr ⟨[9,10,12],[],[],[],[]⟩ fun _ _ Z=>?_;simp;apply Z;apply aC;refine zr ⟨[9,10,12],[],[],[],[]⟩ fun _ _ Z=>?_;refine zs 1 fun _ Y=>?_;simp;apply Y;refine aD fun _ Y=>?_;simp;refine cH (pY s _ (by omega)) ?_;rw [hnm];apply Y;simp;apply Z;refine zi ?_;refine⟨fun c1=>?_,fun c1=>?_⟩
 ·simp at c1
 try simp at c1
 apply aE;apply aA;refine zr ⟨[9,10,12],[],[],[],[]⟩ fun _ _ Z=>?_;refine zs 3 fun _ Y=>?_;simp;apply Y;refine aD fun _ Y=>?_;simp;refine cH (Jw m M d 2 s ⟨#[]⟩ _ ho hl hmo hr hn hno) ?_;apply Y;simp;apply Z;apply aB;simp [aL]
theorem Zw(m M:Nat)(d:DS)(s:ByteArray)(σ:List (List D))(ho:DO m M d σ)(hl:d.es.length≤100000)(hmo:0≤d.most∧d.most≤100000)(hr:d.most≤(d.es.length:Int) - 1):Ct prog 135 [.ref m 0,D.str s] σ (fun r σ'=>r= .tup [D.int 0,D.int 8]∧σ'=σ):=by
 refine zf (rs:=[.tmp 4,.tmp 5]) func135 ntmps135 results135 ?_;simp only [aN];refine zr ⟨[6,7,9],[],[],[],[]⟩ fun _ _ Z=>?_;simp;apply Z;refine zr ⟨[6,7,9],[],[],[],[]⟩ fun _ _ Z=>?_;refine zs 3 fun _ Y=>?_;simp;apply Y;refine aD fun _ Y=>?_;simp;refine cH (It m M d 1 ⟨#[]⟩ s _ ho hl hmo hr) ?_;apply Y;simp;apply Z;apply aB;simp [aL]
theorem Ze(m M:Nat)(d:DS)(s:ByteArray)(σ:List (List D))(ho:DO m M d σ)(hl:d.es.length≤100000)(hmo:0≤d.most∧d.most≤100000)(hr:(d.es.length:Int) - 1<d.most)(hn:0≤d.next∧d.next≤1000000)(hno:dF d.l d.next=false):Ct prog 135 [.ref m 0,D.str s] σ (fun r σ'=>r= .tup [D.int d.next,D.int 0]∧σ'=σ.set m (mX M (oJ d (vW d.next 1 ⟨#[]⟩ s) σ.length))++ [eG (vW d.next 1 ⟨#[]⟩ s)]):=by
 refine zf (rs:=[.tmp 4,.tmp 5]) func135 ntmps135 results135 ?_;simp only [aN];refine zr ⟨[6,7,9],[],[],[],[]⟩ fun _ _ Z=>?_;simp;apply Z;refine zr ⟨[6,7,9],[],[],[],[]⟩ fun _ _ Z=>?_;refine zs 3 fun _ Y=>?_;simp;apply Y;refine aD fun _ Y=>?_;simp;refine cH (Jw m M d 1 ⟨#[]⟩ s _ ho hl hmo hr hn hno) ?_;apply Y;simp;apply Z;apply aB;simp [aL]
def vB(d:DS)(rk:Int→Nat)(p n:EN)(at_:Int):Prop:=n.n.ID=0∨¬n.n.parent= -1∨gW d.l (bN d.l rk) p.n.ID n.n.ID=true∨at_<0∨(p.n.kids.length:Int)<at_
def Ai(n:ND)(p:Int):ND:= { n with parent:=p }
theorem Li {l:List ND} {rk:Int→Nat} (h:WT l rk) {id:Int} (hi:dF l id=true):gW l (bN l rk) id id=true:=by
 unfold gW;rw [hi,yF];simpa using iO h.Dec id
theorem Mw(m M:Nat)(d:DS)(id at_ pid:Int)(σ:List (List D))(ho:DO m M d σ)(hno:dF d.l pid=false):Ct prog 136 [.ref m 0,D.int pid,D.int at_,D.int id] σ (fun r σ'=>r= .int 11∧σ'=σ):=by
 refine zf (rs:=[.tmp 8]) func136 ntmps136 results136 ?_;simp only [aN];have hq:=ho.hm;refine zr ⟨[71],[],[],[],[]⟩ fun _ _ Z=>?_;simp[hq];and_intros<;>(try omega)
 all_goals first | (generalize nx d id=s9;cases s9 <;> rfl) | skip
 apply Z;refine zd ⟨[71],[],[],[],[]⟩ [.op {},.op {},.op {},.op {rO:=true},.op {},.op {rO:=true},.op {},.op {},.op {},.op {rO:=true},.op {},.op {rO:=true},.op {},.op {}] fun all hall _ Z=>?_;refine jD 6 fun _ Y=>?_;simp[hq];refine⟨m,2,d.ck,_,.v (.pointer none),⟨⟨_,hq,rfl⟩,iZ _,.inl (nI hno _)⟩,?_⟩;and_intros<;>(try omega)
 all_goals first | (generalize nx d id=s9;cases s9 <;> rfl) | skip
 apply Y;refine jD 6 fun _ Y=>?_;simp[hq];refine⟨m,2,d.ck,_,pD (nx d id),⟨⟨_,hq,rfl⟩,iZ _,Yk d _⟩,?_⟩;and_intros<;>(try omega)
 all_goals first | (generalize nx d id=s9;cases s9 <;> rfl) | skip
 apply Y;simp[hq];and_intros<;>(try omega)
 all_goals first | (generalize nx d id=s9;cases s9 <;> rfl) | skip
 apply Z;apply aC;apply aG;refine zk [0,1,2,3,8,9,10] ?_;refine mY ⟨[71],[],[],[],[]⟩ fun all hall _ Z=>?_;have ga2:aR all 2=some 26:=hall 2;refine zs 3 fun _ Y=>?_;simp[hq,ga2];and_intros<;>(try omega)
 all_goals first | (generalize nx d id=s9;cases s9 <;> rfl) | skip
 apply Y;refine aU 26 (by simp <;> rfl) ?_;refine⟨fun g1=>?_,fun g1=>?_⟩
 ·try simp at g1
  simp[hq,ga2];and_intros<;>(try omega)
  all_goals first | (generalize nx d id=s9;cases s9 <;> rfl) | skip
  apply Z;refine bM (t:=true) (by simp) (fun _=>?_) (fun h=>by cases h);refine zk [1,2,3,8,9,10] ?_;refine zr ⟨[71],[],[],[],[]⟩ fun _ _ Z=>?_;simp[hq];and_intros<;>(try omega)
  all_goals first | (generalize nx d id=s9;cases s9 <;> rfl) | skip
  apply Z;apply aB;apply aQ;apply aJ;simp [aL]
 simp at g1
theorem Mt(m M:Nat)(d:DS)(p:EN)(at_ id:Int)(σ:List (List D))(ho:DO m M d σ)(hp:p∈d.es)(hno:dF d.l id=false):Ct prog 136 [.ref m 0,D.int p.n.ID,D.int at_,D.int id] σ (fun r σ'=>r= .int 11∧σ'=σ):=by
 refine zf (rs:=[.tmp 8]) func136 ntmps136 results136 ?_;simp only [aN];have hq:=ho.hm;refine zr ⟨[71],[],[],[],[]⟩ fun _ _ Z=>?_;simp[hq];apply Z;refine zd ⟨[71],[],[],[],[]⟩ [.op {},.op {},.op {},.op {rO:=true},.op {},.op {rO:=true},.op {},.op {},.op {},.op {rO:=true},.op {},.op {rO:=true},.op {},.op {}] fun all hall _ Z=>?_;refine jD 6 fun _ Y=>?_;simp[hq];refine⟨m,2,d.ck,_,.ref p.o 0,⟨⟨_,hq,rfl⟩,iZ _,.inr (fH hp _)⟩,?_⟩;and_intros<;>(try omega);apply Y;refine jD 6 fun _ Y=>?_;simp[hq];refine⟨m,2,d.ck,_,.v (.pointer none),⟨⟨_,hq,rfl⟩,iZ _,.inl (nI hno _)⟩,?_⟩;and_intros<;>(try omega);apply Y;simp[hq];apply Z;apply aC;apply aG;refine zk [0,1,2,3,8,9,10] ?_;refine mY ⟨[71],[],[],[],[]⟩ fun all hall _ Z=>?_;have ga2:aR all 2=some 26:=hall 2;refine zs 3 fun _ Y=>?_;simp[hq,ga2];apply Y;refine aU 26 (by simp <;> rfl) ?_;refine⟨fun g1=>?_,fun g1=>?_⟩
 ·simp at g1
 try simp at g1
 simp[hq,ga2];apply Z;refine zi ?_;refine⟨fun c2=>?_,fun c2=>?_⟩
 ·try simp at c2
  refine zk [1,2,3,8,9,10] ?_;refine zr ⟨[71],[],[],[],[]⟩ fun _ _ Z=>?_;simp[hq];apply Z;apply aB;apply aQ;apply aJ;simp [aL]
 simp at c2
theorem Ro(m M:Nat)(d:DS)(p n:EN)(at_:Int)(σ:List (List D))(ho:DO m M d σ)(hp:p∈d.es)(hn:n∈d.es)(hk:¬p.n.kind=2):Ct prog 136 [.ref m 0,D.int p.n.ID,D.int at_,D.int n.n.ID] σ (fun r σ'=>r= .int 14∧σ'=σ):=by
 refine zf (rs:=[.tmp 8]) func136 ntmps136 results136 ?_;simp only [aN];have hq:=ho.hm;have hnn:=ho.hn;refine zr ⟨[71],[],[],[],[]⟩ fun _ _ Z=>?_;simp(disch:=omega)[hq,hnn,hk];apply Z;refine zd ⟨[71],[],[],[],[]⟩ [.op {},.op {},.op {},.op {rO:=true},.op {},.op {rO:=true},.op {},.op {},.op {},.op {rO:=true},.op {},.op {rO:=true},.op {},.op {}] fun all hall _ Z=>?_;refine jD 6 fun _ Y=>?_;simp(disch:=omega)[hq,hnn,hk];refine⟨m,2,d.ck,_,.ref p.o 0,⟨⟨_,hq,rfl⟩,iZ _,.inr (fH hp _)⟩,?_⟩;and_intros<;>(try omega);apply Y;refine jD 6 fun _ Y=>?_;simp(disch:=omega)[hq,hnn,hk];refine⟨m,2,d.ck,_,.ref n.o 0,⟨⟨_,hq,rfl⟩,iZ _,.inr (fH hn _)⟩,?_⟩;and_intros<;>(try omega);apply Y;simp(disch:=omega)[hq,hnn,hk];apply Z;apply aC;apply aG;refine zk [0,1,2,3,8,9,10] ?_;refine mY ⟨[71],[],[],[],[]⟩ fun all hall _ Z=>?_;have ga2:aR all 2=some 26:=hall 2;refine zs 3 fun _ Y=>?_;simp(disch:=omega)[hq,hnn,hk,ga2];apply Y;refine aU 26 (by simp <;> rfl) ?_;refine⟨fun g1=>?_,fun g1=>?_⟩
 ·simp at g1
 try simp at g1
 simp(disch:=omega)[hq,hnn,hk,ga2];apply Z;refine zi ?_;refine⟨fun c2=>?_,fun c2=>?_⟩
 ·simp at c2
 try simp at c2
 refine zk [0,1,2,3,8,9,10] ?_;refine zr ⟨[71],[],[],[],[]⟩ fun _ _ Z=>?_;simp(disch:=omega)[hq,hnn,hk];apply Z;refine zi ?_;refine⟨fun c3=>?_,fun c3=>?_⟩
 ·try simp at c3
  refine zk [1,2,3,8,9,10] ?_;refine zr ⟨[71],[],[],[],[]⟩ fun _ _ Z=>?_;simp(disch:=omega)[hq,hnn,hk];apply Z;apply aB;apply aQ;apply aJ;simp [aL]
 simp at c3
@[simp] abbrev qr121:Cfg:=⟨[70,71,74],[],[],[62],[]⟩
theorem aEp(m M:Nat)(d:DS)(rk:Int→Nat)(p n:EN)(at_:Int)(σ:List (List D))(ho:DO m M d σ)(hp:p∈d.es)(hn:n∈d.es)(hk:p.n.kind=2)(hwt:WT d.l rk)(hlen:p.n.kids.length≤1000):Ct prog 136 [.ref m 0,D.int p.n.ID,D.int at_,D.int n.n.ID] σ (fun r σ'=>(r=D.int 1∧vB d rk p n at_∧σ'=σ)∨(r=D.int 0∧¬vB d rk p n at_∧∃i:Nat,at_=i∧σ'=(σ.set p.o (eG (fN p.n (dG p.n.kids i n.n.ID)))).set n.o (eG (Ai n.n p.n.ID)))):=by
 refine zf (rs:=[.tmp 8]) func136 ntmps136 results136 ?_;simp only [aN];have hq:=ho.hm;have hpo:=ho.hn p hp;have hno:=ho.hn n hn;have hn2:n.o≠p.o→∀a,(σ.set p.o a)[n.o]?=some (eG n.n):=fun h a=>by rw [List.getElem?_set_ne (Ne.symm h)];exact hno
 refine zr qr121 fun _ _ Z=>?_;simp(disch:=omega)[hq,hpo,hno,hk,hn2,aI hpo,List.set_set];apply Z;refine zd qr121 [.op {},.op {},.op {},.op {rO:=true},.op {},.op {rO:=true},.op {},.op {},.op {},.op {rO:=true},.op {},.op {rO:=true},.op {},.op {}] fun all hall _ Z=>?_;refine jD 6 fun _ Y=>?_;simp(disch:=omega)[hq,hpo,hno,hk,hn2,aI hpo,List.set_set];refine⟨m,2,d.ck,_,.ref p.o 0,⟨⟨_,hq,rfl⟩,iZ _,.inr (fH hp _)⟩,?_⟩;and_intros<;>(try omega);apply Y;refine jD 6 fun _ Y=>?_;simp(disch:=omega)[hq,hpo,hno,hk,hn2,aI hpo,List.set_set];refine⟨m,2,d.ck,_,.ref n.o 0,⟨⟨_,hq,rfl⟩,iZ _,.inr (fH hn _)⟩,?_⟩;and_intros<;>(try omega);apply Y;simp(disch:=omega)[hq,hpo,hno,hk,hn2,aI hpo,List.set_set];apply Z;apply aC;apply aG;refine zk [0,1,2,3,8,9,10] ?_;refine mY qr121 fun all hall _ Z=>?_;have ga2:aR all 2=some 26:=hall 2;refine zs 3 fun _ Y=>?_;simp(disch:=omega)[hq,hpo,hno,hk,hn2,aI hpo,List.set_set,ga2];apply Y;refine aU 26 (by simp <;> rfl) ?_;refine⟨fun g1=>?_,fun g1=>?_⟩
 ·simp at g1
 try simp at g1
 simp(disch:=omega)[hq,hpo,hno,hk,hn2,aI hpo,List.set_set,ga2];apply Z;refine zi ?_;refine⟨fun c2=>?_,fun c2=>?_⟩
 ·simp at c2
 try simp at c2
 refine zk [0,1,2,3,8,9,10] ?_;refine zr qr121 fun _ _ Z=>?_;simp(disch:=omega)[hq,hpo,hno,hk,hn2,aI hpo,List.set_set];apply Z;refine zi ?_;refine⟨fun c3=>?_,fun c3=>?_⟩
 ·simp at c3
 try simp at c3
 refine zk [0,1,2,3,8,9,10] ?_;refine mY qr121 fun all hall _ Z=>?_;have ga2:aR all 2=some 39:=hall 2;have ga9:aR all 9=some 46:=hall 9;have ga15:aR all 15=some 52:=hall 15;have ga19:aR all 19=some 56:=hall 19;refine zs 3 fun _ Y=>?_;simp(disch:=omega)[hq,hpo,hno,hk,hn2,aI hpo,List.set_set,ga2,ga9,ga15,ga19];apply Y;refine aU 39 (by simp <;> rfl) ?_;refine⟨fun g4=>?_,fun g4=>?_⟩
 ·try simp at g4
  refine zs 7 fun _ Y=>?_;simp(disch:=omega)[hq,hpo,hno,hk,hn2,aI hpo,List.set_set,ga2,ga9,ga15,ga19];apply Y;refine zs 6 fun _ Y=>?_;simp(disch:=omega)[hq,hpo,hno,hk,hn2,aI hpo,List.set_set,ga2,ga9,ga15,ga19];apply Y;refine zs 4 fun _ Y=>?_;simp(disch:=omega)[hq,hpo,hno,hk,hn2,aI hpo,List.set_set,ga2,ga9,ga15,ga19];apply Y;refine zs 8 fun _ Y=>?_;simp(disch:=omega)[hq,hpo,hno,hk,hn2,aI hpo,List.set_set,ga2,ga9,ga15,ga19];apply Y;simp(disch:=omega)[hq,hpo,hno,hk,hn2,aI hpo,List.set_set,ga2,ga9,ga15,ga19];apply Z;refine bM (t:=true) (by simp) (fun _=>?_) (fun h=>by cases h);refine zk [1,2,3,8,9,10] ?_;refine zr qr121 fun _ _ Z=>?_;simp(disch:=omega)[hq,hpo,hno,hk,hn2,aI hpo,List.set_set];apply Z;apply aB;apply aQ;apply aJ;simp [aL];exact .inl g4
 try simp at g4
 refine zs 7 fun _ Y=>?_;simp(disch:=omega)[hq,hpo,hno,hk,hn2,aI hpo,List.set_set,ga2,ga9,ga15,ga19];apply Y;refine aU 46 (by simp <;> rfl) ?_;refine⟨fun g5=>?_,fun g5=>?_⟩
 ·try simp at g5
  refine zs 6 fun _ Y=>?_;simp(disch:=omega)[hq,hpo,hno,hk,hn2,aI hpo,List.set_set,ga2,ga9,ga15,ga19];apply Y;refine zs 4 fun _ Y=>?_;simp(disch:=omega)[hq,hpo,hno,hk,hn2,aI hpo,List.set_set,ga2,ga9,ga15,ga19];apply Y;refine zs 8 fun _ Y=>?_;simp(disch:=omega)[hq,hpo,hno,hk,hn2,aI hpo,List.set_set,ga2,ga9,ga15,ga19];apply Y;simp(disch:=omega)[hq,hpo,hno,hk,hn2,aI hpo,List.set_set,ga2,ga9,ga15,ga19];apply Z;refine bM (t:=true) (by simp) (fun _=>?_) (fun h=>by cases h);refine zk [1,2,3,8,9,10] ?_;refine zr qr121 fun _ _ Z=>?_;simp(disch:=omega)[hq,hpo,hno,hk,hn2,aI hpo,List.set_set];apply Z;apply aB;apply aQ;apply aJ;simp [aL];exact .inr (.inl g5)
 try simp at g5
 refine zs 3 fun _ Y=>?_;simp(disch:=omega)[hq,hpo,hno,hk,hn2,aI hpo,List.set_set,ga2,ga9,ga15,ga19];apply Y;refine zg ga9 fun _ Y=>?_;simp(disch:=omega)[hq,hpo,hno,hk,hn2,aI hpo,List.set_set,ga2,ga9,ga15,ga19];refine cH (Cj m M d rk p.n.ID n.n.ID _ ho hwt) ?_;apply Y;refine zs 2 fun _ Y=>?_;simp(disch:=omega)[hq,hpo,hno,hk,hn2,aI hpo,List.set_set,ga2,ga9,ga15,ga19];apply Y;refine aU 52 (by simp <;> rfl) ?_;refine⟨fun g6=>?_,fun g6=>?_⟩
 ·try simp at g6
  refine zs 4 fun _ Y=>?_;simp(disch:=omega)[hq,hpo,hno,hk,hn2,aI hpo,List.set_set,ga2,ga9,ga15,ga19];apply Y;refine zs 8 fun _ Y=>?_;simp(disch:=omega)[hq,hpo,hno,hk,hn2,aI hpo,List.set_set,ga2,ga9,ga15,ga19];apply Y;simp(disch:=omega)[hq,hpo,hno,hk,hn2,aI hpo,List.set_set,ga2,ga9,ga15,ga19];apply Z;refine bM (t:=true) (by simp) (fun _=>?_) (fun h=>by cases h);refine zk [1,2,3,8,9,10] ?_;refine zr qr121 fun _ _ Z=>?_;simp(disch:=omega)[hq,hpo,hno,hk,hn2,aI hpo,List.set_set];apply Z;apply aB;apply aQ;apply aJ;simp [aL];exact .inr (.inr (.inl g6))
 try simp at g6
 refine zs 4 fun _ Y=>?_;simp(disch:=omega)[hq,hpo,hno,hk,hn2,aI hpo,List.set_set,ga2,ga9,ga15,ga19];apply Y;refine aU 56 (by simp <;> rfl) ?_;refine⟨fun g7=>?_,fun g7=>?_⟩
 ·try simp at g7
  refine zs 8 fun _ Y=>?_;simp(disch:=omega)[hq,hpo,hno,hk,hn2,aI hpo,List.set_set,ga2,ga9,ga15,ga19];apply Y;simp(disch:=omega)[hq,hpo,hno,hk,hn2,aI hpo,List.set_set,ga2,ga9,ga15,ga19];apply Z;refine bM (t:=true) (by simp) (fun _=>?_) (fun h=>by cases h);refine zk [1,2,3,8,9,10] ?_;refine zr qr121 fun _ _ Z=>?_;simp(disch:=omega)[hq,hpo,hno,hk,hn2,aI hpo,List.set_set];apply Z;apply aB;apply aQ;apply aJ;simp [aL];exact .inr (.inr (.inr (.inl (by omega))))
 try simp at g7
 refine zs 8 fun _ Y=>?_;simp(disch:=omega)[hq,hpo,hno,hk,hn2,aI hpo,List.set_set,ga2,ga9,ga15,ga19];and_intros<;>(try omega);apply Y;simp(disch:=omega)[hq,hpo,hno,hk,hn2,aI hpo,List.set_set,ga2,ga9,ga15,ga19];apply Z;refine zi ?_;refine⟨fun c8=>?_,fun c8=>?_⟩
 ·try simp at c8
  refine zk [1,2,3,8,9,10] ?_;refine zr qr121 fun _ _ Z=>?_;simp(disch:=omega)[hq,hpo,hno,hk,hn2,aI hpo,List.set_set];apply Z;apply aB;apply aQ;apply aJ;simp [aL];exact .inr (.inr (.inr (.inr (by omega))))
 try simp at c8
 have hoo:n.o≠p.o:=fun e=>by
   have:=Do ho.nd hn hp e;subst this;rw [Li hwt (uZ hn)] at g6;cases g6
 obtain⟨i,rfl⟩:∃i:Nat,at_=i:=⟨at_.toNat,by omega⟩;apply aE;apply aK;apply aA;refine zk [1,2,3,8,9,10] ?_;refine zr qr121 fun _ _ Z=>?_;refine zs 8 fun _ Y=>?_;simp(disch:=omega)[hq,hpo,hno,hk,hn2,aI hpo,List.set_set];apply Y;refine zs 1 fun _ Y=>?_;simp(disch:=omega)[hq,hpo,hno,hk,hn2,aI hpo,List.set_set];and_intros<;>(try omega);apply Y;refine aD fun _ Y=>?_;simp(disch:=omega)[hq,hpo,hno,hk,hn2,aI hpo,List.set_set];refine cH (Gg p.n.kids n.n.ID i _ (by omega) (by omega)) ?_;apply Y;simp(disch:=omega)[hq,hpo,hno,hk,hn2,aI hpo,List.set_set];apply Z;refine zk [8] ?_;refine zr qr121 fun _ _ Z=>?_;simp(disch:=omega)[hq,hpo,hno,hk,hn2,aI hpo,List.set_set];apply Z;apply aB;simp [aL,fN,Ai];unfold vB;rw [g6];simp;exact⟨⟨g4,g5,by omega⟩,i,rfl,by simp only [hk]⟩
end Go.Proofs.YtbgfljpnhhdkoaaGreat
