import Derived.Test.YtbgfljpnhhdkoaaGreatArProps
open Go.Proofs.Tryz
namespace Go.Proofs.YtbgfljpnhhdkoaaGreat
open Go Go.Vm
set_option maxRecDepth 20000
set_option linter.all false
set_option maxHeartbeats 8000000
abbrev nA:AT→ByteArray:=AT.name
abbrev nP:PI→ByteArray:=PI.name
theorem bR(a b:Nat):Int.fdiv ((a:Int)+(b:Int)) (2 ^ min 1 IntKind.u64.bits)=(((a+b) / 2:Nat):Int):=by
 have e:(2:Int) ^ min 1 IntKind.u64.bits=2:=by decide
 rw [e,Int.fdiv_eq_ediv_of_nonneg _ (by omega)];omega
theorem aDo:IntKind.u64.min=0:=rfl
theorem aEp:IntKind.u64.max=18446744073709551615:=by decide
theorem bS(n:Int):Vk .u64 n=(0≤n∧n≤18446744073709551615):=by
 show(IntKind.u64.min≤n∧n≤IntKind.u64.max)=_
 rw [aDo,aEp]
theorem Hf(s:ByteArray)(σ:List (List D))  :Ct prog 258 [D.str s] σ (fun r σ'=>r= .bool false∧σ'=σ):=by
 refine zf (rs:=[.tmp 2]) func258 ntmps258 results258 ?_;simp only [aO];refine aV fun _ _ Z=>?_;simp;apply Z;refine aV fun _ _ Z=>?_;simp;apply Z;apply aB;simp [aJ]
theorem Bc(a b:ByteArray)(σ:List (List D))  :Ct prog 233 [D.str a,D.str b] σ (fun r σ'=>r= .int (Bh a b)∧σ'=σ):=by
 refine zf (rs:=[.tmp 4]) func233 ntmps233 results233 ?_;simp only [aO];refine aV fun _ _ Z=>?_;simp;apply Z;refine aV fun _ _ Z=>?_;refine zs 1 fun _ Y=>?_;simp;apply Y;refine aD fun _ Y=>?_;simp;refine cD (Hf a _) ?_;apply Y;simp;apply Z;refine aV fun _ _ Z=>?_;refine zs 1 fun _ Y=>?_;simp;apply Y;refine aD fun _ Y=>?_;simp;refine cD (Hf b _) ?_;apply Y;simp;apply Z;apply aC;refine aV fun _ _ Z=>?_;simp;apply Z;refine zi ?_;refine⟨fun c1=>?_,fun c1=>?_⟩
 ·simp at c1
 try simp at c1
 apply aE;apply aA;apply aC;refine aV fun _ _ Z=>?_;simp;apply Z;refine zi ?_;refine⟨fun c2=>?_,fun c2=>?_⟩
 ·simp at c2
 try simp at c2
 apply aE;apply aA;apply aC;refine aV fun _ _ Z=>?_;simp;apply Z;refine zi ?_;refine⟨fun c3=>?_,fun c3=>?_⟩
 ·try simp at c3
  refine zk [0,1,4] ?_;refine aV fun _ _ Z=>?_;simp;apply Z;apply aB;apply aI;simp [aJ,Bh,cS, *]
 try simp at c3
 apply aE;apply aA;apply aC;refine zk [0,1,4] ?_;refine aV fun _ _ Z=>?_;simp;apply Z;refine zi ?_;refine⟨fun c4=>?_,fun c4=>?_⟩
 ·try simp at c4
  refine aV fun _ _ Z=>?_;simp;apply Z;apply aB;apply aI;simp [aJ,Bh,cS, *]
 try simp at c4
 apply aE;apply aA;refine aV fun _ _ Z=>?_;simp;apply Z;apply aB;simp [aJ,Bh,cS, *]
theorem Qh(x:AT)(s:ByteArray)(σ:List (List D))  :Ct prog 232 [dB x,D.str s] σ (fun r σ'=>r= .int (Bh x.name s)∧σ'=σ):=by
 refine zf (rs:=[.tmp 4]) func232 ntmps232 results232 ?_;simp only [aO];refine aV fun _ _ Z=>?_;simp;apply Z;refine aV fun _ _ Z=>?_;refine zs 3 fun _ Y=>?_;simp;apply Y;refine aD fun _ Y=>?_;simp;refine cD (Bc x.name s _) ?_;apply Y;simp;apply Z;apply aB;simp [aJ]
@[simp] abbrev qAr51:Cfg:=⟨[],[],[],[13,27,43],[]⟩
theorem aG1(N cap:Nat)(l:List AT)(rest:List D)(c:ByteArray)(σ:List (List D))(hl:l.length≤1000000)(hN:σ[N]?=some (l.flatMap cA++rest))(hs:cK nA l):Ct prog 231 [.slo N 0 l.length cap,D.str c,.clo (.func 232) [] []] σ (fun r σ'=>r= .tup [.int ((gU nA l c:Nat):Int),.bool (Gw nA l c)]∧σ'=σ):=by
 refine zf (rs:=[.tmp 6,.tmp 7]) func231 ntmps231 results231 ?_;simp only [aO];refine zr qAr51 fun _ _ Z=>?_;simp(disch:=omega)[hN,bR,bS];apply Z;refine zr qAr51 fun _ _ Z=>?_;simp(disch:=omega)[hN,bR,bS];and_intros<;>(try omega);apply Z;refine zr qAr51 fun _ _ Z=>?_;simp(disch:=omega)[hN,bR,bS];apply Z;apply aC;apply aH;refine zk [0,1,2,6,7,8,9,10] ?_;refine bE (fun(s:Nat×Nat)=> [(9,.d (.v (.int .i64 (s.1:Int)))),(10,.d (.v (.int .i64 (s.2:Int)))),(11,.d (.any))]) [9,10,11,15,16,17,18,19,20,21,22,23,24,25,26,27,28,29,30,31,32,33,34] (fun(s:Nat×Nat)=>s.1≤s.2∧s.2≤l.length∧(∀j (h:j<l.length),j<s.1→cS l[j].name c=true)∧(∀j (h:j<l.length),s.2≤j→cS l[j].name c=false)) (fun(s:Nat×Nat)=>s.2 - s.1) ((0,l.length)) (by simp <;> rfl) ?_ ?_ ?_
 ·simp
 ·exact⟨by omega,by omega,fun j h h2=>absurd h2 (by simp),fun j h h2=>absurd h2 (by simp;omega)⟩
 rintro⟨lo,hi⟩ ⟨h1,h2,h3,h4⟩;simp only [List.cons_append,List.nil_append];dsimp only at h1 h2 h3 h4;have hmid:lo<hi→(lo+hi) / 2<hi:=fun h=>by omega
 apply aC;refine zr qAr51 fun _ _ Z=>?_;simp(disch:=omega)[hN,bR,bS];apply Z;refine zi ?_;refine⟨fun c1=>?_,fun c1=>?_⟩
 ·try simp at c1
  apply aE;apply aA;apply aH;refine zk [0,1,2,6,7,8,9,10,11] ?_;refine zr qAr51 fun _ _ Z=>?_;simp(disch:=omega)[hN,bR,bS];and_intros<;>(try omega);apply Z;refine zk [0,1,2,6,7,8,9,10,11] ?_;refine zr qAr51 fun _ _ Z=>?_;refine zs 6 fun _ Y=>?_;simp(disch:=omega)[hN,bR,bS];and_intros<;>(try omega);apply Y;refine aD fun _ Y=>?_;simp(disch:=omega)[hN,bR,bS];refine cD (Qh l[(lo+hi) / 2] c _) ?_;apply Y;simp(disch:=omega)[hN,bR,bS];apply Z;refine zi ?_;refine⟨fun c2=>?_,fun c2=>?_⟩
  ·try simp at c2
   refine zk [0,1,2,6,7,8,9,10,11] ?_;refine zt qAr51 fun _ _ Z=>?_;simp(disch:=omega)[hN,bR,bS];and_intros<;>(try omega);apply Z;apply aL;refine zq (((lo+hi) / 2+1,hi)) ?_ ?_ ?_
   ·exact⟨by dsimp only;omega,by dsimp only;omega,aF9 nA hs (by omega) (by simpa [Ai] using c2),h4⟩
   ·try dsimp only
    omega
   simp(disch:=omega)[hN,bR,bS]
  try simp at c2
  refine zk [0,1,2,6,7,8,9,10,11] ?_;refine zt qAr51 fun _ _ Z=>?_;simp(disch:=omega)[hN,bR,bS];apply Z;apply aL;refine zq ((lo,(lo+hi) / 2)) ?_ ?_ ?_
  ·exact⟨by dsimp only;omega,by dsimp only;omega,h3,aGh nA hs (by omega) ((Pd _ _).1 (by omega))⟩
  ·try dsimp only
   omega
  simp(disch:=omega)[hN,bR,bS]
 try simp at c1
 obtain rfl:lo=hi:=by omega
 have hpos:gU nA l c=lo:=Es nA l c lo h2 h3 (fun h=>h4 lo h (Nat.le_refl _));apply bA;apply aZ;apply bB;apply aW;apply aA;refine zk [0,1,2,6,7,8,9] ?_;refine kF qAr51 fun all hall _ Z=>?_;have ga4:aN all 4=some 39:=hall 4;refine zs 5 fun _ Y=>?_;simp(disch:=omega)[hN,bR,bS,ga4];apply Y;refine aR 39 (by simp <;> rfl) ?_;refine⟨fun g3=>?_,fun g3=>?_⟩
 ·try simp at g3
  refine zs 6 fun _ Y=>?_;simp(disch:=omega)[hN,bR,bS,ga4];and_intros<;>(try omega);apply Y;refine zg ga4 fun _ Y=>?_;simp(disch:=omega)[hN,bR,bS,ga4];refine cD (Qh l[lo] c _) ?_;apply Y;simp(disch:=omega)[hN,bR,bS,ga4];apply Z;apply aB;simp [aJ,hpos,Ms, *];exact De _ _
 try simp at g3
 refine zs 8 fun _ Y=>?_;simp(disch:=omega)[hN,bR,bS,ga4];and_intros<;>(try omega);apply Y;simp(disch:=omega)[hN,bR,bS,ga4];apply Z;apply aB;simp [aJ,hpos, *];exact xZ _ _ _ (by omega)
theorem aAa(N cap:Nat)(l:List AT)(rest:List D)(c:ByteArray)(σ:List (List D))(hl:l.length≤1000000)(hN:σ[N]?=some (l.flatMap cA++rest))(hs:cK nA l):Ct prog 198 [.slo N 0 l.length cap,D.str c] σ (fun r σ'=>r= .tup [.int ((gU nA l c:Nat):Int),.bool (Gw nA l c)]∧σ'=σ):=by
 refine zf (rs:=[.tmp 4,.tmp 5]) func198 ntmps198 results198 ?_;simp only [aO];refine aV fun _ _ Z=>?_;simp[hN];apply Z;refine aV fun _ _ Z=>?_;refine zs 2 fun _ Y=>?_;simp[hN];apply Y;refine aD fun _ Y=>?_;simp[hN];refine cD (aG1 N cap l rest c _ hl hN hs) ?_;apply Y;simp[hN];apply Z;apply aB;simp [aJ]
@[simp] abbrev qAr52:Cfg:=⟨[4,19,20,24],[],[],[18],[]⟩
theorem Xl(l:List AT)(p:AT)(σ:List (List D))(hl:l.length≤999999)(hs:cK nA l):Ct prog 187 [.xs 2 (l.map dB),dB p] σ (fun r σ'=>r= .xs 2 ((eZ nA l p).map dB)∧∃J,σ'=σ++J):=by
 refine zf (rs:=[.tmp 4]) func187 ntmps187 results187 ?_;simp only [aO];refine fW 0 2 rfl (by decide) fun cap rest hcap hcm hrest hk0 hes=>?_;subst hrest;simp only [List.length_map] at hcap ⊢;rw [cJ (f:=cA) (fun _=>rfl)];have hpl:=Fv nA l p.name;refine zr qAr52 fun _ _ Z=>?_;simp(disch:=omega)[aM,aG];apply Z;refine zr qAr52 fun _ _ Z=>?_;refine zs 3 fun _ Y=>?_;simp(disch:=omega)[aM,aG];apply Y;refine aD fun _ Y=>?_;simp(disch:=omega)[aM,aG];refine cD (aAa σ.length cap l (List.replicate ((cap - l.length) * 2) .any) p.name _ (by omega) (by simp [aM]) hs) ?_;apply Y;simp(disch:=omega)[aM,aG];apply Z;apply aC;refine zr qAr52 fun _ _ Z=>?_;simp(disch:=omega)[aM,aG];apply Z;refine zi ?_;refine⟨fun c1=>?_,fun c1=>?_⟩
 ·try simp at c1
  have hlt:=Fa nA c1;refine zk [0,3,4,5] ?_;refine zr qAr52 fun _ _ Z=>?_;simp(disch:=omega)[aM,aG];and_intros<;>(try omega);apply Z;refine zr qAr52 fun _ _ Z=>?_;simp(disch:=omega)[aM,aG];apply Z;refine cU 4 2 σ.length l.length cap ((l.set (gU nA l p.name) p).map dB) ((l.set (gU nA l p.name) p).flatMap cA++List.replicate ((cap - l.length) * 2) .any) (by simp <;> rfl) (by simp [aM]) (by omega) (by simp only [List.length_append,cL (f:=cA) (k:=2) (fun _=>rfl),List.length_replicate,List.length_set];omega) (by simp) (gN (d:=dB) (fun _=>⟨rfl,rfl⟩) _) (by rw [cJ (f:=cA) (fun _=>rfl)];exact List.prefix_append _ _) ?_;apply aB;apply aI;simp [aJ,tE,c1]
 try simp at c1
 apply aE;apply aA;refine cU 0 2 σ.length l.length cap (l.map dB) (l.flatMap cA++List.replicate ((cap - l.length) * 2) .any) (by simp <;> rfl) (by simp [aM]) (by omega) (by simp only [List.length_append,cL (f:=cA) (k:=2) (fun _=>rfl),List.length_replicate,List.length_set];omega) (by simp) (gN (d:=dB) (fun _=>⟨rfl,rfl⟩) _) (by rw [cJ (f:=cA) (fun _=>rfl)];exact List.prefix_append _ _) ?_;refine zk [0,3,4,5] ?_;refine zr qAr52 fun _ _ Z=>?_;refine zs 4 fun _ Y=>?_;simp(disch:=omega)[aM,aG];and_intros<;>(try omega);apply Y;refine aD fun _ Y=>?_;simp(disch:=omega)[aM,aG];refine cD (aEd l p (gU nA l p.name) _ (by omega) hpl) ?_;apply Y;simp(disch:=omega)[aM,aG];apply Z;apply aB;simp [aJ,tE,c1]
theorem Oi(l:List AT)(p:AT)(σ:List (List D))(hl:l.length≤999999)(hs:cK nA l):Ct prog 187 [.xs 2 (l.map dB),dB p] σ (fun r σ'=>r= .xs 2 ((eZ nA l p).map dB)∧σ'=σ):=
 (Xl l p σ hl hs).trim fun r σ' ⟨hr,J,hs⟩=>⟨σ,J,hs,rfl,by rw [hr];exact aG5 _ _,fun n cs h=> .inl h,hr,rfl⟩
theorem pY(l:List AT)(rest:List D)(i:Nat)(h:i<l.length):qP false 1 ((l.flatMap cA++rest).drop (i * 2+1))=some (D.str l[i].value):=Jh (f:=cA) (k:=2) (fun _=>rfl) l rest i 1 h (by decide)
@[simp] abbrev qAr53:Cfg:=⟨[2,3,12,14,16],[],[],[],[]⟩
theorem Mq(l:List AT)(σ:List (List D))(hl:l.length≤999999):Ct prog 107 [.sl false (l.map dB)] σ (fun r σ'=>r= .xs 2 ((jG nA l).map dB)∧σ'=σ):=by
 refine zf (rs:=[.tmp 2]) func107 ntmps107 results107 ?_;simp only [aO];refine zr qAr53 fun _ _ Z=>?_;simp(disch:=omega);apply Z;refine zr qAr53 fun _ _ Z=>?_;simp(disch:=omega);apply Z;apply aC;refine zr qAr53 fun _ _ Z=>?_;simp(disch:=omega);and_intros<;>(try omega);apply Z;apply aH;refine zk [2,3,6,7,8] ?_;refine uM 3 2 (by simp <;> rfl) ?_;refine bE (fun(k:Nat)=> [(8,.d (.v (.int .i64 (k:Int)))),(3,.d (.xs 2 ((jG nA (l.take k)).map dB)))]) [3,5,8,9,10,11,12,13,14,15] (fun(k:Nat)=>k≤l.length) (fun(k:Nat)=>l.length - k) (0) (by simp <;> rfl) ?_ ?_ ?_
 ·simp [jG]
 ·simp
 rintro k hk;simp only [List.cons_append,List.nil_append];have hol:=lO nA (l.take k);simp only [List.length_take] at hol;refine zr qAr53 fun _ _ Z=>?_;simp(disch:=omega);apply Z;apply aC;refine zi ?_;refine⟨fun c1=>?_,fun c1=>?_⟩
 ·try simp at c1
  apply aE;apply aA;apply aC;apply aH;refine zr qAr53 fun _ _ Z=>?_;simp(disch:=omega);and_intros<;>(try omega);apply Z;refine zt qAr53 fun _ _ Z=>?_;refine zs 2 fun _ Y=>?_;simp(disch:=omega);apply Y;refine aD fun _ Y=>?_;simp(disch:=omega);refine cD (Oi (jG nA (l.take k)) l[k] _ (by omega) (jK nA _)) ?_;apply Y;simp(disch:=omega);apply Z;apply aL;apply aA;refine zk [2,3,6,7,8] ?_;refine zt qAr53 fun _ _ Z=>?_;simp(disch:=omega);and_intros<;>(try omega);apply Z;refine zq (k+1) ?_ ?_ ?_
  ·omega
  ·try dsimp only
   omega
  simp(disch:=omega)[zC]
 try simp at c1
 apply bA;apply aZ;apply bB;apply aW;apply aA;refine zr qAr53 fun _ _ Z=>?_;simp(disch:=omega);apply Z;apply aB;simp [aJ];rw [List.take_of_length_le (by omega)]
@[simp] abbrev qAr54:Cfg:=⟨[6,11],[],[],[21],[]⟩
theorem Yr(l:List AT)(c:ByteArray)(σ:List (List D))(hl:l.length≤999999):Ct prog 234 [.sl false (l.map dB),D.str c] σ (fun r σ'=>(∃v:ByteArray,r= .tup [D.str v,.bool (Gw nA (jG nA l) c)])∧∃J,σ'=σ++J):=by
 refine zf (rs:=[.tmp 4,.tmp 5]) func234 ntmps234 results234 ?_;simp only [aO];have hol:=lO nA l;refine zr qAr54 fun _ _ Z=>?_;simp(disch:=omega)[aM,aG,pY];apply Z;refine zr qAr54 fun _ _ Z=>?_;refine zs 1 fun _ Y=>?_;simp(disch:=omega)[aM,aG,pY];apply Y;refine aD fun _ Y=>?_;simp(disch:=omega)[aM,aG,pY];refine cD (Mq l _ hl) ?_;apply Y;simp(disch:=omega)[aM,aG,pY];apply Z;apply aC;refine fW 6 2 rfl (by decide) fun cap rest hcap hcm hrest hk0 hes=>?_;subst hrest;simp only [List.length_map] at hcap ⊢;rw [cJ (f:=cA) (fun _=>rfl)];refine zr qAr54 fun _ _ Z=>?_;refine zs 2 fun _ Y=>?_;simp(disch:=omega)[aM,aG,pY];apply Y;refine aD fun _ Y=>?_;simp(disch:=omega)[aM,aG,pY];refine cD (aAa σ.length cap (jG nA l) (List.replicate ((cap - (jG nA l).length) * 2) .any) c _ (by omega) (by simp [aM]) (jK nA l)) ?_;apply Y;simp(disch:=omega)[aM,aG,pY];apply Z;refine zk [4,5,6,7,8] ?_;refine zr qAr54 fun _ _ Z=>?_;simp(disch:=omega)[aM,aG,pY];apply Z;refine zi ?_;refine⟨fun c1=>?_,fun c1=>?_⟩
 ·try simp at c1
  have hlt:=Fa nA c1;refine zr qAr54 fun _ _ Z=>?_;simp(disch:=omega)[aM,aG,pY];and_intros<;>(try omega);apply Z;apply aB;apply aI;simp [aJ,c1]
 try simp at c1
 apply aE;apply aA;refine zr qAr54 fun _ _ Z=>?_;simp(disch:=omega)[aM,aG,pY];apply Z;refine zr qAr54 fun _ _ Z=>?_;simp(disch:=omega)[aM,aG,pY];apply Z;apply aB;simp [aJ,c1]
theorem Om(l:List AT)(c:ByteArray)(σ:List (List D))(hl:l.length≤999999)(hs:cK nA l):Ct prog 234 [.sl false (l.map dB),D.str c] σ (fun r σ'=>(∃v:ByteArray,r= .tup [D.str v,.bool (mU nA l c)])∧σ'=σ):=
 (Yr l c σ hl).trim fun r σ' ⟨⟨v,hr⟩,J,hs'⟩=>⟨σ,J,hs',rfl,by rw [hr];exact Sc.tup fun d hd=>by simp at hd;rcases hd with rfl | rfl <;> exact Sc.v _,fun n cs h=> .inl h,⟨v,by rw [hr,qM nA hs,Qg nA hs]⟩,rfl⟩
theorem Zq(l:List AT)(c:ByteArray)(v:ByteArray)(σ:List (List D))(hl:l.length≤99999):Ct prog 182 [.sl false (l.map dB),D.str c,D.str v] σ (fun r σ'=>r= .xs 2 ((eZ nA (jG nA l) ⟨c,v⟩).map dB)∧σ'=σ):=by
 refine zf (rs:=[.tmp 6]) func182 ntmps182 results182 ?_;simp only [aO];have hol:=lO nA l;refine zr ⟨[6,9,10,12],[],[],[],[]⟩ fun _ _ Z=>?_;simp;apply Z;refine zr ⟨[6,9,10,12],[],[],[],[]⟩ fun _ _ Z=>?_;refine zs 1 fun _ Y=>?_;simp;apply Y;refine aD fun _ Y=>?_;simp;refine cD (Mq l _ (by omega)) ?_;apply Y;refine zs 3 fun _ Y=>?_;simp;apply Y;refine aD fun _ Y=>?_;simp;refine cD (Oi (jG nA l) ⟨c,v⟩ _ (by omega) (jK nA l)) ?_;apply Y;simp;apply Z;apply aB;simp [aJ]
theorem aFz(l:List AT)(p:AT→Bool)(f:FuncId)(caps:List D)(σ:List (List D))(hl:l.length≤99999)(hcp:∀d∈caps,d.plain=true)(hcs:caps.map D.strip=caps)(hp:∀x τ,Ct prog f (dB x::caps) τ (fun r τ'=>r= .bool (p x)∧τ'=τ)):Ct prog 259 [.sl false (l.map dB),.clo (.func f) [] caps] σ (fun r σ'=>r= .xs 2 (((jG nA l).filter fun x=> !p x).map dB)∧σ'=σ):=by
 refine zf (rs:=[.tmp 4]) func259 ntmps259 results259 ?_;simp only [aO];have hol:=lO nA l;refine zr ⟨[4,7,8],[],[],[],[]⟩ fun _ _ Z=>?_;simp;apply Z;refine zr ⟨[4,7,8],[],[],[],[]⟩ fun _ _ Z=>?_;refine zs 1 fun _ Y=>?_;simp;apply Y;refine aD fun _ Y=>?_;simp;refine cD (Mq l _ (by omega)) ?_;apply Y;refine zs 1 fun _ Y=>?_;simp;apply Y;refine aD fun _ Y=>?_;simp;refine cD (Lt (jG nA l) p f caps _ (by omega) hcp hcs hp) ?_;apply Y;simp;apply Z;apply aB;simp [aJ]
theorem Qt(x:AT)(c:ByteArray)(σ:List (List D))  :Ct prog 260 [dB x,.adr [D.str c]] σ (fun r σ'=>r= .bool (decide (x.name=c))∧σ'=σ):=by
 refine zf (rs:=[.tmp 3]) func260 ntmps260 results260 ?_;simp only [aO];refine aV fun _ _ Z=>?_;simp;apply Z;refine aV fun _ _ Z=>?_;simp;apply Z;apply aB;simp[aJ]
theorem Ur(l:List AT)(c:ByteArray)(σ:List (List D))(hl:l.length≤99999):Ct prog 235 [.sl false (l.map dB),D.str c] σ (fun r σ'=>r= .xs 2 ((jA nA (jG nA l) c).map dB)∧σ'=σ):=by
 refine zf (rs:=[.tmp 4]) func235 ntmps235 results235 ?_;simp only [aO];refine zr ⟨[4],[3],[],[],[]⟩ fun _ _ Z=>?_;simp;apply Z;refine zr ⟨[4],[3],[],[],[]⟩ fun _ _ Z=>?_;refine zs 2 fun _ Y=>?_;simp;and_intros<;>(try omega);apply Y;refine aD fun _ Y=>?_;simp;refine cD (aFz l (fun x=>decide (x.name=c)) 260 [.adr [D.str c]] _ hl (by simp) (by simp) (fun x τ=>Qt x c τ)) ?_;apply Y;simp;apply Z;apply aB;simp [aJ,jA]
theorem aDg(l:List AT)(c:ByteArray)(v:ByteArray)(σ:List (List D))(hl:l.length≤99999)(hs:cK nA l):Ct prog 182 [.sl false (l.map dB),D.str c,D.str v] σ (fun r σ'=>r= .sl false ((eZ nA l ⟨c,v⟩).map dB)∧σ'=σ):=
 (Zq l c v σ hl).freeze fun r σ' h=>by rw [qM nA hs] at h;exact h
theorem Xk(l:List AT)(c:ByteArray)(σ:List (List D))(hl:l.length≤99999)(hs:cK nA l):Ct prog 235 [.sl false (l.map dB),D.str c] σ (fun r σ'=>r= .sl false ((jA nA l c).map dB)∧σ'=σ):=
 (Ur l c σ hl).freeze fun r σ' h=>by rw [qM nA hs] at h;exact h
theorem Pp(x:PI)(s:ByteArray)(σ:List (List D))  :Ct prog 237 [cW x,D.str s] σ (fun r σ'=>r= .int (Bh x.name s)∧σ'=σ):=by
 refine zf (rs:=[.tmp 4]) func237 ntmps237 results237 ?_;simp only [aO];refine aV fun _ _ Z=>?_;simp;apply Z;refine aV fun _ _ Z=>?_;refine zs 3 fun _ Y=>?_;simp;apply Y;refine aD fun _ Y=>?_;simp;refine cD (Bc x.name s _) ?_;apply Y;simp;apply Z;apply aB;simp [aJ]
theorem aGx(N cap:Nat)(l:List PI)(rest:List D)(c:ByteArray)(σ:List (List D))(hl:l.length≤1000000)(hN:σ[N]?=some (l.flatMap cP++rest))(hs:cK nP l):Ct prog 236 [.slo N 0 l.length cap,D.str c,.clo (.func 237) [] []] σ (fun r σ'=>r= .tup [.int ((gU nP l c:Nat):Int),.bool (Gw nP l c)]∧σ'=σ):=by
 refine zf (rs:=[.tmp 6,.tmp 7]) func236 ntmps236 results236 ?_;simp only [aO];refine zr qAr51 fun _ _ Z=>?_;simp(disch:=omega)[hN,bR,bS];apply Z;refine zr qAr51 fun _ _ Z=>?_;simp(disch:=omega)[hN,bR,bS];and_intros<;>(try omega);apply Z;refine zr qAr51 fun _ _ Z=>?_;simp(disch:=omega)[hN,bR,bS];apply Z;apply aC;apply aH;refine zk [0,1,2,6,7,8,9,10] ?_;refine bE (fun(s:Nat×Nat)=> [(9,.d (.v (.int .i64 (s.1:Int)))),(10,.d (.v (.int .i64 (s.2:Int)))),(11,.d (.any))]) [9,10,11,15,16,17,18,19,20,21,22,23,24,25,26,27,28,29,30,31,32,33,34] (fun(s:Nat×Nat)=>s.1≤s.2∧s.2≤l.length∧(∀j (h:j<l.length),j<s.1→cS l[j].name c=true)∧(∀j (h:j<l.length),s.2≤j→cS l[j].name c=false)) (fun(s:Nat×Nat)=>s.2 - s.1) ((0,l.length)) (by simp <;> rfl) ?_ ?_ ?_
 ·simp
 ·exact⟨by omega,by omega,fun j h h2=>absurd h2 (by simp),fun j h h2=>absurd h2 (by simp;omega)⟩
 rintro⟨lo,hi⟩ ⟨h1,h2,h3,h4⟩;simp only [List.cons_append,List.nil_append];dsimp only at h1 h2 h3 h4;have hmid:lo<hi→(lo+hi) / 2<hi:=fun h=>by omega
 apply aC;refine zr qAr51 fun _ _ Z=>?_;simp(disch:=omega)[hN,bR,bS];apply Z;refine zi ?_;refine⟨fun c1=>?_,fun c1=>?_⟩
 ·try simp at c1
  apply aE;apply aA;apply aH;refine zk [0,1,2,6,7,8,9,10,11] ?_;refine zr qAr51 fun _ _ Z=>?_;simp(disch:=omega)[hN,bR,bS];and_intros<;>(try omega);apply Z;refine zk [0,1,2,6,7,8,9,10,11] ?_;refine zr qAr51 fun _ _ Z=>?_;refine zs 6 fun _ Y=>?_;simp(disch:=omega)[hN,bR,bS];and_intros<;>(try omega);apply Y;refine aD fun _ Y=>?_;simp(disch:=omega)[hN,bR,bS];refine cD (Pp l[(lo+hi) / 2] c _) ?_;apply Y;simp(disch:=omega)[hN,bR,bS];apply Z;refine zi ?_;refine⟨fun c2=>?_,fun c2=>?_⟩
  ·try simp at c2
   refine zk [0,1,2,6,7,8,9,10,11] ?_;refine zt qAr51 fun _ _ Z=>?_;simp(disch:=omega)[hN,bR,bS];and_intros<;>(try omega);apply Z;apply aL;refine zq (((lo+hi) / 2+1,hi)) ?_ ?_ ?_
   ·exact⟨by dsimp only;omega,by dsimp only;omega,aF9 nP hs (by omega) (by simpa [Ai] using c2),h4⟩
   ·try dsimp only
    omega
   simp(disch:=omega)[hN,bR,bS]
  try simp at c2
  refine zk [0,1,2,6,7,8,9,10,11] ?_;refine zt qAr51 fun _ _ Z=>?_;simp(disch:=omega)[hN,bR,bS];apply Z;apply aL;refine zq ((lo,(lo+hi) / 2)) ?_ ?_ ?_
  ·exact⟨by dsimp only;omega,by dsimp only;omega,h3,aGh nP hs (by omega) ((Pd _ _).1 (by omega))⟩
  ·try dsimp only
   omega
  simp(disch:=omega)[hN,bR,bS]
 try simp at c1
 obtain rfl:lo=hi:=by omega
 have hpos:gU nP l c=lo:=Es nP l c lo h2 h3 (fun h=>h4 lo h (Nat.le_refl _));apply bA;apply aZ;apply bB;apply aW;apply aA;refine zk [0,1,2,6,7,8,9] ?_;refine kF qAr51 fun all hall _ Z=>?_;have ga4:aN all 4=some 39:=hall 4;refine zs 5 fun _ Y=>?_;simp(disch:=omega)[hN,bR,bS,ga4];apply Y;refine aR 39 (by simp <;> rfl) ?_;refine⟨fun g3=>?_,fun g3=>?_⟩
 ·try simp at g3
  refine zs 6 fun _ Y=>?_;simp(disch:=omega)[hN,bR,bS,ga4];and_intros<;>(try omega);apply Y;refine zg ga4 fun _ Y=>?_;simp(disch:=omega)[hN,bR,bS,ga4];refine cD (Pp l[lo] c _) ?_;apply Y;simp(disch:=omega)[hN,bR,bS,ga4];apply Z;apply aB;simp [aJ,hpos,Ms, *];exact De _ _
 try simp at g3
 refine zs 8 fun _ Y=>?_;simp(disch:=omega)[hN,bR,bS,ga4];and_intros<;>(try omega);apply Y;simp(disch:=omega)[hN,bR,bS,ga4];apply Z;apply aB;simp [aJ,hpos, *];exact xZ _ _ _ (by omega)
theorem Wt(N cap:Nat)(l:List PI)(rest:List D)(c:ByteArray)(σ:List (List D))(hl:l.length≤1000000)(hN:σ[N]?=some (l.flatMap cP++rest))(hs:cK nP l):Ct prog 201 [.slo N 0 l.length cap,D.str c] σ (fun r σ'=>r= .tup [.int ((gU nP l c:Nat):Int),.bool (Gw nP l c)]∧σ'=σ):=by
 refine zf (rs:=[.tmp 4,.tmp 5]) func201 ntmps201 results201 ?_;simp only [aO];refine aV fun _ _ Z=>?_;simp[hN];apply Z;refine aV fun _ _ Z=>?_;refine zs 2 fun _ Y=>?_;simp[hN];apply Y;refine aD fun _ Y=>?_;simp[hN];refine cD (aGx N cap l rest c _ hl hN hs) ?_;apply Y;simp[hN];apply Z;apply aB;simp [aJ]
theorem aAl(l:List PI)(p:PI)(σ:List (List D))(hl:l.length≤999999)(hs:cK nP l):Ct prog 188 [.xs 2 (l.map cW),cW p] σ (fun r σ'=>r= .xs 2 ((eZ nP l p).map cW)∧∃J,σ'=σ++J):=by
 refine zf (rs:=[.tmp 4]) func188 ntmps188 results188 ?_;simp only [aO];refine fW 0 2 rfl (by decide) fun cap rest hcap hcm hrest hk0 hes=>?_;subst hrest;simp only [List.length_map] at hcap ⊢;rw [cJ (f:=cP) (fun _=>rfl)];have hpl:=Fv nP l p.name;refine zr qAr52 fun _ _ Z=>?_;simp(disch:=omega)[aM,aG];apply Z;refine zr qAr52 fun _ _ Z=>?_;refine zs 3 fun _ Y=>?_;simp(disch:=omega)[aM,aG];apply Y;refine aD fun _ Y=>?_;simp(disch:=omega)[aM,aG];refine cD (Wt σ.length cap l (List.replicate ((cap - l.length) * 2) .any) p.name _ (by omega) (by simp [aM]) hs) ?_;apply Y;simp(disch:=omega)[aM,aG];apply Z;apply aC;refine zr qAr52 fun _ _ Z=>?_;simp(disch:=omega)[aM,aG];apply Z;refine zi ?_;refine⟨fun c1=>?_,fun c1=>?_⟩
 ·try simp at c1
  have hlt:=Fa nP c1;refine zk [0,3,4,5] ?_;refine zr qAr52 fun _ _ Z=>?_;simp(disch:=omega)[aM,aG];and_intros<;>(try omega);apply Z;refine zr qAr52 fun _ _ Z=>?_;simp(disch:=omega)[aM,aG];apply Z;refine cU 4 2 σ.length l.length cap ((l.set (gU nP l p.name) p).map cW) ((l.set (gU nP l p.name) p).flatMap cP++List.replicate ((cap - l.length) * 2) .any) (by simp <;> rfl) (by simp [aM]) (by omega) (by simp only [List.length_append,cL (f:=cP) (k:=2) (fun _=>rfl),List.length_replicate,List.length_set];omega) (by simp) (gN (d:=cW) (fun _=>⟨rfl,rfl⟩) _) (by rw [cJ (f:=cP) (fun _=>rfl)];exact List.prefix_append _ _) ?_;apply aB;apply aI;simp [aJ,tE,c1]
 try simp at c1
 apply aE;apply aA;refine cU 0 2 σ.length l.length cap (l.map cW) (l.flatMap cP++List.replicate ((cap - l.length) * 2) .any) (by simp <;> rfl) (by simp [aM]) (by omega) (by simp only [List.length_append,cL (f:=cP) (k:=2) (fun _=>rfl),List.length_replicate,List.length_set];omega) (by simp) (gN (d:=cW) (fun _=>⟨rfl,rfl⟩) _) (by rw [cJ (f:=cP) (fun _=>rfl)];exact List.prefix_append _ _) ?_;refine zk [0,3,4,5] ?_;refine zr qAr52 fun _ _ Z=>?_;refine zs 4 fun _ Y=>?_;simp(disch:=omega)[aM,aG];and_intros<;>(try omega);apply Y;refine aD fun _ Y=>?_;simp(disch:=omega)[aM,aG];refine cD (aFp l p (gU nP l p.name) _ (by omega) hpl) ?_;apply Y;simp(disch:=omega)[aM,aG];apply Z;apply aB;simp [aJ,tE,c1]
theorem Ou(l:List PI)(p:PI)(σ:List (List D))(hl:l.length≤999999)(hs:cK nP l):Ct prog 188 [.xs 2 (l.map cW),cW p] σ (fun r σ'=>r= .xs 2 ((eZ nP l p).map cW)∧σ'=σ):=
 (aAl l p σ hl hs).trim fun r σ' ⟨hr,J,hs⟩=>⟨σ,J,hs,rfl,by rw [hr];exact aIa _ _,fun n cs h=> .inl h,hr,rfl⟩
theorem qK(l:List PI)(rest:List D)(i:Nat)(h:i<l.length):qP false 1 ((l.flatMap cP++rest).drop (i * 2+1))=some (D.int l[i].value):=Jh (f:=cP) (k:=2) (fun _=>rfl) l rest i 1 h (by decide)
theorem Nq(l:List PI)(σ:List (List D))(hl:l.length≤999999):Ct prog 108 [.sl false (l.map cW)] σ (fun r σ'=>r= .xs 2 ((jG nP l).map cW)∧σ'=σ):=by
 refine zf (rs:=[.tmp 2]) func108 ntmps108 results108 ?_;simp only [aO];refine zr qAr53 fun _ _ Z=>?_;simp(disch:=omega);apply Z;refine zr qAr53 fun _ _ Z=>?_;simp(disch:=omega);apply Z;apply aC;refine zr qAr53 fun _ _ Z=>?_;simp(disch:=omega);and_intros<;>(try omega);apply Z;apply aH;refine zk [2,3,6,7,8] ?_;refine uM 3 2 (by simp <;> rfl) ?_;refine bE (fun(k:Nat)=> [(8,.d (.v (.int .i64 (k:Int)))),(3,.d (.xs 2 ((jG nP (l.take k)).map cW)))]) [3,5,8,9,10,11,12,13,14,15] (fun(k:Nat)=>k≤l.length) (fun(k:Nat)=>l.length - k) (0) (by simp <;> rfl) ?_ ?_ ?_
 ·simp [jG]
 ·simp
 rintro k hk;simp only [List.cons_append,List.nil_append];have hol:=lO nP (l.take k);simp only [List.length_take] at hol;refine zr qAr53 fun _ _ Z=>?_;simp(disch:=omega);apply Z;apply aC;refine zi ?_;refine⟨fun c1=>?_,fun c1=>?_⟩
 ·try simp at c1
  apply aE;apply aA;apply aC;apply aH;refine zr qAr53 fun _ _ Z=>?_;simp(disch:=omega);and_intros<;>(try omega);apply Z;refine zt qAr53 fun _ _ Z=>?_;refine zs 2 fun _ Y=>?_;simp(disch:=omega);apply Y;refine aD fun _ Y=>?_;simp(disch:=omega);refine cD (Ou (jG nP (l.take k)) l[k] _ (by omega) (jK nP _)) ?_;apply Y;simp(disch:=omega);apply Z;apply aL;apply aA;refine zk [2,3,6,7,8] ?_;refine zt qAr53 fun _ _ Z=>?_;simp(disch:=omega);and_intros<;>(try omega);apply Z;refine zq (k+1) ?_ ?_ ?_
  ·omega
  ·try dsimp only
   omega
  simp(disch:=omega)[zC]
 try simp at c1
 apply bA;apply aZ;apply bB;apply aW;apply aA;refine zr qAr53 fun _ _ Z=>?_;simp(disch:=omega);apply Z;apply aB;simp [aJ];rw [List.take_of_length_le (by omega)]
theorem Vo(l:List PI)(c:ByteArray)(σ:List (List D))(hl:l.length≤999999):Ct prog 239 [.sl false (l.map cW),D.str c] σ (fun r σ'=>(∃v:Int,r= .tup [D.int v,.bool (Gw nP (jG nP l) c)])∧∃J,σ'=σ++J):=by
 refine zf (rs:=[.tmp 4,.tmp 5]) func239 ntmps239 results239 ?_;simp only [aO];have hol:=lO nP l;refine zr qAr54 fun _ _ Z=>?_;simp(disch:=omega)[aM,aG,qK];apply Z;refine zr qAr54 fun _ _ Z=>?_;refine zs 1 fun _ Y=>?_;simp(disch:=omega)[aM,aG,qK];apply Y;refine aD fun _ Y=>?_;simp(disch:=omega)[aM,aG,qK];refine cD (Nq l _ hl) ?_;apply Y;simp(disch:=omega)[aM,aG,qK];apply Z;apply aC;refine fW 6 2 rfl (by decide) fun cap rest hcap hcm hrest hk0 hes=>?_;subst hrest;simp only [List.length_map] at hcap ⊢;rw [cJ (f:=cP) (fun _=>rfl)];refine zr qAr54 fun _ _ Z=>?_;refine zs 2 fun _ Y=>?_;simp(disch:=omega)[aM,aG,qK];apply Y;refine aD fun _ Y=>?_;simp(disch:=omega)[aM,aG,qK];refine cD (Wt σ.length cap (jG nP l) (List.replicate ((cap - (jG nP l).length) * 2) .any) c _ (by omega) (by simp [aM]) (jK nP l)) ?_;apply Y;simp(disch:=omega)[aM,aG,qK];apply Z;refine zk [4,5,6,7,8] ?_;refine zr qAr54 fun _ _ Z=>?_;simp(disch:=omega)[aM,aG,qK];apply Z;refine zi ?_;refine⟨fun c1=>?_,fun c1=>?_⟩
 ·try simp at c1
  have hlt:=Fa nP c1;refine zr qAr54 fun _ _ Z=>?_;simp(disch:=omega)[aM,aG,qK];and_intros<;>(try omega);apply Z;apply aB;apply aI;simp [aJ,c1]
 try simp at c1
 apply aE;apply aA;refine zr qAr54 fun _ _ Z=>?_;simp(disch:=omega)[aM,aG,qK];apply Z;refine zr qAr54 fun _ _ Z=>?_;simp(disch:=omega)[aM,aG,qK];apply Z;apply aB;simp [aJ,c1]
theorem Pn(l:List PI)(c:ByteArray)(σ:List (List D))(hl:l.length≤999999)(hs:cK nP l):Ct prog 239 [.sl false (l.map cW),D.str c] σ (fun r σ'=>(∃v:Int,r= .tup [D.int v,.bool (mU nP l c)])∧σ'=σ):=
 (Vo l c σ hl).trim fun r σ' ⟨⟨v,hr⟩,J,hs'⟩=>⟨σ,J,hs',rfl,by rw [hr];exact Sc.tup fun d hd=>by simp at hd;rcases hd with rfl | rfl <;> exact Sc.v _,fun n cs h=> .inl h,⟨v,by rw [hr,qM nP hs,Qg nP hs]⟩,rfl⟩
theorem Yn(l:List PI)(c:ByteArray)(v:Int)(σ:List (List D))(hl:l.length≤99999):Ct prog 183 [.sl false (l.map cW),D.str c,D.int v] σ (fun r σ'=>r= .xs 2 ((eZ nP (jG nP l) ⟨c,v⟩).map cW)∧σ'=σ):=by
 refine zf (rs:=[.tmp 6]) func183 ntmps183 results183 ?_;simp only [aO];have hol:=lO nP l;refine zr ⟨[6,9,10,12],[],[],[],[]⟩ fun _ _ Z=>?_;simp;apply Z;refine zr ⟨[6,9,10,12],[],[],[],[]⟩ fun _ _ Z=>?_;refine zs 1 fun _ Y=>?_;simp;apply Y;refine aD fun _ Y=>?_;simp;refine cD (Nq l _ (by omega)) ?_;apply Y;refine zs 3 fun _ Y=>?_;simp;apply Y;refine aD fun _ Y=>?_;simp;refine cD (Ou (jG nP l) ⟨c,v⟩ _ (by omega) (jK nP l)) ?_;apply Y;simp;apply Z;apply aB;simp [aJ]
theorem aE3(l:List PI)(p:PI→Bool)(f:FuncId)(caps:List D)(σ:List (List D))(hl:l.length≤99999)(hcp:∀d∈caps,d.plain=true)(hcs:caps.map D.strip=caps)(hp:∀x τ,Ct prog f (cW x::caps) τ (fun r τ'=>r= .bool (p x)∧τ'=τ)):Ct prog 261 [.sl false (l.map cW),.clo (.func f) [] caps] σ (fun r σ'=>r= .xs 2 (((jG nP l).filter fun x=> !p x).map cW)∧σ'=σ):=by
 refine zf (rs:=[.tmp 4]) func261 ntmps261 results261 ?_;simp only [aO];have hol:=lO nP l;refine zr ⟨[4,7,8],[],[],[],[]⟩ fun _ _ Z=>?_;simp;apply Z;refine zr ⟨[4,7,8],[],[],[],[]⟩ fun _ _ Z=>?_;refine zs 1 fun _ Y=>?_;simp;apply Y;refine aD fun _ Y=>?_;simp;refine cD (Nq l _ (by omega)) ?_;apply Y;refine zs 1 fun _ Y=>?_;simp;apply Y;refine aD fun _ Y=>?_;simp;refine cD (Nh (jG nP l) p f caps _ (by omega) hcp hcs hp) ?_;apply Y;simp;apply Z;apply aB;simp [aJ]
theorem So(x:PI)(c:ByteArray)(σ:List (List D))  :Ct prog 262 [cW x,.adr [D.str c]] σ (fun r σ'=>r= .bool (decide (x.name=c))∧σ'=σ):=by
 refine zf (rs:=[.tmp 3]) func262 ntmps262 results262 ?_;simp only [aO];refine aV fun _ _ Z=>?_;simp;apply Z;refine aV fun _ _ Z=>?_;simp;apply Z;apply aB;simp[aJ]
theorem Ql(l:List PI)(c:ByteArray)(σ:List (List D))(hl:l.length≤99999):Ct prog 240 [.sl false (l.map cW),D.str c] σ (fun r σ'=>r= .xs 2 ((jA nP (jG nP l) c).map cW)∧σ'=σ):=by
 refine zf (rs:=[.tmp 4]) func240 ntmps240 results240 ?_;simp only [aO];refine zr ⟨[4],[3],[],[],[]⟩ fun _ _ Z=>?_;simp;apply Z;refine zr ⟨[4],[3],[],[],[]⟩ fun _ _ Z=>?_;refine zs 2 fun _ Y=>?_;simp;and_intros<;>(try omega);apply Y;refine aD fun _ Y=>?_;simp;refine cD (aE3 l (fun x=>decide (x.name=c)) 262 [.adr [D.str c]] _ hl (by simp) (by simp) (fun x τ=>So x c τ)) ?_;apply Y;simp;apply Z;apply aB;simp [aJ,jA]
theorem aD4(l:List PI)(c:ByteArray)(v:Int)(σ:List (List D))(hl:l.length≤99999)(hs:cK nP l):Ct prog 183 [.sl false (l.map cW),D.str c,D.int v] σ (fun r σ'=>r= .sl false ((eZ nP l ⟨c,v⟩).map cW)∧σ'=σ):=
 (Yn l c v σ hl).freeze fun r σ' h=>by rw [qM nP hs] at h;exact h
theorem Yy(l:List PI)(c:ByteArray)(σ:List (List D))(hl:l.length≤99999)(hs:cK nP l):Ct prog 240 [.sl false (l.map cW),D.str c] σ (fun r σ'=>r= .sl false ((jA nP l c).map cW)∧σ'=σ):=
 (Ql l c σ hl).freeze fun r σ' h=>by rw [qM nP hs] at h;exact h
end Go.Proofs.YtbgfljpnhhdkoaaGreat
