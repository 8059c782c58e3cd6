import Derived.Test.YtbgfljpnhhdkoaaGreatArProps
open Go.Proofs.Tryz
namespace Go.Proofs.YtbgfljpnhhdkoaaGreat
open Go Go.Vm
set_option maxRecDepth 20000
set_option linter.all false
set_option maxHeartbeats 8000000
abbrev nA:AT→ByteArray:=AT.name
abbrev nP:PI→ByteArray:=PI.name
theorem bR(a b:Nat):Int.fdiv ((a:Int)+(b:Int)) (2 ^ min 1 IntKind.u64.bits)=(((a+b) / 2:Nat):Int):=by
 have e:(2:Int) ^ min 1 IntKind.u64.bits=2:=by decide
 rw [e,Int.fdiv_eq_ediv_of_nonneg _ (by omega)];omega
theorem aEf:IntKind.u64.min=0:=rfl
theorem aFc:IntKind.u64.max=18446744073709551615:=by decide
theorem bQ(n:Int):Vv .u64 n=(0≤n∧n≤18446744073709551615):=by
 show(IntKind.u64.min≤n∧n≤IntKind.u64.max)=_
 rw [aEf,aFc]
theorem Kl(s:ByteArray)(σ:List (List D))  :Ct prog 258 [D.str s] σ (fun r σ'=>r= .bool false∧σ'=σ):=by
 refine zf (rs:=[.tmp 2]) func258 ntmps258 results258 ?_;simp only [aN];refine aY fun _ _ Z=>?_;simp;apply Z;refine aY fun _ _ Z=>?_;simp;apply Z;apply aB;simp [aL]
theorem Bi(a b:ByteArray)(σ:List (List D))  :Ct prog 233 [D.str a,D.str b] σ (fun r σ'=>r= .int (Am a b)∧σ'=σ):=by
 refine zf (rs:=[.tmp 4]) func233 ntmps233 results233 ?_;simp only [aN];refine aY fun _ _ Z=>?_;simp;apply Z;refine aY fun _ _ Z=>?_;refine zs 1 fun _ Y=>?_;simp;apply Y;refine aD fun _ Y=>?_;simp;refine cH (Kl a _) ?_;apply Y;simp;apply Z;refine aY fun _ _ Z=>?_;refine zs 1 fun _ Y=>?_;simp;apply Y;refine aD fun _ Y=>?_;simp;refine cH (Kl b _) ?_;apply Y;simp;apply Z;apply aC;refine aY fun _ _ Z=>?_;simp;apply Z;refine zi ?_;refine⟨fun c1=>?_,fun c1=>?_⟩
 ·simp at c1
 try simp at c1
 apply aE;apply aA;apply aC;refine aY fun _ _ Z=>?_;simp;apply Z;refine zi ?_;refine⟨fun c2=>?_,fun c2=>?_⟩
 ·simp at c2
 try simp at c2
 apply aE;apply aA;apply aC;refine aY fun _ _ Z=>?_;simp;apply Z;refine zi ?_;refine⟨fun c3=>?_,fun c3=>?_⟩
 ·try simp at c3
  refine zk [0,1,4] ?_;refine aY fun _ _ Z=>?_;simp;apply Z;apply aB;apply aJ;simp [aL,Am,cS, *]
 try simp at c3
 apply aE;apply aA;apply aC;refine zk [0,1,4] ?_;refine aY fun _ _ Z=>?_;simp;apply Z;refine zi ?_;refine⟨fun c4=>?_,fun c4=>?_⟩
 ·try simp at c4
  refine aY fun _ _ Z=>?_;simp;apply Z;apply aB;apply aJ;simp [aL,Am,cS, *]
 try simp at c4
 apply aE;apply aA;refine aY fun _ _ Z=>?_;simp;apply Z;apply aB;simp [aL,Am,cS, *]
theorem Qj(x:AT)(s:ByteArray)(σ:List (List D))  :Ct prog 232 [cZ x,D.str s] σ (fun r σ'=>r= .int (Am x.name s)∧σ'=σ):=by
 refine zf (rs:=[.tmp 4]) func232 ntmps232 results232 ?_;simp only [aN];refine aY fun _ _ Z=>?_;simp;apply Z;refine aY fun _ _ Z=>?_;refine zs 3 fun _ Y=>?_;simp;apply Y;refine aD fun _ Y=>?_;simp;refine cH (Bi x.name s _) ?_;apply Y;simp;apply Z;apply aB;simp [aL]
@[simp] abbrev qAr51:Cfg:=⟨[],[],[],[13,27,43],[]⟩
theorem aHu(N cap:Nat)(l:List AT)(rest:List D)(c:ByteArray)(σ:List (List D))(hl:l.length≤1000000)(hN:σ[N]?=some (l.flatMap cA++rest))(hs:cJ nA l):Ct prog 231 [.slo N 0 l.length cap,D.str c,.clo (.func 232) [] []] σ (fun r σ'=>r= .tup [.int ((gT nA l c:Nat):Int),.bool (He nA l c)]∧σ'=σ):=by
 refine zf (rs:=[.tmp 6,.tmp 7]) func231 ntmps231 results231 ?_;simp only [aN];refine zr qAr51 fun _ _ Z=>?_;simp(disch:=omega)[hN,bR,bQ];apply Z;refine zr qAr51 fun _ _ Z=>?_;simp(disch:=omega)[hN,bR,bQ];and_intros<;>(try omega);apply Z;refine zr qAr51 fun _ _ Z=>?_;simp(disch:=omega)[hN,bR,bQ];apply Z;apply aC;apply aG;refine zk [0,1,2,6,7,8,9,10] ?_;refine bI (fun(s:Nat×Nat)=> [(9,.d (.v (.int .i64 (s.1:Int)))),(10,.d (.v (.int .i64 (s.2:Int)))),(11,.d (.any))]) [9,10,11,15,16,17,18,19,20,21,22,23,24,25,26,27,28,29,30,31,32,33,34] (fun(s:Nat×Nat)=>s.1≤s.2∧s.2≤l.length∧(∀j (h:j<l.length),j<s.1→cS l[j].name c=true)∧(∀j (h:j<l.length),s.2≤j→cS l[j].name c=false)) (fun(s:Nat×Nat)=>s.2 - s.1) ((0,l.length)) (by simp <;> rfl) ?_ ?_ ?_
 ·simp
 ·exact⟨by omega,by omega,fun j h h2=>absurd h2 (by simp),fun j h h2=>absurd h2 (by simp;omega)⟩
 rintro⟨lo,hi⟩ ⟨h1,h2,h3,h4⟩;simp only [List.cons_append,List.nil_append];dsimp only at h1 h2 h3 h4;have hmid:lo<hi→(lo+hi) / 2<hi:=fun h=>by omega
 apply aC;refine zr qAr51 fun _ _ Z=>?_;simp(disch:=omega)[hN,bR,bQ];apply Z;refine zi ?_;refine⟨fun c1=>?_,fun c1=>?_⟩
 ·try simp at c1
  apply aE;apply aA;apply aG;refine zk [0,1,2,6,7,8,9,10,11] ?_;refine zr qAr51 fun _ _ Z=>?_;simp(disch:=omega)[hN,bR,bQ];and_intros<;>(try omega);apply Z;refine zk [0,1,2,6,7,8,9,10,11] ?_;refine zr qAr51 fun _ _ Z=>?_;refine zs 6 fun _ Y=>?_;simp(disch:=omega)[hN,bR,bQ];and_intros<;>(try omega);apply Y;refine aD fun _ Y=>?_;simp(disch:=omega)[hN,bR,bQ];refine cH (Qj l[(lo+hi) / 2] c _) ?_;apply Y;simp(disch:=omega)[hN,bR,bQ];apply Z;refine zi ?_;refine⟨fun c2=>?_,fun c2=>?_⟩
  ·try simp at c2
   refine zk [0,1,2,6,7,8,9,10,11] ?_;refine zt qAr51 fun _ _ Z=>?_;simp(disch:=omega)[hN,bR,bQ];and_intros<;>(try omega);apply Z;apply aK;refine zq (((lo+hi) / 2+1,hi)) ?_ ?_ ?_
   ·exact⟨by dsimp only;omega,by dsimp only;omega,aGw nA hs (by omega) (by simpa [Bl] using c2),h4⟩
   ·try dsimp only
    omega
   simp(disch:=omega)[hN,bR,bQ]
  try simp at c2
  refine zk [0,1,2,6,7,8,9,10,11] ?_;refine zt qAr51 fun _ _ Z=>?_;simp(disch:=omega)[hN,bR,bQ];apply Z;apply aK;refine zq ((lo,(lo+hi) / 2)) ?_ ?_ ?_
  ·exact⟨by dsimp only;omega,by dsimp only;omega,h3,aGz nA hs (by omega) ((Pg _ _).1 (by omega))⟩
  ·try dsimp only
   omega
  simp(disch:=omega)[hN,bR,bQ]
 try simp at c1
 obtain rfl:lo=hi:=by omega
 have hpos:gT nA l c=lo:=Ep nA l c lo h2 h3 (fun h=>h4 lo h (Nat.le_refl _));apply bC;apply bB;apply bD;apply aX;apply aA;refine zk [0,1,2,6,7,8,9] ?_;refine mY qAr51 fun all hall _ Z=>?_;have ga4:aR all 4=some 39:=hall 4;refine zs 5 fun _ Y=>?_;simp(disch:=omega)[hN,bR,bQ,ga4];apply Y;refine aU 39 (by simp <;> rfl) ?_;refine⟨fun g3=>?_,fun g3=>?_⟩
 ·try simp at g3
  refine zs 6 fun _ Y=>?_;simp(disch:=omega)[hN,bR,bQ,ga4];and_intros<;>(try omega);apply Y;refine zg ga4 fun _ Y=>?_;simp(disch:=omega)[hN,bR,bQ,ga4];refine cH (Qj l[lo] c _) ?_;apply Y;simp(disch:=omega)[hN,bR,bQ,ga4];apply Z;apply aB;simp [aL,hpos,Mb, *];exact Ch _ _
 try simp at g3
 refine zs 8 fun _ Y=>?_;simp(disch:=omega)[hN,bR,bQ,ga4];and_intros<;>(try omega);apply Y;simp(disch:=omega)[hN,bR,bQ,ga4];apply Z;apply aB;simp [aL,hpos, *];exact yD _ _ _ (by omega)
theorem Yv(N cap:Nat)(l:List AT)(rest:List D)(c:ByteArray)(σ:List (List D))(hl:l.length≤1000000)(hN:σ[N]?=some (l.flatMap cA++rest))(hs:cJ nA l):Ct prog 198 [.slo N 0 l.length cap,D.str c] σ (fun r σ'=>r= .tup [.int ((gT nA l c:Nat):Int),.bool (He nA l c)]∧σ'=σ):=by
 refine zf (rs:=[.tmp 4,.tmp 5]) func198 ntmps198 results198 ?_;simp only [aN];refine aY fun _ _ Z=>?_;simp[hN];apply Z;refine aY fun _ _ Z=>?_;refine zs 2 fun _ Y=>?_;simp[hN];apply Y;refine aD fun _ Y=>?_;simp[hN];refine cH (aHu N cap l rest c _ hl hN hs) ?_;apply Y;simp[hN];apply Z;apply aB;simp [aL]
@[simp] abbrev qAr52:Cfg:=⟨[4,19,20,24],[],[],[18],[]⟩
theorem aAx(l:List AT)(p:AT)(σ:List (List D))(hl:l.length≤999999)(hs:cJ nA l):Ct prog 187 [.xs 2 (l.map cZ),cZ p] σ (fun r σ'=>r= .xs 2 ((fB nA l p).map cZ)∧∃J,σ'=σ++J):=by
 refine zf (rs:=[.tmp 4]) func187 ntmps187 results187 ?_;simp only [aN];refine gE 0 2 rfl (by decide) fun cap rest hcap hcm hrest hk0 hes=>?_;subst hrest;simp only [List.length_map] at hcap ⊢;rw [cK (f:=cA) (fun _=>rfl)];have hpl:=Gx nA l p.name;refine zr qAr52 fun _ _ Z=>?_;simp(disch:=omega)[aM,aH];apply Z;refine zr qAr52 fun _ _ Z=>?_;refine zs 3 fun _ Y=>?_;simp(disch:=omega)[aM,aH];apply Y;refine aD fun _ Y=>?_;simp(disch:=omega)[aM,aH];refine cH (Yv σ.length cap l (List.replicate ((cap - l.length) * 2) .any) p.name _ (by omega) (by simp [aM]) hs) ?_;apply Y;simp(disch:=omega)[aM,aH];apply Z;apply aC;refine zr qAr52 fun _ _ Z=>?_;simp(disch:=omega)[aM,aH];apply Z;refine zi ?_;refine⟨fun c1=>?_,fun c1=>?_⟩
 ·try simp at c1
  have hlt:=Ek nA c1;refine zk [0,3,4,5] ?_;refine zr qAr52 fun _ _ Z=>?_;simp(disch:=omega)[aM,aH];and_intros<;>(try omega);apply Z;refine zr qAr52 fun _ _ Z=>?_;simp(disch:=omega)[aM,aH];apply Z;refine cV 4 2 σ.length l.length cap ((l.set (gT nA l p.name) p).map cZ) ((l.set (gT nA l p.name) p).flatMap cA++List.replicate ((cap - l.length) * 2) .any) (by simp <;> rfl) (by simp [aM]) (by omega) (by simp only [List.length_append,cL (f:=cA) (k:=2) (fun _=>rfl),List.length_replicate,List.length_set];omega) (by simp) (gQ (d:=cZ) (fun _=>⟨rfl,rfl⟩) _) (by rw [cK (f:=cA) (fun _=>rfl)];exact List.prefix_append _ _) ?_;apply aB;apply aJ;simp [aL,uJ,c1]
 try simp at c1
 apply aE;apply aA;refine cV 0 2 σ.length l.length cap (l.map cZ) (l.flatMap cA++List.replicate ((cap - l.length) * 2) .any) (by simp <;> rfl) (by simp [aM]) (by omega) (by simp only [List.length_append,cL (f:=cA) (k:=2) (fun _=>rfl),List.length_replicate,List.length_set];omega) (by simp) (gQ (d:=cZ) (fun _=>⟨rfl,rfl⟩) _) (by rw [cK (f:=cA) (fun _=>rfl)];exact List.prefix_append _ _) ?_;refine zk [0,3,4,5] ?_;refine zr qAr52 fun _ _ Z=>?_;refine zs 4 fun _ Y=>?_;simp(disch:=omega)[aM,aH];and_intros<;>(try omega);apply Y;refine aD fun _ Y=>?_;simp(disch:=omega)[aM,aH];refine cH (aFy l p (gT nA l p.name) _ (by omega) hpl) ?_;apply Y;simp(disch:=omega)[aM,aH];apply Z;apply aB;simp [aL,uJ,c1]
theorem Po(l:List AT)(p:AT)(σ:List (List D))(hl:l.length≤999999)(hs:cJ nA l):Ct prog 187 [.xs 2 (l.map cZ),cZ p] σ (fun r σ'=>r= .xs 2 ((fB nA l p).map cZ)∧σ'=σ):=
 (aAx l p σ hl hs).trim fun r σ' ⟨hr,J,hs⟩=>⟨σ,J,hs,rfl,by rw [hr];exact aHj _ _,fun n cs h=> .inl h,hr,rfl⟩
theorem pZ(l:List AT)(rest:List D)(i:Nat)(h:i<l.length):qZ false 1 ((l.flatMap cA++rest).drop (i * 2+1))=some (D.str l[i].value):=Ii (f:=cA) (k:=2) (fun _=>rfl) l rest i 1 h (by decide)
@[simp] abbrev qAr53:Cfg:=⟨[2,3,12,14,16],[],[],[],[]⟩
theorem Oe(l:List AT)(σ:List (List D))(hl:l.length≤999999):Ct prog 107 [.sl false (l.map cZ)] σ (fun r σ'=>r= .xs 2 ((jK nA l).map cZ)∧σ'=σ):=by
 refine zf (rs:=[.tmp 2]) func107 ntmps107 results107 ?_;simp only [aN];refine zr qAr53 fun _ _ Z=>?_;simp(disch:=omega);apply Z;refine zr qAr53 fun _ _ Z=>?_;simp(disch:=omega);apply Z;apply aC;refine zr qAr53 fun _ _ Z=>?_;simp(disch:=omega);and_intros<;>(try omega);apply Z;apply aG;refine zk [2,3,6,7,8] ?_;refine uM 3 2 (by simp <;> rfl) ?_;refine bI (fun(k:Nat)=> [(8,.d (.v (.int .i64 (k:Int)))),(3,.d (.xs 2 ((jK nA (l.take k)).map cZ)))]) [3,5,8,9,10,11,12,13,14,15] (fun(k:Nat)=>k≤l.length) (fun(k:Nat)=>l.length - k) (0) (by simp <;> rfl) ?_ ?_ ?_
 ·simp [jK]
 ·simp
 rintro k hk;simp only [List.cons_append,List.nil_append];have hol:=lU nA (l.take k);simp only [List.length_take] at hol;refine zr qAr53 fun _ _ Z=>?_;simp(disch:=omega);apply Z;apply aC;refine zi ?_;refine⟨fun c1=>?_,fun c1=>?_⟩
 ·try simp at c1
  apply aE;apply aA;apply aC;apply aG;refine zr qAr53 fun _ _ Z=>?_;simp(disch:=omega);and_intros<;>(try omega);apply Z;refine zt qAr53 fun _ _ Z=>?_;refine zs 2 fun _ Y=>?_;simp(disch:=omega);apply Y;refine aD fun _ Y=>?_;simp(disch:=omega);refine cH (Po (jK nA (l.take k)) l[k] _ (by omega) (jO nA _)) ?_;apply Y;simp(disch:=omega);apply Z;apply aK;apply aA;refine zk [2,3,6,7,8] ?_;refine zt qAr53 fun _ _ Z=>?_;simp(disch:=omega);and_intros<;>(try omega);apply Z;refine zq (k+1) ?_ ?_ ?_
  ·omega
  ·try dsimp only
   omega
  simp(disch:=omega)[zN]
 try simp at c1
 apply bC;apply bB;apply bD;apply aX;apply aA;refine zr qAr53 fun _ _ Z=>?_;simp(disch:=omega);apply Z;apply aB;simp [aL];rw [List.take_of_length_le (by omega)]
@[simp] abbrev qAr54:Cfg:=⟨[6,11],[],[],[21],[]⟩
theorem aB1(l:List AT)(c:ByteArray)(σ:List (List D))(hl:l.length≤999999):Ct prog 234 [.sl false (l.map cZ),D.str c] σ (fun r σ'=>(∃v:ByteArray,r= .tup [D.str v,.bool (He nA (jK nA l) c)])∧∃J,σ'=σ++J):=by
 refine zf (rs:=[.tmp 4,.tmp 5]) func234 ntmps234 results234 ?_;simp only [aN];have hol:=lU nA l;refine zr qAr54 fun _ _ Z=>?_;simp(disch:=omega)[aM,aH,pZ];apply Z;refine zr qAr54 fun _ _ Z=>?_;refine zs 1 fun _ Y=>?_;simp(disch:=omega)[aM,aH,pZ];apply Y;refine aD fun _ Y=>?_;simp(disch:=omega)[aM,aH,pZ];refine cH (Oe l _ hl) ?_;apply Y;simp(disch:=omega)[aM,aH,pZ];apply Z;apply aC;refine gE 6 2 rfl (by decide) fun cap rest hcap hcm hrest hk0 hes=>?_;subst hrest;simp only [List.length_map] at hcap ⊢;rw [cK (f:=cA) (fun _=>rfl)];refine zr qAr54 fun _ _ Z=>?_;refine zs 2 fun _ Y=>?_;simp(disch:=omega)[aM,aH,pZ];apply Y;refine aD fun _ Y=>?_;simp(disch:=omega)[aM,aH,pZ];refine cH (Yv σ.length cap (jK nA l) (List.replicate ((cap - (jK nA l).length) * 2) .any) c _ (by omega) (by simp [aM]) (jO nA l)) ?_;apply Y;simp(disch:=omega)[aM,aH,pZ];apply Z;refine zk [4,5,6,7,8] ?_;refine zr qAr54 fun _ _ Z=>?_;simp(disch:=omega)[aM,aH,pZ];apply Z;refine zi ?_;refine⟨fun c1=>?_,fun c1=>?_⟩
 ·try simp at c1
  have hlt:=Ek nA c1;refine zr qAr54 fun _ _ Z=>?_;simp(disch:=omega)[aM,aH,pZ];and_intros<;>(try omega);apply Z;apply aB;apply aJ;simp [aL,c1]
 try simp at c1
 apply aE;apply aA;refine zr qAr54 fun _ _ Z=>?_;simp(disch:=omega)[aM,aH,pZ];apply Z;refine zr qAr54 fun _ _ Z=>?_;simp(disch:=omega)[aM,aH,pZ];apply Z;apply aB;simp [aL,c1]
theorem Pe(l:List AT)(c:ByteArray)(σ:List (List D))(hl:l.length≤999999)(hs:cJ nA l):Ct prog 234 [.sl false (l.map cZ),D.str c] σ (fun r σ'=>(∃v:ByteArray,r= .tup [D.str v,.bool (mW nA l c)])∧σ'=σ):=
 (aB1 l c σ hl).trim fun r σ' ⟨⟨v,hr⟩,J,hs'⟩=>⟨σ,J,hs',rfl,by rw [hr];exact Sc.tup fun d hd=>by simp at hd;rcases hd with rfl | rfl <;> exact Sc.v _,fun n cs h=> .inl h,⟨v,by rw [hr,pW nA hs,Qy nA hs]⟩,rfl⟩
theorem aB7(l:List AT)(c:ByteArray)(v:ByteArray)(σ:List (List D))(hl:l.length≤99999):Ct prog 182 [.sl false (l.map cZ),D.str c,D.str v] σ (fun r σ'=>r= .xs 2 ((fB nA (jK nA l) ⟨c,v⟩).map cZ)∧σ'=σ):=by
 refine zf (rs:=[.tmp 6]) func182 ntmps182 results182 ?_;simp only [aN];have hol:=lU nA l;refine zr ⟨[6,9,10,12],[],[],[],[]⟩ fun _ _ Z=>?_;simp;apply Z;refine zr ⟨[6,9,10,12],[],[],[],[]⟩ fun _ _ Z=>?_;refine zs 1 fun _ Y=>?_;simp;apply Y;refine aD fun _ Y=>?_;simp;refine cH (Oe l _ (by omega)) ?_;apply Y;refine zs 3 fun _ Y=>?_;simp;apply Y;refine aD fun _ Y=>?_;simp;refine cH (Po (jK nA l) ⟨c,v⟩ _ (by omega) (jO nA l)) ?_;apply Y;simp;apply Z;apply aB;simp [aL]
theorem aD8(l:List AT)(p:AT→Bool)(f:FuncId)(caps:List D)(σ:List (List D))(hl:l.length≤99999)(hcp:∀d∈caps,d.plain=true)(hcs:caps.map D.strip=caps)(hp:∀x τ,Ct prog f (cZ x::caps) τ (fun r τ'=>r= .bool (p x)∧τ'=τ)):Ct prog 259 [.sl false (l.map cZ),.clo (.func f) [] caps] σ (fun r σ'=>r= .xs 2 (((jK nA l).filter fun x=> !p x).map cZ)∧σ'=σ):=by
 refine zf (rs:=[.tmp 4]) func259 ntmps259 results259 ?_;simp only [aN];have hol:=lU nA l;refine zr ⟨[4,7,8],[],[],[],[]⟩ fun _ _ Z=>?_;simp;apply Z;refine zr ⟨[4,7,8],[],[],[],[]⟩ fun _ _ Z=>?_;refine zs 1 fun _ Y=>?_;simp;apply Y;refine aD fun _ Y=>?_;simp;refine cH (Oe l _ (by omega)) ?_;apply Y;refine zs 1 fun _ Y=>?_;simp;apply Y;refine aD fun _ Y=>?_;simp;refine cH (Lz (jK nA l) p f caps _ (by omega) hcp hcs hp) ?_;apply Y;simp;apply Z;apply aB;simp [aL]
theorem Tp(x:AT)(c:ByteArray)(σ:List (List D))  :Ct prog 260 [cZ x,.adr [D.str c]] σ (fun r σ'=>r= .bool (decide (x.name=c))∧σ'=σ):=by
 refine zf (rs:=[.tmp 3]) func260 ntmps260 results260 ?_;simp only [aN];refine aY fun _ _ Z=>?_;simp;apply Z;refine aY fun _ _ Z=>?_;simp;apply Z;apply aB;simp[aL]
theorem Vs(l:List AT)(c:ByteArray)(σ:List (List D))(hl:l.length≤99999):Ct prog 235 [.sl false (l.map cZ),D.str c] σ (fun r σ'=>r= .xs 2 ((iY nA (jK nA l) c).map cZ)∧σ'=σ):=by
 refine zf (rs:=[.tmp 4]) func235 ntmps235 results235 ?_;simp only [aN];refine zr ⟨[4],[3],[],[],[]⟩ fun _ _ Z=>?_;simp;apply Z;refine zr ⟨[4],[3],[],[],[]⟩ fun _ _ Z=>?_;refine zs 2 fun _ Y=>?_;simp;and_intros<;>(try omega);apply Y;refine aD fun _ Y=>?_;simp;refine cH (aD8 l (fun x=>decide (x.name=c)) 260 [.adr [D.str c]] _ hl (by simp) (by simp) (fun x τ=>Tp x c τ)) ?_;apply Y;simp;apply Z;apply aB;simp [aL,iY]
theorem aEx(l:List AT)(c:ByteArray)(v:ByteArray)(σ:List (List D))(hl:l.length≤99999)(hs:cJ nA l):Ct prog 182 [.sl false (l.map cZ),D.str c,D.str v] σ (fun r σ'=>r= .sl false ((fB nA l ⟨c,v⟩).map cZ)∧σ'=σ):=
 (aB7 l c v σ hl).freeze fun r σ' h=>by rw [pW nA hs] at h;exact h
theorem aDc(l:List AT)(c:ByteArray)(σ:List (List D))(hl:l.length≤99999)(hs:cJ nA l):Ct prog 235 [.sl false (l.map cZ),D.str c] σ (fun r σ'=>r= .sl false ((iY nA l c).map cZ)∧σ'=σ):=
 (Vs l c σ hl).freeze fun r σ' h=>by rw [pW nA hs] at h;exact h
theorem Pd(x:PI)(s:ByteArray)(σ:List (List D))  :Ct prog 237 [cX x,D.str s] σ (fun r σ'=>r= .int (Am x.name s)∧σ'=σ):=by
 refine zf (rs:=[.tmp 4]) func237 ntmps237 results237 ?_;simp only [aN];refine aY fun _ _ Z=>?_;simp;apply Z;refine aY fun _ _ Z=>?_;refine zs 3 fun _ Y=>?_;simp;apply Y;refine aD fun _ Y=>?_;simp;refine cH (Bi x.name s _) ?_;apply Y;simp;apply Z;apply aB;simp [aL]
theorem aHx(N cap:Nat)(l:List PI)(rest:List D)(c:ByteArray)(σ:List (List D))(hl:l.length≤1000000)(hN:σ[N]?=some (l.flatMap cP++rest))(hs:cJ nP l):Ct prog 236 [.slo N 0 l.length cap,D.str c,.clo (.func 237) [] []] σ (fun r σ'=>r= .tup [.int ((gT nP l c:Nat):Int),.bool (He nP l c)]∧σ'=σ):=by
 refine zf (rs:=[.tmp 6,.tmp 7]) func236 ntmps236 results236 ?_;simp only [aN];refine zr qAr51 fun _ _ Z=>?_;simp(disch:=omega)[hN,bR,bQ];apply Z;refine zr qAr51 fun _ _ Z=>?_;simp(disch:=omega)[hN,bR,bQ];and_intros<;>(try omega);apply Z;refine zr qAr51 fun _ _ Z=>?_;simp(disch:=omega)[hN,bR,bQ];apply Z;apply aC;apply aG;refine zk [0,1,2,6,7,8,9,10] ?_;refine bI (fun(s:Nat×Nat)=> [(9,.d (.v (.int .i64 (s.1:Int)))),(10,.d (.v (.int .i64 (s.2:Int)))),(11,.d (.any))]) [9,10,11,15,16,17,18,19,20,21,22,23,24,25,26,27,28,29,30,31,32,33,34] (fun(s:Nat×Nat)=>s.1≤s.2∧s.2≤l.length∧(∀j (h:j<l.length),j<s.1→cS l[j].name c=true)∧(∀j (h:j<l.length),s.2≤j→cS l[j].name c=false)) (fun(s:Nat×Nat)=>s.2 - s.1) ((0,l.length)) (by simp <;> rfl) ?_ ?_ ?_
 ·simp
 ·exact⟨by omega,by omega,fun j h h2=>absurd h2 (by simp),fun j h h2=>absurd h2 (by simp;omega)⟩
 rintro⟨lo,hi⟩ ⟨h1,h2,h3,h4⟩;simp only [List.cons_append,List.nil_append];dsimp only at h1 h2 h3 h4;have hmid:lo<hi→(lo+hi) / 2<hi:=fun h=>by omega
 apply aC;refine zr qAr51 fun _ _ Z=>?_;simp(disch:=omega)[hN,bR,bQ];apply Z;refine zi ?_;refine⟨fun c1=>?_,fun c1=>?_⟩
 ·try simp at c1
  apply aE;apply aA;apply aG;refine zk [0,1,2,6,7,8,9,10,11] ?_;refine zr qAr51 fun _ _ Z=>?_;simp(disch:=omega)[hN,bR,bQ];and_intros<;>(try omega);apply Z;refine zk [0,1,2,6,7,8,9,10,11] ?_;refine zr qAr51 fun _ _ Z=>?_;refine zs 6 fun _ Y=>?_;simp(disch:=omega)[hN,bR,bQ];and_intros<;>(try omega);apply Y;refine aD fun _ Y=>?_;simp(disch:=omega)[hN,bR,bQ];refine cH (Pd l[(lo+hi) / 2] c _) ?_;apply Y;simp(disch:=omega)[hN,bR,bQ];apply Z;refine zi ?_;refine⟨fun c2=>?_,fun c2=>?_⟩
  ·try simp at c2
   refine zk [0,1,2,6,7,8,9,10,11] ?_;refine zt qAr51 fun _ _ Z=>?_;simp(disch:=omega)[hN,bR,bQ];and_intros<;>(try omega);apply Z;apply aK;refine zq (((lo+hi) / 2+1,hi)) ?_ ?_ ?_
   ·exact⟨by dsimp only;omega,by dsimp only;omega,aGw nP hs (by omega) (by simpa [Bl] using c2),h4⟩
   ·try dsimp only
    omega
   simp(disch:=omega)[hN,bR,bQ]
  try simp at c2
  refine zk [0,1,2,6,7,8,9,10,11] ?_;refine zt qAr51 fun _ _ Z=>?_;simp(disch:=omega)[hN,bR,bQ];apply Z;apply aK;refine zq ((lo,(lo+hi) / 2)) ?_ ?_ ?_
  ·exact⟨by dsimp only;omega,by dsimp only;omega,h3,aGz nP hs (by omega) ((Pg _ _).1 (by omega))⟩
  ·try dsimp only
   omega
  simp(disch:=omega)[hN,bR,bQ]
 try simp at c1
 obtain rfl:lo=hi:=by omega
 have hpos:gT nP l c=lo:=Ep nP l c lo h2 h3 (fun h=>h4 lo h (Nat.le_refl _));apply bC;apply bB;apply bD;apply aX;apply aA;refine zk [0,1,2,6,7,8,9] ?_;refine mY qAr51 fun all hall _ Z=>?_;have ga4:aR all 4=some 39:=hall 4;refine zs 5 fun _ Y=>?_;simp(disch:=omega)[hN,bR,bQ,ga4];apply Y;refine aU 39 (by simp <;> rfl) ?_;refine⟨fun g3=>?_,fun g3=>?_⟩
 ·try simp at g3
  refine zs 6 fun _ Y=>?_;simp(disch:=omega)[hN,bR,bQ,ga4];and_intros<;>(try omega);apply Y;refine zg ga4 fun _ Y=>?_;simp(disch:=omega)[hN,bR,bQ,ga4];refine cH (Pd l[lo] c _) ?_;apply Y;simp(disch:=omega)[hN,bR,bQ,ga4];apply Z;apply aB;simp [aL,hpos,Mb, *];exact Ch _ _
 try simp at g3
 refine zs 8 fun _ Y=>?_;simp(disch:=omega)[hN,bR,bQ,ga4];and_intros<;>(try omega);apply Y;simp(disch:=omega)[hN,bR,bQ,ga4];apply Z;apply aB;simp [aL,hpos, *];exact yD _ _ _ (by omega)
theorem aBq(N cap:Nat)(l:List PI)(rest:List D)(c:ByteArray)(σ:List (List D))(hl:l.length≤1000000)(hN:σ[N]?=some (l.flatMap cP++rest))(hs:cJ nP l):Ct prog 201 [.slo N 0 l.length cap,D.str c] σ (fun r σ'=>r= .tup [.int ((gT nP l c:Nat):Int),.bool (He nP l c)]∧σ'=σ):=by
 refine zf (rs:=[.tmp 4,.tmp 5]) func201 ntmps201 results201 ?_;simp only [aN];refine aY fun _ _ Z=>?_;simp[hN];apply Z;refine aY fun _ _ Z=>?_;refine zs 2 fun _ Y=>?_;simp[hN];apply Y;refine aD fun _ Y=>?_;simp[hN];refine cH (aHx N cap l rest c _ hl hN hs) ?_;apply Y;simp[hN];apply Z;apply aB;simp [aL]
theorem aCg(l:List PI)(p:PI)(σ:List (List D))(hl:l.length≤999999)(hs:cJ nP l):Ct prog 188 [.xs 2 (l.map cX),cX p] σ (fun r σ'=>r= .xs 2 ((fB nP l p).map cX)∧∃J,σ'=σ++J):=by
 refine zf (rs:=[.tmp 4]) func188 ntmps188 results188 ?_;simp only [aN];refine gE 0 2 rfl (by decide) fun cap rest hcap hcm hrest hk0 hes=>?_;subst hrest;simp only [List.length_map] at hcap ⊢;rw [cK (f:=cP) (fun _=>rfl)];have hpl:=Gx nP l p.name;refine zr qAr52 fun _ _ Z=>?_;simp(disch:=omega)[aM,aH];apply Z;refine zr qAr52 fun _ _ Z=>?_;refine zs 3 fun _ Y=>?_;simp(disch:=omega)[aM,aH];apply Y;refine aD fun _ Y=>?_;simp(disch:=omega)[aM,aH];refine cH (aBq σ.length cap l (List.replicate ((cap - l.length) * 2) .any) p.name _ (by omega) (by simp [aM]) hs) ?_;apply Y;simp(disch:=omega)[aM,aH];apply Z;apply aC;refine zr qAr52 fun _ _ Z=>?_;simp(disch:=omega)[aM,aH];apply Z;refine zi ?_;refine⟨fun c1=>?_,fun c1=>?_⟩
 ·try simp at c1
  have hlt:=Ek nP c1;refine zk [0,3,4,5] ?_;refine zr qAr52 fun _ _ Z=>?_;simp(disch:=omega)[aM,aH];and_intros<;>(try omega);apply Z;refine zr qAr52 fun _ _ Z=>?_;simp(disch:=omega)[aM,aH];apply Z;refine cV 4 2 σ.length l.length cap ((l.set (gT nP l p.name) p).map cX) ((l.set (gT nP l p.name) p).flatMap cP++List.replicate ((cap - l.length) * 2) .any) (by simp <;> rfl) (by simp [aM]) (by omega) (by simp only [List.length_append,cL (f:=cP) (k:=2) (fun _=>rfl),List.length_replicate,List.length_set];omega) (by simp) (gQ (d:=cX) (fun _=>⟨rfl,rfl⟩) _) (by rw [cK (f:=cP) (fun _=>rfl)];exact List.prefix_append _ _) ?_;apply aB;apply aJ;simp [aL,uJ,c1]
 try simp at c1
 apply aE;apply aA;refine cV 0 2 σ.length l.length cap (l.map cX) (l.flatMap cP++List.replicate ((cap - l.length) * 2) .any) (by simp <;> rfl) (by simp [aM]) (by omega) (by simp only [List.length_append,cL (f:=cP) (k:=2) (fun _=>rfl),List.length_replicate,List.length_set];omega) (by simp) (gQ (d:=cX) (fun _=>⟨rfl,rfl⟩) _) (by rw [cK (f:=cP) (fun _=>rfl)];exact List.prefix_append _ _) ?_;refine zk [0,3,4,5] ?_;refine zr qAr52 fun _ _ Z=>?_;refine zs 4 fun _ Y=>?_;simp(disch:=omega)[aM,aH];and_intros<;>(try omega);apply Y;refine aD fun _ Y=>?_;simp(disch:=omega)[aM,aH];refine cH (aGp l p (gT nP l p.name) _ (by omega) hpl) ?_;apply Y;simp(disch:=omega)[aM,aH];apply Z;apply aB;simp [aL,uJ,c1]
theorem Qg(l:List PI)(p:PI)(σ:List (List D))(hl:l.length≤999999)(hs:cJ nP l):Ct prog 188 [.xs 2 (l.map cX),cX p] σ (fun r σ'=>r= .xs 2 ((fB nP l p).map cX)∧σ'=σ):=
 (aCg l p σ hl hs).trim fun r σ' ⟨hr,J,hs⟩=>⟨σ,J,hs,rfl,by rw [hr];exact aI9 _ _,fun n cs h=> .inl h,hr,rfl⟩
theorem qL(l:List PI)(rest:List D)(i:Nat)(h:i<l.length):qZ false 1 ((l.flatMap cP++rest).drop (i * 2+1))=some (D.int l[i].value):=Ii (f:=cP) (k:=2) (fun _=>rfl) l rest i 1 h (by decide)
theorem Nl(l:List PI)(σ:List (List D))(hl:l.length≤999999):Ct prog 108 [.sl false (l.map cX)] σ (fun r σ'=>r= .xs 2 ((jK nP l).map cX)∧σ'=σ):=by
 refine zf (rs:=[.tmp 2]) func108 ntmps108 results108 ?_;simp only [aN];refine zr qAr53 fun _ _ Z=>?_;simp(disch:=omega);apply Z;refine zr qAr53 fun _ _ Z=>?_;simp(disch:=omega);apply Z;apply aC;refine zr qAr53 fun _ _ Z=>?_;simp(disch:=omega);and_intros<;>(try omega);apply Z;apply aG;refine zk [2,3,6,7,8] ?_;refine uM 3 2 (by simp <;> rfl) ?_;refine bI (fun(k:Nat)=> [(8,.d (.v (.int .i64 (k:Int)))),(3,.d (.xs 2 ((jK nP (l.take k)).map cX)))]) [3,5,8,9,10,11,12,13,14,15] (fun(k:Nat)=>k≤l.length) (fun(k:Nat)=>l.length - k) (0) (by simp <;> rfl) ?_ ?_ ?_
 ·simp [jK]
 ·simp
 rintro k hk;simp only [List.cons_append,List.nil_append];have hol:=lU nP (l.take k);simp only [List.length_take] at hol;refine zr qAr53 fun _ _ Z=>?_;simp(disch:=omega);apply Z;apply aC;refine zi ?_;refine⟨fun c1=>?_,fun c1=>?_⟩
 ·try simp at c1
  apply aE;apply aA;apply aC;apply aG;refine zr qAr53 fun _ _ Z=>?_;simp(disch:=omega);and_intros<;>(try omega);apply Z;refine zt qAr53 fun _ _ Z=>?_;refine zs 2 fun _ Y=>?_;simp(disch:=omega);apply Y;refine aD fun _ Y=>?_;simp(disch:=omega);refine cH (Qg (jK nP (l.take k)) l[k] _ (by omega) (jO nP _)) ?_;apply Y;simp(disch:=omega);apply Z;apply aK;apply aA;refine zk [2,3,6,7,8] ?_;refine zt qAr53 fun _ _ Z=>?_;simp(disch:=omega);and_intros<;>(try omega);apply Z;refine zq (k+1) ?_ ?_ ?_
  ·omega
  ·try dsimp only
   omega
  simp(disch:=omega)[zN]
 try simp at c1
 apply bC;apply bB;apply bD;apply aX;apply aA;refine zr qAr53 fun _ _ Z=>?_;simp(disch:=omega);apply Z;apply aB;simp [aL];rw [List.take_of_length_le (by omega)]
theorem Ww(l:List PI)(c:ByteArray)(σ:List (List D))(hl:l.length≤999999):Ct prog 239 [.sl false (l.map cX),D.str c] σ (fun r σ'=>(∃v:Int,r= .tup [D.int v,.bool (He nP (jK nP l) c)])∧∃J,σ'=σ++J):=by
 refine zf (rs:=[.tmp 4,.tmp 5]) func239 ntmps239 results239 ?_;simp only [aN];have hol:=lU nP l;refine zr qAr54 fun _ _ Z=>?_;simp(disch:=omega)[aM,aH,qL];apply Z;refine zr qAr54 fun _ _ Z=>?_;refine zs 1 fun _ Y=>?_;simp(disch:=omega)[aM,aH,qL];apply Y;refine aD fun _ Y=>?_;simp(disch:=omega)[aM,aH,qL];refine cH (Nl l _ hl) ?_;apply Y;simp(disch:=omega)[aM,aH,qL];apply Z;apply aC;refine gE 6 2 rfl (by decide) fun cap rest hcap hcm hrest hk0 hes=>?_;subst hrest;simp only [List.length_map] at hcap ⊢;rw [cK (f:=cP) (fun _=>rfl)];refine zr qAr54 fun _ _ Z=>?_;refine zs 2 fun _ Y=>?_;simp(disch:=omega)[aM,aH,qL];apply Y;refine aD fun _ Y=>?_;simp(disch:=omega)[aM,aH,qL];refine cH (aBq σ.length cap (jK nP l) (List.replicate ((cap - (jK nP l).length) * 2) .any) c _ (by omega) (by simp [aM]) (jO nP l)) ?_;apply Y;simp(disch:=omega)[aM,aH,qL];apply Z;refine zk [4,5,6,7,8] ?_;refine zr qAr54 fun _ _ Z=>?_;simp(disch:=omega)[aM,aH,qL];apply Z;refine zi ?_;refine⟨fun c1=>?_,fun c1=>?_⟩
 ·try simp at c1
  have hlt:=Ek nP c1;refine zr qAr54 fun _ _ Z=>?_;simp(disch:=omega)[aM,aH,qL];and_intros<;>(try omega);apply Z;apply aB;apply aJ;simp [aL,c1]
 try simp at c1
 apply aE;apply aA;refine zr qAr54 fun _ _ Z=>?_;simp(disch:=omega)[aM,aH,qL];apply Z;refine zr qAr54 fun _ _ Z=>?_;simp(disch:=omega)[aM,aH,qL];apply Z;apply aB;simp [aL,c1]
theorem Qe(l:List PI)(c:ByteArray)(σ:List (List D))(hl:l.length≤999999)(hs:cJ nP l):Ct prog 239 [.sl false (l.map cX),D.str c] σ (fun r σ'=>(∃v:Int,r= .tup [D.int v,.bool (mW nP l c)])∧σ'=σ):=
 (Ww l c σ hl).trim fun r σ' ⟨⟨v,hr⟩,J,hs'⟩=>⟨σ,J,hs',rfl,by rw [hr];exact Sc.tup fun d hd=>by simp at hd;rcases hd with rfl | rfl <;> exact Sc.v _,fun n cs h=> .inl h,⟨v,by rw [hr,pW nP hs,Qy nP hs]⟩,rfl⟩
theorem Xb(l:List PI)(c:ByteArray)(v:Int)(σ:List (List D))(hl:l.length≤99999):Ct prog 183 [.sl false (l.map cX),D.str c,D.int v] σ (fun r σ'=>r= .xs 2 ((fB nP (jK nP l) ⟨c,v⟩).map cX)∧σ'=σ):=by
 refine zf (rs:=[.tmp 6]) func183 ntmps183 results183 ?_;simp only [aN];have hol:=lU nP l;refine zr ⟨[6,9,10,12],[],[],[],[]⟩ fun _ _ Z=>?_;simp;apply Z;refine zr ⟨[6,9,10,12],[],[],[],[]⟩ fun _ _ Z=>?_;refine zs 1 fun _ Y=>?_;simp;apply Y;refine aD fun _ Y=>?_;simp;refine cH (Nl l _ (by omega)) ?_;apply Y;refine zs 3 fun _ Y=>?_;simp;apply Y;refine aD fun _ Y=>?_;simp;refine cH (Qg (jK nP l) ⟨c,v⟩ _ (by omega) (jO nP l)) ?_;apply Y;simp;apply Z;apply aB;simp [aL]
theorem aDw(l:List PI)(p:PI→Bool)(f:FuncId)(caps:List D)(σ:List (List D))(hl:l.length≤99999)(hcp:∀d∈caps,d.plain=true)(hcs:caps.map D.strip=caps)(hp:∀x τ,Ct prog f (cX x::caps) τ (fun r τ'=>r= .bool (p x)∧τ'=τ)):Ct prog 261 [.sl false (l.map cX),.clo (.func f) [] caps] σ (fun r σ'=>r= .xs 2 (((jK nP l).filter fun x=> !p x).map cX)∧σ'=σ):=by
 refine zf (rs:=[.tmp 4]) func261 ntmps261 results261 ?_;simp only [aN];have hol:=lU nP l;refine zr ⟨[4,7,8],[],[],[],[]⟩ fun _ _ Z=>?_;simp;apply Z;refine zr ⟨[4,7,8],[],[],[],[]⟩ fun _ _ Z=>?_;refine zs 1 fun _ Y=>?_;simp;apply Y;refine aD fun _ Y=>?_;simp;refine cH (Nl l _ (by omega)) ?_;apply Y;refine zs 1 fun _ Y=>?_;simp;apply Y;refine aD fun _ Y=>?_;simp;refine cH (Oa (jK nP l) p f caps _ (by omega) hcp hcs hp) ?_;apply Y;simp;apply Z;apply aB;simp [aL]
theorem Rb(x:PI)(c:ByteArray)(σ:List (List D))  :Ct prog 262 [cX x,.adr [D.str c]] σ (fun r σ'=>r= .bool (decide (x.name=c))∧σ'=σ):=by
 refine zf (rs:=[.tmp 3]) func262 ntmps262 results262 ?_;simp only [aN];refine aY fun _ _ Z=>?_;simp;apply Z;refine aY fun _ _ Z=>?_;simp;apply Z;apply aB;simp[aL]
theorem Uw(l:List PI)(c:ByteArray)(σ:List (List D))(hl:l.length≤99999):Ct prog 240 [.sl false (l.map cX),D.str c] σ (fun r σ'=>r= .xs 2 ((iY nP (jK nP l) c).map cX)∧σ'=σ):=by
 refine zf (rs:=[.tmp 4]) func240 ntmps240 results240 ?_;simp only [aN];refine zr ⟨[4],[3],[],[],[]⟩ fun _ _ Z=>?_;simp;apply Z;refine zr ⟨[4],[3],[],[],[]⟩ fun _ _ Z=>?_;refine zs 2 fun _ Y=>?_;simp;and_intros<;>(try omega);apply Y;refine aD fun _ Y=>?_;simp;refine cH (aDw l (fun x=>decide (x.name=c)) 262 [.adr [D.str c]] _ hl (by simp) (by simp) (fun x τ=>Rb x c τ)) ?_;apply Y;simp;apply Z;apply aB;simp [aL,iY]
theorem aF2(l:List PI)(c:ByteArray)(v:Int)(σ:List (List D))(hl:l.length≤99999)(hs:cJ nP l):Ct prog 183 [.sl false (l.map cX),D.str c,D.int v] σ (fun r σ'=>r= .sl false ((fB nP l ⟨c,v⟩).map cX)∧σ'=σ):=
 (Xb l c v σ hl).freeze fun r σ' h=>by rw [pW nP hs] at h;exact h
theorem aDd(l:List PI)(c:ByteArray)(σ:List (List D))(hl:l.length≤99999)(hs:cJ nP l):Ct prog 240 [.sl false (l.map cX),D.str c] σ (fun r σ'=>r= .sl false ((iY nP l c).map cX)∧σ'=σ):=
 (Uw l c σ hl).freeze fun r σ' h=>by rw [pW nP hs] at h;exact h
end Go.Proofs.YtbgfljpnhhdkoaaGreat
