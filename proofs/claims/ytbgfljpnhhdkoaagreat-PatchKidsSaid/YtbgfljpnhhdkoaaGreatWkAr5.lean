import Derived.Test.YtbgfljpnhhdkoaaGreatArProps
open Go.Proofs.Tryz
namespace Go.Proofs.YtbgfljpnhhdkoaaGreat
open Go Go.Vm
set_option maxRecDepth 20000
set_option linter.all false
set_option maxHeartbeats 8000000
abbrev nA:AT→ByteArray:=AT.name
abbrev nP:PI→ByteArray:=PI.name
theorem bR(a b:Nat):Int.fdiv ((a:Int)+(b:Int)) (2 ^ min 1 IntKind.u64.bits)=(((a+b) / 2:Nat):Int):=by
 have e:(2:Int) ^ min 1 IntKind.u64.bits=2:=by decide
 rw [e,Int.fdiv_eq_ediv_of_nonneg _ (by omega)];omega
theorem aFi:IntKind.u64.min=0:=rfl
theorem aE1:IntKind.u64.max=18446744073709551615:=by decide
theorem bQ(n:Int):Wp .u64 n=(0≤n∧n≤18446744073709551615):=by
 show(IntKind.u64.min≤n∧n≤IntKind.u64.max)=_
 rw [aFi,aE1]
theorem Jx(s:ByteArray)(σ:List (List D))  :Ct prog 258 [D.str s] σ (fun r σ'=>r= .bool false∧σ'=σ):=by
 refine zf (rs:=[.tmp 2]) func258 ntmps258 results258 ?_;simp only [aN];refine aW fun _ _ Z=>?_;simp;apply Z;refine aW fun _ _ Z=>?_;simp;apply Z;apply aC;simp [aK]
theorem zT(a b:ByteArray)(σ:List (List D))  :Ct prog 233 [D.str a,D.str b] σ (fun r σ'=>r= .int (Ad a b)∧σ'=σ):=by
 refine zf (rs:=[.tmp 4]) func233 ntmps233 results233 ?_;simp only [aN];refine aW fun _ _ Z=>?_;simp;apply Z;refine aW fun _ _ Z=>?_;refine zs 1 fun _ Y=>?_;simp;apply Y;refine aE fun _ Y=>?_;simp;refine bX (Jx a _) ?_;apply Y;simp;apply Z;refine aW fun _ _ Z=>?_;refine zs 1 fun _ Y=>?_;simp;apply Y;refine aE fun _ Y=>?_;simp;refine bX (Jx b _) ?_;apply Y;simp;apply Z;apply aB;refine aW fun _ _ Z=>?_;simp;apply Z;refine zi ?_;refine⟨fun c1=>?_,fun c1=>?_⟩
 ·simp at c1
 try simp at c1
 apply aD;apply aA;apply aB;refine aW fun _ _ Z=>?_;simp;apply Z;refine zi ?_;refine⟨fun c2=>?_,fun c2=>?_⟩
 ·simp at c2
 try simp at c2
 apply aD;apply aA;apply aB;refine aW fun _ _ Z=>?_;simp;apply Z;refine zi ?_;refine⟨fun c3=>?_,fun c3=>?_⟩
 ·try simp at c3
  refine zk [0,1,4] ?_;refine aW fun _ _ Z=>?_;simp;apply Z;apply aC;apply aI;simp [aK,Ad,cQ, *]
 try simp at c3
 apply aD;apply aA;apply aB;refine zk [0,1,4] ?_;refine aW fun _ _ Z=>?_;simp;apply Z;refine zi ?_;refine⟨fun c4=>?_,fun c4=>?_⟩
 ·try simp at c4
  refine aW fun _ _ Z=>?_;simp;apply Z;apply aC;apply aI;simp [aK,Ad,cQ, *]
 try simp at c4
 apply aD;apply aA;refine aW fun _ _ Z=>?_;simp;apply Z;apply aC;simp [aK,Ad,cQ, *]
theorem Pt(x:AT)(s:ByteArray)(σ:List (List D))  :Ct prog 232 [cY x,D.str s] σ (fun r σ'=>r= .int (Ad x.name s)∧σ'=σ):=by
 refine zf (rs:=[.tmp 4]) func232 ntmps232 results232 ?_;simp only [aN];refine aW fun _ _ Z=>?_;simp;apply Z;refine aW fun _ _ Z=>?_;refine zs 3 fun _ Y=>?_;simp;apply Y;refine aE fun _ Y=>?_;simp;refine bX (zT x.name s _) ?_;apply Y;simp;apply Z;apply aC;simp [aK]
@[simp] abbrev qAr51:Cfg:=⟨[],[],[],[13,27,43],[]⟩
theorem aIn(N cap:Nat)(l:List AT)(rest:List D)(c:ByteArray)(σ:List (List D))(hl:l.length≤1000000)(hN:σ[N]?=some (l.flatMap cA++rest))(hs:cG nA l):Ct prog 231 [.slo N 0 l.length cap,D.str c,.clo (.func 232) [] []] σ (fun r σ'=>r= .tup [.int ((gV nA l c:Nat):Int),.bool (Hr nA l c)]∧σ'=σ):=by
 refine zf (rs:=[.tmp 6,.tmp 7]) func231 ntmps231 results231 ?_;simp only [aN];refine zr qAr51 fun _ _ Z=>?_;simp(disch:=omega)[hN,bR,bQ];apply Z;refine zr qAr51 fun _ _ Z=>?_;simp(disch:=omega)[hN,bR,bQ];and_intros<;>(try omega);apply Z;refine zr qAr51 fun _ _ Z=>?_;simp(disch:=omega)[hN,bR,bQ];apply Z;apply aB;apply aF;refine zk [0,1,2,6,7,8,9,10] ?_;refine bA (fun(s:Nat×Nat)=> [(9,.d (.v (.int .i64 (s.1:Int)))),(10,.d (.v (.int .i64 (s.2:Int)))),(11,.d (.any))]) [9,10,11,15,16,17,18,19,20,21,22,23,24,25,26,27,28,29,30,31,32,33,34] (fun(s:Nat×Nat)=>s.1≤s.2∧s.2≤l.length∧(∀j (h:j<l.length),j<s.1→cQ l[j].name c=true)∧(∀j (h:j<l.length),s.2≤j→cQ l[j].name c=false)) (fun(s:Nat×Nat)=>s.2 - s.1) ((0,l.length)) (by simp <;> rfl) ?_ ?_ ?_
 ·simp
 ·exact⟨by omega,by omega,fun j h h2=>absurd h2 (by simp),fun j h h2=>absurd h2 (by simp;omega)⟩
 rintro⟨lo,hi⟩ ⟨h1,h2,h3,h4⟩;simp only [List.cons_append,List.nil_append];dsimp only at h1 h2 h3 h4;have hmid:lo<hi→(lo+hi) / 2<hi:=fun h=>by omega
 apply aB;refine zr qAr51 fun _ _ Z=>?_;simp(disch:=omega)[hN,bR,bQ];apply Z;refine zi ?_;refine⟨fun c1=>?_,fun c1=>?_⟩
 ·try simp at c1
  apply aD;apply aA;apply aF;refine zk [0,1,2,6,7,8,9,10,11] ?_;refine zr qAr51 fun _ _ Z=>?_;simp(disch:=omega)[hN,bR,bQ];and_intros<;>(try omega);apply Z;refine zk [0,1,2,6,7,8,9,10,11] ?_;refine zr qAr51 fun _ _ Z=>?_;refine zs 6 fun _ Y=>?_;simp(disch:=omega)[hN,bR,bQ];and_intros<;>(try omega);apply Y;refine aE fun _ Y=>?_;simp(disch:=omega)[hN,bR,bQ];refine bX (Pt l[(lo+hi) / 2] c _) ?_;apply Y;simp(disch:=omega)[hN,bR,bQ];apply Z;refine zi ?_;refine⟨fun c2=>?_,fun c2=>?_⟩
  ·try simp at c2
   refine zk [0,1,2,6,7,8,9,10,11] ?_;refine zt qAr51 fun _ _ Z=>?_;simp(disch:=omega)[hN,bR,bQ];and_intros<;>(try omega);apply Z;apply aH;refine zq (((lo+hi) / 2+1,hi)) ?_ ?_ ?_
   ·exact⟨by dsimp only;omega,by dsimp only;omega,aHe nA hs (by omega) (by simpa [zX] using c2),h4⟩
   ·try dsimp only
    omega
   simp(disch:=omega)[hN,bR,bQ]
  try simp at c2
  refine zk [0,1,2,6,7,8,9,10,11] ?_;refine zt qAr51 fun _ _ Z=>?_;simp(disch:=omega)[hN,bR,bQ];apply Z;apply aH;refine zq ((lo,(lo+hi) / 2)) ?_ ?_ ?_
  ·exact⟨by dsimp only;omega,by dsimp only;omega,h3,aHg nA hs (by omega) ((Qo _ _).1 (by omega))⟩
  ·try dsimp only
   omega
  simp(disch:=omega)[hN,bR,bQ]
 try simp at c1
 obtain rfl:lo=hi:=by omega
 have hpos:gV nA l c=lo:=Fc nA l c lo h2 h3 (fun h=>h4 lo h (Nat.le_refl _));apply aY;apply aX;apply aZ;apply aR;apply aA;refine zk [0,1,2,6,7,8,9] ?_;refine kX qAr51 fun all hall _ Z=>?_;have ga4:aO all 4=some 39:=hall 4;refine zs 5 fun _ Y=>?_;simp(disch:=omega)[hN,bR,bQ,ga4];apply Y;refine aS 39 (by simp <;> rfl) ?_;refine⟨fun g3=>?_,fun g3=>?_⟩
 ·try simp at g3
  refine zs 6 fun _ Y=>?_;simp(disch:=omega)[hN,bR,bQ,ga4];and_intros<;>(try omega);apply Y;refine zg ga4 fun _ Y=>?_;simp(disch:=omega)[hN,bR,bQ,ga4];refine bX (Pt l[lo] c _) ?_;apply Y;simp(disch:=omega)[hN,bR,bQ,ga4];apply Z;apply aC;simp [aK,hpos,Ov, *];exact Du _ _
 try simp at g3
 refine zs 8 fun _ Y=>?_;simp(disch:=omega)[hN,bR,bQ,ga4];and_intros<;>(try omega);apply Y;simp(disch:=omega)[hN,bR,bQ,ga4];apply Z;apply aC;simp [aK,hpos, *];exact yO _ _ _ (by omega)
theorem Zw(N cap:Nat)(l:List AT)(rest:List D)(c:ByteArray)(σ:List (List D))(hl:l.length≤1000000)(hN:σ[N]?=some (l.flatMap cA++rest))(hs:cG nA l):Ct prog 198 [.slo N 0 l.length cap,D.str c] σ (fun r σ'=>r= .tup [.int ((gV nA l c:Nat):Int),.bool (Hr nA l c)]∧σ'=σ):=by
 refine zf (rs:=[.tmp 4,.tmp 5]) func198 ntmps198 results198 ?_;simp only [aN];refine aW fun _ _ Z=>?_;simp[hN];apply Z;refine aW fun _ _ Z=>?_;refine zs 2 fun _ Y=>?_;simp[hN];apply Y;refine aE fun _ Y=>?_;simp[hN];refine bX (aIn N cap l rest c _ hl hN hs) ?_;apply Y;simp[hN];apply Z;apply aC;simp [aK]
@[simp] abbrev qAr52:Cfg:=⟨[4,19,20,24],[],[],[18],[]⟩
theorem aBc(l:List AT)(p:AT)(σ:List (List D))(hl:l.length≤999999)(hs:cG nA l):Ct prog 187 [.xs 2 (l.map cY),cY p] σ (fun r σ'=>r= .xs 2 ((fC nA l p).map cY)∧∃J,σ'=σ++J):=by
 refine zf (rs:=[.tmp 4]) func187 ntmps187 results187 ?_;simp only [aN];refine fY 0 2 rfl (by decide) fun cap rest hcap hcm hrest hk0 hes=>?_;subst hrest;simp only [List.length_map] at hcap ⊢;rw [cH (f:=cA) (fun _=>rfl)];have hpl:=Fu nA l p.name;refine zr qAr52 fun _ _ Z=>?_;simp(disch:=omega)[aM,aJ];apply Z;refine zr qAr52 fun _ _ Z=>?_;refine zs 3 fun _ Y=>?_;simp(disch:=omega)[aM,aJ];apply Y;refine aE fun _ Y=>?_;simp(disch:=omega)[aM,aJ];refine bX (Zw σ.length cap l (List.replicate ((cap - l.length) * 2) .any) p.name _ (by omega) (by simp [aM]) hs) ?_;apply Y;simp(disch:=omega)[aM,aJ];apply Z;apply aB;refine zr qAr52 fun _ _ Z=>?_;simp(disch:=omega)[aM,aJ];apply Z;refine zi ?_;refine⟨fun c1=>?_,fun c1=>?_⟩
 ·try simp at c1
  have hlt:=Hc nA c1;refine zk [0,3,4,5] ?_;refine zr qAr52 fun _ _ Z=>?_;simp(disch:=omega)[aM,aJ];and_intros<;>(try omega);apply Z;refine zr qAr52 fun _ _ Z=>?_;simp(disch:=omega)[aM,aJ];apply Z;refine cT 4 2 σ.length l.length cap ((l.set (gV nA l p.name) p).map cY) ((l.set (gV nA l p.name) p).flatMap cA++List.replicate ((cap - l.length) * 2) .any) (by simp <;> rfl) (by simp [aM]) (by omega) (by simp only [List.length_append,cJ (f:=cA) (k:=2) (fun _=>rfl),List.length_replicate,List.length_set];omega) (by simp) (gP (d:=cY) (fun _=>⟨rfl,rfl⟩) _) (by rw [cH (f:=cA) (fun _=>rfl)];exact List.prefix_append _ _) ?_;apply aC;apply aI;simp [aK,tP,c1]
 try simp at c1
 apply aD;apply aA;refine cT 0 2 σ.length l.length cap (l.map cY) (l.flatMap cA++List.replicate ((cap - l.length) * 2) .any) (by simp <;> rfl) (by simp [aM]) (by omega) (by simp only [List.length_append,cJ (f:=cA) (k:=2) (fun _=>rfl),List.length_replicate,List.length_set];omega) (by simp) (gP (d:=cY) (fun _=>⟨rfl,rfl⟩) _) (by rw [cH (f:=cA) (fun _=>rfl)];exact List.prefix_append _ _) ?_;refine zk [0,3,4,5] ?_;refine zr qAr52 fun _ _ Z=>?_;refine zs 4 fun _ Y=>?_;simp(disch:=omega)[aM,aJ];and_intros<;>(try omega);apply Y;refine aE fun _ Y=>?_;simp(disch:=omega)[aM,aJ];refine bX (aD4 l p (gV nA l p.name) _ (by omega) hpl) ?_;apply Y;simp(disch:=omega)[aM,aJ];apply Z;apply aC;simp [aK,tP,c1]
theorem Ph(l:List AT)(p:AT)(σ:List (List D))(hl:l.length≤999999)(hs:cG nA l):Ct prog 187 [.xs 2 (l.map cY),cY p] σ (fun r σ'=>r= .xs 2 ((fC nA l p).map cY)∧σ'=σ):=
 (aBc l p σ hl hs).trim fun r σ' ⟨hr,J,hs⟩=>⟨σ,J,hs,rfl,by rw [hr];exact aI5 _ _,fun n cs h=> .inl h,hr,rfl⟩
theorem qG(l:List AT)(rest:List D)(i:Nat)(h:i<l.length):rI false 1 ((l.flatMap cA++rest).drop (i * 2+1))=some (D.str l[i].value):=Kv (f:=cA) (k:=2) (fun _=>rfl) l rest i 1 h (by decide)
@[simp] abbrev qAr53:Cfg:=⟨[2,3,12,14,16],[],[],[],[]⟩
theorem Om(l:List AT)(σ:List (List D))(hl:l.length≤999999):Ct prog 107 [.sl false (l.map cY)] σ (fun r σ'=>r= .xs 2 ((jL nA l).map cY)∧σ'=σ):=by
 refine zf (rs:=[.tmp 2]) func107 ntmps107 results107 ?_;simp only [aN];refine zr qAr53 fun _ _ Z=>?_;simp(disch:=omega);apply Z;refine zr qAr53 fun _ _ Z=>?_;simp(disch:=omega);apply Z;apply aB;refine zr qAr53 fun _ _ Z=>?_;simp(disch:=omega);and_intros<;>(try omega);apply Z;apply aF;refine zk [2,3,6,7,8] ?_;refine tE 3 2 (by simp <;> rfl) ?_;refine bA (fun(k:Nat)=> [(8,.d (.v (.int .i64 (k:Int)))),(3,.d (.xs 2 ((jL nA (l.take k)).map cY)))]) [3,5,8,9,10,11,12,13,14,15] (fun(k:Nat)=>k≤l.length) (fun(k:Nat)=>l.length - k) (0) (by simp <;> rfl) ?_ ?_ ?_
 ·simp [jL]
 ·simp
 rintro k hk;simp only [List.cons_append,List.nil_append];have hol:=lU nA (l.take k);simp only [List.length_take] at hol;refine zr qAr53 fun _ _ Z=>?_;simp(disch:=omega);apply Z;apply aB;refine zi ?_;refine⟨fun c1=>?_,fun c1=>?_⟩
 ·try simp at c1
  apply aD;apply aA;apply aB;apply aF;refine zr qAr53 fun _ _ Z=>?_;simp(disch:=omega);and_intros<;>(try omega);apply Z;refine zt qAr53 fun _ _ Z=>?_;refine zs 2 fun _ Y=>?_;simp(disch:=omega);apply Y;refine aE fun _ Y=>?_;simp(disch:=omega);refine bX (Ph (jL nA (l.take k)) l[k] _ (by omega) (jN nA _)) ?_;apply Y;simp(disch:=omega);apply Z;apply aH;apply aA;refine zk [2,3,6,7,8] ?_;refine zt qAr53 fun _ _ Z=>?_;simp(disch:=omega);and_intros<;>(try omega);apply Z;refine zq (k+1) ?_ ?_ ?_
  ·omega
  ·try dsimp only
   omega
  simp(disch:=omega)[yX]
 try simp at c1
 apply aY;apply aX;apply aZ;apply aR;apply aA;refine zr qAr53 fun _ _ Z=>?_;simp(disch:=omega);apply Z;apply aC;simp [aK];rw [List.take_of_length_le (by omega)]
@[simp] abbrev qAr54:Cfg:=⟨[6,11],[],[],[21],[]⟩
theorem aC5(l:List AT)(c:ByteArray)(σ:List (List D))(hl:l.length≤999999):Ct prog 234 [.sl false (l.map cY),D.str c] σ (fun r σ'=>(∃v:ByteArray,r= .tup [D.str v,.bool (Hr nA (jL nA l) c)])∧∃J,σ'=σ++J):=by
 refine zf (rs:=[.tmp 4,.tmp 5]) func234 ntmps234 results234 ?_;simp only [aN];have hol:=lU nA l;refine zr qAr54 fun _ _ Z=>?_;simp(disch:=omega)[aM,aJ,qG];apply Z;refine zr qAr54 fun _ _ Z=>?_;refine zs 1 fun _ Y=>?_;simp(disch:=omega)[aM,aJ,qG];apply Y;refine aE fun _ Y=>?_;simp(disch:=omega)[aM,aJ,qG];refine bX (Om l _ hl) ?_;apply Y;simp(disch:=omega)[aM,aJ,qG];apply Z;apply aB;refine fY 6 2 rfl (by decide) fun cap rest hcap hcm hrest hk0 hes=>?_;subst hrest;simp only [List.length_map] at hcap ⊢;rw [cH (f:=cA) (fun _=>rfl)];refine zr qAr54 fun _ _ Z=>?_;refine zs 2 fun _ Y=>?_;simp(disch:=omega)[aM,aJ,qG];apply Y;refine aE fun _ Y=>?_;simp(disch:=omega)[aM,aJ,qG];refine bX (Zw σ.length cap (jL nA l) (List.replicate ((cap - (jL nA l).length) * 2) .any) c _ (by omega) (by simp [aM]) (jN nA l)) ?_;apply Y;simp(disch:=omega)[aM,aJ,qG];apply Z;refine zk [4,5,6,7,8] ?_;refine zr qAr54 fun _ _ Z=>?_;simp(disch:=omega)[aM,aJ,qG];apply Z;refine zi ?_;refine⟨fun c1=>?_,fun c1=>?_⟩
 ·try simp at c1
  have hlt:=Hc nA c1;refine zr qAr54 fun _ _ Z=>?_;simp(disch:=omega)[aM,aJ,qG];and_intros<;>(try omega);apply Z;apply aC;apply aI;simp [aK,c1]
 try simp at c1
 apply aD;apply aA;refine zr qAr54 fun _ _ Z=>?_;simp(disch:=omega)[aM,aJ,qG];apply Z;refine zr qAr54 fun _ _ Z=>?_;simp(disch:=omega)[aM,aJ,qG];apply Z;apply aC;simp [aK,c1]
theorem Pq(l:List AT)(c:ByteArray)(σ:List (List D))(hl:l.length≤999999)(hs:cG nA l):Ct prog 234 [.sl false (l.map cY),D.str c] σ (fun r σ'=>(∃v:ByteArray,r= .tup [D.str v,.bool (mY nA l c)])∧σ'=σ):=
 (aC5 l c σ hl).trim fun r σ' ⟨⟨v,hr⟩,J,hs'⟩=>⟨σ,J,hs',rfl,by rw [hr];exact Sc.tup fun d hd=>by simp at hd;rcases hd with rfl | rfl <;> exact Sc.v _,fun n cs h=> .inl h,⟨v,by rw [hr,qJ nA hs,Qb nA hs]⟩,rfl⟩
theorem Zq(l:List AT)(c:ByteArray)(v:ByteArray)(σ:List (List D))(hl:l.length≤99999):Ct prog 182 [.sl false (l.map cY),D.str c,D.str v] σ (fun r σ'=>r= .xs 2 ((fC nA (jL nA l) ⟨c,v⟩).map cY)∧σ'=σ):=by
 refine zf (rs:=[.tmp 6]) func182 ntmps182 results182 ?_;simp only [aN];have hol:=lU nA l;refine zr ⟨[6,9,10,12],[],[],[],[]⟩ fun _ _ Z=>?_;simp;apply Z;refine zr ⟨[6,9,10,12],[],[],[],[]⟩ fun _ _ Z=>?_;refine zs 1 fun _ Y=>?_;simp;apply Y;refine aE fun _ Y=>?_;simp;refine bX (Om l _ (by omega)) ?_;apply Y;refine zs 3 fun _ Y=>?_;simp;apply Y;refine aE fun _ Y=>?_;simp;refine bX (Ph (jL nA l) ⟨c,v⟩ _ (by omega) (jN nA l)) ?_;apply Y;simp;apply Z;apply aC;simp [aK]
theorem aEm(l:List AT)(p:AT→Bool)(f:FuncId)(caps:List D)(σ:List (List D))(hl:l.length≤99999)(hcp:∀d∈caps,d.plain=true)(hcs:caps.map D.strip=caps)(hp:∀x τ,Ct prog f (cY x::caps) τ (fun r τ'=>r= .bool (p x)∧τ'=τ)):Ct prog 259 [.sl false (l.map cY),.clo (.func f) [] caps] σ (fun r σ'=>r= .xs 2 (((jL nA l).filter fun x=> !p x).map cY)∧σ'=σ):=by
 refine zf (rs:=[.tmp 4]) func259 ntmps259 results259 ?_;simp only [aN];have hol:=lU nA l;refine zr ⟨[4,7,8],[],[],[],[]⟩ fun _ _ Z=>?_;simp;apply Z;refine zr ⟨[4,7,8],[],[],[],[]⟩ fun _ _ Z=>?_;refine zs 1 fun _ Y=>?_;simp;apply Y;refine aE fun _ Y=>?_;simp;refine bX (Om l _ (by omega)) ?_;apply Y;refine zs 1 fun _ Y=>?_;simp;apply Y;refine aE fun _ Y=>?_;simp;refine bX (Nv (jL nA l) p f caps _ (by omega) hcp hcs hp) ?_;apply Y;simp;apply Z;apply aC;simp [aK]
theorem Th(x:AT)(c:ByteArray)(σ:List (List D))  :Ct prog 260 [cY x,.adr [D.str c]] σ (fun r σ'=>r= .bool (decide (x.name=c))∧σ'=σ):=by
 refine zf (rs:=[.tmp 3]) func260 ntmps260 results260 ?_;simp only [aN];refine aW fun _ _ Z=>?_;simp;apply Z;refine aW fun _ _ Z=>?_;simp;apply Z;apply aC;simp[aK]
theorem Ti(l:List AT)(c:ByteArray)(σ:List (List D))(hl:l.length≤99999):Ct prog 235 [.sl false (l.map cY),D.str c] σ (fun r σ'=>r= .xs 2 ((jF nA (jL nA l) c).map cY)∧σ'=σ):=by
 refine zf (rs:=[.tmp 4]) func235 ntmps235 results235 ?_;simp only [aN];refine zr ⟨[4],[3],[],[],[]⟩ fun _ _ Z=>?_;simp;apply Z;refine zr ⟨[4],[3],[],[],[]⟩ fun _ _ Z=>?_;refine zs 2 fun _ Y=>?_;simp;and_intros<;>(try omega);apply Y;refine aE fun _ Y=>?_;simp;refine bX (aEm l (fun x=>decide (x.name=c)) 260 [.adr [D.str c]] _ hl (by simp) (by simp) (fun x τ=>Th x c τ)) ?_;apply Y;simp;apply Z;apply aC;simp [aK,jF]
theorem aE4(l:List AT)(c:ByteArray)(v:ByteArray)(σ:List (List D))(hl:l.length≤99999)(hs:cG nA l):Ct prog 182 [.sl false (l.map cY),D.str c,D.str v] σ (fun r σ'=>r= .sl false ((fC nA l ⟨c,v⟩).map cY)∧σ'=σ):=
 (Zq l c v σ hl).freeze fun r σ' h=>by rw [qJ nA hs] at h;exact h
theorem aA6(l:List AT)(c:ByteArray)(σ:List (List D))(hl:l.length≤99999)(hs:cG nA l):Ct prog 235 [.sl false (l.map cY),D.str c] σ (fun r σ'=>r= .sl false ((jF nA l c).map cY)∧σ'=σ):=
 (Ti l c σ hl).freeze fun r σ' h=>by rw [qJ nA hs] at h;exact h
theorem Qz(x:PI)(s:ByteArray)(σ:List (List D))  :Ct prog 237 [cV x,D.str s] σ (fun r σ'=>r= .int (Ad x.name s)∧σ'=σ):=by
 refine zf (rs:=[.tmp 4]) func237 ntmps237 results237 ?_;simp only [aN];refine aW fun _ _ Z=>?_;simp;apply Z;refine aW fun _ _ Z=>?_;refine zs 3 fun _ Y=>?_;simp;apply Y;refine aE fun _ Y=>?_;simp;refine bX (zT x.name s _) ?_;apply Y;simp;apply Z;apply aC;simp [aK]
theorem aJa(N cap:Nat)(l:List PI)(rest:List D)(c:ByteArray)(σ:List (List D))(hl:l.length≤1000000)(hN:σ[N]?=some (l.flatMap cP++rest))(hs:cG nP l):Ct prog 236 [.slo N 0 l.length cap,D.str c,.clo (.func 237) [] []] σ (fun r σ'=>r= .tup [.int ((gV nP l c:Nat):Int),.bool (Hr nP l c)]∧σ'=σ):=by
 refine zf (rs:=[.tmp 6,.tmp 7]) func236 ntmps236 results236 ?_;simp only [aN];refine zr qAr51 fun _ _ Z=>?_;simp(disch:=omega)[hN,bR,bQ];apply Z;refine zr qAr51 fun _ _ Z=>?_;simp(disch:=omega)[hN,bR,bQ];and_intros<;>(try omega);apply Z;refine zr qAr51 fun _ _ Z=>?_;simp(disch:=omega)[hN,bR,bQ];apply Z;apply aB;apply aF;refine zk [0,1,2,6,7,8,9,10] ?_;refine bA (fun(s:Nat×Nat)=> [(9,.d (.v (.int .i64 (s.1:Int)))),(10,.d (.v (.int .i64 (s.2:Int)))),(11,.d (.any))]) [9,10,11,15,16,17,18,19,20,21,22,23,24,25,26,27,28,29,30,31,32,33,34] (fun(s:Nat×Nat)=>s.1≤s.2∧s.2≤l.length∧(∀j (h:j<l.length),j<s.1→cQ l[j].name c=true)∧(∀j (h:j<l.length),s.2≤j→cQ l[j].name c=false)) (fun(s:Nat×Nat)=>s.2 - s.1) ((0,l.length)) (by simp <;> rfl) ?_ ?_ ?_
 ·simp
 ·exact⟨by omega,by omega,fun j h h2=>absurd h2 (by simp),fun j h h2=>absurd h2 (by simp;omega)⟩
 rintro⟨lo,hi⟩ ⟨h1,h2,h3,h4⟩;simp only [List.cons_append,List.nil_append];dsimp only at h1 h2 h3 h4;have hmid:lo<hi→(lo+hi) / 2<hi:=fun h=>by omega
 apply aB;refine zr qAr51 fun _ _ Z=>?_;simp(disch:=omega)[hN,bR,bQ];apply Z;refine zi ?_;refine⟨fun c1=>?_,fun c1=>?_⟩
 ·try simp at c1
  apply aD;apply aA;apply aF;refine zk [0,1,2,6,7,8,9,10,11] ?_;refine zr qAr51 fun _ _ Z=>?_;simp(disch:=omega)[hN,bR,bQ];and_intros<;>(try omega);apply Z;refine zk [0,1,2,6,7,8,9,10,11] ?_;refine zr qAr51 fun _ _ Z=>?_;refine zs 6 fun _ Y=>?_;simp(disch:=omega)[hN,bR,bQ];and_intros<;>(try omega);apply Y;refine aE fun _ Y=>?_;simp(disch:=omega)[hN,bR,bQ];refine bX (Qz l[(lo+hi) / 2] c _) ?_;apply Y;simp(disch:=omega)[hN,bR,bQ];apply Z;refine zi ?_;refine⟨fun c2=>?_,fun c2=>?_⟩
  ·try simp at c2
   refine zk [0,1,2,6,7,8,9,10,11] ?_;refine zt qAr51 fun _ _ Z=>?_;simp(disch:=omega)[hN,bR,bQ];and_intros<;>(try omega);apply Z;apply aH;refine zq (((lo+hi) / 2+1,hi)) ?_ ?_ ?_
   ·exact⟨by dsimp only;omega,by dsimp only;omega,aHe nP hs (by omega) (by simpa [zX] using c2),h4⟩
   ·try dsimp only
    omega
   simp(disch:=omega)[hN,bR,bQ]
  try simp at c2
  refine zk [0,1,2,6,7,8,9,10,11] ?_;refine zt qAr51 fun _ _ Z=>?_;simp(disch:=omega)[hN,bR,bQ];apply Z;apply aH;refine zq ((lo,(lo+hi) / 2)) ?_ ?_ ?_
  ·exact⟨by dsimp only;omega,by dsimp only;omega,h3,aHg nP hs (by omega) ((Qo _ _).1 (by omega))⟩
  ·try dsimp only
   omega
  simp(disch:=omega)[hN,bR,bQ]
 try simp at c1
 obtain rfl:lo=hi:=by omega
 have hpos:gV nP l c=lo:=Fc nP l c lo h2 h3 (fun h=>h4 lo h (Nat.le_refl _));apply aY;apply aX;apply aZ;apply aR;apply aA;refine zk [0,1,2,6,7,8,9] ?_;refine kX qAr51 fun all hall _ Z=>?_;have ga4:aO all 4=some 39:=hall 4;refine zs 5 fun _ Y=>?_;simp(disch:=omega)[hN,bR,bQ,ga4];apply Y;refine aS 39 (by simp <;> rfl) ?_;refine⟨fun g3=>?_,fun g3=>?_⟩
 ·try simp at g3
  refine zs 6 fun _ Y=>?_;simp(disch:=omega)[hN,bR,bQ,ga4];and_intros<;>(try omega);apply Y;refine zg ga4 fun _ Y=>?_;simp(disch:=omega)[hN,bR,bQ,ga4];refine bX (Qz l[lo] c _) ?_;apply Y;simp(disch:=omega)[hN,bR,bQ,ga4];apply Z;apply aC;simp [aK,hpos,Ov, *];exact Du _ _
 try simp at g3
 refine zs 8 fun _ Y=>?_;simp(disch:=omega)[hN,bR,bQ,ga4];and_intros<;>(try omega);apply Y;simp(disch:=omega)[hN,bR,bQ,ga4];apply Z;apply aC;simp [aK,hpos, *];exact yO _ _ _ (by omega)
theorem aBy(N cap:Nat)(l:List PI)(rest:List D)(c:ByteArray)(σ:List (List D))(hl:l.length≤1000000)(hN:σ[N]?=some (l.flatMap cP++rest))(hs:cG nP l):Ct prog 201 [.slo N 0 l.length cap,D.str c] σ (fun r σ'=>r= .tup [.int ((gV nP l c:Nat):Int),.bool (Hr nP l c)]∧σ'=σ):=by
 refine zf (rs:=[.tmp 4,.tmp 5]) func201 ntmps201 results201 ?_;simp only [aN];refine aW fun _ _ Z=>?_;simp[hN];apply Z;refine aW fun _ _ Z=>?_;refine zs 2 fun _ Y=>?_;simp[hN];apply Y;refine aE fun _ Y=>?_;simp[hN];refine bX (aJa N cap l rest c _ hl hN hs) ?_;apply Y;simp[hN];apply Z;apply aC;simp [aK]
theorem Yi(l:List PI)(p:PI)(σ:List (List D))(hl:l.length≤999999)(hs:cG nP l):Ct prog 188 [.xs 2 (l.map cV),cV p] σ (fun r σ'=>r= .xs 2 ((fC nP l p).map cV)∧∃J,σ'=σ++J):=by
 refine zf (rs:=[.tmp 4]) func188 ntmps188 results188 ?_;simp only [aN];refine fY 0 2 rfl (by decide) fun cap rest hcap hcm hrest hk0 hes=>?_;subst hrest;simp only [List.length_map] at hcap ⊢;rw [cH (f:=cP) (fun _=>rfl)];have hpl:=Fu nP l p.name;refine zr qAr52 fun _ _ Z=>?_;simp(disch:=omega)[aM,aJ];apply Z;refine zr qAr52 fun _ _ Z=>?_;refine zs 3 fun _ Y=>?_;simp(disch:=omega)[aM,aJ];apply Y;refine aE fun _ Y=>?_;simp(disch:=omega)[aM,aJ];refine bX (aBy σ.length cap l (List.replicate ((cap - l.length) * 2) .any) p.name _ (by omega) (by simp [aM]) hs) ?_;apply Y;simp(disch:=omega)[aM,aJ];apply Z;apply aB;refine zr qAr52 fun _ _ Z=>?_;simp(disch:=omega)[aM,aJ];apply Z;refine zi ?_;refine⟨fun c1=>?_,fun c1=>?_⟩
 ·try simp at c1
  have hlt:=Hc nP c1;refine zk [0,3,4,5] ?_;refine zr qAr52 fun _ _ Z=>?_;simp(disch:=omega)[aM,aJ];and_intros<;>(try omega);apply Z;refine zr qAr52 fun _ _ Z=>?_;simp(disch:=omega)[aM,aJ];apply Z;refine cT 4 2 σ.length l.length cap ((l.set (gV nP l p.name) p).map cV) ((l.set (gV nP l p.name) p).flatMap cP++List.replicate ((cap - l.length) * 2) .any) (by simp <;> rfl) (by simp [aM]) (by omega) (by simp only [List.length_append,cJ (f:=cP) (k:=2) (fun _=>rfl),List.length_replicate,List.length_set];omega) (by simp) (gP (d:=cV) (fun _=>⟨rfl,rfl⟩) _) (by rw [cH (f:=cP) (fun _=>rfl)];exact List.prefix_append _ _) ?_;apply aC;apply aI;simp [aK,tP,c1]
 try simp at c1
 apply aD;apply aA;refine cT 0 2 σ.length l.length cap (l.map cV) (l.flatMap cP++List.replicate ((cap - l.length) * 2) .any) (by simp <;> rfl) (by simp [aM]) (by omega) (by simp only [List.length_append,cJ (f:=cP) (k:=2) (fun _=>rfl),List.length_replicate,List.length_set];omega) (by simp) (gP (d:=cV) (fun _=>⟨rfl,rfl⟩) _) (by rw [cH (f:=cP) (fun _=>rfl)];exact List.prefix_append _ _) ?_;refine zk [0,3,4,5] ?_;refine zr qAr52 fun _ _ Z=>?_;refine zs 4 fun _ Y=>?_;simp(disch:=omega)[aM,aJ];and_intros<;>(try omega);apply Y;refine aE fun _ Y=>?_;simp(disch:=omega)[aM,aJ];refine bX (aEz l p (gV nP l p.name) _ (by omega) hpl) ?_;apply Y;simp(disch:=omega)[aM,aJ];apply Z;apply aC;simp [aK,tP,c1]
theorem Ra(l:List PI)(p:PI)(σ:List (List D))(hl:l.length≤999999)(hs:cG nP l):Ct prog 188 [.xs 2 (l.map cV),cV p] σ (fun r σ'=>r= .xs 2 ((fC nP l p).map cV)∧σ'=σ):=
 (Yi l p σ hl hs).trim fun r σ' ⟨hr,J,hs⟩=>⟨σ,J,hs,rfl,by rw [hr];exact aHu _ _,fun n cs h=> .inl h,hr,rfl⟩
theorem qH(l:List PI)(rest:List D)(i:Nat)(h:i<l.length):rI false 1 ((l.flatMap cP++rest).drop (i * 2+1))=some (D.int l[i].value):=Kv (f:=cP) (k:=2) (fun _=>rfl) l rest i 1 h (by decide)
theorem Lp(l:List PI)(σ:List (List D))(hl:l.length≤999999):Ct prog 108 [.sl false (l.map cV)] σ (fun r σ'=>r= .xs 2 ((jL nP l).map cV)∧σ'=σ):=by
 refine zf (rs:=[.tmp 2]) func108 ntmps108 results108 ?_;simp only [aN];refine zr qAr53 fun _ _ Z=>?_;simp(disch:=omega);apply Z;refine zr qAr53 fun _ _ Z=>?_;simp(disch:=omega);apply Z;apply aB;refine zr qAr53 fun _ _ Z=>?_;simp(disch:=omega);and_intros<;>(try omega);apply Z;apply aF;refine zk [2,3,6,7,8] ?_;refine tE 3 2 (by simp <;> rfl) ?_;refine bA (fun(k:Nat)=> [(8,.d (.v (.int .i64 (k:Int)))),(3,.d (.xs 2 ((jL nP (l.take k)).map cV)))]) [3,5,8,9,10,11,12,13,14,15] (fun(k:Nat)=>k≤l.length) (fun(k:Nat)=>l.length - k) (0) (by simp <;> rfl) ?_ ?_ ?_
 ·simp [jL]
 ·simp
 rintro k hk;simp only [List.cons_append,List.nil_append];have hol:=lU nP (l.take k);simp only [List.length_take] at hol;refine zr qAr53 fun _ _ Z=>?_;simp(disch:=omega);apply Z;apply aB;refine zi ?_;refine⟨fun c1=>?_,fun c1=>?_⟩
 ·try simp at c1
  apply aD;apply aA;apply aB;apply aF;refine zr qAr53 fun _ _ Z=>?_;simp(disch:=omega);and_intros<;>(try omega);apply Z;refine zt qAr53 fun _ _ Z=>?_;refine zs 2 fun _ Y=>?_;simp(disch:=omega);apply Y;refine aE fun _ Y=>?_;simp(disch:=omega);refine bX (Ra (jL nP (l.take k)) l[k] _ (by omega) (jN nP _)) ?_;apply Y;simp(disch:=omega);apply Z;apply aH;apply aA;refine zk [2,3,6,7,8] ?_;refine zt qAr53 fun _ _ Z=>?_;simp(disch:=omega);and_intros<;>(try omega);apply Z;refine zq (k+1) ?_ ?_ ?_
  ·omega
  ·try dsimp only
   omega
  simp(disch:=omega)[yX]
 try simp at c1
 apply aY;apply aX;apply aZ;apply aR;apply aA;refine zr qAr53 fun _ _ Z=>?_;simp(disch:=omega);apply Z;apply aC;simp [aK];rw [List.take_of_length_le (by omega)]
theorem aCx(l:List PI)(c:ByteArray)(σ:List (List D))(hl:l.length≤999999):Ct prog 239 [.sl false (l.map cV),D.str c] σ (fun r σ'=>(∃v:Int,r= .tup [D.int v,.bool (Hr nP (jL nP l) c)])∧∃J,σ'=σ++J):=by
 refine zf (rs:=[.tmp 4,.tmp 5]) func239 ntmps239 results239 ?_;simp only [aN];have hol:=lU nP l;refine zr qAr54 fun _ _ Z=>?_;simp(disch:=omega)[aM,aJ,qH];apply Z;refine zr qAr54 fun _ _ Z=>?_;refine zs 1 fun _ Y=>?_;simp(disch:=omega)[aM,aJ,qH];apply Y;refine aE fun _ Y=>?_;simp(disch:=omega)[aM,aJ,qH];refine bX (Lp l _ hl) ?_;apply Y;simp(disch:=omega)[aM,aJ,qH];apply Z;apply aB;refine fY 6 2 rfl (by decide) fun cap rest hcap hcm hrest hk0 hes=>?_;subst hrest;simp only [List.length_map] at hcap ⊢;rw [cH (f:=cP) (fun _=>rfl)];refine zr qAr54 fun _ _ Z=>?_;refine zs 2 fun _ Y=>?_;simp(disch:=omega)[aM,aJ,qH];apply Y;refine aE fun _ Y=>?_;simp(disch:=omega)[aM,aJ,qH];refine bX (aBy σ.length cap (jL nP l) (List.replicate ((cap - (jL nP l).length) * 2) .any) c _ (by omega) (by simp [aM]) (jN nP l)) ?_;apply Y;simp(disch:=omega)[aM,aJ,qH];apply Z;refine zk [4,5,6,7,8] ?_;refine zr qAr54 fun _ _ Z=>?_;simp(disch:=omega)[aM,aJ,qH];apply Z;refine zi ?_;refine⟨fun c1=>?_,fun c1=>?_⟩
 ·try simp at c1
  have hlt:=Hc nP c1;refine zr qAr54 fun _ _ Z=>?_;simp(disch:=omega)[aM,aJ,qH];and_intros<;>(try omega);apply Z;apply aC;apply aI;simp [aK,c1]
 try simp at c1
 apply aD;apply aA;refine zr qAr54 fun _ _ Z=>?_;simp(disch:=omega)[aM,aJ,qH];apply Z;refine zr qAr54 fun _ _ Z=>?_;simp(disch:=omega)[aM,aJ,qH];apply Z;apply aC;simp [aK,c1]
theorem Qw(l:List PI)(c:ByteArray)(σ:List (List D))(hl:l.length≤999999)(hs:cG nP l):Ct prog 239 [.sl false (l.map cV),D.str c] σ (fun r σ'=>(∃v:Int,r= .tup [D.int v,.bool (mY nP l c)])∧σ'=σ):=
 (aCx l c σ hl).trim fun r σ' ⟨⟨v,hr⟩,J,hs'⟩=>⟨σ,J,hs',rfl,by rw [hr];exact Sc.tup fun d hd=>by simp at hd;rcases hd with rfl | rfl <;> exact Sc.v _,fun n cs h=> .inl h,⟨v,by rw [hr,qJ nP hs,Qb nP hs]⟩,rfl⟩
theorem Ze(l:List PI)(c:ByteArray)(v:Int)(σ:List (List D))(hl:l.length≤99999):Ct prog 183 [.sl false (l.map cV),D.str c,D.int v] σ (fun r σ'=>r= .xs 2 ((fC nP (jL nP l) ⟨c,v⟩).map cV)∧σ'=σ):=by
 refine zf (rs:=[.tmp 6]) func183 ntmps183 results183 ?_;simp only [aN];have hol:=lU nP l;refine zr ⟨[6,9,10,12],[],[],[],[]⟩ fun _ _ Z=>?_;simp;apply Z;refine zr ⟨[6,9,10,12],[],[],[],[]⟩ fun _ _ Z=>?_;refine zs 1 fun _ Y=>?_;simp;apply Y;refine aE fun _ Y=>?_;simp;refine bX (Lp l _ (by omega)) ?_;apply Y;refine zs 3 fun _ Y=>?_;simp;apply Y;refine aE fun _ Y=>?_;simp;refine bX (Ra (jL nP l) ⟨c,v⟩ _ (by omega) (jN nP l)) ?_;apply Y;simp;apply Z;apply aC;simp [aK]
theorem aFr(l:List PI)(p:PI→Bool)(f:FuncId)(caps:List D)(σ:List (List D))(hl:l.length≤99999)(hcp:∀d∈caps,d.plain=true)(hcs:caps.map D.strip=caps)(hp:∀x τ,Ct prog f (cV x::caps) τ (fun r τ'=>r= .bool (p x)∧τ'=τ)):Ct prog 261 [.sl false (l.map cV),.clo (.func f) [] caps] σ (fun r σ'=>r= .xs 2 (((jL nP l).filter fun x=> !p x).map cV)∧σ'=σ):=by
 refine zf (rs:=[.tmp 4]) func261 ntmps261 results261 ?_;simp only [aN];have hol:=lU nP l;refine zr ⟨[4,7,8],[],[],[],[]⟩ fun _ _ Z=>?_;simp;apply Z;refine zr ⟨[4,7,8],[],[],[],[]⟩ fun _ _ Z=>?_;refine zs 1 fun _ Y=>?_;simp;apply Y;refine aE fun _ Y=>?_;simp;refine bX (Lp l _ (by omega)) ?_;apply Y;refine zs 1 fun _ Y=>?_;simp;apply Y;refine aE fun _ Y=>?_;simp;refine bX (Lr (jL nP l) p f caps _ (by omega) hcp hcs hp) ?_;apply Y;simp;apply Z;apply aC;simp [aK]
theorem Wn(x:PI)(c:ByteArray)(σ:List (List D))  :Ct prog 262 [cV x,.adr [D.str c]] σ (fun r σ'=>r= .bool (decide (x.name=c))∧σ'=σ):=by
 refine zf (rs:=[.tmp 3]) func262 ntmps262 results262 ?_;simp only [aN];refine aW fun _ _ Z=>?_;simp;apply Z;refine aW fun _ _ Z=>?_;simp;apply Z;apply aC;simp[aK]
theorem Sm(l:List PI)(c:ByteArray)(σ:List (List D))(hl:l.length≤99999):Ct prog 240 [.sl false (l.map cV),D.str c] σ (fun r σ'=>r= .xs 2 ((jF nP (jL nP l) c).map cV)∧σ'=σ):=by
 refine zf (rs:=[.tmp 4]) func240 ntmps240 results240 ?_;simp only [aN];refine zr ⟨[4],[3],[],[],[]⟩ fun _ _ Z=>?_;simp;apply Z;refine zr ⟨[4],[3],[],[],[]⟩ fun _ _ Z=>?_;refine zs 2 fun _ Y=>?_;simp;and_intros<;>(try omega);apply Y;refine aE fun _ Y=>?_;simp;refine bX (aFr l (fun x=>decide (x.name=c)) 262 [.adr [D.str c]] _ hl (by simp) (by simp) (fun x τ=>Wn x c τ)) ?_;apply Y;simp;apply Z;apply aC;simp [aK,jF]
theorem aD0(l:List PI)(c:ByteArray)(v:Int)(σ:List (List D))(hl:l.length≤99999)(hs:cG nP l):Ct prog 183 [.sl false (l.map cV),D.str c,D.int v] σ (fun r σ'=>r= .sl false ((fC nP l ⟨c,v⟩).map cV)∧σ'=σ):=
 (Ze l c v σ hl).freeze fun r σ' h=>by rw [qJ nP hs] at h;exact h
theorem Ys(l:List PI)(c:ByteArray)(σ:List (List D))(hl:l.length≤99999)(hs:cG nP l):Ct prog 240 [.sl false (l.map cV),D.str c] σ (fun r σ'=>r= .sl false ((jF nP l c).map cV)∧σ'=σ):=
 (Sm l c σ hl).freeze fun r σ' h=>by rw [qJ nP hs] at h;exact h
end Go.Proofs.YtbgfljpnhhdkoaaGreat
