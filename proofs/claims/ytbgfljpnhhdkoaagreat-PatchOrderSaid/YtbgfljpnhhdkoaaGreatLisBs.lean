import Derived.RangeFuncNested
import Derived.RangeFuncBound
import Derived.RangeFuncCalls
import Derived.RangeFuncLeaves
import Derived.Shelf.Abstract
import Derived.Shelf.RegionOpen
import Derived.WalkKit
import Derived.OwnWalkIn
import Derived.TacticsInMore
import Derived.LoopNIn
import Derived.LoopIn
import Derived.Test.YtbgfljpnhhdkoaaGreatVmR
import Derived.Test.YtbgfljpnhhdkoaaGreatVmTab
import Derived.Laws.IdiomStrings
import Derived.Test.YtbgfljpnhhdkoaaGreatVmX7
import Derived.Test.YtbgfljpnhhdkoaaGreatWvLaw
open Go.Proofs.Tryz
set_option linter.all false
namespace Go.Proofs.YtbgfljpnhhdkoaaGreat
open Go Go.Vm Go.Proofs Go.RowKit Go.Shelf
attribute [local go_sem] Oper.semAt_some
set_option maxRecDepth 100000
set_option maxHeartbeats 4000000
theorem aHk(F:Fence)(n:Nat)(h7:F.fn 211)(hro:F.round=none)(hn:1≤n)(l B o b off cap:Nat)(zs:List Int)(M:Mem)(J:Nat→World→Prop)(W:World)(hW:CM M W)
  (hB:M B o=some (.slice (some ⟨b,off,none⟩) zs.length cap)) (hlen:zs.length≤maxLen) (hc:∀j,j<zs.length→M b (off+j)=some (.int .i64 (zs[j]?.getD 0)))
  (hY:∀k W1,J k W1→k<zs.length→YieldAt F (n - 1) prog l #[.int .i64 ((zs.length - 1 - k:Nat):Int),.int .i64 (zs[zs.length - 1 - k]?.getD 0)] W1 fun e W'=>e= .returned (.bool true)∧J (k+1) W'∧CM M W') (h0:J 0 W):
  CallsIn F n prog 211 #[.func (.yield l) #[] #[],.pointer (some ⟨B,o,none⟩)] W fun e W'=>(∃v,e= .returned v)∧J zs.length W':=by
 have hlen2:zs.length≤9223372036854775807:=by unfold maxLen at hlen;omega
 have hB0:=hW B o _ hB;refine callsIn_of_wp func211 rfl h7 ?_ hro;simp only [ntmps211,List.size_toArray,List.length_cons,List.length_nil,Nat.reduceAdd,Nat.reduceSub,Array.replicate_succ,Array.replicate_zero,List.push_toArray,List.append_toArray,List.nil_append,List.cons_append]
 gi_wp2
 gi_loopw [3] (fun i wr=>∃k:Nat,k≤zs.length∧i= .int .i64 ((zs.length:Int) - 1 - k)∧J k wr∧CM M wr)
  (fun i _=>(intOf i+1).toNat)
 case atStart=>exact⟨0,Nat.zero_le _,by simp,h0,hW⟩
 case round=>
  obtain⟨k,hk,rfl,hJs,hC⟩:=hrel;by_cases hlt:k<zs.length
  ·have e0:=hC B o _ hB;have e1:=hC b _ _ (hc (zs.length - 1 - k) (by omega));have hi:(zs.length:Int) - 1 - k=((zs.length - 1 - k:Nat):Int):=by omega
   rw [hi];obtain⟨fn,tmps,assign,body,hy,hR⟩:=hY k wr hJs hlt
   gi_wp2
   refine hR.mono ?_;rintro e W3 ⟨rfl,hJ3,hC3⟩
   gi_wp2
   go_roundw
   case rel=>exact⟨k+1,by omega,by go_num,hJ3,hC3⟩
   case measure=>simp [intOf]
  obtain rfl:k=zs.length:=by omega
  gi_wp2
  go_end0
  exact⟨⟨_,rfl⟩,hJs⟩
theorem aIr(F:Fence)(n:Nat)(h7:F.fn 211)(hro:F.round=none)(hn:1≤n)(l B o cap:Nat)(a:Option Addr)(M:Mem)(J:Nat→World→Prop)(W:World)(hW:CM M W)
  (hB:M B o=some (.slice a 0 cap)) (h0:J 0 W):
  CallsIn F n prog 211 #[.func (.yield l) #[] #[],.pointer (some ⟨B,o,none⟩)] W fun e W'=>(∃v,e= .returned v)∧J 0 W':=by
 have hB0:=hW B o _ hB;refine callsIn_of_wp func211 rfl h7 ?_ hro;simp only [ntmps211,List.size_toArray,List.length_cons,List.length_nil,Nat.reduceAdd,Nat.reduceSub,Array.replicate_succ,Array.replicate_zero,List.push_toArray,List.append_toArray,List.nil_append,List.cons_append]
 gi_wp2
 gi_loopw [3] (fun i wr=>i= .int .i64 (-1)∧J 0 wr) (fun _ _=>0)
 case atStart=>exact⟨rfl,h0⟩
 case round=>
  obtain⟨rfl,hJs⟩:=hrel
  gi_wp2
  go_end0
  exact⟨⟨_,rfl⟩,hJs⟩
def Yu(zs:List Int):List (D×D):=(List.range zs.length).reverse.map fun i:Nat=>(D.int i,D.int (zs[i]?.getD 0))
def bwV(zs:List Int):List (Array Value):=(List.range zs.length).reverse.map fun i:Nat=>#[.int .i64 i,.int .i64 (zs[i]?.getD 0)]
theorem aHf(o:Bool)(zs:List Int)(M:Mem)(bs:List Nat)(lb:Array Value)(hsz:lb.size=1)(hlb:∀(i:Nat) (d:D) (x:Value), [D.adr [.sl o (zs.map D.int)]][i]?=some d→lb[i]?=some x→R M bs d x):
  ∃LV:List (Array Value),LV.length=(Yu zs).length∧(∀(k:Nat) (a:Array Value),LV[k]?=some a→∃p v1 v2,(Yu zs)[k]?=some p∧a=#[v1,v2]∧R M bs p.1 v1∧R M bs p.2 v2)∧aC6 prog 211 lb LV M:=by
 obtain⟨x,rfl⟩:∃x,lb=#[x]:=by
  obtain⟨l⟩:=lb
  match l,hsz with
  | [x],_=>exact⟨x,rfl⟩
 have hr:=hlb 0 _ x rfl rfl;refine⟨bwV zs,by simp [Yu,bwV],fun k a ha=>?_,?_⟩
 ·unfold bwV at ha;unfold Yu;rw [List.getElem?_map] at ha ⊢;cases hk:(List.range zs.length).reverse[k]? with
  | none=>rw [hk] at ha;cases ha
  | some i=>
   rw [hk] at ha;obtain rfl:_=a:=by simpa using ha
   exact⟨_,_,_,rfl,rfl,.v _ rfl,.v _ rfl⟩
 have hget:∀k,k<zs.length→(bwV zs)[k]?=some #[.int .i64 ((zs.length - 1 - k:Nat):Int),.int .i64 (zs[zs.length - 1 - k]?.getD 0)]:=fun k hk=>by
  unfold bwV;rw [List.getElem?_map,List.getElem?_reverse (by simpa using hk)];simp [List.getElem?_range (show zs.length - 1 - k<zs.length by omega)]
 cases hr with
 | adr _ B off vs hl hr hx=>
 obtain⟨v,rfl⟩:∃v,vs= [v]:=by
  match vs,hl with
  | [v],_=>exact⟨v,rfl⟩
 obtain⟨_,hM⟩:=hx 0 v rfl;have hv:=hr 0 _ v rfl rfl;rw [Nat.add_zero] at hM;intro l J W hW hY h0;have hY':∀k W1,J k W1→k<zs.length→YieldAt Fence.wide (1 - 1) prog l #[.int .i64 ((zs.length - 1 - k:Nat):Int),.int .i64 (zs[zs.length - 1 - k]?.getD 0)] W1 fun e W'=>e= .returned (.bool true)∧J (k+1) W'∧CM M W':=fun k W1 hj hk=>hY k W1 _ hj (hget k hk);have hlen:(bwV zs).length=zs.length:=by simp [bwV]
 rw [hlen];have nil:∀a cap,M B off=some (.slice a 0 cap)→zs= []→CallsIn Fence.wide 0 prog 211 (#[.func (.yield l) #[] #[]]++#[.pointer (some ⟨B,off,none⟩)]) W fun e W'=>(∃v,e= .returned v)∧J zs.length W':=by
  rintro a cap hM rfl;exact callsIn_wide.2 ((callsIn_wide (n:=1)).1 (aIr Fence.wide 1 trivial rfl (Nat.le_refl _) l B off cap a M J W hW hM h0))
 generalize hes:zs.map D.int=es at hv;cases hv with
 | nil=>exact nil _ _ hM (by cases zs <;> simp_all)
 | emp _ a cap hm=>exact nil _ _ hM (by cases zs <;> simp_all)
 | sl _ _ b off2 n cap k vs hl2 hn hk hc hm hr2 hs hx2 =>
  subst hes;have hlen2:zs.length=n:=by rw [hn];simp
  subst hlen2;by_cases hz:zs= []
  ·exact nil (some ⟨b,off2,none⟩) cap (by rw [hM];simp [hz]) hz
  have hk1:k=1:=by
   obtain⟨z,r,rfl⟩:∃z r,zs=z::r:=by cases zs with | nil=>exact absurd rfl hz | cons z r=>exact⟨z,r,rfl⟩
   exact(hs 0 (D.int z) rfl).symm
  subst hk1;refine callsIn_wide.2 ((callsIn_wide (n:=1)).1 (aHk Fence.wide 1 trivial rfl (Nat.le_refl _) l B off b off2 cap zs M J W hW hM (by omega) (fun j hj=>?_) hY' h0));have hvl:vs.length=zs.length:=by simpa using hl2
  have e1:vs[j]?=some vs[j]:=List.getElem?_eq_getElem (by omega);have e2:(zs.map D.int)[j]?=some (D.int zs[j]):=by simp [hj]
  have hrj:=hr2 j _ _ e2 e1;generalize hvj:vs[j]=vj at hrj e1;cases hrj with
  | v _ h1=>
  obtain⟨_,h3⟩:=hx2 j _ e1;obtain⟨_,h4⟩:=h3 0 _ rfl;simp only [Nat.mul_one,Nat.add_zero] at h4;rw [h4,List.getElem?_eq_getElem hj];rfl
end Go.Proofs.YtbgfljpnhhdkoaaGreat
namespace Go.Vm
open Go
variable {rr:Option Nat} {dfr:List Deferred}
theorem Ok.escLoc {w:World} {g:Gh} {st:St} {val:Nat→Value} (h:Ok w g st val)(t n:Nat)(cs:List D)(ht:st.env t= .lref n 0)(hn:st.loc[n]?=some cs):
  ∃g':Gh,g'.bl=g.bl∧Fr w g w g'∧Ok w g' (({ st with loc:=st.loc.set n [],obj:=st.obj++ [cs] } :St).set t (.d (.ref st.obj.length 0))) val:=by
 have hnl:=(List.getElem?_eq_some_iff.1 hn).1;have hsl:=h.slot t;rw [ht] at hsl;obtain⟨b,hb,hv⟩:=hsl;have hbox:=h.loc n b cs hb hn;have hbs:∀(n' b':Nat),g.bs[n']?=some b'→(g.bs++ [b])[n']?=some b':=fun n' b' hb'=>by
  rw [List.getElem?_append_left (by exact(List.getElem?_eq_some_iff.1 hb').1)];exact hb'
 have hnew:(g.bs++ [b])[st.obj.length]?=some b:=by rw [← h.ol];simp
 have other:∀(hd:Holder),hd≠ .loc n→∀(b':Nat) (q:List Nat),g.X b'=some (hd,q)→w.heap[b']?=w.heap[b']?∧(∀o,g.M b' o=none→g.M b' o=none)∧dZ (fP (.loc n) [] (.obj st.obj.length) []) g.X b'=some (hd,q):=by
  intro hd hne b' q hx;exact⟨rfl,fun _ h=>h,by simp [dZ,hx,jS (t:=(hd,q)) hne]⟩
 refine⟨{ g with X:=dZ (fP (.loc n) [] (.obj st.obj.length) []) g.X,bs:=g.bs++ [b] },rfl,⟨rfl,rfl,rfl,Nat.le_refl _,fun b' _ hx=>⟨rfl,by simp [dZ,hx],fun o=>rfl⟩,fun _ _ _ h=>h,hbs⟩,
  ⟨h.mem,fun b' tg hx=>?_,fun u=>?_,by show g.bl.length=(st.loc.set n []).length;rw [List.length_set];exact h.ll,fun m b' ds h1 h2=>?_,by show(g.bs++ [b]).length=(st.obj++ [cs]).length;simp [h.ol],fun m b' ds h1 h2=>?_⟩⟩
 ·simp only [dZ,Option.map_eq_some_iff] at hx;obtain⟨tg',hx,_⟩:=hx;exact h.xlt b' tg' hx
 ·simp only [St.set];by_cases e:u=t
  ·subst e;simp only [if_true];exact⟨by rw [hv];exact .ref _ _ b hnew,.flat _ _ _ rfl⟩
  simp only [e,if_false];exact(h.slot u).keep (fun _ _ _ h=>h) hbs (fun _ _ h=>h) (other _ (by simp))
 ·have h2:(st.loc.set n [])[m]?=some ds:=h2;rw [List.getElem?_set] at h2;split at h2
  ·exact .inl (by have:=h2;simp at this;exact this)
  rename_i e;exact(h.loc m b' ds h1 h2).keep (fun _ _ _ h=>h) hbs (other _ (by simp;exact fun e'=>e e'.symm))
 have h1:(g.bs++ [b])[m]?=some b':=h1;have h2:(st.obj++ [cs])[m]?=some ds:=h2;by_cases hm:m<st.obj.length
 ·rw [List.getElem?_append_left (by rw [h.ol];exact hm)] at h1;rw [List.getElem?_append_left hm] at h2;exact(h.obj m b' ds h1 h2).keep (fun _ _ _ h=>h) hbs (other _ (by simp))
 have hlt:=(List.getElem?_eq_some_iff.1 h2).1;simp at hlt;have hm2:m=st.obj.length:=by omega
 subst hm2;rw [hnew] at h1;obtain rfl:=Option.some.inj h1;have e2:ds=cs:=by simpa using h2.symm
 subst e2;rcases hbox with h0 | ⟨cur,E,o1,o2,o3,o4,o5⟩
 ·exact .inl h0
 refine .inr ⟨cur,E,o1,o2,by simp [dZ,o3,fP],o4,fun i d x a1 a2=>?_⟩;obtain⟨r1,r2,r3⟩:=o5 i d x a1 a2;refine⟨r1.mono (fun _ _ _ h=>h) hbs,r2.move (fun _ _ _ h=>h) hbs [i] fun b' q hx=>⟨rfl,fun _ h=>h,?_⟩,r3⟩;simp [dZ,hx,fP]
theorem yQ {P:Program} (t n:Nat) {cs:List D} {c:Code} {k:Nat} {l:List (Nat×Slot)} {loc obj:List (List D)} {Q:Exit→St→Prop} (ht:cQ l t= .lref n 0)(hn:loc[n]?=some cs)
  (h:dO rr dfr P c Q (St.mk' k ((t,.d (.ref obj.length 0))::l) (loc.set n []) (obj++ [cs]))):dO rr dfr P c Q (St.mk' k l loc obj):=by
 intro w0 g0 w g tmps hf hok hk;obtain⟨g',_,hfr,hok'⟩:=hok.escLoc t n cs ht hn;exact h w0 g0 w g' tmps (hf.trans hfr) hok' hk
end Go.Vm
namespace Go.Proofs.YtbgfljpnhhdkoaaGreat
open Go Go.Vm
set_option maxRecDepth 20000
set_option maxHeartbeats 8000000
theorem oP(k:Int):MapKept.IsKey (.int .i64) (.int .i64 k):=rfl
theorem aGr(N:Nat)(f:Int→Int)(n:Nat)(os:List Int):Sc N (.mo (.int .i64) n (rT f os)):=Sc.mo fun k s d hd=>by
 obtain⟨j,hj⟩:=List.getElem?_of_mem hd;rw [tH] at hj;cases hx:os[j]? with
 | none=>rw [hx] at hj;cases hj
 | some x=>rw [hx] at hj;simp at hj;rw [← hj.2.2];exact Sc.v _
theorem Bn(f:Int→Int)(os:List Int)(x:Int):wE (rT f os) (.int .i64 x) (D.int 0) (D.int (if x∈os then f x else 0)) false∨wE (rT f os) (.int .i64 x) (D.int 0) (D.int (if x∈os then f x else 0)) true:=by
 have:=aC8 f os x;cases hb:decide (x∈os) <;> rw [hb] at this <;> simp [this]
theorem aF3 {l:List Int} {k:Nat} (hk:k<l.length)(h:¬l[k]∈bF (l.take k)∨xK l l[k]=0):(k:Int)+1=xK l l[k]:=by
 have hp:=Pt (List.getElem_mem hk);have hn:l[k]∉l.take k:=fun hm=>by
  rcases h with h | h
  ·exact h (kL.2 hm)
  omega
 unfold xK;rw [Ap hk hn]
theorem Hw {l:List Int} {k:Nat} (hk:k<l.length):bF (l.take (k+1))=mV (bF (l.take k)) l[k]:=by rw [iL l k hk,sF]
theorem aBt {l:List Int} {k:Nat} (hk:k<l.length)(h:l[k]∈bF (l.take k)∧¬xK l l[k]=0):bF (l.take (k+1))=bF (l.take k):=by
 rw [Hw hk];unfold mV;rw [if_pos h.1]
theorem aKz(l:List Int)(k:Nat)(h:k<l.length):l[k]?.getD 0=l[k]:=by rw [List.getElem?_eq_getElem h];rfl
@[simp] abbrev qsBs1:Cfg:=⟨[2,3,16,20,25],[],[],[],[]⟩
theorem Oz(l:List Int)(σ:List (List D))(hl:l.length≤1000000):Ct prog 144 [.sl false (l.map D.int)] σ (fun r σ'=>r= .mo (.int .i64) (bF l).length (rT (xK l) (bF l))∧∃J,σ'=σ++J):=by
 refine zf (rs:=[.tmp 2]) func144 ntmps144 results144 ?_;simp only [aN];refine zr qsBs1 fun _ _ Z=>?_;simp(disch:=omega);apply Z;refine zr qsBs1 fun _ _ Z=>?_;simp(disch:=omega);and_intros<;>(try omega);apply Z;apply aC;refine zr qsBs1 fun _ _ Z=>?_;simp(disch:=omega);and_intros<;>(try omega);apply Z;apply aG;refine zk [2,3,9,10,11] ?_;refine bI (fun(k:Nat)=> [(11,.d (.int k)),(3,.d (.mp σ.length (.int .i64) (bF (l.take k)).length (rT (xK l) (bF (l.take k))))),(4,.d (.any)),(5,.d (.any)),(8,.d (.any))]) [3,4,5,8,11,12,13,14,15,16,17,18,19,20,21,22,23,24] (fun(k:Nat)=>k≤l.length) (fun(k:Nat)=>l.length - k) (0) (by simp <;> rfl) ?_ ?_ ?_
 ·simp [bF,rT]
 ·simp
 rintro k hk;simp only [List.cons_append,List.nil_append];refine zr qsBs1 fun _ _ Z=>?_;simp(disch:=omega);apply Z;apply aC;refine zi ?_;refine⟨fun c1=>?_,fun c1=>?_⟩
 ·try simp at c1
  apply aE;apply aA;apply aC;apply aG;refine zr qsBs1 fun _ _ Z=>?_;simp(disch:=omega);and_intros<;>(try omega);apply Z;refine zk [2,3,4,5,8,9,10,11] ?_;refine zr qsBs1 fun _ _ Z=>?_;refine zs 3 fun _ Y=>?_;simp(disch:=omega);refine⟨_,⟨oP _,Bn (xK l) _ _⟩,?_⟩;and_intros<;>(try omega);apply Y;simp(disch:=omega);apply Z;refine zi ?_;refine⟨fun c2=>?_,fun c2=>?_⟩
  ·try simp at c2
   have hon:=Hw c1;refine fO 16 3 rfl rfl ?_;refine zk [2,3,4,5,8,9,10,11] ?_;refine zt qsBs1 fun _ _ Z=>?_;simp(disch:=omega);refine⟨by omega,20,_,_,⟨rfl,oP _,Jb (xK l) _ _ _ (aF3 c1 c2)⟩,?_⟩;and_intros<;>(try omega);apply Z;apply aK;apply aA;refine fO 20 3 rfl rfl ?_;refine zk [2,3,4,5,8,9,10,11] ?_;refine zt qsBs1 fun _ _ Z=>?_;simp(disch:=omega);and_intros<;>(try omega);apply Z;refine zq (k+1) ?_ ?_ ?_
   ·omega
   ·try dsimp only
    omega
   simp(disch:=omega)[hon]
  try simp at c2
  have hon:=aBt c1 c2;apply aE;apply aK;apply aA;refine fO 16 3 rfl rfl ?_;refine zk [2,3,4,5,8,9,10,11] ?_;refine zt qsBs1 fun _ _ Z=>?_;simp(disch:=omega);and_intros<;>(try omega);apply Z;refine zq (k+1) ?_ ?_ ?_
  ·omega
  ·try dsimp only
   omega
  simp(disch:=omega)[hon]
 try simp at c1
 apply bC;apply bB;apply bD;apply aX;apply aA;refine zr qsBs1 fun _ _ Z=>?_;simp(disch:=omega);apply Z;refine zW 2 rfl ?_;apply aB;simp [aL];rw [List.take_of_length_le (by omega)];simp
end Go.Proofs.YtbgfljpnhhdkoaaGreat
namespace Go.Proofs.YtbgfljpnhhdkoaaGreat.Lis
theorem tI {α:Type} (p:α→Bool):∀(l:List α) (k:Nat),k≤l.length→(∀j a,j<k→l[j]?=some a→p a=true)→(∀a,l[k]?=some a→p a=false)→(l.takeWhile p).length=k
 | [],k,h,_,_=>by simp at h;subst h;rfl
 | x::l,0,h,_,h2=>by
  have:=h2 x rfl;simp [List.takeWhile_cons,this]
 | x::l,k+1,h,h1,h2=>by
  have h0:=h1 0 x (by omega) rfl;rw [List.takeWhile_cons,if_pos h0,List.length_cons,tI p l k (by simpa using h) (fun j a hj ha=>h1 (j+1) a (by omega) (by simpa using ha)) (fun a ha=>h2 a (by simpa using ha))]
theorem below_of {l:List Int} {ends:List Nat} {x:Int} {k:Nat} (hk:k≤ends.length)(h1:∀j (h:j<ends.length),j<k→at0 l ends[j]<x)(h2:∀h:k<ends.length,¬at0 l ends[k]<x):below l ends x=k:=by
 refine tI _ ends k hk (fun j a hj ha=>?_) fun a ha=>?_
 ·obtain⟨h,rfl⟩:=List.getElem?_eq_some_iff.1 ha;simpa using h1 j h hj
 obtain⟨h,rfl⟩:=List.getElem?_eq_some_iff.1 ha;simpa using h2 h
theorem below_le(l:List Int)(ends:List Nat)(x:Int):below l ends x≤ends.length:=by
 unfold below;exact List.Sublist.length_le (List.takeWhile_sublist _)
def Up(l:List Int)(ends:List Nat):Prop:=∀i j (hi:i<ends.length) (hj:j<ends.length),i<j→at0 l ends[i]<at0 l ends[j]
theorem Up.of {l:List Int} {ends:List Nat} (h:∀p e f,ends[p]?=some e→ends[p+1]?=some f→at0 l e<at0 l f):Up l ends:=by
 intro i j hi hj hij;induction j with
 | zero=>omega
 | succ j ih=>
  have h1:=h j ends[j] ends[j+1] (List.getElem?_eq_getElem (by omega)) (List.getElem?_eq_getElem hj);rcases Nat.lt_succ_iff_lt_or_eq.1 hij with h2 | rfl
  ·have:=ih (by omega) h2;omega
  exact h1
theorem bsI_lo {l:List Int} {ends:List Nat} {x:Int} (hs:Up l ends) {m:Nat} (hm:m<ends.length)(h:at0 l ends[m]<x):∀j (hj:j<ends.length),j<m+1→at0 l ends[j]<x:=fun j hj hjm=>by
 rcases Nat.lt_succ_iff_lt_or_eq.1 hjm with h1 | rfl
 ·have:=hs j m hj hm h1;omega
 exact h
theorem bsI_hi {l:List Int} {ends:List Nat} {x:Int} (hs:Up l ends) {m:Nat} (hm:m<ends.length)(h:¬at0 l ends[m]<x):∀j (hj:j<ends.length),m≤j→¬at0 l ends[j]<x:=fun j hj hjm=>by
 rcases Nat.eq_or_lt_of_le hjm with rfl | h1
 ·exact h
 have:=hs m j hm hj h1;omega
def cmpI(a b:Int):Int:=if a<b then -1 else if b<a then 1 else 0
theorem cmpI_neg {a b:Int} :cmpI a b<0↔a<b:=by unfold cmpI;split <;> (try split) <;> omega
theorem cmpI_zero {a b:Int} :cmpI a b=0↔a=b:=by unfold cmpI;split <;> (try split) <;> omega
def fndI(l:List Int)(ends:List Nat)(x:Int):Bool:=decide (below l ends x<ends.length∧at0 l (ends[below l ends x]?.getD 0)=x)
structure Bd(i:Nat)(s:List Nat×List Int):Prop where
 ends:∀e∈s.1,e<i
 len:s.2.length=i
 back:∀k,k<i→s.2.getD k (-1)= -1∨∃j:Nat,s.2.getD k (-1)=j∧j<k
theorem run_bd(l:List Int):∀i,Bd i (runE l i)
 | 0=>⟨by simp [runE],rfl,fun k h=>by omega⟩
 | i + 1 => by
  obtain⟨h1,h2,h3⟩:=run_bd l i;refine⟨fun e he=>?_,by simp [runE,pM,h2],fun k hk=>?_⟩
  ·simp only [runE,pM] at he;split at he
   ·rcases List.mem_append.1 he with he | he
    ·have:=h1 e he;omega
    simp at he;omega
   split at he
   ·rcases List.mem_or_eq_of_mem_set he with he | he
    ·have:=h1 e he;omega
    omega
   have:=h1 e he;omega
  have hget:∀x:Int,((runE l i).2++ [x]).getD k (-1)=if k<i then(runE l i).2.getD k (-1)else x:=fun x=>by
   by_cases e:k<i
   ·rw [if_pos e,List.getD_eq_getElem?_getD,List.getElem?_append_left (by omega),← List.getD_eq_getElem?_getD]
   rw [if_neg e,List.getD_eq_getElem?_getD,List.getElem?_append_right (by omega),h2,show k - i=0 by omega];rfl
  simp only [runE,pM];rw [hget];by_cases e:k<i
  ·rw [if_pos e];exact h3 k e
  rw [if_neg e];obtain rfl:k=i:=by omega
  split
  ·exact .inl rfl
  rename_i hn;have hb:=below_le l (runE l k).1 (at0 l k);have hlt:below l (runE l k).1 (at0 l k) - 1<(runE l k).1.length:=by omega
  have hg:(runE l k).1.getD (below l (runE l k).1 (at0 l k) - 1) 0=(runE l k).1[below l (runE l k).1 (at0 l k) - 1]:=by
   rw [List.getD_eq_getElem?_getD,List.getElem?_eq_getElem hlt];rfl
  exact .inr ⟨_,rfl,by rw [hg];exact h1 _ (List.getElem_mem hlt)⟩
theorem Kq {ah:List Int} (hb:∀k,k<ah.length→ah.getD k (-1)= -1∨∃j:Nat,ah.getD k (-1)=j∧j<k):∀(n:Nat) (c:Int),c<ah.length→∀i∈chain ah n c,i<ah.length
 | 0,c,_,i,hi=>by simp [chain] at hi
 | n+1,c,hc,i,hi=>by
  unfold chain at hi;split at hi
  ·simp at hi
  rename_i hn;rcases List.mem_cons.1 hi with rfl | hi
  ·omega
  refine Kq hb n _ ?_ i hi;rcases hb c.toNat (by omega)with h | ⟨j,h,hj⟩ <;> omega
theorem ofP_lt(l:List Int):∀i∈ofP l,i<l.length:=by
 intro i hi;obtain⟨h1,h2,h3⟩:=run_bd l l.length;unfold ofP at hi;rw [List.mem_reverse] at hi;have:=Kq (ah:=(runE l l.length).2) (by rw [h2];exact h3) (l.length+1) _ (by
  rw [h2];split
  ·rename_i e he;have:=h1 e (List.mem_of_getLast? he);omega
  omega) i hi
 omega
theorem zI {ah:List Int} (hb:∀k,k<ah.length→ah.getD k (-1)= -1∨∃j:Nat,ah.getD k (-1)=j∧j<k):∀(n m:Nat) (c:Int),c<ah.length→c<n→c<m→chain ah n c=chain ah m c
 | 0,m,c,_,h1,_=>by
  cases m with
  | zero=>rfl
  | succ m=>unfold chain;rw [if_pos (by omega)]
 | n+1,0,c,_,_,h2=>by unfold chain;rw [if_pos (by omega)]
 | n+1,m+1,c,hc,h1,h2=>by
  unfold chain;split
  ·rfl
  rename_i hn;rw [zI hb n m _ ?_ ?_ ?_]
  all_goals (rcases hb c.toNat (by omega)with h | ⟨j,h,hj⟩ <;> omega)
def revK(l:List Int)(k:Nat):List Int:=(List.range l.length).map fun p=>if p<k∨l.length≤p+k then l[l.length - 1 - p]?.getD 0 else l[p]?.getD 0
theorem revK_len(l:List Int)(k:Nat):(revK l k).length=l.length:=by simp [revK]
theorem nN(l:List Int)(k p:Nat)(h:p<(revK l k).length):(revK l k)[p]=if p<k∨l.length≤p+k then l[l.length - 1 - p]?.getD 0 else l[p]?.getD 0:=by simp [revK]
theorem revK_zero(l:List Int):revK l 0=l:=by
 apply List.ext_getElem (revK_len l 0);intro p h1 h2;rw [nN,if_neg (by omega),List.getElem?_eq_getElem h2];rfl
theorem revK_end(l:List Int)(k:Nat)(h:l.length≤2 * k+1):revK l k=l.reverse:=by
 apply List.ext_getElem (by simp [revK_len]);intro p h1 h2;have hp:p<l.length:=by rw [revK_len] at h1;exact h1
 rw [nN,List.getElem_reverse];split
 ·rw [List.getElem?_eq_getElem (by omega)];rfl
 have:l.length - 1 - p=p:=by omega
 simp only [this];rw [List.getElem?_eq_getElem hp];rfl
theorem revK_next(l:List Int)(k:Nat)(h:2 * k+1<l.length)(x y:Int)(hx:x=(revK l k)[l.length - 1 - k]?.getD 0)(hy:y=(revK l k)[k]?.getD 0):((revK l k).set k x).set (l.length - 1 - k) y=revK l (k+1):=by
 have e1:x=l[l.length - 1 - k]?.getD 0:=by
  rw [hx,List.getElem?_eq_getElem (by rw [revK_len];omega),Option.getD_some,nN,if_neg (by omega)]
 have e2:y=l[k]?.getD 0:=by
  rw [hy,List.getElem?_eq_getElem (by rw [revK_len];omega),Option.getD_some,nN,if_neg (by omega)]
 subst e1;subst e2;apply List.ext_getElem (by simp [revK_len]);intro p h1 h2;rw [List.getElem_set,List.getElem_set,nN,nN];have hp:p<l.length:=by rw [revK_len] at h2;exact h2
 by_cases c1:l.length - 1 - k=p
 ·rw [if_pos c1,if_pos (by omega)];have:l.length - 1 - p=k:=by omega
  rw [this]
 rw [if_neg c1];by_cases c2:k=p
 ·subst c2;rw [if_pos rfl,if_pos (by omega)]
 rw [if_neg c2];by_cases c3:p<k∨l.length≤p+k
 ·rw [if_pos c3,if_pos (by omega)]
 rw [if_neg c3,if_neg (by omega)]
def ahC(l:List Int)(k:Nat):List Int:=(runE l k).2++List.replicate (l.length - k) 0
theorem ahC_len(l:List Int)(k:Nat)(h:k≤l.length):(ahC l k).length=l.length:=by
 simp [ahC,(run_bd l k).len];omega
theorem at0_eq {l:List Int} {k:Nat} (h:k<l.length):at0 l k=l[k]:=by unfold at0;rw [List.getD_eq_getElem?_getD,List.getElem?_eq_getElem h];rfl
theorem Hl {l:List Int} {k:Nat} (h:k<l.length)(v:Int)(hv:v=if below l (runE l k).1 l[k]=0 then -1 else(((runE l k).1.getD (below l (runE l k).1 l[k] - 1) 0:Nat):Int)):(ahC l k).set k v=ahC l (k+1):=by
 have hl:=(run_bd l k).len;unfold ahC;rw [List.set_append_right _ _ (by omega),hl,Nat.sub_self,show l.length - k=(l.length - (k+1))+1 by omega,List.replicate_succ,List.set_cons_zero];simp only [runE,pM,at0_eq h];rw [hv,List.append_assoc];rfl
theorem ahC_0 {l:List Int} {k:Nat} (h:k<l.length)(h0:below l (runE l k).1 l[k]=0):(ahC l k).set k (-1)=ahC l (k+1):=Hl h _ (by rw [if_pos h0])
theorem ahC_1 {l:List Int} {k n:Nat} (h:k<l.length)(hn:below l (runE l k).1 l[k]=n)(h0:0<n)(hlt:n - 1<(runE l k).1.length):((ahC l k).set k (-1)).set k (((runE l k).1[n - 1]:Nat):Int)=ahC l (k+1):=by
 rw [List.set_set];refine Hl h _ ?_;rw [hn,if_neg (by omega),List.getD_eq_getElem?_getD,List.getElem?_eq_getElem hlt];rfl
theorem run_new {l:List Int} {k:Nat} (h:k<l.length)(h0:below l (runE l k).1 l[k]=(runE l k).1.length):(runE l (k+1)).1=(runE l k).1++ [k]:=by
 simp only [runE,pM,at0_eq h];rw [if_pos h0]
theorem run_set {l:List Int} {k n:Nat} (h:k<l.length)(hn:below l (runE l k).1 l[k]=n)(hlt:n<(runE l k).1.length)(hb:(runE l k).1[n]<l.length)(h2:l[k]<l[(runE l k).1[n]]):(runE l (k+1)).1=(runE l k).1.set n k:=by
 simp only [runE,pM,at0_eq h,hn];rw [if_neg (by omega),List.getD_eq_getElem?_getD,List.getElem?_eq_getElem hlt,Option.getD_some,at0_eq hb,if_pos h2]
theorem run_same {l:List Int} {k n:Nat} (h:k<l.length)(hn:below l (runE l k).1 l[k]=n)(hlt:n<(runE l k).1.length)(hb:(runE l k).1[n]<l.length)(h2:¬l[k]<l[(runE l k).1[n]]):(runE l (k+1)).1=(runE l k).1:=by
 simp only [runE,pM,at0_eq h,hn];rw [if_neg (by omega),List.getD_eq_getElem?_getD,List.getElem?_eq_getElem hlt,Option.getD_some,at0_eq hb,if_neg h2]
theorem run_len(l:List Int):∀k,(runE l k).1.length≤k
 | 0=>by simp [runE]
 | k+1=>by
  have:=run_len l k;simp only [runE,pM];split
  ·simp;omega
  split
  ·simp;omega
  omega
theorem run_up {l:List Int} (hd:Dis l) {k:Nat} (hk:k≤l.length):Up l (runE l k).1:=Up.of (Gb l hd k hk).1.up
theorem aCt(l:List Int):ahC l l.length=(runE l l.length).2:=by simp [ahC]
theorem chain_step(l:List Int) {m:Nat} (hm:m<l.length)(h:m<(ahC l l.length).length):chain (runE l l.length).2 (l.length+1) m=m::chain (runE l l.length).2 (l.length+1) ((ahC l l.length)[m])∧ -1≤(ahC l l.length)[m]∧(ahC l l.length)[m]<m:=by
 obtain⟨h1,h2,h3⟩:=run_bd l l.length;have hg:(ahC l l.length)[m]=(runE l l.length).2.getD m (-1):=by
  have e:=aCt l;rw [List.getD_eq_getElem?_getD,← e,List.getElem?_eq_getElem h];rfl
 have hb:=h3 m hm;have hv: -1≤(ahC l l.length)[m]∧(ahC l l.length)[m]<m:=by
  rw [hg];rcases hb with h | ⟨j,h,hj⟩ <;> omega
 refine⟨?_,hv⟩;rw [show chain (runE l l.length).2 (l.length+1) (m:Int)=(m:Int).toNat::chain (runE l l.length).2 l.length ((runE l l.length).2.getD (m:Int).toNat (-1)) by
  rw [chain,if_neg (by omega)]]
 rw [Int.toNat_natCast,← hg,zI (by rw [h2];exact h3) l.length (l.length+1) _ (by rw [h2];omega) (by omega) (by omega)]
theorem chain_end(ah:List Int)(n:Nat):chain ah n (-1)= []:=by
 cases n with
 | zero=>rfl
 | succ n=>rw [chain,if_pos (by omega)]
theorem ofP_ne(l:List Int)(h:0<(runE l l.length).1.length):ofP l=(chain (runE l l.length).2 (l.length+1) (((runE l l.length).1[(runE l l.length).1.length - 1]:Nat):Int)).reverse:=by
 unfold ofP;rw [List.getLast?_eq_getElem?,List.getElem?_eq_getElem (by omega)]
theorem ofP_nil(l:List Int)(h:(runE l l.length).1.length=0):ofP l= []:=by
 unfold ofP;rw [List.eq_nil_of_length_eq_zero h];simp [chain_end]
theorem Co {ah:List Int} (hb:∀k,k<ah.length→ah.getD k (-1)= -1∨∃j:Nat,ah.getD k (-1)=j∧j<k):∀(n:Nat) (c:Int),c<ah.length→(chain ah n c).length≤(c+1).toNat
 | 0,c,_=>by simp [chain]
 | n+1,c,hc=>by
  unfold chain;split
  ·simp
  rename_i hn;have hv:ah.getD c.toNat (-1)= -1∨∃j:Nat,ah.getD c.toNat (-1)=j∧j<c.toNat:=hb c.toNat (by omega);have:=Co hb n (ah.getD c.toNat (-1)) (by rcases hv with h | ⟨j,h,hj⟩ <;> omega);rw [List.length_cons];rcases hv with h | ⟨j,h,hj⟩
  ·rw [h,chain_end];simp;omega
  rw [h] at this ⊢;omega
theorem ofP_len(l:List Int):(ofP l).length≤l.length:=by
 obtain⟨h1,h2,h3⟩:=run_bd l l.length;unfold ofP;rw [List.length_reverse];split
 ·rename_i e he;have hlt:=h1 e (List.mem_of_getLast? he);have:=Co (ah:=(runE l l.length).2) (by rw [h2];exact h3) (l.length+1) (e:Int) (by rw [h2];omega);omega
 rw [chain_end];simp
end Go.Proofs.YtbgfljpnhhdkoaaGreat.Lis
