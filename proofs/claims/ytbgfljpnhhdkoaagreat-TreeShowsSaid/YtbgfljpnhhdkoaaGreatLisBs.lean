import Derived.Test.YtbgfljpnhhdkoaaGreatVmZ
import Derived.RangeFuncCalls
import Derived.RangeFuncIn
import Derived.RangeFuncNested
import Derived.RangeFuncBound
import Derived.RangeFuncLeaves
import Derived.Shelf.Abstract
import Derived.Shelf.RegionOpen
import Derived.WalkKit
import Derived.OwnWalkIn
import Derived.TacticsInMore
import Derived.LoopNIn
import Derived.LoopIn
import Derived.Test.YtbgfljpnhhdkoaaGreatVmTab
import Derived.Laws.IdiomStrings
import Derived.Test.YtbgfljpnhhdkoaaGreatWvLaw
set_option linter.all false
set_option maxRecDepth 100000
set_option maxHeartbeats 8000000
namespace Go.Vm
open Go
variable {rr:Option Nat} {dfr:List Deferred}
theorem Fr.putObj {w w':World} {g g':Gh} (h:Fr w g w' g') {D:Nat} {o:Obj} (hB:w.heap.size<=D):Fr w g (w'.putObj D o) g':=
 ⟨h.os,h.tape,h.output,by simpa [World.putObj] using h.size,fun b hb hx=>by
  obtain⟨a,b',c⟩:=h.keep b hb hx;exact⟨(World.putObj_at (by omega)).trans a,b',c⟩,h.mono,h.bs⟩
end Go.Vm
namespace Go.Proofs.YtbgfljpnhhdkoaaGreat
open Go Go.Vm Go.Proofs Go.RowKit Go.Shelf
attribute [local go_sem] Oper.semAt_some
end Go.Proofs.YtbgfljpnhhdkoaaGreat
namespace Go.Vm
open Go
variable {rr:Option Nat} {dfr:List Deferred}
theorem Ok.escLoc {w:World} {g:Gh} {st:St} {val:Nat->Value} (h:Ok w g st val)(t n:Nat)(cs:List D)(ht:st.env t= .lref n 0)(hn:st.loc[n]?=some cs):
  ∃g':Gh,g'.bl=g.bl/\Fr w g w g'/\Ok w g' (({ st with loc:=st.loc.set n [],obj:=st.obj++ [cs] } :St).set t (.d (.ref st.obj.length 0))) val:=by
 have hnl:=(aO.1 hn).1;have hsl:=h.slot t;rw [ht] at hsl;obtain⟨b,hb,hv⟩:=hsl;have hbox:=h.loc n b cs hb hn;have hbs:∀(n' b':Nat),g.bs[n']?=some b'->(g.bs++ [b])[n']?=some b':=fun n' b' hb'=>by
  rw [bA (by exact(aO.1 hb').1)];exact hb'
 have hnew:(g.bs++ [b])[st.obj.length]?=some b:=by rw [<- h.ol];simp
 have other:∀(hd:Holder),hd≠ .loc n->∀(b':Nat) (q:List Nat),g.X b'=some (hd,q)->w.heap[b']?=w.heap[b']?/\(∀o,g.M b' o=none->g.M b' o=none)/\fW (jN (.loc n) [] (.obj st.obj.length) []) g.X b'=some (hd,q):=by
  intro hd hne b' q hx;exact⟨rfl,fun _ h=>h,by simp [fW,hx,oV (t:=(hd,q)) hne]⟩
 refine⟨{ g with X:=fW (jN (.loc n) [] (.obj st.obj.length) []) g.X,bs:=g.bs++ [b] },rfl,⟨rfl,rfl,rfl,bC _,fun b' _ hx=>⟨rfl,by simp [fW,hx],fun o=>rfl⟩,fun _ _ _ h=>h,hbs⟩,
  ⟨h.mem,fun b' tg hx=>?_,fun u=>?_,by show g.bl.length=(st.loc.set n []).length;rw [cF];exact h.ll,fun m b' ds h1 h2=>?_,by show(g.bs++ [b]).length=(st.obj++ [cs]).length;simp [h.ol],fun m b' ds h1 h2=>?_⟩⟩
 .simp only [fW,dI] at hx;obtain⟨tg',hx,_⟩:=hx;exact h.xlt b' tg' hx
 .simp only [St.set];by_cases e:u=t
  .subst e;simp only [aT];exact⟨by rw [hv];exact .ref _ _ b hnew,.flat _ _ _ rfl⟩
  simp only [e,bJ];exact(h.slot u).keep (fun _ _ _ h=>h) hbs (fun _ _ h=>h) (other _ (by simp))
 .have h2:(st.loc.set n [])[m]?=some ds:=h2;rw [cE] at h2;split at h2
  .exact .inl (by have:=h2;simp at this;exact this)
  rename_i e;exact(h.loc m b' ds h1 h2).keep (fun _ _ _ h=>h) hbs (other _ (by simp;exact fun e'=>e e'.symm))
 have h1:(g.bs++ [b])[m]?=some b':=h1;have h2:(st.obj++ [cs])[m]?=some ds:=h2;by_cases hm:m<st.obj.length
 .rw [bA (by rw [h.ol];exact hm)] at h1;rw [bA hm] at h2;exact(h.obj m b' ds h1 h2).keep (fun _ _ _ h=>h) hbs (other _ (by simp))
 have hlt:=(aO.1 h2).1;simp at hlt;have hm2:m=st.obj.length:=by omega
 subst hm2;rw [hnew] at h1;obtain rfl:=pX h1;have e2:ds=cs:=by simpa using h2.symm
 subst e2;rcases hbox with h0 | ⟨cur,E,o1,o2,o3,o4,o5⟩
 .exact .inl h0
 refine .inr ⟨cur,E,o1,o2,by simp [fW,o3,jN],o4,fun i d x a1 a2=>?_⟩;obtain⟨r1,r2,r3⟩:=o5 i d x a1 a2;refine⟨r1.mono (fun _ _ _ h=>h) hbs,r2.move (fun _ _ _ h=>h) hbs [i] fun b' q hx=>⟨rfl,fun _ h=>h,?_⟩,r3⟩;simp [fW,hx,jN]
theorem Is {P:Program} (t n:Nat) {cs:List D} {c:Code} {k:Nat} {l:List (Nat×Slot)} {loc obj:List (List D)} {Q:Exit->St->Prop} (ht:eF l t= .lref n 0)(hn:loc[n]?=some cs)
  (h:eO rr dfr P c Q (St.mk' k ((t,.d (.ref obj.length 0))::l) (loc.set n []) (obj++ [cs]))):eO rr dfr P c Q (St.mk' k l loc obj):=by
 intro w0 g0 w g tmps hf hok hk;obtain⟨g',_,hfr,hok'⟩:=hok.escLoc t n cs ht hn;exact h w0 g0 w g' tmps (hf.trans hfr) hok' hk
end Go.Vm
namespace Go.Proofs.YtbgfljpnhhdkoaaGreat
open Go Go.Vm
end Go.Proofs.YtbgfljpnhhdkoaaGreat
namespace Go.Proofs.YtbgfljpnhhdkoaaGreat.Lis
def Up(l:List Int)(ends:List Nat):Prop:=∀i j (hi:i<ends.length) (hj:j<ends.length),i<j->vX l ends[i]<vX l ends[j]
theorem Up.of {l:List Int} {ends:List Nat} (h:∀p e f,ends[p]?=some e->ends[p+1]?=some f->vX l e<vX l f):Up l ends:=by
 intro i j hi hj hij;induction j with
 | zero=>omega
 | succ j ih=>
  have h1:=h j ends[j] ends[j+1] (aW (by omega)) (aW hj);rcases Pk.1 hij with h2 | rfl
  .have:=ih (by omega) h2;omega
  exact h1
structure Bd(i:Nat)(s:List Nat×List Int):Prop where
 ends:∀e∈s.1,e<i
 len:s.2.length=i
 back:∀k,k<i->s.2.getD k (-1)= -1\/∃j:Nat,s.2.getD k (-1)=j/\j<k
end Go.Proofs.YtbgfljpnhhdkoaaGreat.Lis
