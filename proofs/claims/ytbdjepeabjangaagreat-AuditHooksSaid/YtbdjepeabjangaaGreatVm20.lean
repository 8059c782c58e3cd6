import Derived.Test.YtbdjepeabjangaaGreatVm19
import Derived.Orders
set_option linter.all false
namespace Go.Vm
open Go
variable {all:List Oper}
section
variable {P:Program}
def yN(acc:List Nat)(after:List Edge):Nat:=after.foldl (fun s e=>if Region.binds .any e then s ||| 2 ^ e.on ||| acc.getD e.on 0 else s) 0
def rW:List Oper->List Nat->List Nat
 | [],acc=>acc
 | o::r,acc=>rW r (acc++ [yN acc o.after.toList])
theorem Ce(acc:List Nat):∀(after:List Edge) (s i:Nat),(after.foldl (fun s e=>if Region.binds .any e then s ||| 2 ^ e.on ||| acc.getD e.on 0 else s) s).testBit i=true->s.testBit i=true\/∃e∈after,Region.binds .any e=true/\(e.on=i\/(acc.getD e.on 0).testBit i=true)
 | [],s,i,h=> .inl h
 | e :: r, s, i, h => by
  simp only [eG] at h;rcases Ce acc r _ i h with h1 | ⟨e',he',h1⟩
  .split at h1
   .rename_i hb;rw [Nat.testBit_or,Nat.testBit_or,Nat.testBit_two_pow] at h1;simp only [wW,jB] at h1;rcases h1 with (h1 | h1) | h1
    .exact .inl h1
    .exact .inr ⟨e,by simp,hb,.inl h1⟩
    exact .inr ⟨e,by simp,hb,.inr h1⟩
   exact .inl h1
  exact .inr ⟨e',by simp [he'],h1⟩
theorem Gf:∀(r:List Oper) (acc:List Nat),(rW r acc).take acc.length=acc/\(rW r acc).length=acc.length+r.length
 | [],acc=>by simp [rW]
 | o::r,acc=>by
  obtain⟨h1,h2⟩:=Gf r (acc++ [yN acc o.after.toList]);simp only [rW];simp only [aX,tC] at h1 h2;refine⟨?_,by rw [h2];simp;omega⟩;have:=congrArg (List.take acc.length) h1;rw [List.take_take,iA (by omega)] at this;rw [this];simp
theorem Ea:∀(r:List Oper) (acc:List Nat) (k:Nat) (o:Oper),r[k]?=some o->(rW r acc)[acc.length+k]?=some (yN ((rW r acc).take (acc.length+k)) o.after.toList)
 | [],acc,k,o,h=>by simp at h
 | o' :: r, acc, 0, o, h => by
  simp at h;subst h;simp only [rW,iJ];obtain⟨h1,h2⟩:=Gf r (acc++ [yN acc o'.after.toList]);simp only [aX,tC] at h1;have e1:(rW r (acc++ [yN acc o'.after.toList])).take acc.length=acc:=by
   have:=congrArg (List.take acc.length) h1;rw [List.take_take,iA (by omega)] at this;rw [this];simp
  rw [e1];have:=congrArg (fun l=>l[acc.length]?) h1;simp only [dX,Nat.lt_succ_self,aJ] at this;rw [this];simp
 | o'::r,acc,k+1,o,h=>by
  simp only [rW];have:=Ea r (acc++ [yN acc o'.after.toList]) k o (by simpa using h);simp only [aX,tC] at this;rw [show acc.length+1+k=acc.length+(k+1) by omega] at this;exact this
def mU(ops:List Oper)(i j:Nat):Bool:=((rW ops []).getD j 0).testBit i
theorem Ns {ops:List Oper} {i j:Nat} {o:Oper} (ho:ops[j]?=some o)(h:mU ops i j=true):∃e∈o.after.toList,Region.binds .any e=true/\(e.on=i\/(e.on<j/\mU ops i e.on=true)):=by
 unfold mU at h;have hg:=Ea ops [] j o ho;simp only [dO,dT] at hg;rw [List.getD,hg,gS] at h;rcases Ce _ _ _ _ h with h1 | ⟨e,he,hb,h1⟩
 .simp at h1
 refine⟨e,he,hb,?_⟩;rcases h1 with h1 | h1
 .exact .inl h1
 refine .inr ?_;rw [List.getD,dX] at h1;split at h1
 .rename_i hlt;exact⟨hlt,h1⟩
 simp at h1
structure FP where
 ws:List Nat
 rs:List Nat
 f:Fl
 t:Bool
 a:Bool
def FP.apart(a b:FP):Bool:=
 a.ws.all (fun t=> !b.ws.contains t && !b.rs.contains t) && b.ws.all (fun t=> !a.rs.contains t) &&
 !(a.f.wL && (b.f.rL || b.f.wL)) && !(b.f.wL && a.f.rL) && !(a.f.wO && (b.f.rO || b.f.wO)) && !(b.f.wO && a.f.rO && !(a.t && b.a))
def wI(c:Cfg)(ops:List Oper)(o:Oper)(k:DK):FP:=⟨rY c o.dst o.op k,uG c ops o k,nV k,xP c o.dst o.op k,Up c o.dst o.op k⟩
def fps(c:Cfg)(all ops:List Oper)(ks:List DK):List FP:=(ops.zip ks).map fun p=>wI c all p.1 p.2
def Zk(f:Fl):Bool:=(!f.wL || f.rL) && (!f.wO || f.rO)
def gE(π:List Nat)(ops:List Oper):List Oper:=π.filterMap fun i=>ops[i]?
def Cn:List Nat->Bool
 | []=>true
 | a::l=> !l.contains a && Cn l
def Aq(c:Cfg)(all:List Oper)(π:List Nat)(ks:List DK):Bool:=
 ks.length==all.length && ks.all (fun k=>Zk (nV k)) && all.zipIdx.all (fun p=>p.1.after.toList.all fun e=> !Region.binds .any e || decide (e.on<p.2)) && (π.length==all.length && ((List.range all.length).all (fun i=>π.contains i) && (Cn π && π.all fun i=>decide (i<all.length)))) &&
 (fps c all (gE π all) ks).zipIdx.all fun q=>(fps c all (gE π all) ks).zipIdx.all fun p=> !decide (p.2<q.2) || mU all (π.getD p.2 0) (π.getD q.2 0) || p.1.apart q.1
def Bu(c:Cfg)(ops:List Oper)(ks:List DK):Bool:=Aq c ops (List.range ops.length) ks && ks.all fun k=> !k.isNd
def gY (P : Program) (c : Cfg) (all : List Oper) : List Oper -> List DK -> St -> (St -> Prop) -> Prop
 | [],_,st,K=>K st
 | o :: r, k :: ks, st, K => dD o st /\ match o.guard with
  | none=>uD P c o.dst o.op k st fun s=>gY P c all r ks s K
  | some (j, want) => match aY all j with
   | some t=>match zO (st.env t) want with
    | some b=>(b=want->uD P c o.dst o.op k st fun s=>gY P c all r ks s K)/\(b= !want->gY P c all r ks (st.put o.dst .und) K)
    | none=>False
   | none=>False
 | _::_, [],_,_=>False
inductive Chain(P:Program)(c:Cfg)(all:List Oper):List Oper->List DK->St->List St->St->Prop
 | nil (ks:List DK) (st:St):Chain P c all [] ks st [] st
 | cons (o:Oper) (r:List Oper) (k:DK) (ks:List DK) (st s:St) (ss:List St) (e:St) (h:Step P c all o k st s) (hr:Chain P c all r ks s ss e):Chain P c all (o::r) (k::ks) st (s::ss) e
theorem Ub {f:Fl} (h:Zk f=true):(f.wL=true->f.rL=true)/\(f.wO=true->f.rO=true):=by
 obtain⟨a,b,x,y⟩:=f;simp only [Zk] at h;cases a <;> cases b <;> cases x <;> cases y <;> simp_all
theorem Mc {c:Cfg} :∀(r:List Oper) (ks:List DK) (st:St) (K:St->Prop),(∀k∈ks,Zk (nV k)=true/\k.isNd=false)->gY P c all r ks st K->∃ss e,Chain P c all r ks st ss e/\K e
 | [],ks,st,K,_,h=>⟨[],st,.nil ks st,h⟩
 | _::_, [],_,_,_,h=>h.elim
 | o :: r, k :: ks, st, K, hw, h => by
  obtain⟨hd,h⟩:=h;have hs:∃s,gY P c all r ks s K/\Step P c all o k st s:=by
   refine aGm (hw k (by simp)).2 (Ub (hw k (by simp)).1) hd ?_;split at h
   .rename_i hg;try rw [hg]
    exact h
   rename_i j want hg;try rw [hg]
   split at h
   .rename_i t ht;split at h
    .rename_i b hb;exact⟨t,b,ht,hb,h.1,h.2⟩
    exact h.elim
   exact h.elim
  obtain⟨s,h1,h2⟩:=hs;obtain⟨ss,e,h3,h4⟩:=Mc r ks s K (fun k hk=>hw k (by simp [hk])) h1;exact⟨s::ss,e,.cons o r k ks st s ss e h2 h3,h4⟩
theorem Chain.append {c:Cfg} {A B:List Oper} {ka kb:List DK} {st s e:St} {ss tt:List St} (h:Chain P c all A ka st ss s)(hl:ka.length=A.length)(g:Chain P c all B kb s tt e):Chain P c all (A++B) (ka++kb) st (ss++tt) e:=by
 induction h with
 | nil ks st=>obtain rfl:=List.length_eq_zero_iff.1 hl;exact g
 | cons o r k ks st s ss e' h hr ih=>exact .cons o _ k _ st s _ e h (ih (by simpa using hl) g)
end
end Go.Vm
