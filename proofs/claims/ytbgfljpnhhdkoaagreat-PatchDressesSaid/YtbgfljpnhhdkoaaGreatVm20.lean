import Derived.Test.YtbgfljpnhhdkoaaGreatVm19
import Derived.Orders
set_option linter.all false
namespace Go.Vm
open Go
variable {B all:List Oper}{c:Cfg}{kb:List DK}
section
variable {P:Program}
def Gz(acc:List Nat)(after:List Edge):Nat:=after.foldl (fun s e=>if Region.binds .any e then s ||| 2 ^ e.on ||| acc.getD e.on 0 else s) 0
def xO:List Oper->List Nat->List Nat
 | [],acc=>acc
 | o::r,acc=>xO r (acc++ [Gz acc o.after.toList])
theorem Lr(acc:List Nat):∀(after:List Edge) (s i:Nat),(after.foldl (fun s e=>if Region.binds .any e then s ||| 2 ^ e.on ||| acc.getD e.on 0 else s) s).testBit i=true->s.testBit i=true\/∃e∈after,Region.binds .any e=true/\(e.on=i\/(acc.getD e.on 0).testBit i=true)
 | [],s,i,h=> .inl h
 | e :: r, s, i, h => by
  simp only [dV] at h;rcases Lr acc r _ i h with h1 | ⟨e',he',h1⟩
  .split at h1
   .rename_i hb;rw [Nat.testBit_or,Nat.testBit_or,Nat.testBit_two_pow] at h1;simp only [Fo,eO] at h1;rcases h1 with (h1 | h1) | h1
    .exact .inl h1
    .exact .inr ⟨e,by simp,hb,.inl h1⟩
    exact .inr ⟨e,by simp,hb,.inr h1⟩
   exact .inl h1
  exact .inr ⟨e',by simp [he'],h1⟩
theorem Qz:∀(r:List Oper) (acc:List Nat),(xO r acc).take acc.length=acc/\(xO r acc).length=acc.length+r.length
 | [],acc=>by simp [xO]
 | o::r,acc=>by
  obtain⟨h1,h2⟩:=Qz r (acc++ [Gz acc o.after.toList]);simp only [xO];simp only [bB,vR] at h1 h2;refine⟨?_,by rw [h2];simp;omega⟩;have:=congrArg (List.take acc.length) h1;rw [List.take_take,jN (by omega)] at this;rw [this];simp
theorem Qt:∀(r:List Oper) (acc:List Nat) (k:Nat) (o:Oper),r[k]?=some o->(xO r acc)[acc.length+k]?=some (Gz ((xO r acc).take (acc.length+k)) o.after.toList)
 | [],acc,k,o,h=>by simp at h
 | o' :: r, acc, 0, o, h => by
  simp at h;subst h;simp only [xO,jP];obtain⟨h1,h2⟩:=Qz r (acc++ [Gz acc o'.after.toList]);simp only [bB,vR] at h1;have e1:(xO r (acc++ [Gz acc o'.after.toList])).take acc.length=acc:=by
   have:=congrArg (List.take acc.length) h1;rw [List.take_take,jN (by omega)] at this;rw [this];simp
  rw [e1];have:=congrArg (fun l=>l[acc.length]?) h1;simp only [eJ,Nat.lt_succ_self,aU] at this;rw [this];simp
 | o'::r,acc,k+1,o,h=>by
  simp only [xO];have:=Qt r (acc++ [Gz acc o'.after.toList]) k o (by simpa using h);simp only [bB,vR] at this;rw [show acc.length+1+k=acc.length+(k+1) by omega] at this;exact this
def pK(ops:List Oper)(i j:Nat):Bool:=((xO ops []).getD j 0).testBit i
theorem Zy {ops:List Oper} {i j:Nat} {o:Oper} (ho:ops[j]?=some o)(h:pK ops i j=true):∃e∈o.after.toList,Region.binds .any e=true/\(e.on=i\/(e.on<j/\pK ops i e.on=true)):=by
 unfold pK at h;have hg:=Qt ops [] j o ho;simp only [dF,fG] at hg;rw [List.getD,hg,fK] at h;rcases Lr _ _ _ _ h with h1 | ⟨e,he,hb,h1⟩
 .simp at h1
 refine⟨e,he,hb,?_⟩;rcases h1 with h1 | h1
 .exact .inl h1
 refine .inr ?_;rw [List.getD,eJ] at h1;split at h1
 .rename_i hlt;exact⟨hlt,h1⟩
 simp at h1
structure FP where
 ws:List Nat
 rs:List Nat
 f:Fl
 t:Bool
 a:Bool
def FP.apart(a b:FP):Bool:=
 a.ws.all (fun t=> !b.ws.contains t && !b.rs.contains t) && b.ws.all (fun t=> !a.rs.contains t) &&
 !(a.f.wL && (b.f.rL || b.f.wL)) && !(b.f.wL && a.f.rL) && !(a.f.wO && (b.f.rO || b.f.wO)) && !(b.f.wO && a.f.rO && !(a.t && b.a))
def Cj(c:Cfg)(ops:List Oper)(o:Oper)(k:DK):FP:=⟨vA c o.dst o.op k,yA c ops o k,pU k,Hg c o.dst o.op k,aEt c o.dst o.op k⟩
def fps(c:Cfg)(all ops:List Oper)(ks:List DK):List FP:=(ops.zip ks).map fun p=>Cj c all p.1 p.2
def aAf(f:Fl):Bool:=(!f.wL || f.rL) && (!f.wO || f.rO)
def dS(π:List Nat)(ops:List Oper):List Oper:=π.filterMap fun i=>ops[i]?
def Mu:List Nat->Bool
 | []=>true
 | a::l=> !l.contains a && Mu l
def yS(c:Cfg)(all:List Oper)(π:List Nat)(ks:List DK):Bool:=
 ks.length==all.length && ks.all (fun k=>aAf (pU k)) && all.zipIdx.all (fun p=>p.1.after.toList.all fun e=> !Region.binds .any e || decide (e.on<p.2)) && (π.length==all.length && ((List.range all.length).all (fun i=>π.contains i) && (Mu π && π.all fun i=>decide (i<all.length)))) &&
 (fps c all (dS π all) ks).zipIdx.all fun q=>(fps c all (dS π all) ks).zipIdx.all fun p=> !decide (p.2<q.2) || pK all (π.getD p.2 0) (π.getD q.2 0) || p.1.apart q.1
def La(c:Cfg)(ops:List Oper)(ks:List DK):Bool:=yS c ops (List.range ops.length) ks && ks.all fun k=> !k.isNd
def Jh(c:Cfg)(ops:List Oper)(π:List Nat)(j:Nat)(ks:List DK):Bool:=
 yS c ops π ks && ks.zipIdx.all (fun p=>p.1.isNd==decide (p.2=j)) && (List.range ops.length).all (fun p=> !decide (j<p) || pK ops (π.getD j 0) (π.getD p 0)) && ((dS π ops)[j]?).any fun o=>o.guard.isNone
def jS (P : Program) (c : Cfg) (all : List Oper) : List Oper -> List DK -> St -> (St -> Prop) -> Prop
 | [],_,st,K=>K st
 | o :: r, k :: ks, st, K => eT o st /\ match o.guard with
  | none=>At P c o.dst o.op k st fun s=>jS P c all r ks s K
  | some (j, want) => match aT all j with
   | some t=>match Hs (st.env t) want with
    | some b=>(b=want->At P c o.dst o.op k st fun s=>jS P c all r ks s K)/\(b= !want->jS P c all r ks (st.put o.dst .und) K)
    | none=>False
   | none=>False
 | _::_, [],_,_=>False
inductive Chain(P:Program)(c:Cfg)(all:List Oper):List Oper->List DK->St->List St->St->Prop
 | nil (ks:List DK) (st:St):Chain P c all [] ks st [] st
 | cons (o:Oper) (r:List Oper) (k:DK) (ks:List DK) (st s:St) (ss:List St) (e:St) (h:Step P c all o k st s) (hr:Chain P c all r ks s ss e):Chain P c all (o::r) (k::ks) st (s::ss) e
theorem Ph {f:Fl} (h:aAf f=true):(f.wL=true->f.rL=true)/\(f.wO=true->f.rO=true):=by
 obtain⟨a,b,x,y⟩:=f;simp only [aAf] at h;cases a <;> cases b <;> cases x <;> cases y <;> simp_all
theorem Lw :∀(r:List Oper) (ks:List DK) (st:St) (K:St->Prop),(∀k∈ks,aAf (pU k)=true/\k.isNd=false)->jS P c all r ks st K->∃ss e,Chain P c all r ks st ss e/\K e
 | [],ks,st,K,_,h=>⟨[],st,.nil ks st,h⟩
 | _::_, [],_,_,_,h=>h.elim
 | o :: r, k :: ks, st, K, hw, h => by
  obtain⟨hd,h⟩:=h;have hs:∃s,jS P c all r ks s K/\Step P c all o k st s:=by
   refine aB6 (hw k (by simp)).2 (Ph (hw k (by simp)).1) hd ?_;split at h
   .rename_i hg;rw [hg];exact h
   rename_i j want hg;rw [hg];split at h
   .rename_i t ht;split at h
    .rename_i b hb;exact⟨t,b,ht,hb,h.1,h.2⟩
    exact h.elim
   exact h.elim
  obtain⟨s,h1,h2⟩:=hs;obtain⟨ss,e,h3,h4⟩:=Lw r ks s K (fun k hk=>hw k (by simp [hk])) h1;exact⟨s::ss,e,.cons o r k ks st s ss e h2 h3,h4⟩
theorem Chain.append {A:List Oper} {ka:List DK} {st s e:St} {ss tt:List St} (h:Chain P c all A ka st ss s)(hl:ka.length=A.length)(g:Chain P c all B kb s tt e):Chain P c all (A++B) (ka++kb) st (ss++tt) e:=by
 induction h with
 | nil ks st=>obtain rfl:=List.length_eq_zero_iff.1 hl;exact g
 | cons o r k ks st s ss e' h hr ih=>exact .cons o _ k _ st s _ e h (ih (by simpa using hl) g)
theorem Vs {oc:Oper} :∀(A:List Oper) (ka:List DK) (st:St) (K:St->Prop),ka.length=A.length->(∀k∈ka++kb,aAf (pU k)=true/\k.isNd=false)->oc.guard=none->jS P c all (A++oc::B) (ka++ .nd::kb) st K->
  ∃ssA eA Q,Chain P c all A ka st ssA eA/\eT oc eA/\aHc P oc.dst oc.op eA Q/\∀r σ0,Q r σ0->∃ssB e,Chain P c all B kb (({ eA with obj:=σ0 } :St).put oc.dst (.d r)) ssB e/\K e
 | [], [],st,K,_,hw,hg,h=>by
  obtain⟨hd,h⟩:=h;rw [hg] at h;obtain⟨Q,h1,h2⟩:=h;exact⟨[],st,Q,.nil [] st,hd,h1,fun r σ0 hq=>Lw B kb _ K (fun k hk=>hw k (by simpa using hk)) (h2 r σ0 hq)⟩
 | o :: A, k :: ka, st, K, hl, hw, hg, h => by
  obtain⟨hd,h⟩:=h;have hs:∃s,jS P c all (A++oc::B) (ka++ .nd::kb) s K/\Step P c all o k st s:=by
   refine aB6 (hw k (by simp)).2 (Ph (hw k (by simp)).1) hd ?_;split at h
   .rename_i hg;rw [hg];exact h
   rename_i j want hg;rw [hg];split at h
   .rename_i t ht;split at h
    .rename_i b hb;exact⟨t,b,ht,hb,h.1,h.2⟩
    exact h.elim
   exact h.elim
  obtain⟨s,h1,h2⟩:=hs;obtain⟨ssA,eA,Q,h3,h4⟩:=Vs A ka s K (by simpa using hl) (fun k hk=>hw k (lE _ hk)) hg h1;exact⟨s::ssA,eA,Q,.cons o A k ka st s ssA eA h2 h3,h4⟩
 | [],_::_,_,_,hl,_,_,_=>by simp at hl
 | _::_, [],_,_,hl,_,_,_=>by simp at hl
end
end Go.Vm
