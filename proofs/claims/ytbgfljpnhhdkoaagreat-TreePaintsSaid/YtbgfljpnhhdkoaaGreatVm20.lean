import Derived.Test.YtbgfljpnhhdkoaaGreatVm18
import Derived.Orders
set_option linter.all false
namespace Go.Vm
open Go
variable {K K':St->Prop}{all:List Oper}{args:Array Operand}{c:Cfg}{dst:Option Tmp}{f:Fl}{o:Oper}{op:Op}{rs ws:List Nat}{st st':St}{tol:Bool}{ts:Array TypeId}
section
variable {P:Program}
def mH:Op->Bool
 | .call { callee:= .builtin _, .. } =>false
 | .call _=>true
 | .binOp _ _ _ y _=>Ae y
 | .range _ _ | .next _ _ | .entry _=>true
 | _=>false
theorem aWs (h:mH op=false):Ge op=false:=by
 cases op <;> first | rfl | simp [mH] at h
theorem aFx {op:BinOp} {t:TypeId} {x y:Slot} {K:D->Prop} (h:wI P op t x y K):∃d,K d/\wI P op t x y (· =d):=by
 unfold wI at *;split at h
 .obtain⟨h1,h2⟩:=h;unfold Hu at *;cases op <;> simp only at h2 |- <;> first | exact⟨_,h2,h1,rfl⟩ | exact⟨_,h2.2,h1,h2.1,rfl⟩ | exact⟨_,h2.2.2,h1,h2.1,h2.2.1,rfl⟩ | exact h2.elim
 .unfold Ih at *;cases op <;> simp only at h |- <;> first | exact⟨_,h,rfl⟩ | exact⟨_,h.2,h.1,rfl⟩ | exact h.elim
 .obtain⟨h1,h2⟩:=h;cases op <;> simp only at h2 |- <;> first | exact⟨_,h2,h1,rfl⟩ | exact h2.elim
 .obtain⟨h1,h2⟩:=h;cases op <;> simp only at h2 |- <;> first | (obtain⟨b,e1,e2⟩:=h2;exact⟨_,e2,h1,b,e1,rfl⟩) | exact h2.elim
 .obtain⟨h1,h2⟩:=h;cases op <;> simp only at h2 |- <;> first | exact⟨_,h2,h1,rfl⟩ | exact h2.elim
 .obtain⟨h1,h2⟩:=h;cases op <;> simp only at h2 |- <;> first | exact⟨_,h2,h1,rfl⟩ | exact h2.elim
 exact h.elim
theorem aMg {op:UnOp} {x:D} {K:D->Prop} (h:Il op x K):∃d,K d/\Il op x (· =d):=by
 unfold Il at *;split at h
 .exact⟨_,h,rfl⟩
 .exact⟨_,h.2,h.1,rfl⟩
 exact h.elim
theorem aEj {f:Operand} (hk:∀s,K s->K' s)(h:dY P c dst (.call ⟨.value f,args,ts⟩) st K):dY P c dst (.call ⟨.value f,args,ts⟩) st K':=by
 have pc:∀f,mU P dst f args.toList st K->mU P dst f args.toList st K':=by
  intro f h;unfold mU at *;split at h
  .exact⟨h.1,h.2.1,h.2.2.mono fun r σ' hK=>hk _ hK⟩
  exact h
 have pt:∀fid,pO P dst fid args.toList st K->pO P dst fid args.toList st K':=fun fid h=>⟨h.1,h.2.1,h.2.2.mono fun r σ' hK=>hk _ hK⟩;simp only [dY,qU] at *;cases f with
 | func fid =>
  simp only at *;cases dst with
  | none=>exact pc _ h
  | some d=>
   simp only at *;split at h
   .rename_i ht;rw [aI ht];exact pt _ h
   rename_i ht;rw [aA ht];exact pc _ h
 | _=>exact pc _ h
theorem aRe (hc:mH op=false)(h:dY P c dst op st K):∃s,K s/\dY P c dst op st (· =s):=by
 have mv:∀x,lC c dst x st K->∃s,K s/\lC c dst x st (· =s):=by
  intro x h;unfold lC at *;split at h
  .split at h
   .exact⟨_,h,rfl⟩
   split at h
   .rename_i ht;exact⟨_,h.2.2,by rw [aI ht];exact⟨h.1,h.2.1,rfl⟩⟩
   rename_i ht;exact⟨_,h.2,by rw [aA ht];exact⟨h.1,rfl⟩⟩
  .exact h.elim
  exact⟨_,h,rfl⟩
 have ld:∀t x,jV P dst t x st K->∃s,K s/\jV P dst t x st (· =s):=by
  intro t x h;unfold jV at *;split at h
  .split at h
   .exact⟨_,h,rfl⟩
   exact h.elim
  exact h.elim
 cases op with
 | move x=>exact mv x h
 | assign x=>exact mv x h
 | binOp b t x y yt=>
  have hy:¬Ae y=true:=by simp only [mH] at hc;simp [hc]
  simp only [dY] at h |-;simp only [aA hy] at h |-;obtain⟨d,h1,h2⟩:=aFx (P:=P) h;exact⟨_,h1,Bz (fun e he=>by rw [he]) h2⟩
 | unOp u t x=>
  simp only [dY] at h |-;obtain⟨d,h1,h2⟩:=aMg h;exact⟨_,h1,Fj (fun e he=>by rw [he]) h2⟩
 | load t x =>
  simp only [dY,lZ] at *;split at h
  .split at h
   .rename_i htk;simp only [aI htk];split at h
    .split at h
     .split at h
      .exact⟨_,h.2.2,h.1,h.2.1,rfl⟩
      exact h.elim
     exact h.elim
    .split at h
     .split at h
      .exact⟨_,h.2.2,h.1,h.2.1,rfl⟩
      exact h.elim
     exact h.elim
    exact ld t x h
   rename_i htk;simp only [aA htk];exact ld t x h
  exact ld t x h
 | fieldAddr s x f=>
  simp only [dY,nJ] at *;split at h
  .exact⟨_,h.2,h.1,rfl⟩
  exact h.elim
 | indexAddr t x i =>
  simp only [dY,nG] at *;split at h
  .split at h
   .split at h
    .exact⟨_,h.2.2.2,h.1,h.2.1,h.2.2.1,rfl⟩
    exact h.elim
   split at h
   .exact⟨_,h.2.2,h.1,h.2.1,rfl⟩
   exact h.elim
  exact h.elim
 | index t x i =>
  simp only [dY,vL] at *;split at h
  .exact⟨_,h.2.2,h.1,h.2.1,rfl⟩
  .split at h
   .split at h
    .split at h
     .exact⟨_,h.2,h.1,rfl⟩
     exact h.elim
    exact h.elim
   exact h.elim
  exact h.elim
 | slice t x lo hi mx =>
  simp only [dY,vN] at *;split at h
  .obtain⟨h1,h2,h3⟩:=h;split at h3
   .exact⟨_,h3.2,h1,h2,h3.1,rfl⟩
   exact h3.elim
  .split at h
   .split at h
    .split at h
     .exact⟨_,h.2.2,h.1,h.2.1,rfl⟩
     exact h.elim
    split at h
    .exact⟨_,h.2.2,h.1,h.2.1,rfl⟩
    exact h.elim
   exact h.elim
  exact h.elim
 | pick a x y =>
  simp only [dY,Br] at *;split at h
  .rename_i t ht;cases t with
   | true=>exact⟨_,(h.1 rfl).2,fun _=>⟨(h.1 rfl).1,rfl⟩,fun e=>(by cases e)⟩
   | false=>exact⟨_,(h.2 rfl).2,fun e=>(by cases e),fun _=>⟨(h.2 rfl).1,rfl⟩⟩
  exact h.elim
 | extract x i =>
  simp only [dY,qY] at *;split at h
  .split at h
   .split at h
    .obtain⟨h1,h2⟩:=h;split at h2
     .rename_i ht;exact⟨_,h2.2.2,h1,by rw [aI ht];exact⟨h2.1,h2.2.1,rfl⟩⟩
     rename_i ht;exact⟨_,h2,h1,by rw [aA ht]⟩
    exact h.elim
   exact h.elim
  exact h.elim
 | makeFunc f first caps=>exact⟨_,h.2,h.1,rfl⟩
 | nilCheck x=>exact⟨_,h.2,h.1,rfl⟩
 | convert s d x=>
  simp only [dY,qM] at *;split at h
  .obtain⟨a,b,h1,h2,h3,h4⟩:=h;exact⟨_,h4,a,b,h1,h2,h3,rfl⟩
  .exact⟨_,h.2.2,h.1,h.2.1,rfl⟩
  exact h.elim
 | alloc e =>
  simp only [dY,tT] at *;split at h
  .split at h
   .rename_i he;exact⟨_,h,by rw [aI he]⟩
   rename_i he;exact⟨_,h,by rw [aA he]⟩
  exact h.elim
 | box e x =>
  simp only [dY,Hs] at *;split at h
  .obtain⟨h1,h2⟩:=h;split at h2
   .rename_i hi;exact⟨_,h2,h1,by rw [aI hi]⟩
   rename_i hi;split at h2
   .rename_i he;exact⟨_,h2,h1,by rw [aA hi,aI he]⟩
   rename_i he;exact⟨_,h2,h1,by rw [aA hi,aA he]⟩
  exact h.elim
 | store t a v =>
  simp only [dY,Ab] at *;obtain⟨h1,h2,h3,h4⟩:=h;split at h4
  .split at h4
   .exact⟨_,h4.2,h1,h2,h3,h4.1,rfl⟩
   exact h4.elim
  .split at h4
   .exact⟨_,h4.2,h1,h2,h3,h4.1,rfl⟩
   exact h4.elim
  exact h4.elim
 | build t parts =>
  simp only [dY,wD] at *;split at h
  .split at h
   .exact⟨_,h,rfl⟩
   exact h.elim
  exact h.elim
 | buildSlice t len parts=>
  simp only [dY,mB] at *;split at h
  .exact⟨_,h.2.2,h.1,h.2.1,rfl⟩
  exact h.elim
 | call call =>
  obtain⟨callee,args,ts⟩:=call;cases callee with
  | builtin b =>
   simp only [dY,qU,sN] at *;split at h
   .simp only [Li] at *;split at h
    .exact⟨_,h.2,h.1,rfl⟩
    .exact⟨_,h.2,h.1,rfl⟩
    exact h.elim
   .simp only [tG] at *;split at h
    .obtain⟨h1,h2,h3,h4,h5⟩:=h;split at h5
     .exact⟨_,h5.2,h1,h2,h3,h4,h5.1,rfl⟩
     .exact⟨_,h5,h1,h2,h3,h4,rfl⟩
     exact h5.elim
    exact h.elim
   .simp only [xD] at *;split at h
    .exact⟨_,h.2,h.1,rfl⟩
    exact h.elim
   .simp only [xD] at *;split at h
    .exact⟨_,h.2,h.1,rfl⟩
    exact h.elim
   exact h.elim
  | _=>simp [mH] at hc
 | range t x=>simp [mH] at hc
 | next x s=>simp [mH] at hc
 | entry x=>simp [mH] at hc
 | _=>exact h.elim
theorem Yg (hk:∀s,K s->K' s)(h:dY P c dst op st K):dY P c dst op st K':=by
 have mv:∀x,lC c dst x st K->lC c dst x st K':=by
  intro x h;unfold lC at *;split at h
  .split at h
   .exact hk _ (h)
   split at h
   .rename_i ht;exact(by rw [aI ht];exact⟨h.1,h.2.1,hk _ (h.2.2)⟩)
   rename_i ht;exact(by rw [aA ht];exact⟨h.1,hk _ (h.2)⟩)
  .exact h.elim
  exact hk _ (h)
 have ld:∀t x,jV P dst t x st K->jV P dst t x st K':=by
  intro t x h;unfold jV at *;split at h
  .split at h
   .exact hk _ (h)
   exact h.elim
  exact h.elim
 cases op with
 | move x=>exact mv x h
 | assign x=>exact mv x h
 | binOp b t x y yt=>
  simp only [dY] at h |-;split at h
  .rename_i hy;rw [aI hy];exact Yj hk h
  rename_i hy;rw [aA hy];exact Bz (fun e he=>hk _ he) h
 | unOp u t x=>
  simp only [dY] at h |-;exact Fj (fun e he=>hk _ he) h
 | load t x =>
  simp only [dY,lZ] at *;split at h
  .split at h
   .rename_i htk;simp only [aI htk];split at h
    .split at h
     .split at h
      .exact⟨h.1,h.2.1,hk _ (h.2.2)⟩
      exact h.elim
     exact h.elim
    .split at h
     .split at h
      .exact⟨h.1,h.2.1,hk _ (h.2.2)⟩
      exact h.elim
     exact h.elim
    exact ld t x h
   rename_i htk;simp only [aA htk];exact ld t x h
  exact ld t x h
 | fieldAddr s x f=>
  simp only [dY,nJ] at *;split at h
  .exact⟨h.1,hk _ (h.2)⟩
  exact h.elim
 | indexAddr t x i =>
  simp only [dY,nG] at *;split at h
  .split at h
   .split at h
    .exact⟨h.1,h.2.1,h.2.2.1,hk _ (h.2.2.2)⟩
    exact h.elim
   split at h
   .exact⟨h.1,h.2.1,hk _ (h.2.2)⟩
   exact h.elim
  exact h.elim
 | index t x i =>
  simp only [dY,vL] at *;split at h
  .exact⟨h.1,h.2.1,hk _ (h.2.2)⟩
  .split at h
   .split at h
    .split at h
     .exact⟨h.1,hk _ h.2⟩
     exact h.elim
    exact h.elim
   exact h.elim
  exact h.elim
 | slice t x lo hi mx =>
  simp only [dY,vN] at *;split at h
  .obtain⟨h1,h2,h3⟩:=h;split at h3
   .exact⟨h1,h2,h3.1,hk _ (h3.2)⟩
   exact h3.elim
  .split at h
   .split at h
    .split at h
     .exact⟨h.1,h.2.1,hk _ (h.2.2)⟩
     exact h.elim
    split at h
    .exact⟨h.1,h.2.1,hk _ (h.2.2)⟩
    exact h.elim
   exact h.elim
  exact h.elim
 | pick a x y=>
  simp only [dY,Br] at *;split at h
  .rename_i t ht;exact⟨fun ht=>⟨(h.1 ht).1,hk _ (h.1 ht).2⟩,fun ht=>⟨(h.2 ht).1,hk _ (h.2 ht).2⟩⟩
  exact h.elim
 | extract x i =>
  simp only [dY,qY] at *;split at h
  .split at h
   .split at h
    .obtain⟨h1,h2⟩:=h;split at h2
     .rename_i ht;exact⟨h1,(by rw [aI ht];exact⟨h2.1,h2.2.1,hk _ (h2.2.2)⟩)⟩
     rename_i ht;exact⟨h1,(by rw [aA ht];exact hk _ (h2))⟩
    exact h.elim
   exact h.elim
  exact h.elim
 | makeFunc f first caps=>exact⟨h.1,hk _ (h.2)⟩
 | nilCheck x=>exact⟨h.1,hk _ (h.2)⟩
 | convert s d x=>
  simp only [dY,qM] at *;split at h
  .obtain⟨a,b,h1,h2,h3,h4⟩:=h;exact⟨a,b,h1,h2,h3,hk _ (h4)⟩
  .exact⟨h.1,h.2.1,hk _ (h.2.2)⟩
  exact h.elim
 | alloc e =>
  simp only [dY,tT] at *;split at h
  .split at h
   .rename_i he;exact(by rw [aI he];exact hk _ (h))
   rename_i he;exact(by rw [aA he];exact hk _ (h))
  exact h.elim
 | box e x =>
  simp only [dY,Hs] at *;split at h
  .obtain⟨h1,h2⟩:=h;split at h2
   .rename_i hi;exact⟨h1,(by rw [aI hi];exact hk _ (h2))⟩
   rename_i hi;split at h2
   .rename_i he;exact⟨h1,(by rw [aA hi,aI he];exact hk _ (h2))⟩
   rename_i he;exact⟨h1,(by rw [aA hi,aA he];exact hk _ (h2))⟩
  exact h.elim
 | store t a v =>
  simp only [dY,Ab] at *;obtain⟨h1,h2,h3,h4⟩:=h;split at h4
  .split at h4
   .exact⟨h1,h2,h3,h4.1,hk _ (h4.2)⟩
   exact h4.elim
  .split at h4
   .exact⟨h1,h2,h3,h4.1,hk _ (h4.2)⟩
   exact h4.elim
  exact h4.elim
 | build t parts =>
  simp only [dY,wD] at *;split at h
  .split at h
   .exact hk _ (h)
   exact h.elim
  exact h.elim
 | buildSlice t len parts=>
  simp only [dY,mB] at *;split at h
  .exact⟨h.1,h.2.1,hk _ (h.2.2)⟩
  exact h.elim
 | call call =>
  obtain⟨callee,args,ts⟩:=call;cases callee with
  | builtin b =>
   simp only [dY,qU,sN] at *;split at h
   .simp only [Li] at *;split at h
    .exact⟨h.1,hk _ (h.2)⟩
    .exact⟨h.1,hk _ (h.2)⟩
    exact h.elim
   .simp only [tG] at *;split at h
    .obtain⟨h1,h2,h3,h4,h5⟩:=h;split at h5
     .exact⟨h1,h2,h3,h4,h5.1,hk _ (h5.2)⟩
     .exact⟨h1,h2,h3,h4,hk _ (h5)⟩
     exact h5.elim
    exact h.elim
   .simp only [xD] at *;split at h
    .exact⟨h.1,hk _ (h.2)⟩
    exact h.elim
   .simp only [xD] at *;split at h
    .exact⟨h.1,hk _ (h.2)⟩
    exact h.elim
   exact h.elim
  | value f=>exact aEj hk h
  | invoke r m=>exact h.elim
 | _=>exact h.elim
theorem aWv (h:vcX P dst op st K):∃s,K s/\vcX P dst op st (· =s):=by
 unfold vcX at *;split at h
 .split at h
  .simp only [Gq] at *;obtain⟨h0,h⟩:=h;split at h <;> first | exact⟨_,h,h0,rfl⟩ | exact h.elim
  exact h.elim
 .split at h
  .simp only [qN] at *;split at h
   .obtain⟨h0,h1,h2,h3⟩:=h;split at h3 <;> first | exact⟨_,h3.2,h0,h1,h2,h3.1,rfl⟩ | (obtain⟨ds,es,h4,h5⟩:=h3;exact⟨_,h5,h0,h1,h2,ds,es,h4,rfl⟩) | exact h3.elim
   exact h.elim
  exact h.elim
 .split at h
  .simp only [uR] at *;obtain⟨h0,h⟩:=h;split at h
   .split at h
    .exact⟨_,h.2,h0,h.1,rfl⟩
    exact h.elim
   exact h.elim
  exact h.elim
 .simp only [mA] at *;split at h
  .exact⟨_,h.2,h.1,rfl⟩
  exact h.elim
 .simp only [sX] at *;split at h
  .split at h
   .exact⟨_,h.2,h.1,rfl⟩
   exact h.elim
  exact h.elim
 exact h.elim
theorem aUt (hk:∀s,K s->K' s)(h:vcX P dst op st K):vcX P dst op st K':=by
 unfold vcX at *;split at h
 .split at h
  .simp only [Gq] at *;obtain⟨h0,h⟩:=h;split at h <;> first | exact⟨h0,hk _ h⟩ | exact h.elim
  exact h.elim
 .split at h
  .simp only [qN] at *;split at h
   .obtain⟨h0,h1,h2,h3⟩:=h;split at h3 <;> first | exact⟨h0,h1,h2,h3.1,hk _ h3.2⟩ | (obtain⟨ds,es,h4,h5⟩:=h3;exact⟨h0,h1,h2,ds,es,h4,hk _ h5⟩) | exact h3.elim
   exact h.elim
  exact h.elim
 .split at h
  .simp only [uR] at *;obtain⟨h0,h⟩:=h;split at h
   .split at h
    .exact⟨h0,h.1,hk _ h.2⟩
    exact h.elim
   exact h.elim
  exact h.elim
 .simp only [mA] at *;split at h
  .exact⟨h.1,hk _ h.2⟩
  exact h.elim
 .simp only [sX] at *;split at h
  .split at h
   .exact⟨h.1,hk _ h.2⟩
   exact h.elim
  exact h.elim
 exact h.elim
theorem aAc (hc:mH op=false)(h:jE P c dst op st K):∃s,K s/\jE P c dst op st (· =s):=by
 unfold jE at *;by_cases hy:Ff c dst op=true
 .simp only [hy,aT] at *;obtain⟨sets,ob,h1,hK⟩:=h;exact⟨_,hK,sets,ob,h1,rfl⟩
 simp only [hy] at *;by_cases hu:Tb c dst op=true
 .simp only [hu,aT] at *;exact aWv h
 simp only [hu] at *;exact aRe hc h
theorem Az (hk:∀s,K s->K' s)(h:jE P c dst op st K):jE P c dst op st K':=by
 unfold jE at *;by_cases hy:Ff c dst op=true
 .simp only [hy,aT] at *;obtain⟨sets,ob,h1,hK⟩:=h;exact⟨sets,ob,h1,hk _ hK⟩
 simp only [hy] at *;by_cases hu:Tb c dst op=true
 .simp only [hu,aT] at *;exact aUt hk h
 simp only [hu] at *;exact Yg hk h
def Lt(c:Cfg)(dst:Option Tmp):Op->Bool
 | .load t a=> !dst.any c.take.contains && !Ff c dst (.load t a) && !Tb c dst (.load t a)
 | .lookup _ _ _ _=>true
 | .call ⟨.builtin .len,args,ts⟩=>Ff c dst (.call ⟨.builtin .len,args,ts⟩)
 | _=>false
def Xk(c:Cfg)(dst:Option Tmp):Op->Bool
 | .makeMap _ _=>true
 | .alloc e=>dst.any c.esc.contains && !Ff c dst (.alloc e) && !Tb c dst (.alloc e)
 | .box e x=>dst.any c.esc.contains && !dst.any c.imm.contains && !Ff c dst (.box e x) && !Tb c dst (.box e x)
 | _=>false
structure AgreeT(rs:List Nat)(f:Fl)(st st':St):Prop where
 n:st'.n=st.n
 env:∀t,t∈rs->st'.env t=st.env t
 loc:f.rL=true->st'.loc=st.loc
 obj:f.rO=true->∃J,st'.obj=st.obj++J
theorem Sx {α:Type} {l J:List α} {n:Nat} {x:α} (h:l[n]?=some x):(l++J)[n]?=some x:=by
 rw [bC (aO.1 h).1];exact h
theorem aHj {args:List Operand} {ts:List TypeId} {f g:Operand->TypeId->pX} {sets:List (Nat×Slot)} {ob:Option (List (List D))} (h:∀x t,f x t sets ob->g x t sets ob)(hy:yA1 args ts f sets ob):yA1 args ts g sets ob:=by
 match args,ts with
 | [x], [t]=>exact h x t hy
 | [],_=>exact hy.elim
 | _::_::_,_=>exact hy.elim
 | [_], []=>exact hy.elim
 | [_],_::_::_=>exact hy.elim
theorem aU9 (ht:Lt c dst op=true)(hrs:∀t,t∈kI op->t∈rs)(ha:AgreeT rs (pY c dst st op) st st')(h:jE P c dst op st K):jE P c dst op st' (Tr (pU c dst op) (pY c dst st op) st st' K):=by
 have rdS:∀x,x∈op.operands.toList->st'.rdS x=st.rdS x:=fun x hx=>by
  cases x with
  | tmp t=>exact ha.env t (hrs t (eL hx t rfl))
  | _=>rfl
 have goY:Ff c dst op=true->(∀rd obj J sets ob,yR P (Te c dst op) dst op rd obj sets ob->yR P (Te c dst op) dst op rd (obj++J) sets ob)->jE P c dst op st' (Tr (pU c dst op) (pY c dst st op) st st' K):=by
  intro hy hm;have hw:pU c dst op=dst.toList++kI op:=by simp [pU,hy]
  unfold jE pY at *;simp only [hy,aT] at *;obtain⟨sets,ob,h1,hK⟩:=h;obtain⟨s1,s2⟩:=aA8 h1;refine⟨sets,ob,?_,⟨sets,none,ob⟩,⟨fun p hp=>by rw [hw];exact s1 p hp,by simp,s2⟩,hK,rfl⟩;rw [Tw rdS];by_cases hr:(flY (Te c dst op) op).rO=true
  .simp only [hr,aT] at h1 |-;obtain⟨J,hJ⟩:=ha.obj hr;rw [hJ];exact hm _ _ _ _ _ h1
  simp only [hr] at h1 |-;exact h1
 cases op with
 | load t a =>
  simp only [Lt,gH,lS] at ht;obtain⟨⟨h1,h2⟩,h3⟩:=ht;have ld:∀K,jV P dst t a st K->st'.cellsAt (st'.rdS a)=st.cellsAt (st.rdS a)->jV P dst t a st' (Tr (pU c dst (.load t a)) (pY c dst st (.load t a)) st st' K):=by
   intro K h he;unfold jV at *;rw [he];split at h
   .split at h
    .exact aAz kE h
    exact h.elim
   exact h.elim
  have tk:∀st K,lZ P c dst t a st K=jV P dst t a st K:=by
   intro st K;unfold lZ;split
   .rename_i d _;have:c.take.contains d=false:=by simpa using h1
    simp only [this];rfl
   rfl
  have hfl:pY c dst st (.load t a)=kG (dst.any c.take.contains) (st.rdS a):=by
   unfold pY;simp only [h2,h3];rfl
  have key:jE P c dst (.load t a) st K=jV P dst t a st K:=by
   unfold jE;simp only [h2,h3,dY,tk];rfl
  have key':∀K,jE P c dst (.load t a) st' K=jV P dst t a st' K:=fun K=>by
   unfold jE;simp only [h2,h3,dY,tk];rfl
  rw [key] at h;rw [key'];refine ld K h ?_;have he:st'.rdS a=st.rdS a:=rdS a (by simp [Op.operands]);rw [he];unfold jV at h;rw [hfl] at ha;cases hs:st.rdS a with
  | lref n off=>rw [hs] at ha;simp only [St.cellsAt];rw [ha.loc rfl]
  | d x =>
   cases x with
   | ref n off=>
    rw [hs] at ha h;obtain⟨J,hJ⟩:=ha.obj rfl;simp only [St.cellsAt] at h |-;rw [hJ];cases hg:st.obj[n]? with
    | none=>rw [hg] at h;simp at h
    | some cs=>rw [Sx hg]
   | _=>rfl
 | lookup t x k ok=>
  refine goY rfl fun rd obj J sets ob hy=>?_;simp only [yR,wA] at hy |-;split at hy
  .obtain⟨m,i,clock,kvs,dv,b,⟨⟨cs,g1,g2⟩,g3⟩,g4⟩:=hy;exact⟨m,i,clock,kvs,dv,b,⟨⟨cs,Sx g1,g2⟩,g3⟩,g4⟩
  .exact hy
  exact hy.elim
 | call call =>
  obtain⟨callee,args,ts⟩:=call;cases callee with
  | builtin b =>
   cases b with
   | len =>
    refine goY ht fun rd obj J sets ob hy=>?_;simp only [yR] at hy |-;refine aHj (fun x t hy=>?_) hy;split at hy
    .rename_i h;rw [aI h];unfold La at hy |-;split at hy
     .obtain⟨m,i,clock,kvs,⟨cs,g1,g2⟩,g4⟩:=hy;exact⟨m,i,clock,kvs,⟨cs,Sx g1,g2⟩,g4⟩
     exact hy.elim
    rename_i h;rw [aA h];exact hy
   | _=>simp [Lt] at ht
  | _=>simp [Lt] at ht
 | _=>simp [Lt] at ht
theorem aS4 {s:St} (ha:Xk c dst op=true)(h:jE P c dst op st (· =s)):∃J,s.obj=st.obj++J:=by
 cases op with
 | makeMap t r=>
  unfold jE at h;simp only [Ff,isY,Bool.true_or,aT] at h;obtain⟨sets,ob,h1,rfl⟩:=h;have hf:(flY (Te c dst (.makeMap t r)) (.makeMap t r)).rO=true:=rfl;simp only [hf,aT,yR,tK] at h1;split at h1
  .obtain⟨_,rfl,rfl⟩:=h1;exact⟨[[]],rfl⟩
  exact h1.elim
 | alloc e =>
  simp only [Xk,gH,lS] at ha;obtain⟨⟨h1,h2⟩,h3⟩:=ha;unfold jE at h;simp only [h2,h3,dY,tT] at h;simp only [gU,bK] at h;split at h
  .rename_i cs d _;have:c.esc.contains d=true:=by simpa using h1
   simp only [this,aT] at h;subst h;exact⟨[cs],rfl⟩
  exact h.elim
 | box e x =>
  simp only [Xk,gH,lS] at ha;obtain⟨⟨⟨h1,h0⟩,h2⟩,h3⟩:=ha;unfold jE at h;simp only [h2,h3,dY,Hs] at h;simp only [gU,bK] at h;split at h
  .rename_i d;have e1:c.esc.contains d=true:=by simpa using h1
   have e2:c.imm.contains d=false:=by simpa using h0
   simp only [e1,e2,aT] at h;simp only [gU,bK] at h;obtain⟨_,rfl⟩:=h;exact⟨_,rfl⟩
  exact h.elim
 | _=>simp [Xk] at ha
inductive DK where
 | op (f:Fl)
 | pure
 | det
 | pureT
 | detT
 | read
 | pureC
 | readT
 | detA
 | nd
def DK.isNd:DK->Bool
 | .nd=>true
 | _=>false
def sK:DK->Fl
 | .op f=>f
 | .pure=>⟨false,false,false,false⟩
 | .pureT=>⟨false,false,false,false⟩
 | .detT=>⟨false,false,true,true⟩
 | .det=>⟨false,false,true,true⟩
 | .read=>⟨false,false,true,false⟩
 | .pureC=>⟨false,false,false,false⟩
 | .readT=>⟨false,false,true,false⟩
 | .detA=>⟨false,false,true,true⟩
 | .nd=>⟨false,false,true,true⟩
def He(c:Cfg)(dst:Option Tmp)(op:Op):DK->Bool
 | .op f=>f.rO && !f.wO && Lt c dst op
 | .readT=>true
 | _=>false
def aGl(c:Cfg)(dst:Option Tmp)(op:Op):DK->Bool
 | .op _=>Xk c dst op
 | .detA=>true
 | _=>false
theorem aC6 {k:DK} (h:He c dst op k=true):(sK k).rO=true/\(sK k).wO=false:=by
 cases k <;> simp_all [He,sK]
def xI(c:Cfg)(dst:Option Tmp)(op:Op):DK->List Nat
 | .op _=>pU c dst op
 | .pureT | .detT=>dst.toList++kI op
 | _=>dst.toList
def aZc(P:Program)(dst:Option Tmp)(op:Op)(st:St)(Q:D->List (List D)->Prop):Prop:=match op with
 | .call { callee:= .value (.func f),args, .. } =>nB args.toList st/\Ct P f (iM args.toList st) st.obj Q/\∃r σ0,Q r σ0
 | _=>False
def Ba(P:Program)(c:Cfg)(dst:Option Tmp)(op:Op)(k:DK)(st:St)(K:St->Prop):Prop:=
 match k with
 | .op f=>mH op=false/\pY c dst st op=f/\jE P c dst op st K
 | .pure=>match op with
  | .call { callee:= .value (.func f),args, .. } =>nB args.toList st/\∃r,(∀σ,Ct P f (iM args.toList st) σ fun r' σ'=>r'=r/\σ'=σ)/\K (st.put dst (.d r))
  | _=>False
 | .read=>match op with
  | .call { callee:= .value (.func f),args, .. } =>nB args.toList st/\∃r,(Ct P f (iM args.toList st) st.obj fun r' σ'=>r'=r/\σ'=st.obj)/\K (st.put dst (.d r))
  | _=>False
 | .pureC => match op with
  | .call { callee:= .value f,args, .. } =>match st.rd f with
   | .clo (.func fid) first caps=>(∀d∈first++caps,d.plain=true)/\nB args.toList st/\∃r,(∀σ,Ct P fid (first.map D.strip++iM args.toList st++caps.map D.strip) σ fun r' σ'=>r'=r/\σ'=σ)/\K (st.put dst (.d r))
   | _=>False
  | _=>False
 | .readT=>match op with
  | .call { callee:= .value (.func f),args, .. } =>nB args.toList st/\∃r,(∀J,Ct P f (iM args.toList st) (st.obj++J) fun r' σ'=>r'=r/\σ'=st.obj++J)/\K (st.put dst (.d r))
  | _=>False
 | .nd=>∃Q,aZc P dst op st Q/\∀r σ0,Q r σ0->K (({ st with obj:=σ0 } :St).put dst (.d r))
 | .detA=>match op with
  | .call { callee:= .value (.func f),args, .. } =>nB args.toList st/\∃r J,(Ct P f (iM args.toList st) st.obj fun r' σ'=>r'=r/\σ'=st.obj++J)/\K (({ st with obj:=st.obj++J } :St).put dst (.d r))
  | _=>False
 | .det=>match op with
  | .call { callee:= .value (.func f),args, .. } =>nB args.toList st/\∃r σ0,(Ct P f (iM args.toList st) st.obj fun r' σ'=>r'=r/\σ'=σ0)/\K (({ st with obj:=σ0 } :St).put dst (.d r))
  | _=>False
 | .pureT => match dst, op with
  | some d,.call { callee:= .value (.func f),args, .. } =>(args.toList.filterMap cQ).Nodup/\(∀x∈args.toList,Au (st.rdS x)=true/\(st.rd x).plain=true)/\
   ∃r,(∀σ,Ct P f (args.toList.map (wQ st)) σ fun r' σ'=>r'=r/\σ'=σ)/\K (({ st with env:=gX (args.toList.map cQ) st.env } :St).put (some d) (.d r))
  | _,_=>False
 | .detT => match dst, op with
  | some d,.call { callee:= .value (.func f),args, .. } =>(args.toList.filterMap cQ).Nodup/\(∀x∈args.toList,Au (st.rdS x)=true/\(st.rd x).plain=true)/\
   ∃r σ0,(Ct P f (args.toList.map (wQ st)) st.obj fun r' σ'=>r'=r/\σ'=σ0)/\K (({ st with env:=gX (args.toList.map cQ) st.env,obj:=σ0 } :St).put (some d) (.d r))
  | _,_=>False
def Aw(c:Cfg)(all:List Oper)(o:Oper)(k:DK):List Nat:=xI c o.dst o.op k++kI o.op++match o.guard with
 | none=> []
 | some (j,_)=>(aK all j).toList
def gP(ws:List Nat)(f:Fl)(s:St):Delta:=⟨ws.map fun t=>(t,s.env t),if f.wL then some s.loc else none,if f.wO then some s.obj else none⟩
theorem vC(ws:List Nat)(f:Fl)(s st:St)(t:Nat):(st.upd (gP ws f s)).env t=if t∈ws then s.env t else st.env t:=by
 simp only [St.upd,gP];exact Bg ws s.env st.env t
def Oj(P:Program)(all:List Oper)(o:Oper)(st:St)(K:St->Prop):Prop:=
 ∀(w:World) (g:Gh) (tmps:Array Value),Ok w g st (cL tmps)->tmps.size=st.n->
  (Region.wanted o (yielded all.toArray tmps)=true->o.wp P ⟨tmps, []⟩ w (fun a w'=>a.defers= []/\∃st' g',K st'/\Fr w g w' g'/\Ok w' g' st' (cL a.tmps)/\a.tmps.size=st'.n) (fun _ _ _=>False))/\
  (Region.wanted o (yielded all.toArray tmps)=false->∃st' g',K st'/\Fr w g w g'/\Ok w g' st' (cL ((⟨tmps, []⟩:Act).put o.dst undef).tmps)/\tmps.size=st'.n)
structure AgreeD(rs:List Nat)(f:Fl)(tol:Bool)(st st':St):Prop where
 n:st'.n=st.n
 env:∀t,t∈rs->st'.env t=st.env t
 loc:f.rL=true->st'.loc=st.loc
 obj:f.rO=true->(tol=false->st'.obj=st.obj)/\∃J,st'.obj=st.obj++J
theorem Agree.toD (h:Agree rs f st st'):AgreeD rs f tol st st':=⟨h.n,h.env,h.loc,fun e=>⟨fun _=>h.obj e, [],by rw [h.obj e,gN]⟩⟩
theorem AgreeD.toA (h:AgreeD rs f false st st'):Agree rs f st st':=⟨h.n,h.env,h.loc,fun e=>(h.obj e).1 rfl⟩
theorem AgreeD.toT (h:AgreeD rs f tol st st'):AgreeT rs f st st':=⟨h.n,h.env,h.loc,fun e=>(h.obj e).2⟩
structure Step(P:Program)(c:Cfg)(all:List Oper)(o:Oper)(k:DK)(st s:St):Prop where
 self:s=st.upd (gP (xI c o.dst o.op k) (sK k) s)
 app:aGl c o.dst o.op k=true->∃J,s.obj=st.obj++J
 go:k.isNd=false->∀st',AgreeD (Aw c all o k) (sK k) (He c o.dst o.op k) st st'->Oj P all o st' (· =st'.upd (gP (xI c o.dst o.op k) (sK k) s))
theorem aIq(c:Cfg)(dst:Option Tmp)(st:St)(op:Op):((iY c dst st op).wL=true->(iY c dst st op).rL=true)/\((iY c dst st op).wO=true->(iY c dst st op).rO=true):=by
 have ad:∀w s,((kG w s).wL=true->(kG w s).rL=true)/\((kG w s).wO=true->(kG w s).rO=true):=by
  intro w s;cases s with
  | lref n o=>simp [kG]
  | d d=>cases d <;> simp [kG]
 cases op <;> simp only [iY] <;> try exact⟨id,id⟩
 .split <;> simp
 .split
  .simp
  split <;> simp
 .exact ad _ _
 .exact ad _ _
 rename_i call;obtain⟨callee,args,ts⟩:=call;cases callee <;> exact⟨id,id⟩
theorem Rf(c:Cfg)(dst:Option Tmp)(st:St)(op:Op):((pY c dst st op).wL=true->(pY c dst st op).rL=true)/\((pY c dst st op).wO=true->(pY c dst st op).rO=true):=by
 unfold pY;split
 .unfold flY;split <;> first | (simp;done) | (split <;> simp)
 split
 .unfold flX;split <;> simp
 exact aIq c dst st op
theorem Ri {δ:Delta} (hδ:δ.ok ws f)(hw:(f.wL=true->f.rL=true)/\(f.wO=true->f.rO=true))(ha:Agree ws f st st'):st'.upd δ=st'.upd (gP ws f (st.upd δ)):=by
 have key:∀t,gE δ.sets st'.env t=if t∈ws then gE δ.sets st.env t else st'.env t:=by
  intro t;split
  .rename_i ht;have:∀(l:List (Nat×Slot)) (e e':Nat->Slot),e t=e' t->gE l e t=gE l e' t:=by
    intro l;induction l with
    | nil=>intro e e' h;exact h
    | cons p l ih=>
     obtain⟨x,y⟩:=p;intro e e' h;exact ih _ _ (by split <;> first | rfl | exact h)
   exact this _ _ _ (ha.env t ht)
  rename_i ht;exact Yo fun p hp e=>ht (by rw [<- e];exact hδ.sets p hp)
 have h1:(st'.upd δ).env=(st'.upd (gP ws f (st.upd δ))).env:=by
  funext t;rw [vC];exact key t
 have h2:(st'.upd δ).loc=(st'.upd (gP ws f (st.upd δ))).loc:=by
  simp only [St.upd,gP];cases hl:f.wL with
  | true=>
   simp only [aT,kK];rw [ha.loc (hw.1 hl)]
  | false=>
   cases hd:δ.loc with
   | none=>simp
   | some l=>have:=hδ.loc (by simp [hd]);rw [hl] at this;cases this
 have h3:(st'.upd δ).obj=(st'.upd (gP ws f (st.upd δ))).obj:=by
  simp only [St.upd,gP];cases hl:f.wO with
  | true=>
   simp only [aT,kK];rw [ha.obj (hw.2 hl)]
  | false=>
   cases hd:δ.obj with
   | none=>simp
   | some l=>have:=hδ.obj (by simp [hd]);rw [hl] at this;cases this
 show(⟨_,_,_,_⟩:St)=⟨_,_,_,_⟩
 congr 1
theorem aGz (h:AgreeD rs f tol st st') {x:Operand} (hx:∀t,cQ x=some t->t∈rs):st'.rd x=st.rd x:=
 mE (rs:=rs) (f:=⟨false,false,false,false⟩) ⟨h.n,h.env,fun e=>(by cases e),fun e=>(by cases e)⟩ hx
theorem aLr {δ:Delta} (hδ:δ.ok ws f)(hw:f.wL=true->f.rL=true)(hO:f.wO=false)(ha:AgreeT ws f st st'):st'.upd δ=st'.upd (gP ws f (st.upd δ)):=by
 have:=Ri (st':= { st' with obj:=st.obj }) hδ ⟨hw,fun h=>by rw [hO] at h;cases h⟩ ⟨ha.n,ha.env,ha.loc,fun _=>rfl⟩;have hn:δ.obj=none:=by
  cases hd:δ.obj with
  | none=>rfl
  | some l=>have:=hδ.obj (by simp [hd]);rw [hO] at this;cases this
 simp only [St.upd,gP,hn,hO,St.mk.injEq] at this |-;simpa using this
theorem Bi(rs:List Nat)(f:Fl)(st:St):Agree rs f st st:=⟨rfl,fun _ _=>rfl,fun _=>rfl,fun _=>rfl⟩
theorem Agree.sub {rs':List Nat} (h:Agree rs f st st')(hs:∀t,t∈rs'->t∈rs):Agree rs' f st st':=⟨h.n,fun t ht=>h.env t (hs t ht),h.loc,h.obj⟩
theorem Uw (hw:∀(w:World) (g:Gh) (tmps:Array Value),Ok w g st (cL tmps)->Region.wanted o (yielded all.toArray tmps)=true)(h:Does P o st K):Oj P all o st K:=by
 intro w g tmps hok hn;refine⟨fun _=>?_,fun hf=>by rw [hw w g tmps hok] at hf;cases hf⟩;exact Oper.wp_mono (fun a w' ⟨h1,st',g',h2,h3,h4,h5,_⟩=>⟨h1,st',g',h2,h3,h4,h5⟩) (h w g tmps hok hn)
theorem Dl {f:FuncId} {d:Nat} {r:Slot} {e e':Nat->Slot} (he:∀t,t∈kI (.call ⟨.value (.func f),args,ts⟩)->e' t=e t)(u:Nat):
  gE (((some d).toList++kI (.call ⟨.value (.func f),args,ts⟩)).map fun t=>(t,if t=d then r else gX (args.toList.map cQ) e t)) e' u=if u=d then r else gX (args.toList.map cQ) e' u:=by
 rw [Bg];by_cases hu:u=d
 .subst hu;simp
 simp only [hu,bK];by_cases hm:u∈kI (.call ⟨.value (.func f),args,ts⟩)
 .rw [aI (by simp [hm])];simp only [gX,he u hm]
 rw [aA (by simp [hm,hu])];have hc:(args.toList.map cQ).contains (some u)=false:=by
  rw [qF];intro hc;obtain⟨x,hx,hx'⟩:=aX.1 (by simpa using hc:some u∈args.toList.map cQ);exact hm (eL (by simp [Op.operands,Call.operands];right;simpa using hx) u hx')
 simp only [gX,hc];rfl
theorem aPo {k:DK} (hnd:k.isNd=false)(hfw:((sK k).wL=true->(sK k).rL=true)/\((sK k).wO=true->(sK k).rO=true))(hd:eE o st)(h:match o.guard with
  | none=>Ba P c o.dst o.op k st K
  | some (j,want)=>∃t b,aK all j=some t/\Ii (st.env t) want=some b/\(b=want->Ba P c o.dst o.op k st K)/\(b= !want->K (st.put o.dst .und))):∃s,K s/\Step P c all o k st s:=by
 -- the body of the step,taken
 have taken : Ba P c o.dst o.op k st K -> ∃ s, K s /\ s = st.upd (gP (xI c o.dst o.op k) (sK k) s) /\ (aGl c o.dst o.op k = true -> ∃ J, s.obj = st.obj ++ J) /\ ∀ st', AgreeD (Aw c all o k) (sK k) (He c o.dst o.op k) st st' -> Does P o st' (· = st'.upd (gP (xI c o.dst o.op k) (sK k) s)) := by
  intro h;have hd':∀st',st'.n=st.n->eE o st':=fun st' hn=>by unfold eE at *;split <;> simp_all
  cases k with
  | nd=>cases hnd
  | op f =>
   obtain⟨h1,rfl,h3⟩:=h;obtain⟨s,hK,hs⟩:=aAc h1 h3;have loc:∀st',Agree (Aw c all o (.op (pY c o.dst st o.op))) (pY c o.dst st o.op) st st'->∃δ:Delta,δ.ok (pU c o.dst o.op) (pY c o.dst st o.op)/\s=st.upd δ/\jE P c o.dst o.op st' (· =st'.upd δ):=by
    intro st' ha;have hl:=aMj (aWs h1) (rs:=Aw c all o (.op (pY c o.dst st o.op))) (fun t ht=>by simp [Aw,ht]) ha hs;obtain⟨s',⟨δ,d1,d2,rfl⟩,h5⟩:=aAc h1 hl;exact⟨δ,d1,d2.symm,h5⟩
   obtain⟨δ0,d1,d2,_⟩:=loc st (Bi _ _ _);refine⟨s,hK,?_,fun hap=>aS4 hap hs,fun st' ha=>?_⟩
   .have:=Ri d1 (Rf c o.dst st o.op) (Bi (pU c o.dst o.op) (pY c o.dst st o.op) st);rw [<- d2] at this;exact this
   by_cases htl:He c o.dst o.op (.op (pY c o.dst st o.op))=true
   .have hT:=ha.toT;have hop:Lt c o.dst o.op=true:=by simp only [He,gH] at htl;exact htl.2
    have hl:=aU9 hop (rs:=Aw c all o (.op (pY c o.dst st o.op))) (fun t ht=>by simp [Aw,ht]) hT hs;obtain⟨s',⟨δ,e1,e2,rfl⟩,e3⟩:=aAc h1 hl;have:=aLr e1 (Rf c o.dst st o.op).1 (aC6 htl).2 ⟨hT.n,fun t ht=>hT.env t (by simp [Aw,xI,ht]),hT.loc,hT.obj⟩;rw [e2] at this;simp only [xI,sK];rw [<- this];exact Qx ⟨hd' st' ha.n,e3⟩
   have ha:Agree (Aw c all o (.op (pY c o.dst st o.op))) (pY c o.dst st o.op) st st':=by
    have e:He c o.dst o.op (.op (pY c o.dst st o.op))=false:=by simpa using htl
    rw [e] at ha;exact ha.toA
   obtain⟨δ,e1,e2,e3⟩:=loc st' ha;have:=Ri e1 (Rf c o.dst st o.op) (ha.sub (rs':=pU c o.dst o.op) (fun t ht=>by simp [Aw,xI,ht]));rw [<- e2] at this;simp only [xI,sK];rw [<- this];exact Qx ⟨hd' st' ha.n,e3⟩
  | pure =>
   obtain⟨dst,op,ty,pos,after,guard⟩:=o;simp only [Ba] at h;split at h
   .rename_i f args ts _;obtain⟨h1,r,h2,h3⟩:=h;have ups:∀st':St,st'.upd (gP dst.toList ⟨false,false,false,false⟩ (st.put dst (.d r)))=st'.put dst (.d r):=by
     intro st';cases dst with
     | none=>rfl
     | some d=>
      refine St.mk.injEq .. |>.mpr ⟨rfl,?_,rfl,rfl⟩
      funext u;show gE [(d,(st.put (some d) (.d r)).env d)] st'.env u=_
      simp [gE,St.put,St.set]
    refine⟨_,h3,(ups st).symm,fun e=>(by cases e),fun st' ha=>?_⟩;replace ha:=ha.toA;simp only [xI,sK];rw [ups st'];have hargs:∀x∈args.toList,st'.rd x=st.rd x:=fun x hx=>mE ha fun t ht=>by
     have:=eL (op:= .call ⟨.value (.func f),args,ts⟩) (x:=x) (by simp [Op.operands,Call.operands];right;simpa using hx) t ht;simp [Aw,this]
    refine nZ (.func f) args ts (hd' st' ha.n) rfl ?_;unfold mU;simp only [yM];refine⟨by simp,fun x hx=>by rw [hargs x hx];exact h1 x hx,?_⟩;have e1:iM args.toList st'=iM args.toList st:=dI fun x hx=>nL (hargs x hx);rw [e1];simpa using(h2 st'.obj).mono fun r' σ' ⟨a,b⟩=>by subst a;subst b;rfl
   exact h.elim
  | pureC =>
   obtain⟨dst,op,ty,pos,after,guard⟩:=o;simp only [Ba] at h;split at h
   .rename_i f args ts _;split at h
    .rename_i fid first caps hf
     obtain⟨h0,h1,r,h2,h3⟩:=h;have ups:∀st':St,st'.upd (gP dst.toList ⟨false,false,false,false⟩ (st.put dst (.d r)))=st'.put dst (.d r):=by
      intro st';cases dst with
      | none=>rfl
      | some d=>
       refine St.mk.injEq .. |>.mpr ⟨rfl,?_,rfl,rfl⟩
       funext u;show gE [(d,(st.put (some d) (.d r)).env d)] st'.env u=_
       simp [gE,St.put,St.set]
     refine⟨_,h3,(ups st).symm,fun e=>(by cases e),fun st' ha=>?_⟩;replace ha:=ha.toA;simp only [xI,sK];rw [ups st'];have hargs:∀x∈args.toList,st'.rd x=st.rd x:=fun x hx=>mE ha fun t ht=>by
      have:=eL (op:= .call ⟨.value f,args,ts⟩) (x:=x) (by simp [Op.operands,Call.operands];right;simpa using hx) t ht;simp [Aw,this]
     have hff:st'.rd f=st.rd f:=mE ha fun t ht=>by
      have:=eL (op:= .call ⟨.value f,args,ts⟩) (x:=f) (by simp [Op.operands,Call.operands]) t ht;simp [Aw,this]
     refine nZ f args ts (hd' st' ha.n) rfl ?_;unfold mU;rw [hff,hf];refine⟨h0,fun x hx=>by rw [hargs x hx];exact h1 x hx,?_⟩;have e1:iM args.toList st'=iM args.toList st:=dI fun x hx=>nL (hargs x hx);rw [e1];exact(h2 st'.obj).mono fun r' σ' ⟨a,b⟩=>by subst a;subst b;rfl
    exact h.elim
   exact h.elim
  | read =>
   obtain⟨dst,op,ty,pos,after,guard⟩:=o;simp only [Ba] at h;split at h
   .rename_i f args ts _;obtain⟨h1,r,h2,h3⟩:=h;have ups:∀st':St,st'.upd (gP dst.toList ⟨false,false,true,false⟩ (st.put dst (.d r)))=st'.put dst (.d r):=by
     intro st';cases dst with
     | none=>rfl
     | some d=>
      refine St.mk.injEq .. |>.mpr ⟨rfl,?_,rfl,rfl⟩
      funext u;show gE [(d,(st.put (some d) (.d r)).env d)] st'.env u=_
      simp [gE,St.put,St.set]
    refine⟨_,h3,(ups st).symm,fun e=>(by cases e),fun st' ha=>?_⟩;replace ha:=ha.toA;simp only [xI,sK];rw [ups st'];have hargs:∀x∈args.toList,st'.rd x=st.rd x:=fun x hx=>mE ha fun t ht=>by
     have:=eL (op:= .call ⟨.value (.func f),args,ts⟩) (x:=x) (by simp [Op.operands,Call.operands];right;simpa using hx) t ht;simp [Aw,this]
    refine nZ (.func f) args ts (hd' st' ha.n) rfl ?_;unfold mU;simp only [yM];refine⟨by simp,fun x hx=>by rw [hargs x hx];exact h1 x hx,?_⟩;have e1:iM args.toList st'=iM args.toList st:=dI fun x hx=>nL (hargs x hx);rw [e1];rw [show st'.obj=st.obj from ha.obj rfl];simpa using h2.mono fun r' σ' ⟨a,b⟩=>by subst a;subst b;rw [<- show st'.obj=st.obj from ha.obj rfl]
   exact h.elim
  | det =>
   obtain⟨dst,op,ty,pos,after,guard⟩:=o;simp only [Ba] at h;split at h
   .rename_i f args ts _;obtain⟨h1,r,σ0,h2,h3⟩:=h;have ups:∀st':St,st'.upd (gP dst.toList ⟨false,false,true,true⟩ (({ st with obj:=σ0 } :St).put dst (.d r)))=({ st' with obj:=σ0 } :St).put dst (.d r):=by
     intro st';cases dst with
     | none=>rfl
     | some d=>
      refine St.mk.injEq .. |>.mpr ⟨rfl,?_,rfl,rfl⟩
      funext u;show gE [(d,(({ st with obj:=σ0 } :St).put (some d) (.d r)).env d)] st'.env u=_
      simp [gE,St.put,St.set]
    refine⟨_,h3,(ups st).symm,fun e=>(by cases e),fun st' ha=>?_⟩;replace ha:=ha.toA;simp only [xI,sK];rw [ups st'];have hargs:∀x∈args.toList,st'.rd x=st.rd x:=fun x hx=>mE ha fun t ht=>by
     have:=eL (op:= .call ⟨.value (.func f),args,ts⟩) (x:=x) (by simp [Op.operands,Call.operands];right;simpa using hx) t ht;simp [Aw,this]
    refine nZ (.func f) args ts (hd' st' ha.n) rfl ?_;unfold mU;simp only [yM];refine⟨by simp,fun x hx=>by rw [hargs x hx];exact h1 x hx,?_⟩;have e1:iM args.toList st'=iM args.toList st:=dI fun x hx=>nL (hargs x hx);have e2:st'.obj=st.obj:=ha.obj rfl;rw [e1,e2];simpa using h2.mono fun r' σ' ⟨a,b⟩=>by subst a;subst b;rfl
   exact h.elim
  | readT =>
   obtain⟨dst,op,ty,pos,after,guard⟩:=o;simp only [Ba] at h;split at h
   .rename_i f args ts _;obtain⟨h1,r,h2,h3⟩:=h;have ups:∀st':St,st'.upd (gP dst.toList ⟨false,false,true,false⟩ (st.put dst (.d r)))=st'.put dst (.d r):=by
     intro st';cases dst with
     | none=>rfl
     | some d=>
      refine St.mk.injEq .. |>.mpr ⟨rfl,?_,rfl,rfl⟩
      funext u;show gE [(d,(st.put (some d) (.d r)).env d)] st'.env u=_
      simp [gE,St.put,St.set]
    refine⟨_,h3,(ups st).symm,fun e=>(by cases e),fun st' ha=>?_⟩;obtain⟨J,hJ⟩:=(ha.obj rfl).2;simp only [xI,sK];rw [ups st'];have hargs:∀x∈args.toList,st'.rd x=st.rd x:=fun x hx=>aGz ha fun t ht=>by
     have:=eL (op:= .call ⟨.value (.func f),args,ts⟩) (x:=x) (by simp [Op.operands,Call.operands];right;simpa using hx) t ht;simp [Aw,this]
    refine nZ (.func f) args ts (hd' st' ha.n) rfl ?_;unfold mU;simp only [yM];refine⟨by simp,fun x hx=>by rw [hargs x hx];exact h1 x hx,?_⟩;have e1:iM args.toList st'=iM args.toList st:=dI fun x hx=>nL (hargs x hx);rw [e1];rw [hJ];simpa using(h2 J).mono fun r' σ' ⟨a,b⟩=>by subst a;subst b;rw [<- hJ]
   exact h.elim
  | detA =>
   obtain⟨dst,op,ty,pos,after,guard⟩:=o;simp only [Ba] at h;split at h
   .rename_i f args ts _;obtain⟨h1,r,J,h2,h3⟩:=h;have ups:∀st':St,st'.upd (gP dst.toList ⟨false,false,true,true⟩ (({ st with obj:=st.obj++J } :St).put dst (.d r)))=({ st' with obj:=st.obj++J } :St).put dst (.d r):=by
     intro st';cases dst with
     | none=>rfl
     | some d=>
      refine St.mk.injEq .. |>.mpr ⟨rfl,?_,rfl,rfl⟩
      funext u;show gE [(d,(({ st with obj:=st.obj++J } :St).put (some d) (.d r)).env d)] st'.env u=_
      simp [gE,St.put,St.set]
    refine⟨_,h3,(ups st).symm,fun _=>⟨J,by cases dst <;> rfl⟩,fun st' ha=>?_⟩;replace ha:=ha.toA;simp only [xI,sK];rw [ups st'];have hargs:∀x∈args.toList,st'.rd x=st.rd x:=fun x hx=>mE ha fun t ht=>by
     have:=eL (op:= .call ⟨.value (.func f),args,ts⟩) (x:=x) (by simp [Op.operands,Call.operands];right;simpa using hx) t ht;simp [Aw,this]
    refine nZ (.func f) args ts (hd' st' ha.n) rfl ?_;unfold mU;simp only [yM];refine⟨by simp,fun x hx=>by rw [hargs x hx];exact h1 x hx,?_⟩;have e1:iM args.toList st'=iM args.toList st:=dI fun x hx=>nL (hargs x hx);have e2:st'.obj=st.obj:=ha.obj rfl;rw [e1,e2];simpa using h2.mono fun r' σ' ⟨a,b⟩=>by subst a;subst b;rfl
   exact h.elim
  | pureT =>
   obtain⟨dst,op,ty,pos,after,guard⟩:=o;simp only [Ba] at h;split at h
   .rename_i d f args ts _;obtain⟨h0,h1,r,h2,h3⟩:=h;have ups:∀st':St,(∀t,t∈kI (.call ⟨.value (.func f),args,ts⟩)->st'.env t=st.env t)->
      st'.upd (gP ((some d).toList++kI (.call ⟨.value (.func f),args,ts⟩)) ⟨false,false,false,false⟩ (({ st with env:=gX (args.toList.map cQ) st.env } :St).put (some d) (.d r)))=({ st' with env:=gX (args.toList.map cQ) st'.env } :St).put (some d) (.d r):=by
     intro st' he;refine St.mk.injEq .. |>.mpr ⟨rfl,?_,rfl,rfl⟩
     funext u;exact Dl he u
    refine⟨_,h3,(ups st fun _ _=>rfl).symm,fun e=>(by cases e),fun st' ha=>?_⟩;replace ha:=ha.toA;have he:∀t,t∈kI (.call ⟨.value (.func f),args,ts⟩)->st'.env t=st.env t:=fun t ht=>ha.env t (by simp [Aw,ht]);simp only [xI,sK];rw [ups st' he];have hargs:∀x∈args.toList,st'.rd x=st.rd x:=fun x hx=>mE ha fun t ht=>by
     have:=eL (op:= .call ⟨.value (.func f),args,ts⟩) (x:=x) (by simp [Op.operands,Call.operands];right;simpa using hx) t ht;simp [Aw,this]
    have hargS:∀x∈args.toList,st'.rdS x=st.rdS x:=fun x hx=>sR ha fun t ht=>by
     have:=eL (op:= .call ⟨.value (.func f),args,ts⟩) (x:=x) (by simp [Op.operands,Call.operands];right;simpa using hx) t ht;simp [Aw,this]
    refine Cg f args ts (hd' st' ha.n) rfl ?_;unfold pO;refine⟨h0,fun x hx=>by rw [hargs x hx,hargS x hx];exact h1 x hx,?_⟩;have e1:args.toList.map (wQ st')=args.toList.map (wQ st):=dI fun x hx=>Ce (hargs x hx);rw [e1];exact(h2 st'.obj).mono fun r' σ' ⟨a,b⟩=>by subst a;subst b;rfl
   exact h.elim
  | detT =>
   obtain⟨dst,op,ty,pos,after,guard⟩:=o;simp only [Ba] at h;split at h
   .rename_i d f args ts _;obtain⟨h0,h1,r,σ0,h2,h3⟩:=h;have ups:∀st':St,(∀t,t∈kI (.call ⟨.value (.func f),args,ts⟩)->st'.env t=st.env t)->
      st'.upd (gP ((some d).toList++kI (.call ⟨.value (.func f),args,ts⟩)) ⟨false,false,true,true⟩ (({ st with env:=gX (args.toList.map cQ) st.env,obj:=σ0 } :St).put (some d) (.d r)))=({ st' with env:=gX (args.toList.map cQ) st'.env,obj:=σ0 } :St).put (some d) (.d r):=by
     intro st' he;refine St.mk.injEq .. |>.mpr ⟨rfl,?_,rfl,rfl⟩
     funext u;exact Dl he u
    refine⟨_,h3,(ups st fun _ _=>rfl).symm,fun e=>(by cases e),fun st' ha=>?_⟩;replace ha:=ha.toA;have he:∀t,t∈kI (.call ⟨.value (.func f),args,ts⟩)->st'.env t=st.env t:=fun t ht=>ha.env t (by simp [Aw,ht]);simp only [xI,sK];rw [ups st' he];have hargs:∀x∈args.toList,st'.rd x=st.rd x:=fun x hx=>mE ha fun t ht=>by
     have:=eL (op:= .call ⟨.value (.func f),args,ts⟩) (x:=x) (by simp [Op.operands,Call.operands];right;simpa using hx) t ht;simp [Aw,this]
    have hargS:∀x∈args.toList,st'.rdS x=st.rdS x:=fun x hx=>sR ha fun t ht=>by
     have:=eL (op:= .call ⟨.value (.func f),args,ts⟩) (x:=x) (by simp [Op.operands,Call.operands];right;simpa using hx) t ht;simp [Aw,this]
    refine Cg f args ts (hd' st' ha.n) rfl ?_;unfold pO;refine⟨h0,fun x hx=>by rw [hargs x hx,hargS x hx];exact h1 x hx,?_⟩;have e1:args.toList.map (wQ st')=args.toList.map (wQ st):=dI fun x hx=>Ce (hargs x hx);have e2:st'.obj=st.obj:=ha.obj rfl;rw [e1,e2];exact h2.mono fun r' σ' ⟨a,b⟩=>by subst a;subst b;rfl
   exact h.elim
 split at h
 .rename_i hg;obtain⟨s,h1,h2,h0,h3⟩:=taken h;exact⟨s,h1,h2,h0,fun _ st' ha=>Uw (fun w g tmps _=>by simp [Region.wanted,hg]) (h3 st' ha)⟩
 rename_i j want hg;obtain⟨t,b,h1,h2,h3,h4⟩:=h;have hin:t∈Aw c all o k:=by simp [Aw,hg,h1]
 by_cases hb:b=want
 .obtain⟨s,k1,k2,k0,k3⟩:=taken (h3 hb);refine⟨s,k1,k2,k0,fun _ st' ha=>Uw (fun w g tmps hok=>?_) (k3 st' ha)⟩;have:=Gl (all:=all) (j:=j) (want:=want) hok h1 (by rw [ha.env t hin];exact h2);simp [Region.wanted,hg,this,hb]
 have hb':b= !want:=by cases b <;> cases want <;> simp_all
 have hdw:∀d,o.dst=some d->d∈xI c o.dst o.op k:=by
  intro d e;cases k <;> simp [xI,pU,e]
 have same:∀st',AgreeD (Aw c all o k) (sK k) (He c o.dst o.op k) st st'->st'.upd (gP (xI c o.dst o.op k) (sK k) (st.put o.dst .und))=st'.put o.dst .und:=by
  intro st' ha;refine St.mk.injEq .. |>.mpr ⟨by cases o.dst <;> rfl,?_,?_,?_⟩
  .funext u;have:=vC (xI c o.dst o.op k) (sK k) (st.put o.dst .und) st' u;simp only [St.upd,gP] at this;rw [gP];simp only;rw [this];have hin':u∈xI c o.dst o.op k->st'.env u=st.env u:=fun hu=>ha.env u (by simp [Aw,hu]);cases hd':o.dst with
   | none=>
    rw [hd'] at hin';split
    .rename_i hu;exact(hin' hu).symm
    rfl
   | some d=>
    rw [hd'] at hin';have hdw':=hdw d hd';rw [hd'] at hdw';simp only [St.put,St.set];by_cases hu:u=d
    .subst hu;simp [hdw']
    simp only [hu,bK];split
    .rename_i h;exact(hin' h).symm
    rfl
  .simp only [gP];cases hl:(sK k).wL with
   | true=>have:=ha.loc (hfw.1 hl);cases o.dst <;> simp [St.put,St.set,this]
   | false=>cases o.dst <;> simp [St.put,St.set]
  simp only [gP];cases hl:(sK k).wO with
  | true=>
   have:=(ha.obj (hfw.2 hl)).1 (by cases ht:He c o.dst o.op k with | false=>rfl | true=>have:=(aC6 ht).2;rw [hl] at this;cases this);cases o.dst <;> simp [St.put,St.set,this]
  | false=>cases o.dst <;> simp [St.put,St.set]
 refine⟨_,h4 hb',(same st (Bi _ _ _).toD).symm,fun _=>⟨[],by cases o.dst <;> simp [St.put,St.set]⟩,fun _ st' ha=>?_⟩;rw [same st' ha];intro w g tmps hok hn;have hy:=Gl (all:=all) (j:=j) (want:=want) hok h1 (by rw [ha.env t hin];exact h2);have hw:Region.wanted o (yielded all.toArray tmps)=false:=by simp [Region.wanted,hg,hy,hb]
 refine⟨fun h=>(by rw [hw] at h;cases h),fun _=>?_⟩;have hdst:∀d,o.dst=some d->d<tmps.size:=by
  intro d hd';have hd2:d<st.n:=by simpa [eE,hd'] using hd
  rw [hn,ha.n];exact hd2
 refine⟨_,g,rfl,Fr.refl w g,?_,by rw [Vz];exact hn⟩;rw [Do tmps [] o.dst undef hdst];exact hok.put o.dst .und undef fun t _=>aLp t
end
section
variable {P:Program}
def Hj(acc:List Nat)(after:List Edge):Nat:=after.foldl (fun s e=>if Region.binds .any e then s ||| 2 ^ e.on ||| acc.getD e.on 0 else s) 0
def yB:List Oper->List Nat->List Nat
 | [],acc=>acc
 | o::r,acc=>yB r (acc++ [Hj acc o.after.toList])
theorem Lb(acc:List Nat):∀(after:List Edge) (s i:Nat),(after.foldl (fun s e=>if Region.binds .any e then s ||| 2 ^ e.on ||| acc.getD e.on 0 else s) s).testBit i=true->s.testBit i=true\/∃e∈after,Region.binds .any e=true/\(e.on=i\/(acc.getD e.on 0).testBit i=true)
 | [],s,i,h=> .inl h
 | e :: r, s, i, h => by
  simp only [dO] at h;rcases Lb acc r _ i h with h1 | ⟨e',he',h1⟩
  .split at h1
   .rename_i hb;rw [Nat.testBit_or,Nat.testBit_or,Nat.testBit_two_pow] at h1;simp only [vG,fF] at h1;rcases h1 with (h1 | h1) | h1
    .exact .inl h1
    .exact .inr ⟨e,by simp,hb,.inl h1⟩
    exact .inr ⟨e,by simp,hb,.inr h1⟩
   exact .inl h1
  exact .inr ⟨e',by simp [he'],h1⟩
theorem Qi:∀(r:List Oper) (acc:List Nat),(yB r acc).take acc.length=acc/\(yB r acc).length=acc.length+r.length
 | [],acc=>by simp [yB]
 | o::r,acc=>by
  obtain⟨h1,h2⟩:=Qi r (acc++ [Hj acc o.after.toList]);simp only [yB];simp only [bB,vI] at h1 h2;refine⟨?_,by rw [h2];simp;omega⟩;have:=congrArg (List.take acc.length) h1;rw [List.take_take,kL (by omega)] at this;rw [this];simp
theorem Pv:∀(r:List Oper) (acc:List Nat) (k:Nat) (o:Oper),r[k]?=some o->(yB r acc)[acc.length+k]?=some (Hj ((yB r acc).take (acc.length+k)) o.after.toList)
 | [],acc,k,o,h=>by simp at h
 | o' :: r, acc, 0, o, h => by
  simp at h;subst h;simp only [yB,kM];obtain⟨h1,h2⟩:=Qi r (acc++ [Hj acc o'.after.toList]);simp only [bB,vI] at h1;have e1:(yB r (acc++ [Hj acc o'.after.toList])).take acc.length=acc:=by
   have:=congrArg (List.take acc.length) h1;rw [List.take_take,kL (by omega)] at this;rw [this];simp
  rw [e1];have:=congrArg (fun l=>l[acc.length]?) h1;simp only [eT,Nat.lt_succ_self,aT] at this;rw [this];simp
 | o'::r,acc,k+1,o,h=>by
  simp only [yB];have:=Pv r (acc++ [Hj acc o'.after.toList]) k o (by simpa using h);simp only [bB,vI] at this;rw [show acc.length+1+k=acc.length+(k+1) by omega] at this;exact this
def rY(ops:List Oper)(i j:Nat):Bool:=((yB ops []).getD j 0).testBit i
theorem Zd {ops:List Oper} {i j:Nat} (ho:ops[j]?=some o)(h:rY ops i j=true):∃e∈o.after.toList,Region.binds .any e=true/\(e.on=i\/(e.on<j/\rY ops i e.on=true)):=by
 unfold rY at h;have hg:=Pv ops [] j o ho;simp only [dC,eX] at hg;rw [List.getD,hg,kK] at h;rcases Lb _ _ _ _ h with h1 | ⟨e,he,hb,h1⟩
 .simp at h1
 refine⟨e,he,hb,?_⟩;rcases h1 with h1 | h1
 .exact .inl h1
 refine .inr ?_;rw [List.getD,eT] at h1;split at h1
 .rename_i hlt;exact⟨hlt,h1⟩
 simp at h1
structure FP where
 ws:List Nat
 rs:List Nat
 f:Fl
 t:Bool
 a:Bool
def FP.apart(a b:FP):Bool:=
 a.ws.all (fun t=> !b.ws.contains t && !b.rs.contains t) && b.ws.all (fun t=> !a.rs.contains t) &&
 !(a.f.wL && (b.f.rL || b.f.wL)) && !(b.f.wL && a.f.rL) && !(a.f.wO && (b.f.rO || b.f.wO)) && !(b.f.wO && a.f.rO && !(a.t && b.a))
def Cw(c:Cfg)(ops:List Oper)(o:Oper)(k:DK):FP:=⟨xI c o.dst o.op k,Aw c ops o k,sK k,He c o.dst o.op k,aGl c o.dst o.op k⟩
def fps(c:Cfg)(all ops:List Oper)(ks:List DK):List FP:=(ops.zip ks).map fun p=>Cw c all p.1 p.2
def aMa(f:Fl):Bool:=(!f.wL || f.rL) && (!f.wO || f.rO)
def iZ(π:List Nat)(ops:List Oper):List Oper:=π.filterMap fun i=>ops[i]?
def Lz:List Nat->Bool
 | []=>true
 | a::l=> !l.contains a && Lz l
def Ja(c:Cfg)(all:List Oper)(π:List Nat)(ks:List DK):Bool:=
 ks.length==all.length && ks.all (fun k=>aMa (sK k)) && all.zipIdx.all (fun p=>p.1.after.toList.all fun e=> !Region.binds .any e || decide (e.on<p.2)) && (π.length==all.length && ((List.range all.length).all (fun i=>π.contains i) && (Lz π && π.all fun i=>decide (i<all.length)))) &&
 (fps c all (iZ π all) ks).zipIdx.all fun q=>(fps c all (iZ π all) ks).zipIdx.all fun p=> !decide (p.2<q.2) || rY all (π.getD p.2 0) (π.getD q.2 0) || p.1.apart q.1
def Ld(c:Cfg)(ops:List Oper)(ks:List DK):Bool:=Ja c ops (List.range ops.length) ks && ks.all fun k=> !k.isNd
def lU (P : Program) (c : Cfg) (all : List Oper) : List Oper -> List DK -> St -> (St -> Prop) -> Prop
 | [],_,st,K=>K st
 | o :: r, k :: ks, st, K => eE o st /\ match o.guard with
  | none=>Ba P c o.dst o.op k st fun s=>lU P c all r ks s K
  | some (j, want) => match aK all j with
   | some t=>match Ii (st.env t) want with
    | some b=>(b=want->Ba P c o.dst o.op k st fun s=>lU P c all r ks s K)/\(b= !want->lU P c all r ks (st.put o.dst .und) K)
    | none=>False
   | none=>False
 | _::_, [],_,_=>False
inductive Chain(P:Program)(c:Cfg)(all:List Oper):List Oper->List DK->St->List St->St->Prop
 | nil (ks:List DK) (st:St):Chain P c all [] ks st [] st
 | cons (o:Oper) (r:List Oper) (k:DK) (ks:List DK) (st s:St) (ss:List St) (e:St) (h:Step P c all o k st s) (hr:Chain P c all r ks s ss e):Chain P c all (o::r) (k::ks) st (s::ss) e
theorem aEv (h:aMa f=true):(f.wL=true->f.rL=true)/\(f.wO=true->f.rO=true):=by
 obtain⟨a,b,x,y⟩:=f;simp only [aMa] at h;cases a <;> cases b <;> cases x <;> cases y <;> simp_all
theorem Xo :∀(r:List Oper) (ks:List DK) (st:St) (K:St->Prop),(∀k∈ks,aMa (sK k)=true/\k.isNd=false)->lU P c all r ks st K->∃ss e,Chain P c all r ks st ss e/\K e
 | [],ks,st,K,_,h=>⟨[],st,.nil ks st,h⟩
 | _::_, [],_,_,_,h=>h.elim
 | o :: r, k :: ks, st, K, hw, h => by
  obtain⟨hd,h⟩:=h;have hs:∃s,lU P c all r ks s K/\Step P c all o k st s:=by
   refine aPo (hw k (by simp)).2 (aEv (hw k (by simp)).1) hd ?_;split at h
   .rename_i hg;try rw [hg]
    exact h
   rename_i j want hg;try rw [hg]
   split at h
   .rename_i t ht;split at h
    .rename_i b hb;exact⟨t,b,ht,hb,h.1,h.2⟩
    exact h.elim
   exact h.elim
  obtain⟨s,h1,h2⟩:=hs;obtain⟨ss,e,h3,h4⟩:=Xo r ks s K (fun k hk=>hw k (by simp [hk])) h1;exact⟨s::ss,e,.cons o r k ks st s ss e h2 h3,h4⟩
theorem Chain.append {A B:List Oper} {ka kb:List DK} {s e:St} {ss tt:List St} (h:Chain P c all A ka st ss s)(hl:ka.length=A.length)(g:Chain P c all B kb s tt e):Chain P c all (A++B) (ka++kb) st (ss++tt) e:=by
 induction h with
 | nil ks st=>obtain rfl:=zL.1 hl;exact g
 | cons o r k ks st s ss e' h hr ih=>exact .cons o _ k _ st s _ e h (ih (by simpa using hl) g)
end
end Go.Vm
