import Derived.Test.YtbgfljpnhhdkoaaGreatVm18
import Derived.Orders
set_option linter.all false
namespace Go.Vm
open Go
variable {K K':St->Prop}{all:List Oper}{args:Array Operand}{c:Cfg}{dst:Option Tmp}{f:Fl}{o:Oper}{op:Op}{rs ws:List Nat}{st st':St}{tol:Bool}{ts:Array TypeId}
section
variable {P:Program}
def lX:Op->Bool
 | .call { callee:= .builtin _, .. } =>false
 | .call _=>true
 | .binOp _ _ _ y _=>zS y
 | .range _ _ | .next _ _ | .entry _=>true
 | _=>false
theorem aXq (h:lX op=false):Ep op=false:=by
 cases op <;> first | rfl | simp [lX] at h
theorem aHd {op:BinOp} {t:TypeId} {x y:Slot} {K:D->Prop} (h:wQ P op t x y K):∃d,K d/\wQ P op t x y (· =d):=by
 unfold wQ at *;split at h
 .obtain⟨h1,h2⟩:=h;unfold Ic at *;cases op <;> simp only at h2 |- <;> first | exact⟨_,h2,h1,rfl⟩ | exact⟨_,h2.2,h1,h2.1,rfl⟩ | exact⟨_,h2.2.2,h1,h2.1,h2.2.1,rfl⟩ | exact h2.elim
 .unfold Ih at *;cases op <;> simp only at h |- <;> first | exact⟨_,h,rfl⟩ | exact⟨_,h.2,h.1,rfl⟩ | exact h.elim
 .obtain⟨h1,h2⟩:=h;cases op <;> simp only at h2 |- <;> first | exact⟨_,h2,h1,rfl⟩ | exact h2.elim
 .obtain⟨h1,h2⟩:=h;cases op <;> simp only at h2 |- <;> first | (obtain⟨b,e1,e2⟩:=h2;exact⟨_,e2,h1,b,e1,rfl⟩) | exact h2.elim
 .obtain⟨h1,h2⟩:=h;cases op <;> simp only at h2 |- <;> first | exact⟨_,h2,h1,rfl⟩ | exact h2.elim
 .obtain⟨h1,h2⟩:=h;cases op <;> simp only at h2 |- <;> first | exact⟨_,h2,h1,rfl⟩ | exact h2.elim
 exact h.elim
theorem aM8 {op:UnOp} {x:D} {K:D->Prop} (h:Ii op x K):∃d,K d/\Ii op x (· =d):=by
 unfold Ii at *;split at h
 .exact⟨_,h,rfl⟩
 .exact⟨_,h.2,h.1,rfl⟩
 exact h.elim
theorem aF1 {f:Operand} (hk:∀s,K s->K' s)(h:dV P c dst (.call ⟨.value f,args,ts⟩) st K):dV P c dst (.call ⟨.value f,args,ts⟩) st K':=by
 have pc:∀f,mQ P dst f args.toList st K->mQ P dst f args.toList st K':=by
  intro f h;unfold mQ at *;split at h
  .exact⟨h.1,h.2.1,h.2.2.mono fun r σ' hK=>hk _ hK⟩
  exact h
 have pt:∀fid,pU P dst fid args.toList st K->pU P dst fid args.toList st K':=fun fid h=>⟨h.1,h.2.1,h.2.2.mono fun r σ' hK=>hk _ hK⟩;simp only [dV,qQ] at *;cases f with
 | func fid =>
  simp only at *;cases dst with
  | none=>exact pc _ h
  | some d=>
   simp only at *;split at h
   .rename_i ht;rw [aK ht];exact pt _ h
   rename_i ht;rw [aD ht];exact pc _ h
 | _=>exact pc _ h
theorem aRv (hc:lX op=false)(h:dV P c dst op st K):∃s,K s/\dV P c dst op st (· =s):=by
 have mv:∀x,kX c dst x st K->∃s,K s/\kX c dst x st (· =s):=by
  intro x h;unfold kX at *;split at h
  .split at h
   .exact⟨_,h,rfl⟩
   split at h
   .rename_i ht;exact⟨_,h.2.2,by rw [aK ht];exact⟨h.1,h.2.1,rfl⟩⟩
   rename_i ht;exact⟨_,h.2,by rw [aD ht];exact⟨h.1,rfl⟩⟩
  .exact h.elim
  exact⟨_,h,rfl⟩
 have ld:∀t x,jY P dst t x st K->∃s,K s/\jY P dst t x st (· =s):=by
  intro t x h;unfold jY at *;split at h
  .split at h
   .exact⟨_,h,rfl⟩
   exact h.elim
  exact h.elim
 cases op with
 | move x=>exact mv x h
 | assign x=>exact mv x h
 | binOp b t x y yt=>
  have hy:¬zS y=true:=by simp only [lX] at hc;simp [hc]
  simp only [dV] at h |-;simp only [aD hy] at h |-;obtain⟨d,h1,h2⟩:=aHd (P:=P) h;exact⟨_,h1,Bn (fun e he=>by rw [he]) h2⟩
 | unOp u t x=>
  simp only [dV] at h |-;obtain⟨d,h1,h2⟩:=aM8 h;exact⟨_,h1,Gp (fun e he=>by rw [he]) h2⟩
 | load t x =>
  simp only [dV,lW] at *;split at h
  .split at h
   .rename_i htk;simp only [aK htk];split at h
    .split at h
     .split at h
      .exact⟨_,h.2.2,h.1,h.2.1,rfl⟩
      exact h.elim
     exact h.elim
    .split at h
     .split at h
      .exact⟨_,h.2.2,h.1,h.2.1,rfl⟩
      exact h.elim
     exact h.elim
    exact ld t x h
   rename_i htk;simp only [aD htk];exact ld t x h
  exact ld t x h
 | fieldAddr s x f=>
  simp only [dV,nB] at *;split at h
  .exact⟨_,h.2,h.1,rfl⟩
  exact h.elim
 | indexAddr t x i =>
  simp only [dV,nD] at *;split at h
  .split at h
   .split at h
    .exact⟨_,h.2.2.2,h.1,h.2.1,h.2.2.1,rfl⟩
    exact h.elim
   split at h
   .exact⟨_,h.2.2,h.1,h.2.1,rfl⟩
   exact h.elim
  exact h.elim
 | index t x i =>
  simp only [dV,wA] at *;split at h
  .exact⟨_,h.2.2,h.1,h.2.1,rfl⟩
  .split at h
   .split at h
    .split at h
     .exact⟨_,h.2,h.1,rfl⟩
     exact h.elim
    exact h.elim
   exact h.elim
  exact h.elim
 | slice t x lo hi mx =>
  simp only [dV,vR] at *;split at h
  .obtain⟨h1,h2,h3⟩:=h;split at h3
   .exact⟨_,h3.2,h1,h2,h3.1,rfl⟩
   exact h3.elim
  .split at h
   .split at h
    .split at h
     .exact⟨_,h.2.2,h.1,h.2.1,rfl⟩
     exact h.elim
    split at h
    .exact⟨_,h.2.2,h.1,h.2.1,rfl⟩
    exact h.elim
   exact h.elim
  exact h.elim
 | pick a x y =>
  simp only [dV,Bs] at *;split at h
  .rename_i t ht;cases t with
   | true=>exact⟨_,(h.1 rfl).2,fun _=>⟨(h.1 rfl).1,rfl⟩,fun e=>(by cases e)⟩
   | false=>exact⟨_,(h.2 rfl).2,fun e=>(by cases e),fun _=>⟨(h.2 rfl).1,rfl⟩⟩
  exact h.elim
 | extract x i =>
  simp only [dV,qE] at *;split at h
  .split at h
   .split at h
    .obtain⟨h1,h2⟩:=h;split at h2
     .rename_i ht;exact⟨_,h2.2.2,h1,by rw [aK ht];exact⟨h2.1,h2.2.1,rfl⟩⟩
     rename_i ht;exact⟨_,h2,h1,by rw [aD ht]⟩
    exact h.elim
   exact h.elim
  exact h.elim
 | makeFunc f first caps=>exact⟨_,h.2,h.1,rfl⟩
 | nilCheck x=>exact⟨_,h.2,h.1,rfl⟩
 | convert s d x=>
  simp only [dV,qN] at *;split at h
  .obtain⟨a,b,h1,h2,h3,h4⟩:=h;exact⟨_,h4,a,b,h1,h2,h3,rfl⟩
  .exact⟨_,h.2.2,h.1,h.2.1,rfl⟩
  exact h.elim
 | alloc e =>
  simp only [dV,tX] at *;split at h
  .split at h
   .rename_i he;exact⟨_,h,by rw [aK he]⟩
   rename_i he;exact⟨_,h,by rw [aD he]⟩
  exact h.elim
 | box e x =>
  simp only [dV,Hq] at *;split at h
  .obtain⟨h1,h2⟩:=h;split at h2
   .rename_i hi;exact⟨_,h2,h1,by rw [aK hi]⟩
   rename_i hi;split at h2
   .rename_i he;exact⟨_,h2,h1,by rw [aD hi,aK he]⟩
   rename_i he;exact⟨_,h2,h1,by rw [aD hi,aD he]⟩
  exact h.elim
 | store t a v =>
  simp only [dV,yX] at *;obtain⟨h1,h2,h3,h4⟩:=h;split at h4
  .split at h4
   .exact⟨_,h4.2,h1,h2,h3,h4.1,rfl⟩
   exact h4.elim
  .split at h4
   .exact⟨_,h4.2,h1,h2,h3,h4.1,rfl⟩
   exact h4.elim
  exact h4.elim
 | build t parts =>
  simp only [dV,vV] at *;split at h
  .split at h
   .exact⟨_,h,rfl⟩
   exact h.elim
  exact h.elim
 | buildSlice t len parts=>
  simp only [dV,lU] at *;split at h
  .exact⟨_,h.2.2,h.1,h.2.1,rfl⟩
  exact h.elim
 | call call =>
  obtain⟨callee,args,ts⟩:=call;cases callee with
  | builtin b =>
   simp only [dV,qQ,sS] at *;split at h
   .simp only [Mm] at *;split at h
    .exact⟨_,h.2,h.1,rfl⟩
    .exact⟨_,h.2,h.1,rfl⟩
    exact h.elim
   .simp only [tK] at *;split at h
    .obtain⟨h1,h2,h3,h4,h5⟩:=h;split at h5
     .exact⟨_,h5.2,h1,h2,h3,h4,h5.1,rfl⟩
     .exact⟨_,h5,h1,h2,h3,h4,rfl⟩
     exact h5.elim
    exact h.elim
   .simp only [xA] at *;split at h
    .exact⟨_,h.2,h.1,rfl⟩
    exact h.elim
   .simp only [xA] at *;split at h
    .exact⟨_,h.2,h.1,rfl⟩
    exact h.elim
   exact h.elim
  | _=>simp [lX] at hc
 | range t x=>simp [lX] at hc
 | next x s=>simp [lX] at hc
 | entry x=>simp [lX] at hc
 | _=>exact h.elim
theorem Zg (hk:∀s,K s->K' s)(h:dV P c dst op st K):dV P c dst op st K':=by
 have mv:∀x,kX c dst x st K->kX c dst x st K':=by
  intro x h;unfold kX at *;split at h
  .split at h
   .exact hk _ (h)
   split at h
   .rename_i ht;exact(by rw [aK ht];exact⟨h.1,h.2.1,hk _ (h.2.2)⟩)
   rename_i ht;exact(by rw [aD ht];exact⟨h.1,hk _ (h.2)⟩)
  .exact h.elim
  exact hk _ (h)
 have ld:∀t x,jY P dst t x st K->jY P dst t x st K':=by
  intro t x h;unfold jY at *;split at h
  .split at h
   .exact hk _ (h)
   exact h.elim
  exact h.elim
 cases op with
 | move x=>exact mv x h
 | assign x=>exact mv x h
 | binOp b t x y yt=>
  simp only [dV] at h |-;split at h
  .rename_i hy;rw [aK hy];exact Xy hk h
  rename_i hy;rw [aD hy];exact Bn (fun e he=>hk _ he) h
 | unOp u t x=>
  simp only [dV] at h |-;exact Gp (fun e he=>hk _ he) h
 | load t x =>
  simp only [dV,lW] at *;split at h
  .split at h
   .rename_i htk;simp only [aK htk];split at h
    .split at h
     .split at h
      .exact⟨h.1,h.2.1,hk _ (h.2.2)⟩
      exact h.elim
     exact h.elim
    .split at h
     .split at h
      .exact⟨h.1,h.2.1,hk _ (h.2.2)⟩
      exact h.elim
     exact h.elim
    exact ld t x h
   rename_i htk;simp only [aD htk];exact ld t x h
  exact ld t x h
 | fieldAddr s x f=>
  simp only [dV,nB] at *;split at h
  .exact⟨h.1,hk _ (h.2)⟩
  exact h.elim
 | indexAddr t x i =>
  simp only [dV,nD] at *;split at h
  .split at h
   .split at h
    .exact⟨h.1,h.2.1,h.2.2.1,hk _ (h.2.2.2)⟩
    exact h.elim
   split at h
   .exact⟨h.1,h.2.1,hk _ (h.2.2)⟩
   exact h.elim
  exact h.elim
 | index t x i =>
  simp only [dV,wA] at *;split at h
  .exact⟨h.1,h.2.1,hk _ (h.2.2)⟩
  .split at h
   .split at h
    .split at h
     .exact⟨h.1,hk _ h.2⟩
     exact h.elim
    exact h.elim
   exact h.elim
  exact h.elim
 | slice t x lo hi mx =>
  simp only [dV,vR] at *;split at h
  .obtain⟨h1,h2,h3⟩:=h;split at h3
   .exact⟨h1,h2,h3.1,hk _ (h3.2)⟩
   exact h3.elim
  .split at h
   .split at h
    .split at h
     .exact⟨h.1,h.2.1,hk _ (h.2.2)⟩
     exact h.elim
    split at h
    .exact⟨h.1,h.2.1,hk _ (h.2.2)⟩
    exact h.elim
   exact h.elim
  exact h.elim
 | pick a x y=>
  simp only [dV,Bs] at *;split at h
  .rename_i t ht;exact⟨fun ht=>⟨(h.1 ht).1,hk _ (h.1 ht).2⟩,fun ht=>⟨(h.2 ht).1,hk _ (h.2 ht).2⟩⟩
  exact h.elim
 | extract x i =>
  simp only [dV,qE] at *;split at h
  .split at h
   .split at h
    .obtain⟨h1,h2⟩:=h;split at h2
     .rename_i ht;exact⟨h1,(by rw [aK ht];exact⟨h2.1,h2.2.1,hk _ (h2.2.2)⟩)⟩
     rename_i ht;exact⟨h1,(by rw [aD ht];exact hk _ (h2))⟩
    exact h.elim
   exact h.elim
  exact h.elim
 | makeFunc f first caps=>exact⟨h.1,hk _ (h.2)⟩
 | nilCheck x=>exact⟨h.1,hk _ (h.2)⟩
 | convert s d x=>
  simp only [dV,qN] at *;split at h
  .obtain⟨a,b,h1,h2,h3,h4⟩:=h;exact⟨a,b,h1,h2,h3,hk _ (h4)⟩
  .exact⟨h.1,h.2.1,hk _ (h.2.2)⟩
  exact h.elim
 | alloc e =>
  simp only [dV,tX] at *;split at h
  .split at h
   .rename_i he;exact(by rw [aK he];exact hk _ (h))
   rename_i he;exact(by rw [aD he];exact hk _ (h))
  exact h.elim
 | box e x =>
  simp only [dV,Hq] at *;split at h
  .obtain⟨h1,h2⟩:=h;split at h2
   .rename_i hi;exact⟨h1,(by rw [aK hi];exact hk _ (h2))⟩
   rename_i hi;split at h2
   .rename_i he;exact⟨h1,(by rw [aD hi,aK he];exact hk _ (h2))⟩
   rename_i he;exact⟨h1,(by rw [aD hi,aD he];exact hk _ (h2))⟩
  exact h.elim
 | store t a v =>
  simp only [dV,yX] at *;obtain⟨h1,h2,h3,h4⟩:=h;split at h4
  .split at h4
   .exact⟨h1,h2,h3,h4.1,hk _ (h4.2)⟩
   exact h4.elim
  .split at h4
   .exact⟨h1,h2,h3,h4.1,hk _ (h4.2)⟩
   exact h4.elim
  exact h4.elim
 | build t parts =>
  simp only [dV,vV] at *;split at h
  .split at h
   .exact hk _ (h)
   exact h.elim
  exact h.elim
 | buildSlice t len parts=>
  simp only [dV,lU] at *;split at h
  .exact⟨h.1,h.2.1,hk _ (h.2.2)⟩
  exact h.elim
 | call call =>
  obtain⟨callee,args,ts⟩:=call;cases callee with
  | builtin b =>
   simp only [dV,qQ,sS] at *;split at h
   .simp only [Mm] at *;split at h
    .exact⟨h.1,hk _ (h.2)⟩
    .exact⟨h.1,hk _ (h.2)⟩
    exact h.elim
   .simp only [tK] at *;split at h
    .obtain⟨h1,h2,h3,h4,h5⟩:=h;split at h5
     .exact⟨h1,h2,h3,h4,h5.1,hk _ (h5.2)⟩
     .exact⟨h1,h2,h3,h4,hk _ (h5)⟩
     exact h5.elim
    exact h.elim
   .simp only [xA] at *;split at h
    .exact⟨h.1,hk _ (h.2)⟩
    exact h.elim
   .simp only [xA] at *;split at h
    .exact⟨h.1,hk _ (h.2)⟩
    exact h.elim
   exact h.elim
  | value f=>exact aF1 hk h
  | invoke r m=>exact h.elim
 | _=>exact h.elim
theorem aWr (h:vcX P dst op st K):∃s,K s/\vcX P dst op st (· =s):=by
 unfold vcX at *;split at h
 .split at h
  .simp only [Gu] at *;obtain⟨h0,h⟩:=h;split at h <;> first | exact⟨_,h,h0,rfl⟩ | exact h.elim
  exact h.elim
 .split at h
  .simp only [qG] at *;split at h
   .obtain⟨h0,h1,h2,h3⟩:=h;split at h3 <;> first | exact⟨_,h3.2,h0,h1,h2,h3.1,rfl⟩ | (obtain⟨ds,es,h4,h5⟩:=h3;exact⟨_,h5,h0,h1,h2,ds,es,h4,rfl⟩) | exact h3.elim
   exact h.elim
  exact h.elim
 .split at h
  .simp only [vM] at *;obtain⟨h0,h⟩:=h;split at h
   .split at h
    .exact⟨_,h.2,h0,h.1,rfl⟩
    exact h.elim
   exact h.elim
  exact h.elim
 .simp only [lV] at *;split at h
  .exact⟨_,h.2,h.1,rfl⟩
  exact h.elim
 .simp only [tA] at *;split at h
  .split at h
   .exact⟨_,h.2,h.1,rfl⟩
   exact h.elim
  exact h.elim
 exact h.elim
theorem aTq (hk:∀s,K s->K' s)(h:vcX P dst op st K):vcX P dst op st K':=by
 unfold vcX at *;split at h
 .split at h
  .simp only [Gu] at *;obtain⟨h0,h⟩:=h;split at h <;> first | exact⟨h0,hk _ h⟩ | exact h.elim
  exact h.elim
 .split at h
  .simp only [qG] at *;split at h
   .obtain⟨h0,h1,h2,h3⟩:=h;split at h3 <;> first | exact⟨h0,h1,h2,h3.1,hk _ h3.2⟩ | (obtain⟨ds,es,h4,h5⟩:=h3;exact⟨h0,h1,h2,ds,es,h4,hk _ h5⟩) | exact h3.elim
   exact h.elim
  exact h.elim
 .split at h
  .simp only [vM] at *;obtain⟨h0,h⟩:=h;split at h
   .split at h
    .exact⟨h0,h.1,hk _ h.2⟩
    exact h.elim
   exact h.elim
  exact h.elim
 .simp only [lV] at *;split at h
  .exact⟨h.1,hk _ h.2⟩
  exact h.elim
 .simp only [tA] at *;split at h
  .split at h
   .exact⟨h.1,hk _ h.2⟩
   exact h.elim
  exact h.elim
 exact h.elim
theorem aA8 (hc:lX op=false)(h:jE P c dst op st K):∃s,K s/\jE P c dst op st (· =s):=by
 unfold jE at *;by_cases hy:Hj c dst op=true
 .simp only [hy,aU] at *;obtain⟨sets,ob,h1,hK⟩:=h;exact⟨_,hK,sets,ob,h1,rfl⟩
 simp only [hy] at *;by_cases hu:Qs c dst op=true
 .simp only [hu,aU] at *;exact aWr h
 simp only [hu] at *;exact aRv hc h
theorem Ax (hk:∀s,K s->K' s)(h:jE P c dst op st K):jE P c dst op st K':=by
 unfold jE at *;by_cases hy:Hj c dst op=true
 .simp only [hy,aU] at *;obtain⟨sets,ob,h1,hK⟩:=h;exact⟨sets,ob,h1,hk _ hK⟩
 simp only [hy] at *;by_cases hu:Qs c dst op=true
 .simp only [hu,aU] at *;exact aTq hk h
 simp only [hu] at *;exact Zg hk h
def Lc(c:Cfg)(dst:Option Tmp):Op->Bool
 | .load t a=> !dst.any c.take.contains && !Hj c dst (.load t a) && !Qs c dst (.load t a)
 | .lookup _ _ _ _=>true
 | .call ⟨.builtin .len,args,ts⟩=>Hj c dst (.call ⟨.builtin .len,args,ts⟩)
 | _=>false
def Ua(c:Cfg)(dst:Option Tmp):Op->Bool
 | .makeMap _ _=>true
 | .alloc e=>dst.any c.esc.contains && !Hj c dst (.alloc e) && !Qs c dst (.alloc e)
 | .box e x=>dst.any c.esc.contains && !dst.any c.imm.contains && !Hj c dst (.box e x) && !Qs c dst (.box e x)
 | _=>false
structure AgreeT(rs:List Nat)(f:Fl)(st st':St):Prop where
 n:st'.n=st.n
 env:∀t,t∈rs->st'.env t=st.env t
 loc:f.rL=true->st'.loc=st.loc
 obj:f.rO=true->∃J,st'.obj=st.obj++J
theorem Sp {α:Type} {l J:List α} {n:Nat} {x:α} (h:l[n]?=some x):(l++J)[n]?=some x:=by
 rw [bC (aP.1 h).1];exact h
theorem aJ1 {args:List Operand} {ts:List TypeId} {f g:Operand->TypeId->pW} {sets:List (Nat×Slot)} {ob:Option (List (List D))} (h:∀x t,f x t sets ob->g x t sets ob)(hy:yA1 args ts f sets ob):yA1 args ts g sets ob:=by
 match args,ts with
 | [x], [t]=>exact h x t hy
 | [],_=>exact hy.elim
 | _::_::_,_=>exact hy.elim
 | [_], []=>exact hy.elim
 | [_],_::_::_=>exact hy.elim
theorem aVp (ht:Lc c dst op=true)(hrs:∀t,t∈kE op->t∈rs)(ha:AgreeT rs (pX c dst st op) st st')(h:jE P c dst op st K):jE P c dst op st' (Tr (pG c dst op) (pX c dst st op) st st' K):=by
 have rdS:∀x,x∈op.operands.toList->st'.rdS x=st.rdS x:=fun x hx=>by
  cases x with
  | tmp t=>exact ha.env t (hrs t (eO hx t rfl))
  | _=>rfl
 have goY:Hj c dst op=true->(∀rd obj J sets ob,yR P (Ru c dst op) dst op rd obj sets ob->yR P (Ru c dst op) dst op rd (obj++J) sets ob)->jE P c dst op st' (Tr (pG c dst op) (pX c dst st op) st st' K):=by
  intro hy hm;have hw:pG c dst op=dst.toList++kE op:=by simp [pG,hy]
  unfold jE pX at *;simp only [hy,aU] at *;obtain⟨sets,ob,h1,hK⟩:=h;obtain⟨s1,s2⟩:=aBl h1;refine⟨sets,ob,?_,⟨sets,none,ob⟩,⟨fun p hp=>by rw [hw];exact s1 p hp,by simp,s2⟩,hK,rfl⟩;rw [Tx rdS];by_cases hr:(flY (Ru c dst op) op).rO=true
  .simp only [hr,aU] at h1 |-;obtain⟨J,hJ⟩:=ha.obj hr;rw [hJ];exact hm _ _ _ _ _ h1
  simp only [hr] at h1 |-;exact h1
 cases op with
 | load t a =>
  simp only [Lc,gP,mE] at ht;obtain⟨⟨h1,h2⟩,h3⟩:=ht;have ld:∀K,jY P dst t a st K->st'.cellsAt (st'.rdS a)=st.cellsAt (st.rdS a)->jY P dst t a st' (Tr (pG c dst (.load t a)) (pX c dst st (.load t a)) st st' K):=by
   intro K h he;unfold jY at *;rw [he];split at h
   .split at h
    .exact aAi kC h
    exact h.elim
   exact h.elim
  have tk:∀st K,lW P c dst t a st K=jY P dst t a st K:=by
   intro st K;unfold lW;split
   .rename_i d _;have:c.take.contains d=false:=by simpa using h1
    simp only [this];rfl
   rfl
  have hfl:pX c dst st (.load t a)=kG (dst.any c.take.contains) (st.rdS a):=by
   unfold pX;simp only [h2,h3];rfl
  have key:jE P c dst (.load t a) st K=jY P dst t a st K:=by
   unfold jE;simp only [h2,h3,dV,tk];rfl
  have key':∀K,jE P c dst (.load t a) st' K=jY P dst t a st' K:=fun K=>by
   unfold jE;simp only [h2,h3,dV,tk];rfl
  rw [key] at h;rw [key'];refine ld K h ?_;have he:st'.rdS a=st.rdS a:=rdS a (by simp [Op.operands]);rw [he];unfold jY at h;rw [hfl] at ha;cases hs:st.rdS a with
  | lref n off=>rw [hs] at ha;simp only [St.cellsAt];rw [ha.loc rfl]
  | d x =>
   cases x with
   | ref n off=>
    rw [hs] at ha h;obtain⟨J,hJ⟩:=ha.obj rfl;simp only [St.cellsAt] at h |-;rw [hJ];cases hg:st.obj[n]? with
    | none=>rw [hg] at h;simp at h
    | some cs=>rw [Sp hg]
   | _=>rfl
 | lookup t x k ok=>
  refine goY rfl fun rd obj J sets ob hy=>?_;simp only [yR,wC] at hy |-;split at hy
  .obtain⟨m,i,clock,kvs,dv,b,⟨⟨cs,g1,g2⟩,g3⟩,g4⟩:=hy;exact⟨m,i,clock,kvs,dv,b,⟨⟨cs,Sp g1,g2⟩,g3⟩,g4⟩
  .exact hy
  exact hy.elim
 | call call =>
  obtain⟨callee,args,ts⟩:=call;cases callee with
  | builtin b =>
   cases b with
   | len =>
    refine goY ht fun rd obj J sets ob hy=>?_;simp only [yR] at hy |-;refine aJ1 (fun x t hy=>?_) hy;split at hy
    .rename_i h;rw [aK h];unfold Ki at hy |-;split at hy
     .obtain⟨m,i,clock,kvs,⟨cs,g1,g2⟩,g4⟩:=hy;exact⟨m,i,clock,kvs,⟨cs,Sp g1,g2⟩,g4⟩
     exact hy.elim
    rename_i h;rw [aD h];exact hy
   | _=>simp [Lc] at ht
  | _=>simp [Lc] at ht
 | _=>simp [Lc] at ht
theorem aUl {s:St} (ha:Ua c dst op=true)(h:jE P c dst op st (· =s)):∃J,s.obj=st.obj++J:=by
 cases op with
 | makeMap t r=>
  unfold jE at h;simp only [Hj,isY,Bool.true_or,aU] at h;obtain⟨sets,ob,h1,rfl⟩:=h;have hf:(flY (Ru c dst (.makeMap t r)) (.makeMap t r)).rO=true:=rfl;simp only [hf,aU,yR,tC] at h1;split at h1
  .obtain⟨_,rfl,rfl⟩:=h1;exact⟨[[]],rfl⟩
  exact h1.elim
 | alloc e =>
  simp only [Ua,gP,mE] at ha;obtain⟨⟨h1,h2⟩,h3⟩:=ha;unfold jE at h;simp only [h2,h3,dV,tX] at h;simp only [gO,bK] at h;split at h
  .rename_i cs d _;have:c.esc.contains d=true:=by simpa using h1
   simp only [this,aU] at h;subst h;exact⟨[cs],rfl⟩
  exact h.elim
 | box e x =>
  simp only [Ua,gP,mE] at ha;obtain⟨⟨⟨h1,h0⟩,h2⟩,h3⟩:=ha;unfold jE at h;simp only [h2,h3,dV,Hq] at h;simp only [gO,bK] at h;split at h
  .rename_i d;have e1:c.esc.contains d=true:=by simpa using h1
   have e2:c.imm.contains d=false:=by simpa using h0
   simp only [e1,e2,aU] at h;simp only [gO,bK] at h;obtain⟨_,rfl⟩:=h;exact⟨_,rfl⟩
  exact h.elim
 | _=>simp [Ua] at ha
inductive DK where
 | op (f:Fl)
 | pure
 | det
 | pureT
 | detT
 | read
 | pureC
 | readT
 | detA
 | nd
def DK.isNd:DK->Bool
 | .nd=>true
 | _=>false
def sD:DK->Fl
 | .op f=>f
 | .pure=>⟨false,false,false,false⟩
 | .pureT=>⟨false,false,false,false⟩
 | .detT=>⟨false,false,true,true⟩
 | .det=>⟨false,false,true,true⟩
 | .read=>⟨false,false,true,false⟩
 | .pureC=>⟨false,false,false,false⟩
 | .readT=>⟨false,false,true,false⟩
 | .detA=>⟨false,false,true,true⟩
 | .nd=>⟨false,false,true,true⟩
def Fu(c:Cfg)(dst:Option Tmp)(op:Op):DK->Bool
 | .op f=>f.rO && !f.wO && Lc c dst op
 | .readT=>true
 | _=>false
def aFh(c:Cfg)(dst:Option Tmp)(op:Op):DK->Bool
 | .op _=>Ua c dst op
 | .detA=>true
 | _=>false
theorem aC1 {k:DK} (h:Fu c dst op k=true):(sD k).rO=true/\(sD k).wO=false:=by
 cases k <;> simp_all [Fu,sD]
def xF(c:Cfg)(dst:Option Tmp)(op:Op):DK->List Nat
 | .op _=>pG c dst op
 | .pureT | .detT=>dst.toList++kE op
 | _=>dst.toList
def aZs(P:Program)(dst:Option Tmp)(op:Op)(st:St)(Q:D->List (List D)->Prop):Prop:=match op with
 | .call { callee:= .value (.func f),args, .. } =>nJ args.toList st/\Ct P f (iK args.toList st) st.obj Q/\∃r σ0,Q r σ0
 | _=>False
def Ah(P:Program)(c:Cfg)(dst:Option Tmp)(op:Op)(k:DK)(st:St)(K:St->Prop):Prop:=
 match k with
 | .op f=>lX op=false/\pX c dst st op=f/\jE P c dst op st K
 | .pure=>match op with
  | .call { callee:= .value (.func f),args, .. } =>nJ args.toList st/\∃r,(∀σ,Ct P f (iK args.toList st) σ fun r' σ'=>r'=r/\σ'=σ)/\K (st.put dst (.d r))
  | _=>False
 | .read=>match op with
  | .call { callee:= .value (.func f),args, .. } =>nJ args.toList st/\∃r,(Ct P f (iK args.toList st) st.obj fun r' σ'=>r'=r/\σ'=st.obj)/\K (st.put dst (.d r))
  | _=>False
 | .pureC => match op with
  | .call { callee:= .value f,args, .. } =>match st.rd f with
   | .clo (.func fid) first caps=>(∀d∈first++caps,d.plain=true)/\nJ args.toList st/\∃r,(∀σ,Ct P fid (first.map D.strip++iK args.toList st++caps.map D.strip) σ fun r' σ'=>r'=r/\σ'=σ)/\K (st.put dst (.d r))
   | _=>False
  | _=>False
 | .readT=>match op with
  | .call { callee:= .value (.func f),args, .. } =>nJ args.toList st/\∃r,(∀J,Ct P f (iK args.toList st) (st.obj++J) fun r' σ'=>r'=r/\σ'=st.obj++J)/\K (st.put dst (.d r))
  | _=>False
 | .nd=>∃Q,aZs P dst op st Q/\∀r σ0,Q r σ0->K (({ st with obj:=σ0 } :St).put dst (.d r))
 | .detA=>match op with
  | .call { callee:= .value (.func f),args, .. } =>nJ args.toList st/\∃r J,(Ct P f (iK args.toList st) st.obj fun r' σ'=>r'=r/\σ'=st.obj++J)/\K (({ st with obj:=st.obj++J } :St).put dst (.d r))
  | _=>False
 | .det=>match op with
  | .call { callee:= .value (.func f),args, .. } =>nJ args.toList st/\∃r σ0,(Ct P f (iK args.toList st) st.obj fun r' σ'=>r'=r/\σ'=σ0)/\K (({ st with obj:=σ0 } :St).put dst (.d r))
  | _=>False
 | .pureT => match dst, op with
  | some d,.call { callee:= .value (.func f),args, .. } =>(args.toList.filterMap cO).Nodup/\(∀x∈args.toList,Ap (st.rdS x)=true/\(st.rd x).plain=true)/\
   ∃r,(∀σ,Ct P f (args.toList.map (wS st)) σ fun r' σ'=>r'=r/\σ'=σ)/\K (({ st with env:=gS (args.toList.map cO) st.env } :St).put (some d) (.d r))
  | _,_=>False
 | .detT => match dst, op with
  | some d,.call { callee:= .value (.func f),args, .. } =>(args.toList.filterMap cO).Nodup/\(∀x∈args.toList,Ap (st.rdS x)=true/\(st.rd x).plain=true)/\
   ∃r σ0,(Ct P f (args.toList.map (wS st)) st.obj fun r' σ'=>r'=r/\σ'=σ0)/\K (({ st with env:=gS (args.toList.map cO) st.env,obj:=σ0 } :St).put (some d) (.d r))
  | _,_=>False
def Ak(c:Cfg)(all:List Oper)(o:Oper)(k:DK):List Nat:=xF c o.dst o.op k++kE o.op++match o.guard with
 | none=> []
 | some (j,_)=>(aN all j).toList
def gK(ws:List Nat)(f:Fl)(s:St):Delta:=⟨ws.map fun t=>(t,s.env t),if f.wL then some s.loc else none,if f.wO then some s.obj else none⟩
theorem uK(ws:List Nat)(f:Fl)(s st:St)(t:Nat):(st.upd (gK ws f s)).env t=if t∈ws then s.env t else st.env t:=by
 simp only [St.upd,gK];exact Aw ws s.env st.env t
def Pl(P:Program)(all:List Oper)(o:Oper)(st:St)(K:St->Prop):Prop:=
 ∀(w:World) (g:Gh) (tmps:Array Value),Ok w g st (cJ tmps)->tmps.size=st.n->
  (Region.wanted o (yielded all.toArray tmps)=true->o.wp P ⟨tmps, []⟩ w (fun a w'=>a.defers= []/\∃st' g',K st'/\Fr w g w' g'/\Ok w' g' st' (cJ a.tmps)/\a.tmps.size=st'.n) (fun _ _ _=>False))/\
  (Region.wanted o (yielded all.toArray tmps)=false->∃st' g',K st'/\Fr w g w g'/\Ok w g' st' (cJ ((⟨tmps, []⟩:Act).put o.dst undef).tmps)/\tmps.size=st'.n)
structure AgreeD(rs:List Nat)(f:Fl)(tol:Bool)(st st':St):Prop where
 n:st'.n=st.n
 env:∀t,t∈rs->st'.env t=st.env t
 loc:f.rL=true->st'.loc=st.loc
 obj:f.rO=true->(tol=false->st'.obj=st.obj)/\∃J,st'.obj=st.obj++J
theorem Agree.toD (h:Agree rs f st st'):AgreeD rs f tol st st':=⟨h.n,h.env,h.loc,fun e=>⟨fun _=>h.obj e, [],by rw [h.obj e,gH]⟩⟩
theorem AgreeD.toA (h:AgreeD rs f false st st'):Agree rs f st st':=⟨h.n,h.env,h.loc,fun e=>(h.obj e).1 rfl⟩
theorem AgreeD.toT (h:AgreeD rs f tol st st'):AgreeT rs f st st':=⟨h.n,h.env,h.loc,fun e=>(h.obj e).2⟩
structure Step(P:Program)(c:Cfg)(all:List Oper)(o:Oper)(k:DK)(st s:St):Prop where
 self:s=st.upd (gK (xF c o.dst o.op k) (sD k) s)
 app:aFh c o.dst o.op k=true->∃J,s.obj=st.obj++J
 go:k.isNd=false->∀st',AgreeD (Ak c all o k) (sD k) (Fu c o.dst o.op k) st st'->Pl P all o st' (· =st'.upd (gK (xF c o.dst o.op k) (sD k) s))
theorem aIc(c:Cfg)(dst:Option Tmp)(st:St)(op:Op):((iW c dst st op).wL=true->(iW c dst st op).rL=true)/\((iW c dst st op).wO=true->(iW c dst st op).rO=true):=by
 have ad:∀w s,((kG w s).wL=true->(kG w s).rL=true)/\((kG w s).wO=true->(kG w s).rO=true):=by
  intro w s;cases s with
  | lref n o=>simp [kG]
  | d d=>cases d <;> simp [kG]
 cases op <;> simp only [iW] <;> try exact⟨id,id⟩
 .split <;> simp
 .split
  .simp
  split <;> simp
 .exact ad _ _
 .exact ad _ _
 rename_i call;obtain⟨callee,args,ts⟩:=call;cases callee <;> exact⟨id,id⟩
theorem Tb(c:Cfg)(dst:Option Tmp)(st:St)(op:Op):((pX c dst st op).wL=true->(pX c dst st op).rL=true)/\((pX c dst st op).wO=true->(pX c dst st op).rO=true):=by
 unfold pX;split
 .unfold flY;split <;> first | (simp;done) | (split <;> simp)
 split
 .unfold flX;split <;> simp
 exact aIc c dst st op
theorem Qp {δ:Delta} (hδ:δ.ok ws f)(hw:(f.wL=true->f.rL=true)/\(f.wO=true->f.rO=true))(ha:Agree ws f st st'):st'.upd δ=st'.upd (gK ws f (st.upd δ)):=by
 have key:∀t,gA δ.sets st'.env t=if t∈ws then gA δ.sets st.env t else st'.env t:=by
  intro t;split
  .rename_i ht;have:∀(l:List (Nat×Slot)) (e e':Nat->Slot),e t=e' t->gA l e t=gA l e' t:=by
    intro l;induction l with
    | nil=>intro e e' h;exact h
    | cons p l ih=>
     obtain⟨x,y⟩:=p;intro e e' h;exact ih _ _ (by split <;> first | rfl | exact h)
   exact this _ _ _ (ha.env t ht)
  rename_i ht;exact Ys fun p hp e=>ht (by rw [<- e];exact hδ.sets p hp)
 have h1:(st'.upd δ).env=(st'.upd (gK ws f (st.upd δ))).env:=by
  funext t;rw [uK];exact key t
 have h2:(st'.upd δ).loc=(st'.upd (gK ws f (st.upd δ))).loc:=by
  simp only [St.upd,gK];cases hl:f.wL with
  | true=>
   simp only [aU,kL];rw [ha.loc (hw.1 hl)]
  | false=>
   cases hd:δ.loc with
   | none=>simp
   | some l=>have:=hδ.loc (by simp [hd]);rw [hl] at this;cases this
 have h3:(st'.upd δ).obj=(st'.upd (gK ws f (st.upd δ))).obj:=by
  simp only [St.upd,gK];cases hl:f.wO with
  | true=>
   simp only [aU,kL];rw [ha.obj (hw.2 hl)]
  | false=>
   cases hd:δ.obj with
   | none=>simp
   | some l=>have:=hδ.obj (by simp [hd]);rw [hl] at this;cases this
 show(⟨_,_,_,_⟩:St)=⟨_,_,_,_⟩
 congr 1
theorem aEn (h:AgreeD rs f tol st st') {x:Operand} (hx:∀t,cO x=some t->t∈rs):st'.rd x=st.rd x:=
 lZ (rs:=rs) (f:=⟨false,false,false,false⟩) ⟨h.n,h.env,fun e=>(by cases e),fun e=>(by cases e)⟩ hx
theorem aH1 {δ:Delta} (hδ:δ.ok ws f)(hw:f.wL=true->f.rL=true)(hO:f.wO=false)(ha:AgreeT ws f st st'):st'.upd δ=st'.upd (gK ws f (st.upd δ)):=by
 have:=Qp (st':= { st' with obj:=st.obj }) hδ ⟨hw,fun h=>by rw [hO] at h;cases h⟩ ⟨ha.n,ha.env,ha.loc,fun _=>rfl⟩;have hn:δ.obj=none:=by
  cases hd:δ.obj with
  | none=>rfl
  | some l=>have:=hδ.obj (by simp [hd]);rw [hO] at this;cases this
 simp only [St.upd,gK,hn,hO,St.mk.injEq] at this |-;simpa using this
theorem Aq(rs:List Nat)(f:Fl)(st:St):Agree rs f st st:=⟨rfl,fun _ _=>rfl,fun _=>rfl,fun _=>rfl⟩
theorem Agree.sub {rs':List Nat} (h:Agree rs f st st')(hs:∀t,t∈rs'->t∈rs):Agree rs' f st st':=⟨h.n,fun t ht=>h.env t (hs t ht),h.loc,h.obj⟩
theorem Wo (hw:∀(w:World) (g:Gh) (tmps:Array Value),Ok w g st (cJ tmps)->Region.wanted o (yielded all.toArray tmps)=true)(h:Does P o st K):Pl P all o st K:=by
 intro w g tmps hok hn;refine⟨fun _=>?_,fun hf=>by rw [hw w g tmps hok] at hf;cases hf⟩;exact Oper.wp_mono (fun a w' ⟨h1,st',g',h2,h3,h4,h5,_⟩=>⟨h1,st',g',h2,h3,h4,h5⟩) (h w g tmps hok hn)
theorem Dy {f:FuncId} {d:Nat} {r:Slot} {e e':Nat->Slot} (he:∀t,t∈kE (.call ⟨.value (.func f),args,ts⟩)->e' t=e t)(u:Nat):
  gA (((some d).toList++kE (.call ⟨.value (.func f),args,ts⟩)).map fun t=>(t,if t=d then r else gS (args.toList.map cO) e t)) e' u=if u=d then r else gS (args.toList.map cO) e' u:=by
 rw [Aw];by_cases hu:u=d
 .subst hu;simp
 simp only [hu,bK];by_cases hm:u∈kE (.call ⟨.value (.func f),args,ts⟩)
 .rw [aK (by simp [hm])];simp only [gS,he u hm]
 rw [aD (by simp [hm,hu])];have hc:(args.toList.map cO).contains (some u)=false:=by
  rw [qL];intro hc;obtain⟨x,hx,hx'⟩:=aV.1 (by simpa using hc:some u∈args.toList.map cO);exact hm (eO (by simp [Op.operands,Call.operands];right;simpa using hx) u hx')
 simp only [gS,hc];rfl
theorem aPi {k:DK} (hnd:k.isNd=false)(hfw:((sD k).wL=true->(sD k).rL=true)/\((sD k).wO=true->(sD k).rO=true))(hd:eF o st)(h:match o.guard with
  | none=>Ah P c o.dst o.op k st K
  | some (j,want)=>∃t b,aN all j=some t/\Hy (st.env t) want=some b/\(b=want->Ah P c o.dst o.op k st K)/\(b= !want->K (st.put o.dst .und))):∃s,K s/\Step P c all o k st s:=by
 -- the body of the step,taken
 have taken : Ah P c o.dst o.op k st K -> ∃ s, K s /\ s = st.upd (gK (xF c o.dst o.op k) (sD k) s) /\ (aFh c o.dst o.op k = true -> ∃ J, s.obj = st.obj ++ J) /\ ∀ st', AgreeD (Ak c all o k) (sD k) (Fu c o.dst o.op k) st st' -> Does P o st' (· = st'.upd (gK (xF c o.dst o.op k) (sD k) s)) := by
  intro h;have hd':∀st',st'.n=st.n->eF o st':=fun st' hn=>by unfold eF at *;split <;> simp_all
  cases k with
  | nd=>cases hnd
  | op f =>
   obtain⟨h1,rfl,h3⟩:=h;obtain⟨s,hK,hs⟩:=aA8 h1 h3;have loc:∀st',Agree (Ak c all o (.op (pX c o.dst st o.op))) (pX c o.dst st o.op) st st'->∃δ:Delta,δ.ok (pG c o.dst o.op) (pX c o.dst st o.op)/\s=st.upd δ/\jE P c o.dst o.op st' (· =st'.upd δ):=by
    intro st' ha;have hl:=aOf (aXq h1) (rs:=Ak c all o (.op (pX c o.dst st o.op))) (fun t ht=>by simp [Ak,ht]) ha hs;obtain⟨s',⟨δ,d1,d2,rfl⟩,h5⟩:=aA8 h1 hl;exact⟨δ,d1,d2.symm,h5⟩
   obtain⟨δ0,d1,d2,_⟩:=loc st (Aq _ _ _);refine⟨s,hK,?_,fun hap=>aUl hap hs,fun st' ha=>?_⟩
   .have:=Qp d1 (Tb c o.dst st o.op) (Aq (pG c o.dst o.op) (pX c o.dst st o.op) st);rw [<- d2] at this;exact this
   by_cases htl:Fu c o.dst o.op (.op (pX c o.dst st o.op))=true
   .have hT:=ha.toT;have hop:Lc c o.dst o.op=true:=by simp only [Fu,gP] at htl;exact htl.2
    have hl:=aVp hop (rs:=Ak c all o (.op (pX c o.dst st o.op))) (fun t ht=>by simp [Ak,ht]) hT hs;obtain⟨s',⟨δ,e1,e2,rfl⟩,e3⟩:=aA8 h1 hl;have:=aH1 e1 (Tb c o.dst st o.op).1 (aC1 htl).2 ⟨hT.n,fun t ht=>hT.env t (by simp [Ak,xF,ht]),hT.loc,hT.obj⟩;rw [e2] at this;simp only [xF,sD];rw [<- this];exact Qo ⟨hd' st' ha.n,e3⟩
   have ha:Agree (Ak c all o (.op (pX c o.dst st o.op))) (pX c o.dst st o.op) st st':=by
    have e:Fu c o.dst o.op (.op (pX c o.dst st o.op))=false:=by simpa using htl
    rw [e] at ha;exact ha.toA
   obtain⟨δ,e1,e2,e3⟩:=loc st' ha;have:=Qp e1 (Tb c o.dst st o.op) (ha.sub (rs':=pG c o.dst o.op) (fun t ht=>by simp [Ak,xF,ht]));rw [<- e2] at this;simp only [xF,sD];rw [<- this];exact Qo ⟨hd' st' ha.n,e3⟩
  | pure =>
   obtain⟨dst,op,ty,pos,after,guard⟩:=o;simp only [Ah] at h;split at h
   .rename_i f args ts _;obtain⟨h1,r,h2,h3⟩:=h;have ups:∀st':St,st'.upd (gK dst.toList ⟨false,false,false,false⟩ (st.put dst (.d r)))=st'.put dst (.d r):=by
     intro st';cases dst with
     | none=>rfl
     | some d=>
      refine St.mk.injEq .. |>.mpr ⟨rfl,?_,rfl,rfl⟩
      funext u;show gA [(d,(st.put (some d) (.d r)).env d)] st'.env u=_
      simp [gA,St.put,St.set]
    refine⟨_,h3,(ups st).symm,fun e=>(by cases e),fun st' ha=>?_⟩;replace ha:=ha.toA;simp only [xF,sD];rw [ups st'];have hargs:∀x∈args.toList,st'.rd x=st.rd x:=fun x hx=>lZ ha fun t ht=>by
     have:=eO (op:= .call ⟨.value (.func f),args,ts⟩) (x:=x) (by simp [Op.operands,Call.operands];right;simpa using hx) t ht;simp [Ak,this]
    refine nT (.func f) args ts (hd' st' ha.n) rfl ?_;unfold mQ;simp only [yK];refine⟨by simp,fun x hx=>by rw [hargs x hx];exact h1 x hx,?_⟩;have e1:iK args.toList st'=iK args.toList st:=cW fun x hx=>mX (hargs x hx);rw [e1];simpa using(h2 st'.obj).mono fun r' σ' ⟨a,b⟩=>by subst a;subst b;rfl
   exact h.elim
  | pureC =>
   obtain⟨dst,op,ty,pos,after,guard⟩:=o;simp only [Ah] at h;split at h
   .rename_i f args ts _;split at h
    .rename_i fid first caps hf
     obtain⟨h0,h1,r,h2,h3⟩:=h;have ups:∀st':St,st'.upd (gK dst.toList ⟨false,false,false,false⟩ (st.put dst (.d r)))=st'.put dst (.d r):=by
      intro st';cases dst with
      | none=>rfl
      | some d=>
       refine St.mk.injEq .. |>.mpr ⟨rfl,?_,rfl,rfl⟩
       funext u;show gA [(d,(st.put (some d) (.d r)).env d)] st'.env u=_
       simp [gA,St.put,St.set]
     refine⟨_,h3,(ups st).symm,fun e=>(by cases e),fun st' ha=>?_⟩;replace ha:=ha.toA;simp only [xF,sD];rw [ups st'];have hargs:∀x∈args.toList,st'.rd x=st.rd x:=fun x hx=>lZ ha fun t ht=>by
      have:=eO (op:= .call ⟨.value f,args,ts⟩) (x:=x) (by simp [Op.operands,Call.operands];right;simpa using hx) t ht;simp [Ak,this]
     have hff:st'.rd f=st.rd f:=lZ ha fun t ht=>by
      have:=eO (op:= .call ⟨.value f,args,ts⟩) (x:=f) (by simp [Op.operands,Call.operands]) t ht;simp [Ak,this]
     refine nT f args ts (hd' st' ha.n) rfl ?_;unfold mQ;rw [hff,hf];refine⟨h0,fun x hx=>by rw [hargs x hx];exact h1 x hx,?_⟩;have e1:iK args.toList st'=iK args.toList st:=cW fun x hx=>mX (hargs x hx);rw [e1];exact(h2 st'.obj).mono fun r' σ' ⟨a,b⟩=>by subst a;subst b;rfl
    exact h.elim
   exact h.elim
  | read =>
   obtain⟨dst,op,ty,pos,after,guard⟩:=o;simp only [Ah] at h;split at h
   .rename_i f args ts _;obtain⟨h1,r,h2,h3⟩:=h;have ups:∀st':St,st'.upd (gK dst.toList ⟨false,false,true,false⟩ (st.put dst (.d r)))=st'.put dst (.d r):=by
     intro st';cases dst with
     | none=>rfl
     | some d=>
      refine St.mk.injEq .. |>.mpr ⟨rfl,?_,rfl,rfl⟩
      funext u;show gA [(d,(st.put (some d) (.d r)).env d)] st'.env u=_
      simp [gA,St.put,St.set]
    refine⟨_,h3,(ups st).symm,fun e=>(by cases e),fun st' ha=>?_⟩;replace ha:=ha.toA;simp only [xF,sD];rw [ups st'];have hargs:∀x∈args.toList,st'.rd x=st.rd x:=fun x hx=>lZ ha fun t ht=>by
     have:=eO (op:= .call ⟨.value (.func f),args,ts⟩) (x:=x) (by simp [Op.operands,Call.operands];right;simpa using hx) t ht;simp [Ak,this]
    refine nT (.func f) args ts (hd' st' ha.n) rfl ?_;unfold mQ;simp only [yK];refine⟨by simp,fun x hx=>by rw [hargs x hx];exact h1 x hx,?_⟩;have e1:iK args.toList st'=iK args.toList st:=cW fun x hx=>mX (hargs x hx);rw [e1];rw [show st'.obj=st.obj from ha.obj rfl];simpa using h2.mono fun r' σ' ⟨a,b⟩=>by subst a;subst b;rw [<- show st'.obj=st.obj from ha.obj rfl]
   exact h.elim
  | det =>
   obtain⟨dst,op,ty,pos,after,guard⟩:=o;simp only [Ah] at h;split at h
   .rename_i f args ts _;obtain⟨h1,r,σ0,h2,h3⟩:=h;have ups:∀st':St,st'.upd (gK dst.toList ⟨false,false,true,true⟩ (({ st with obj:=σ0 } :St).put dst (.d r)))=({ st' with obj:=σ0 } :St).put dst (.d r):=by
     intro st';cases dst with
     | none=>rfl
     | some d=>
      refine St.mk.injEq .. |>.mpr ⟨rfl,?_,rfl,rfl⟩
      funext u;show gA [(d,(({ st with obj:=σ0 } :St).put (some d) (.d r)).env d)] st'.env u=_
      simp [gA,St.put,St.set]
    refine⟨_,h3,(ups st).symm,fun e=>(by cases e),fun st' ha=>?_⟩;replace ha:=ha.toA;simp only [xF,sD];rw [ups st'];have hargs:∀x∈args.toList,st'.rd x=st.rd x:=fun x hx=>lZ ha fun t ht=>by
     have:=eO (op:= .call ⟨.value (.func f),args,ts⟩) (x:=x) (by simp [Op.operands,Call.operands];right;simpa using hx) t ht;simp [Ak,this]
    refine nT (.func f) args ts (hd' st' ha.n) rfl ?_;unfold mQ;simp only [yK];refine⟨by simp,fun x hx=>by rw [hargs x hx];exact h1 x hx,?_⟩;have e1:iK args.toList st'=iK args.toList st:=cW fun x hx=>mX (hargs x hx);have e2:st'.obj=st.obj:=ha.obj rfl;rw [e1,e2];simpa using h2.mono fun r' σ' ⟨a,b⟩=>by subst a;subst b;rfl
   exact h.elim
  | readT =>
   obtain⟨dst,op,ty,pos,after,guard⟩:=o;simp only [Ah] at h;split at h
   .rename_i f args ts _;obtain⟨h1,r,h2,h3⟩:=h;have ups:∀st':St,st'.upd (gK dst.toList ⟨false,false,true,false⟩ (st.put dst (.d r)))=st'.put dst (.d r):=by
     intro st';cases dst with
     | none=>rfl
     | some d=>
      refine St.mk.injEq .. |>.mpr ⟨rfl,?_,rfl,rfl⟩
      funext u;show gA [(d,(st.put (some d) (.d r)).env d)] st'.env u=_
      simp [gA,St.put,St.set]
    refine⟨_,h3,(ups st).symm,fun e=>(by cases e),fun st' ha=>?_⟩;obtain⟨J,hJ⟩:=(ha.obj rfl).2;simp only [xF,sD];rw [ups st'];have hargs:∀x∈args.toList,st'.rd x=st.rd x:=fun x hx=>aEn ha fun t ht=>by
     have:=eO (op:= .call ⟨.value (.func f),args,ts⟩) (x:=x) (by simp [Op.operands,Call.operands];right;simpa using hx) t ht;simp [Ak,this]
    refine nT (.func f) args ts (hd' st' ha.n) rfl ?_;unfold mQ;simp only [yK];refine⟨by simp,fun x hx=>by rw [hargs x hx];exact h1 x hx,?_⟩;have e1:iK args.toList st'=iK args.toList st:=cW fun x hx=>mX (hargs x hx);rw [e1];rw [hJ];simpa using(h2 J).mono fun r' σ' ⟨a,b⟩=>by subst a;subst b;rw [<- hJ]
   exact h.elim
  | detA =>
   obtain⟨dst,op,ty,pos,after,guard⟩:=o;simp only [Ah] at h;split at h
   .rename_i f args ts _;obtain⟨h1,r,J,h2,h3⟩:=h;have ups:∀st':St,st'.upd (gK dst.toList ⟨false,false,true,true⟩ (({ st with obj:=st.obj++J } :St).put dst (.d r)))=({ st' with obj:=st.obj++J } :St).put dst (.d r):=by
     intro st';cases dst with
     | none=>rfl
     | some d=>
      refine St.mk.injEq .. |>.mpr ⟨rfl,?_,rfl,rfl⟩
      funext u;show gA [(d,(({ st with obj:=st.obj++J } :St).put (some d) (.d r)).env d)] st'.env u=_
      simp [gA,St.put,St.set]
    refine⟨_,h3,(ups st).symm,fun _=>⟨J,by cases dst <;> rfl⟩,fun st' ha=>?_⟩;replace ha:=ha.toA;simp only [xF,sD];rw [ups st'];have hargs:∀x∈args.toList,st'.rd x=st.rd x:=fun x hx=>lZ ha fun t ht=>by
     have:=eO (op:= .call ⟨.value (.func f),args,ts⟩) (x:=x) (by simp [Op.operands,Call.operands];right;simpa using hx) t ht;simp [Ak,this]
    refine nT (.func f) args ts (hd' st' ha.n) rfl ?_;unfold mQ;simp only [yK];refine⟨by simp,fun x hx=>by rw [hargs x hx];exact h1 x hx,?_⟩;have e1:iK args.toList st'=iK args.toList st:=cW fun x hx=>mX (hargs x hx);have e2:st'.obj=st.obj:=ha.obj rfl;rw [e1,e2];simpa using h2.mono fun r' σ' ⟨a,b⟩=>by subst a;subst b;rfl
   exact h.elim
  | pureT =>
   obtain⟨dst,op,ty,pos,after,guard⟩:=o;simp only [Ah] at h;split at h
   .rename_i d f args ts _;obtain⟨h0,h1,r,h2,h3⟩:=h;have ups:∀st':St,(∀t,t∈kE (.call ⟨.value (.func f),args,ts⟩)->st'.env t=st.env t)->
      st'.upd (gK ((some d).toList++kE (.call ⟨.value (.func f),args,ts⟩)) ⟨false,false,false,false⟩ (({ st with env:=gS (args.toList.map cO) st.env } :St).put (some d) (.d r)))=({ st' with env:=gS (args.toList.map cO) st'.env } :St).put (some d) (.d r):=by
     intro st' he;refine St.mk.injEq .. |>.mpr ⟨rfl,?_,rfl,rfl⟩
     funext u;exact Dy he u
    refine⟨_,h3,(ups st fun _ _=>rfl).symm,fun e=>(by cases e),fun st' ha=>?_⟩;replace ha:=ha.toA;have he:∀t,t∈kE (.call ⟨.value (.func f),args,ts⟩)->st'.env t=st.env t:=fun t ht=>ha.env t (by simp [Ak,ht]);simp only [xF,sD];rw [ups st' he];have hargs:∀x∈args.toList,st'.rd x=st.rd x:=fun x hx=>lZ ha fun t ht=>by
     have:=eO (op:= .call ⟨.value (.func f),args,ts⟩) (x:=x) (by simp [Op.operands,Call.operands];right;simpa using hx) t ht;simp [Ak,this]
    have hargS:∀x∈args.toList,st'.rdS x=st.rdS x:=fun x hx=>sP ha fun t ht=>by
     have:=eO (op:= .call ⟨.value (.func f),args,ts⟩) (x:=x) (by simp [Op.operands,Call.operands];right;simpa using hx) t ht;simp [Ak,this]
    refine Bi f args ts (hd' st' ha.n) rfl ?_;unfold pU;refine⟨h0,fun x hx=>by rw [hargs x hx,hargS x hx];exact h1 x hx,?_⟩;have e1:args.toList.map (wS st')=args.toList.map (wS st):=cW fun x hx=>As (hargs x hx);rw [e1];exact(h2 st'.obj).mono fun r' σ' ⟨a,b⟩=>by subst a;subst b;rfl
   exact h.elim
  | detT =>
   obtain⟨dst,op,ty,pos,after,guard⟩:=o;simp only [Ah] at h;split at h
   .rename_i d f args ts _;obtain⟨h0,h1,r,σ0,h2,h3⟩:=h;have ups:∀st':St,(∀t,t∈kE (.call ⟨.value (.func f),args,ts⟩)->st'.env t=st.env t)->
      st'.upd (gK ((some d).toList++kE (.call ⟨.value (.func f),args,ts⟩)) ⟨false,false,true,true⟩ (({ st with env:=gS (args.toList.map cO) st.env,obj:=σ0 } :St).put (some d) (.d r)))=({ st' with env:=gS (args.toList.map cO) st'.env,obj:=σ0 } :St).put (some d) (.d r):=by
     intro st' he;refine St.mk.injEq .. |>.mpr ⟨rfl,?_,rfl,rfl⟩
     funext u;exact Dy he u
    refine⟨_,h3,(ups st fun _ _=>rfl).symm,fun e=>(by cases e),fun st' ha=>?_⟩;replace ha:=ha.toA;have he:∀t,t∈kE (.call ⟨.value (.func f),args,ts⟩)->st'.env t=st.env t:=fun t ht=>ha.env t (by simp [Ak,ht]);simp only [xF,sD];rw [ups st' he];have hargs:∀x∈args.toList,st'.rd x=st.rd x:=fun x hx=>lZ ha fun t ht=>by
     have:=eO (op:= .call ⟨.value (.func f),args,ts⟩) (x:=x) (by simp [Op.operands,Call.operands];right;simpa using hx) t ht;simp [Ak,this]
    have hargS:∀x∈args.toList,st'.rdS x=st.rdS x:=fun x hx=>sP ha fun t ht=>by
     have:=eO (op:= .call ⟨.value (.func f),args,ts⟩) (x:=x) (by simp [Op.operands,Call.operands];right;simpa using hx) t ht;simp [Ak,this]
    refine Bi f args ts (hd' st' ha.n) rfl ?_;unfold pU;refine⟨h0,fun x hx=>by rw [hargs x hx,hargS x hx];exact h1 x hx,?_⟩;have e1:args.toList.map (wS st')=args.toList.map (wS st):=cW fun x hx=>As (hargs x hx);have e2:st'.obj=st.obj:=ha.obj rfl;rw [e1,e2];exact h2.mono fun r' σ' ⟨a,b⟩=>by subst a;subst b;rfl
   exact h.elim
 split at h
 .rename_i hg;obtain⟨s,h1,h2,h0,h3⟩:=taken h;exact⟨s,h1,h2,h0,fun _ st' ha=>Wo (fun w g tmps _=>by simp [Region.wanted,hg]) (h3 st' ha)⟩
 rename_i j want hg;obtain⟨t,b,h1,h2,h3,h4⟩:=h;have hin:t∈Ak c all o k:=by simp [Ak,hg,h1]
 by_cases hb:b=want
 .obtain⟨s,k1,k2,k0,k3⟩:=taken (h3 hb);refine⟨s,k1,k2,k0,fun _ st' ha=>Wo (fun w g tmps hok=>?_) (k3 st' ha)⟩;have:=Fk (all:=all) (j:=j) (want:=want) hok h1 (by rw [ha.env t hin];exact h2);simp [Region.wanted,hg,this,hb]
 have hb':b= !want:=by cases b <;> cases want <;> simp_all
 have hdw:∀d,o.dst=some d->d∈xF c o.dst o.op k:=by
  intro d e;cases k <;> simp [xF,pG,e]
 have same:∀st',AgreeD (Ak c all o k) (sD k) (Fu c o.dst o.op k) st st'->st'.upd (gK (xF c o.dst o.op k) (sD k) (st.put o.dst .und))=st'.put o.dst .und:=by
  intro st' ha;refine St.mk.injEq .. |>.mpr ⟨by cases o.dst <;> rfl,?_,?_,?_⟩
  .funext u;have:=uK (xF c o.dst o.op k) (sD k) (st.put o.dst .und) st' u;simp only [St.upd,gK] at this;rw [gK];simp only;rw [this];have hin':u∈xF c o.dst o.op k->st'.env u=st.env u:=fun hu=>ha.env u (by simp [Ak,hu]);cases hd':o.dst with
   | none=>
    rw [hd'] at hin';split
    .rename_i hu;exact(hin' hu).symm
    rfl
   | some d=>
    rw [hd'] at hin';have hdw':=hdw d hd';rw [hd'] at hdw';simp only [St.put,St.set];by_cases hu:u=d
    .subst hu;simp [hdw']
    simp only [hu,bK];split
    .rename_i h;exact(hin' h).symm
    rfl
  .simp only [gK];cases hl:(sD k).wL with
   | true=>have:=ha.loc (hfw.1 hl);cases o.dst <;> simp [St.put,St.set,this]
   | false=>cases o.dst <;> simp [St.put,St.set]
  simp only [gK];cases hl:(sD k).wO with
  | true=>
   have:=(ha.obj (hfw.2 hl)).1 (by cases ht:Fu c o.dst o.op k with | false=>rfl | true=>have:=(aC1 ht).2;rw [hl] at this;cases this);cases o.dst <;> simp [St.put,St.set,this]
  | false=>cases o.dst <;> simp [St.put,St.set]
 refine⟨_,h4 hb',(same st (Aq _ _ _).toD).symm,fun _=>⟨[],by cases o.dst <;> simp [St.put,St.set]⟩,fun _ st' ha=>?_⟩;rw [same st' ha];intro w g tmps hok hn;have hy:=Fk (all:=all) (j:=j) (want:=want) hok h1 (by rw [ha.env t hin];exact h2);have hw:Region.wanted o (yielded all.toArray tmps)=false:=by simp [Region.wanted,hg,hy,hb]
 refine⟨fun h=>(by rw [hw] at h;cases h),fun _=>?_⟩;have hdst:∀d,o.dst=some d->d<tmps.size:=by
  intro d hd';have hd2:d<st.n:=by simpa [eF,hd'] using hd
  rw [hn,ha.n];exact hd2
 refine⟨_,g,rfl,Fr.refl w g,?_,by rw [Vv];exact hn⟩;rw [Cf tmps [] o.dst undef hdst];exact hok.put o.dst .und undef fun t _=>aN0 t
end
section
variable {P:Program}
def Fi(acc:List Nat)(after:List Edge):Nat:=after.foldl (fun s e=>if Region.binds .any e then s ||| 2 ^ e.on ||| acc.getD e.on 0 else s) 0
def wY:List Oper->List Nat->List Nat
 | [],acc=>acc
 | o::r,acc=>wY r (acc++ [Fi acc o.after.toList])
theorem Lz(acc:List Nat):∀(after:List Edge) (s i:Nat),(after.foldl (fun s e=>if Region.binds .any e then s ||| 2 ^ e.on ||| acc.getD e.on 0 else s) s).testBit i=true->s.testBit i=true\/∃e∈after,Region.binds .any e=true/\(e.on=i\/(acc.getD e.on 0).testBit i=true)
 | [],s,i,h=> .inl h
 | e :: r, s, i, h => by
  simp only [dO] at h;rcases Lz acc r _ i h with h1 | ⟨e',he',h1⟩
  .split at h1
   .rename_i hb;rw [Nat.testBit_or,Nat.testBit_or,Nat.testBit_two_pow] at h1;simp only [Gl,fN] at h1;rcases h1 with (h1 | h1) | h1
    .exact .inl h1
    .exact .inr ⟨e,by simp,hb,.inl h1⟩
    exact .inr ⟨e,by simp,hb,.inr h1⟩
   exact .inl h1
  exact .inr ⟨e',by simp [he'],h1⟩
theorem Pf:∀(r:List Oper) (acc:List Nat),(wY r acc).take acc.length=acc/\(wY r acc).length=acc.length+r.length
 | [],acc=>by simp [wY]
 | o::r,acc=>by
  obtain⟨h1,h2⟩:=Pf r (acc++ [Fi acc o.after.toList]);simp only [wY];simp only [aZ,uW] at h1 h2;refine⟨?_,by rw [h2];simp;omega⟩;have:=congrArg (List.take acc.length) h1;rw [List.take_take,kQ (by omega)] at this;rw [this];simp
theorem Nv:∀(r:List Oper) (acc:List Nat) (k:Nat) (o:Oper),r[k]?=some o->(wY r acc)[acc.length+k]?=some (Fi ((wY r acc).take (acc.length+k)) o.after.toList)
 | [],acc,k,o,h=>by simp at h
 | o' :: r, acc, 0, o, h => by
  simp at h;subst h;simp only [wY,kK];obtain⟨h1,h2⟩:=Pf r (acc++ [Fi acc o'.after.toList]);simp only [aZ,uW] at h1;have e1:(wY r (acc++ [Fi acc o'.after.toList])).take acc.length=acc:=by
   have:=congrArg (List.take acc.length) h1;rw [List.take_take,kQ (by omega)] at this;rw [this];simp
  rw [e1];have:=congrArg (fun l=>l[acc.length]?) h1;simp only [eN,Nat.lt_succ_self,aU] at this;rw [this];simp
 | o'::r,acc,k+1,o,h=>by
  simp only [wY];have:=Nv r (acc++ [Fi acc o'.after.toList]) k o (by simpa using h);simp only [aZ,uW] at this;rw [show acc.length+1+k=acc.length+(k+1) by omega] at this;exact this
def rS(ops:List Oper)(i j:Nat):Bool:=((wY ops []).getD j 0).testBit i
theorem aAr {ops:List Oper} {i j:Nat} (ho:ops[j]?=some o)(h:rS ops i j=true):∃e∈o.after.toList,Region.binds .any e=true/\(e.on=i\/(e.on<j/\rS ops i e.on=true)):=by
 unfold rS at h;have hg:=Nv ops [] j o ho;simp only [cY,eL] at hg;rw [List.getD,hg,kL] at h;rcases Lz _ _ _ _ h with h1 | ⟨e,he,hb,h1⟩
 .simp at h1
 refine⟨e,he,hb,?_⟩;rcases h1 with h1 | h1
 .exact .inl h1
 refine .inr ?_;rw [List.getD,eN] at h1;split at h1
 .rename_i hlt;exact⟨hlt,h1⟩
 simp at h1
structure FP where
 ws:List Nat
 rs:List Nat
 f:Fl
 t:Bool
 a:Bool
def FP.apart(a b:FP):Bool:=
 a.ws.all (fun t=> !b.ws.contains t && !b.rs.contains t) && b.ws.all (fun t=> !a.rs.contains t) &&
 !(a.f.wL && (b.f.rL || b.f.wL)) && !(b.f.wL && a.f.rL) && !(a.f.wO && (b.f.rO || b.f.wO)) && !(b.f.wO && a.f.rO && !(a.t && b.a))
def Dt(c:Cfg)(ops:List Oper)(o:Oper)(k:DK):FP:=⟨xF c o.dst o.op k,Ak c ops o k,sD k,Fu c o.dst o.op k,aFh c o.dst o.op k⟩
def fps(c:Cfg)(all ops:List Oper)(ks:List DK):List FP:=(ops.zip ks).map fun p=>Dt c all p.1 p.2
def aMu(f:Fl):Bool:=(!f.wL || f.rL) && (!f.wO || f.rO)
def iY(π:List Nat)(ops:List Oper):List Oper:=π.filterMap fun i=>ops[i]?
def Jm:List Nat->Bool
 | []=>true
 | a::l=> !l.contains a && Jm l
def Iy(c:Cfg)(all:List Oper)(π:List Nat)(ks:List DK):Bool:=
 ks.length==all.length && ks.all (fun k=>aMu (sD k)) && all.zipIdx.all (fun p=>p.1.after.toList.all fun e=> !Region.binds .any e || decide (e.on<p.2)) && (π.length==all.length && ((List.range all.length).all (fun i=>π.contains i) && (Jm π && π.all fun i=>decide (i<all.length)))) &&
 (fps c all (iY π all) ks).zipIdx.all fun q=>(fps c all (iY π all) ks).zipIdx.all fun p=> !decide (p.2<q.2) || rS all (π.getD p.2 0) (π.getD q.2 0) || p.1.apart q.1
def Kf(c:Cfg)(ops:List Oper)(ks:List DK):Bool:=Iy c ops (List.range ops.length) ks && ks.all fun k=> !k.isNd
def kA (P : Program) (c : Cfg) (all : List Oper) : List Oper -> List DK -> St -> (St -> Prop) -> Prop
 | [],_,st,K=>K st
 | o :: r, k :: ks, st, K => eF o st /\ match o.guard with
  | none=>Ah P c o.dst o.op k st fun s=>kA P c all r ks s K
  | some (j, want) => match aN all j with
   | some t=>match Hy (st.env t) want with
    | some b=>(b=want->Ah P c o.dst o.op k st fun s=>kA P c all r ks s K)/\(b= !want->kA P c all r ks (st.put o.dst .und) K)
    | none=>False
   | none=>False
 | _::_, [],_,_=>False
inductive Chain(P:Program)(c:Cfg)(all:List Oper):List Oper->List DK->St->List St->St->Prop
 | nil (ks:List DK) (st:St):Chain P c all [] ks st [] st
 | cons (o:Oper) (r:List Oper) (k:DK) (ks:List DK) (st s:St) (ss:List St) (e:St) (h:Step P c all o k st s) (hr:Chain P c all r ks s ss e):Chain P c all (o::r) (k::ks) st (s::ss) e
theorem aG7 (h:aMu f=true):(f.wL=true->f.rL=true)/\(f.wO=true->f.rO=true):=by
 obtain⟨a,b,x,y⟩:=f;simp only [aMu] at h;cases a <;> cases b <;> cases x <;> cases y <;> simp_all
theorem Xf :∀(r:List Oper) (ks:List DK) (st:St) (K:St->Prop),(∀k∈ks,aMu (sD k)=true/\k.isNd=false)->kA P c all r ks st K->∃ss e,Chain P c all r ks st ss e/\K e
 | [],ks,st,K,_,h=>⟨[],st,.nil ks st,h⟩
 | _::_, [],_,_,_,h=>h.elim
 | o :: r, k :: ks, st, K, hw, h => by
  obtain⟨hd,h⟩:=h;have hs:∃s,kA P c all r ks s K/\Step P c all o k st s:=by
   refine aPi (hw k (by simp)).2 (aG7 (hw k (by simp)).1) hd ?_;split at h
   .rename_i hg;try rw [hg]
    exact h
   rename_i j want hg;try rw [hg]
   split at h
   .rename_i t ht;split at h
    .rename_i b hb;exact⟨t,b,ht,hb,h.1,h.2⟩
    exact h.elim
   exact h.elim
  obtain⟨s,h1,h2⟩:=hs;obtain⟨ss,e,h3,h4⟩:=Xf r ks s K (fun k hk=>hw k (by simp [hk])) h1;exact⟨s::ss,e,.cons o r k ks st s ss e h2 h3,h4⟩
theorem Chain.append {A B:List Oper} {ka kb:List DK} {s e:St} {ss tt:List St} (h:Chain P c all A ka st ss s)(hl:ka.length=A.length)(g:Chain P c all B kb s tt e):Chain P c all (A++B) (ka++kb) st (ss++tt) e:=by
 induction h with
 | nil ks st=>obtain rfl:=sB.1 hl;exact g
 | cons o r k ks st s ss e' h hr ih=>exact .cons o _ k _ st s _ e h (ih (by simpa using hl) g)
end
end Go.Vm
