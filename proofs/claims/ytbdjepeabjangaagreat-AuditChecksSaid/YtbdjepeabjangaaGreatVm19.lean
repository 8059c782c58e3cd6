import Derived.Test.YtbdjepeabjangaaGreatVm18
set_option linter.all false
namespace Go.Vm
open Go
variable {K K':St->Prop}{all:List Oper}{args:Array Operand}{c:Cfg}{dst:Option Tmp}{f:Fl}{op:Op}{rs ws:List Nat}{st st':St}{tol:Bool}{ts:Array TypeId}
section
variable {P:Program}
def jY:Op->Bool
 | .call { callee:= .builtin _, .. } =>false
 | .call _=>true
 | .binOp _ _ _ y _=>uT y
 | .range _ _ | .next _ _ | .entry _=>true
 | _=>false
theorem aQq (h:jY op=false):Aq op=false:=by
 cases op <;> first | rfl | simp [jY] at h
theorem aBw {op:BinOp} {t:TypeId} {x y:Slot} {K:D->Prop} (h:sZ P op t x y K):∃d,K d/\sZ P op t x y (· =d):=by
 unfold sZ at *;split at h
 .obtain⟨h1,h2⟩:=h;unfold Cd at *;cases op <;> simp only at h2 |- <;> first | exact⟨_,h2,h1,rfl⟩ | exact⟨_,h2.2,h1,h2.1,rfl⟩ | exact⟨_,h2.2.2,h1,h2.1,h2.2.1,rfl⟩ | exact h2.elim
 .unfold Cj at *;cases op <;> simp only at h |- <;> first | exact⟨_,h,rfl⟩ | exact⟨_,h.2,h.1,rfl⟩ | exact h.elim
 .obtain⟨h1,h2⟩:=h;cases op <;> simp only at h2 |- <;> first | exact⟨_,h2,h1,rfl⟩ | exact h2.elim
 .obtain⟨h1,h2⟩:=h;cases op <;> simp only at h2 |- <;> first | (obtain⟨b,e1,e2⟩:=h2;exact⟨_,e2,h1,b,e1,rfl⟩) | exact h2.elim
 .obtain⟨h1,h2⟩:=h;cases op <;> simp only at h2 |- <;> first | exact⟨_,h2,h1,rfl⟩ | exact h2.elim
 .obtain⟨h1,h2⟩:=h;cases op <;> simp only at h2 |- <;> first | exact⟨_,h2,h1,rfl⟩ | exact h2.elim
 exact h.elim
theorem aEg {op:UnOp} {x:D} {K:D->Prop} (h:Cy op x K):∃d,K d/\Cy op x (· =d):=by
 unfold Cy at *;split at h
 .exact⟨_,h,rfl⟩
 .exact⟨_,h.2,h.1,rfl⟩
 exact h.elim
theorem Yh {f:Operand} (hk:∀s,K s->K' s)(h:dF P c dst (.call ⟨.value f,args,ts⟩) st K):dF P c dst (.call ⟨.value f,args,ts⟩) st K':=by
 have pc:∀f,kJ P dst f args.toList st K->kJ P dst f args.toList st K':=by
  intro f h;unfold kJ at *;split at h
  .exact⟨h.1,h.2.1,h.2.2.mono fun r σ' hK=>hk _ hK⟩
  exact h
 have pt:∀fid,mN P dst fid args.toList st K->mN P dst fid args.toList st K':=fun fid h=>⟨h.1,h.2.1,h.2.2.mono fun r σ' hK=>hk _ hK⟩;simp only [dF,nQ] at *;cases f with
 | func fid =>
  simp only at *;cases dst with
  | none=>exact pc _ h
  | some d=>
   simp only at *;split at h
   .rename_i ht;rw [aR ht];exact pt _ h
   rename_i ht;rw [aH ht];exact pc _ h
 | _=>exact pc _ h
theorem aLr (hc:jY op=false)(h:dF P c dst op st K):∃s,K s/\dF P c dst op st (· =s):=by
 have mv:∀x,iZ c dst x st K->∃s,K s/\iZ c dst x st (· =s):=by
  intro x h;unfold iZ at *;split at h
  .split at h
   .exact⟨_,h,rfl⟩
   split at h
   .rename_i ht;exact⟨_,h.2.2,by rw [aR ht];exact⟨h.1,h.2.1,rfl⟩⟩
   rename_i ht;exact⟨_,h.2,by rw [aH ht];exact⟨h.1,rfl⟩⟩
  .exact h.elim
  exact⟨_,h,rfl⟩
 have ld:∀t x,iI P dst t x st K->∃s,K s/\iI P dst t x st (· =s):=by
  intro t x h;unfold iI at *;split at h
  .split at h
   .exact⟨_,h,rfl⟩
   exact h.elim
  exact h.elim
 cases op with
 | move x=>exact mv x h
 | assign x=>exact mv x h
 | binOp b t x y yt=>
  have hy:¬uT y=true:=by simp only [jY] at hc;simp [hc]
  simp only [dF] at h |-;simp only [aH hy] at h |-;obtain⟨d,h1,h2⟩:=aBw (P:=P) h;exact⟨_,h1,xH (fun e he=>by rw [he]) h2⟩
 | unOp u t x=>
  simp only [dF] at h |-;obtain⟨d,h1,h2⟩:=aEg h;exact⟨_,h1,Bg (fun e he=>by rw [he]) h2⟩
 | load t x =>
  simp only [dF,jX] at *;split at h
  .split at h
   .rename_i htk;simp only [aR htk];split at h
    .split at h
     .split at h
      .exact⟨_,h.2.2,h.1,h.2.1,rfl⟩
      exact h.elim
     exact h.elim
    .split at h
     .split at h
      .exact⟨_,h.2.2,h.1,h.2.1,rfl⟩
      exact h.elim
     exact h.elim
    exact ld t x h
   rename_i htk;simp only [aH htk];exact ld t x h
  exact ld t x h
 | fieldAddr s x f=>
  simp only [dF,kS] at *;split at h
  .exact⟨_,h.2,h.1,rfl⟩
  exact h.elim
 | field s x f =>
  simp only [dF,sJ] at *;split at h
  .split at h
   .exact⟨_,h,rfl⟩
   exact h.elim
  exact h.elim
 | indexAddr t x i =>
  simp only [dF,kW] at *;split at h
  .split at h
   .split at h
    .exact⟨_,h.2.2.2,h.1,h.2.1,h.2.2.1,rfl⟩
    exact h.elim
   split at h
   .exact⟨_,h.2.2,h.1,h.2.1,rfl⟩
   exact h.elim
  exact h.elim
 | index t x i =>
  simp only [dF,sN] at *;split at h
  .exact⟨_,h.2.2,h.1,h.2.1,rfl⟩
  .split at h
   .split at h
    .split at h
     .exact⟨_,h.2,h.1,rfl⟩
     exact h.elim
    exact h.elim
   exact h.elim
  exact h.elim
 | slice t x lo hi mx =>
  simp only [dF,sL] at *;split at h
  .obtain⟨h1,h2,h3⟩:=h;split at h3
   .exact⟨_,h3.2,h1,h2,h3.1,rfl⟩
   exact h3.elim
  .split at h
   .split at h
    .split at h
     .exact⟨_,h.2.2,h.1,h.2.1,rfl⟩
     exact h.elim
    split at h
    .exact⟨_,h.2.2,h.1,h.2.1,rfl⟩
    exact h.elim
   exact h.elim
  exact h.elim
 | pick a x y =>
  simp only [dF,wX] at *;split at h
  .rename_i t ht;cases t with
   | true=>exact⟨_,(h.1 rfl).2,fun _=>⟨(h.1 rfl).1,rfl⟩,fun e=>(by cases e)⟩
   | false=>exact⟨_,(h.2 rfl).2,fun e=>(by cases e),fun _=>⟨(h.2 rfl).1,rfl⟩⟩
  exact h.elim
 | extract x i =>
  simp only [dF,mU] at *;split at h
  .split at h
   .split at h
    .obtain⟨h1,h2⟩:=h;split at h2
     .rename_i ht;exact⟨_,h2.2.2,h1,by rw [aR ht];exact⟨h2.1,h2.2.1,rfl⟩⟩
     rename_i ht;exact⟨_,h2,h1,by rw [aH ht]⟩
    exact h.elim
   exact h.elim
  exact h.elim
 | makeFunc f first caps=>exact⟨_,h.2,h.1,rfl⟩
 | nilCheck x=>exact⟨_,h.2,h.1,rfl⟩
 | convert s d x=>
  simp only [dF,nO] at *;split at h
  .obtain⟨a,b,h1,h2,h3,h4⟩:=h;exact⟨_,h4,a,b,h1,h2,h3,rfl⟩
  .exact⟨_,h.2.2,h.1,h.2.1,rfl⟩
  exact h.elim
 | alloc e =>
  simp only [dF,qT] at *;split at h
  .split at h
   .rename_i he;exact⟨_,h,by rw [aR he]⟩
   rename_i he;exact⟨_,h,by rw [aH he]⟩
  exact h.elim
 | box e x =>
  simp only [dF,Cn] at *;split at h
  .obtain⟨h1,h2⟩:=h;split at h2
   .rename_i hi;exact⟨_,h2,h1,by rw [aR hi]⟩
   rename_i hi;split at h2
   .rename_i he;exact⟨_,h2,h1,by rw [aH hi,aR he]⟩
   rename_i he;exact⟨_,h2,h1,by rw [aH hi,aH he]⟩
  exact h.elim
 | store t a v =>
  simp only [dF,uY] at *;obtain⟨h1,h2,h3,h4⟩:=h;split at h4
  .split at h4
   .exact⟨_,h4.2,h1,h2,h3,h4.1,rfl⟩
   exact h4.elim
  .split at h4
   .exact⟨_,h4.2,h1,h2,h3,h4.1,rfl⟩
   exact h4.elim
  exact h4.elim
 | build t parts =>
  simp only [dF,sI] at *;split at h
  .split at h
   .exact⟨_,h,rfl⟩
   exact h.elim
  exact h.elim
 | buildSlice t len parts=>
  simp only [dF,jW] at *;split at h
  .exact⟨_,h.2.2,h.1,h.2.1,rfl⟩
  exact h.elim
 | call call =>
  obtain⟨callee,args,ts⟩:=call;cases callee with
  | builtin b =>
   simp only [dF,nQ,oV] at *;split at h
   .simp only [Ez] at *;split at h
    .exact⟨_,h.2,h.1,rfl⟩
    .exact⟨_,h.2,h.1,rfl⟩
    exact h.elim
   .simp only [qM] at *;split at h
    .obtain⟨h1,h2,h3,h4,h5⟩:=h;split at h5
     .exact⟨_,h5.2,h1,h2,h3,h4,h5.1,rfl⟩
     .exact⟨_,h5,h1,h2,h3,h4,rfl⟩
     exact h5.elim
    exact h.elim
   .simp only [uI] at *;split at h
    .exact⟨_,h.2,h.1,rfl⟩
    exact h.elim
   .simp only [uI] at *;split at h
    .exact⟨_,h.2,h.1,rfl⟩
    exact h.elim
   exact h.elim
  | _=>simp [jY] at hc
 | range t x=>simp [jY] at hc
 | next x s=>simp [jY] at hc
 | entry x=>simp [jY] at hc
 | _=>exact h.elim
theorem Ug (hk:∀s,K s->K' s)(h:dF P c dst op st K):dF P c dst op st K':=by
 have mv:∀x,iZ c dst x st K->iZ c dst x st K':=by
  intro x h;unfold iZ at *;split at h
  .split at h
   .exact hk _ (h)
   split at h
   .rename_i ht;exact(by rw [aR ht];exact⟨h.1,h.2.1,hk _ (h.2.2)⟩)
   rename_i ht;exact(by rw [aH ht];exact⟨h.1,hk _ (h.2)⟩)
  .exact h.elim
  exact hk _ (h)
 have ld:∀t x,iI P dst t x st K->iI P dst t x st K':=by
  intro t x h;unfold iI at *;split at h
  .split at h
   .exact hk _ (h)
   exact h.elim
  exact h.elim
 cases op with
 | move x=>exact mv x h
 | assign x=>exact mv x h
 | binOp b t x y yt=>
  simp only [dF] at h |-;split at h
  .rename_i hy;rw [aR hy];exact Ru hk h
  rename_i hy;rw [aH hy];exact xH (fun e he=>hk _ he) h
 | unOp u t x=>
  simp only [dF] at h |-;exact Bg (fun e he=>hk _ he) h
 | load t x =>
  simp only [dF,jX] at *;split at h
  .split at h
   .rename_i htk;simp only [aR htk];split at h
    .split at h
     .split at h
      .exact⟨h.1,h.2.1,hk _ (h.2.2)⟩
      exact h.elim
     exact h.elim
    .split at h
     .split at h
      .exact⟨h.1,h.2.1,hk _ (h.2.2)⟩
      exact h.elim
     exact h.elim
    exact ld t x h
   rename_i htk;simp only [aH htk];exact ld t x h
  exact ld t x h
 | fieldAddr s x f=>
  simp only [dF,kS] at *;split at h
  .exact⟨h.1,hk _ (h.2)⟩
  exact h.elim
 | field s x f =>
  simp only [dF,sJ] at *;split at h
  .split at h
   .exact hk _ (h)
   exact h.elim
  exact h.elim
 | indexAddr t x i =>
  simp only [dF,kW] at *;split at h
  .split at h
   .split at h
    .exact⟨h.1,h.2.1,h.2.2.1,hk _ (h.2.2.2)⟩
    exact h.elim
   split at h
   .exact⟨h.1,h.2.1,hk _ (h.2.2)⟩
   exact h.elim
  exact h.elim
 | index t x i =>
  simp only [dF,sN] at *;split at h
  .exact⟨h.1,h.2.1,hk _ (h.2.2)⟩
  .split at h
   .split at h
    .split at h
     .exact⟨h.1,hk _ h.2⟩
     exact h.elim
    exact h.elim
   exact h.elim
  exact h.elim
 | slice t x lo hi mx =>
  simp only [dF,sL] at *;split at h
  .obtain⟨h1,h2,h3⟩:=h;split at h3
   .exact⟨h1,h2,h3.1,hk _ (h3.2)⟩
   exact h3.elim
  .split at h
   .split at h
    .split at h
     .exact⟨h.1,h.2.1,hk _ (h.2.2)⟩
     exact h.elim
    split at h
    .exact⟨h.1,h.2.1,hk _ (h.2.2)⟩
    exact h.elim
   exact h.elim
  exact h.elim
 | pick a x y=>
  simp only [dF,wX] at *;split at h
  .rename_i t ht;exact⟨fun ht=>⟨(h.1 ht).1,hk _ (h.1 ht).2⟩,fun ht=>⟨(h.2 ht).1,hk _ (h.2 ht).2⟩⟩
  exact h.elim
 | extract x i =>
  simp only [dF,mU] at *;split at h
  .split at h
   .split at h
    .obtain⟨h1,h2⟩:=h;split at h2
     .rename_i ht;exact⟨h1,(by rw [aR ht];exact⟨h2.1,h2.2.1,hk _ (h2.2.2)⟩)⟩
     rename_i ht;exact⟨h1,(by rw [aH ht];exact hk _ (h2))⟩
    exact h.elim
   exact h.elim
  exact h.elim
 | makeFunc f first caps=>exact⟨h.1,hk _ (h.2)⟩
 | nilCheck x=>exact⟨h.1,hk _ (h.2)⟩
 | convert s d x=>
  simp only [dF,nO] at *;split at h
  .obtain⟨a,b,h1,h2,h3,h4⟩:=h;exact⟨a,b,h1,h2,h3,hk _ (h4)⟩
  .exact⟨h.1,h.2.1,hk _ (h.2.2)⟩
  exact h.elim
 | alloc e =>
  simp only [dF,qT] at *;split at h
  .split at h
   .rename_i he;exact(by rw [aR he];exact hk _ (h))
   rename_i he;exact(by rw [aH he];exact hk _ (h))
  exact h.elim
 | box e x =>
  simp only [dF,Cn] at *;split at h
  .obtain⟨h1,h2⟩:=h;split at h2
   .rename_i hi;exact⟨h1,(by rw [aR hi];exact hk _ (h2))⟩
   rename_i hi;split at h2
   .rename_i he;exact⟨h1,(by rw [aH hi,aR he];exact hk _ (h2))⟩
   rename_i he;exact⟨h1,(by rw [aH hi,aH he];exact hk _ (h2))⟩
  exact h.elim
 | store t a v =>
  simp only [dF,uY] at *;obtain⟨h1,h2,h3,h4⟩:=h;split at h4
  .split at h4
   .exact⟨h1,h2,h3,h4.1,hk _ (h4.2)⟩
   exact h4.elim
  .split at h4
   .exact⟨h1,h2,h3,h4.1,hk _ (h4.2)⟩
   exact h4.elim
  exact h4.elim
 | build t parts =>
  simp only [dF,sI] at *;split at h
  .split at h
   .exact hk _ (h)
   exact h.elim
  exact h.elim
 | buildSlice t len parts=>
  simp only [dF,jW] at *;split at h
  .exact⟨h.1,h.2.1,hk _ (h.2.2)⟩
  exact h.elim
 | call call =>
  obtain⟨callee,args,ts⟩:=call;cases callee with
  | builtin b =>
   simp only [dF,nQ,oV] at *;split at h
   .simp only [Ez] at *;split at h
    .exact⟨h.1,hk _ (h.2)⟩
    .exact⟨h.1,hk _ (h.2)⟩
    exact h.elim
   .simp only [qM] at *;split at h
    .obtain⟨h1,h2,h3,h4,h5⟩:=h;split at h5
     .exact⟨h1,h2,h3,h4,h5.1,hk _ (h5.2)⟩
     .exact⟨h1,h2,h3,h4,hk _ (h5)⟩
     exact h5.elim
    exact h.elim
   .simp only [uI] at *;split at h
    .exact⟨h.1,hk _ (h.2)⟩
    exact h.elim
   .simp only [uI] at *;split at h
    .exact⟨h.1,hk _ (h.2)⟩
    exact h.elim
   exact h.elim
  | value f=>exact Yh hk h
  | invoke r m=>exact h.elim
 | range t x=>exact Lz hk h
 | next x s=>
  cases s with
  | false=>exact Qc hk h
  | true=>exact h.elim
 | entry x=>exact Lg hk h
 | _=>exact h.elim
theorem aQr (h:vcX P dst op st K):∃s,K s/\vcX P dst op st (· =s):=by
 unfold vcX at *;split at h
 .split at h
  .simp only [Bi] at *;obtain⟨h0,h⟩:=h;split at h <;> first | exact⟨_,h,h0,rfl⟩ | exact h.elim
  exact h.elim
 .split at h
  .simp only [mY] at *;split at h
   .obtain⟨h0,h1,h2,h3⟩:=h;split at h3 <;> first | exact⟨_,h3.2,h0,h1,h2,h3.1,rfl⟩ | (obtain⟨ds,es,h4,h5⟩:=h3;exact⟨_,h5,h0,h1,h2,ds,es,h4,rfl⟩) | exact h3.elim
   exact h.elim
  exact h.elim
 .split at h
  .simp only [rV] at *;obtain⟨h0,h⟩:=h;split at h
   .split at h
    .exact⟨_,h.2,h0,h.1,rfl⟩
    exact h.elim
   exact h.elim
  exact h.elim
 .simp only [jT] at *;split at h
  .exact⟨_,h.2,h.1,rfl⟩
  exact h.elim
 .simp only [qL] at *;split at h
  .split at h
   .exact⟨_,h.2,h.1,rfl⟩
   exact h.elim
  exact h.elim
 exact h.elim
theorem aOs (hk:∀s,K s->K' s)(h:vcX P dst op st K):vcX P dst op st K':=by
 unfold vcX at *;split at h
 .split at h
  .simp only [Bi] at *;obtain⟨h0,h⟩:=h;split at h <;> first | exact⟨h0,hk _ h⟩ | exact h.elim
  exact h.elim
 .split at h
  .simp only [mY] at *;split at h
   .obtain⟨h0,h1,h2,h3⟩:=h;split at h3 <;> first | exact⟨h0,h1,h2,h3.1,hk _ h3.2⟩ | (obtain⟨ds,es,h4,h5⟩:=h3;exact⟨h0,h1,h2,ds,es,h4,hk _ h5⟩) | exact h3.elim
   exact h.elim
  exact h.elim
 .split at h
  .simp only [rV] at *;obtain⟨h0,h⟩:=h;split at h
   .split at h
    .exact⟨h0,h.1,hk _ h.2⟩
    exact h.elim
   exact h.elim
  exact h.elim
 .simp only [jT] at *;split at h
  .exact⟨h.1,hk _ h.2⟩
  exact h.elim
 .simp only [qL] at *;split at h
  .split at h
   .exact⟨h.1,hk _ h.2⟩
   exact h.elim
  exact h.elim
 exact h.elim
theorem Rd (hc:jY op=false)(h:gV P c dst op st K):∃s,K s/\gV P c dst op st (· =s):=by
 unfold gV at *;by_cases hy:zV c dst op=true
 .simp only [hy,aO] at *;obtain⟨sets,ob,h1,hK⟩:=h;exact⟨_,hK,sets,ob,h1,rfl⟩
 simp only [hy] at *;by_cases hu:Lp c dst op=true
 .simp only [hu,aO] at *;exact aQr h
 simp only [hu] at *;exact aLr hc h
theorem xB (hk:∀s,K s->K' s)(h:gV P c dst op st K):gV P c dst op st K':=by
 unfold gV at *;by_cases hy:zV c dst op=true
 .simp only [hy,aO] at *;obtain⟨sets,ob,h1,hK⟩:=h;exact⟨sets,ob,h1,hk _ hK⟩
 simp only [hy] at *;by_cases hu:Lp c dst op=true
 .simp only [hu,aO] at *;exact aOs hk h
 simp only [hu] at *;exact Ug hk h
def Fs(c:Cfg)(dst:Option Tmp):Op->Bool
 | .load t a=> !dst.any c.take.contains && !zV c dst (.load t a) && !Lp c dst (.load t a)
 | .lookup _ _ _ _=>true
 | .call ⟨.builtin .len,args,ts⟩=>zV c dst (.call ⟨.builtin .len,args,ts⟩)
 | _=>false
def Oo(c:Cfg)(dst:Option Tmp):Op->Bool
 | .makeMap _ _=>true
 | .alloc e=>dst.any c.esc.contains && !zV c dst (.alloc e) && !Lp c dst (.alloc e)
 | .box e x=>dst.any c.esc.contains && !dst.any c.imm.contains && !zV c dst (.box e x) && !Lp c dst (.box e x)
 | _=>false
structure AgreeT(rs:List Nat)(f:Fl)(st st':St):Prop where
 n:st'.n=st.n
 env:∀t,t∈rs->st'.env t=st.env t
 loc:f.rL=true->st'.loc=st.loc
 obj:f.rO=true->∃J,st'.obj=st.obj++J
theorem Lc {α:Type} {l J:List α} {n:Nat} {x:α} (h:l[n]?=some x):(l++J)[n]?=some x:=by
 rw [aX (aJ.1 h).1];exact h
theorem aCn {args:List Operand} {ts:List TypeId} {f g:Operand->TypeId->mP} {sets:List (Nat×Slot)} {ob:Option (List (List D))} (h:∀x t,f x t sets ob->g x t sets ob)(hy:yA1 args ts f sets ob):yA1 args ts g sets ob:=by
 match args,ts with
 | [x], [t]=>exact h x t hy
 | [],_=>exact hy.elim
 | _::_::_,_=>exact hy.elim
 | [_], []=>exact hy.elim
 | [_],_::_::_=>exact hy.elim
theorem aNg (ht:Fs c dst op=true)(hrs:∀t,t∈iO op->t∈rs)(ha:AgreeT rs (mR c dst st op) st st')(h:gV P c dst op st K):gV P c dst op st' (Tr (mE c dst op) (mR c dst st op) st st' K):=by
 have rdS:∀x,x∈op.operands.toList->st'.rdS x=st.rdS x:=fun x hx=>by
  cases x with
  | tmp t=>exact ha.env t (hrs t (dT hx t rfl))
  | _=>rfl
 have goY:zV c dst op=true->(∀rd obj J sets ob,yR P (Kr c dst op) dst op rd obj sets ob->yR P (Kr c dst op) dst op rd (obj++J) sets ob)->gV P c dst op st' (Tr (mE c dst op) (mR c dst st op) st st' K):=by
  intro hy hm;have hw:mE c dst op=dst.toList++iO op:=by simp [mE,hy]
  unfold gV mR at *;simp only [hy,aO] at *;obtain⟨sets,ob,h1,hK⟩:=h;obtain⟨s1,s2⟩:=Xb h1;refine⟨sets,ob,?_,⟨sets,none,ob⟩,⟨fun p hp=>by rw [hw];exact s1 p hp,by simp,s2⟩,hK,rfl⟩;rw [Pi rdS];by_cases hr:(flY (Kr c dst op) op).rO=true
  .simp only [hr,aO] at h1 |-;obtain⟨J,hJ⟩:=ha.obj hr;rw [hJ];exact hm _ _ _ _ _ h1
  simp only [hr] at h1 |-;exact h1
 cases op with
 | load t a =>
  simp only [Fs,fF,pD] at ht;obtain⟨⟨h1,h2⟩,h3⟩:=ht;have ld:∀K,iI P dst t a st K->st'.cellsAt (st'.rdS a)=st.cellsAt (st.rdS a)->iI P dst t a st' (Tr (mE c dst (.load t a)) (mR c dst st (.load t a)) st st' K):=by
   intro K h he;unfold iI at *;rw [he];split at h
   .split at h
    .exact Sk iM h
    exact h.elim
   exact h.elim
  have tk:∀st K,jX P c dst t a st K=iI P dst t a st K:=by
   intro st K;unfold jX;split
   .rename_i d _;have:c.take.contains d=false:=by simpa using h1
    simp only [this];rfl
   rfl
  have hfl:mR c dst st (.load t a)=iL (dst.any c.take.contains) (st.rdS a):=by
   unfold mR;simp only [h2,h3];rfl
  have key:gV P c dst (.load t a) st K=iI P dst t a st K:=by
   unfold gV;simp only [h2,h3,dF,tk];rfl
  have key':∀K,gV P c dst (.load t a) st' K=iI P dst t a st' K:=fun K=>by
   unfold gV;simp only [h2,h3,dF,tk];rfl
  rw [key] at h;rw [key'];refine ld K h ?_;have he:st'.rdS a=st.rdS a:=rdS a (by simp [Op.operands]);rw [he];unfold iI at h;rw [hfl] at ha;cases hs:st.rdS a with
  | lref n off=>rw [hs] at ha;simp only [St.cellsAt];rw [ha.loc rfl]
  | d x =>
   cases x with
   | ref n off=>
    rw [hs] at ha h;obtain⟨J,hJ⟩:=ha.obj rfl;simp only [St.cellsAt] at h |-;rw [hJ];cases hg:st.obj[n]? with
    | none=>rw [hg] at h;simp at h
    | some cs=>rw [Lc hg]
   | _=>rfl
 | lookup t x k ok=>
  refine goY rfl fun rd obj J sets ob hy=>?_;simp only [yR,sH] at hy |-;split at hy
  .obtain⟨m,i,clock,kvs,dv,b,⟨⟨cs,g1,g2⟩,g3⟩,g4⟩:=hy;exact⟨m,i,clock,kvs,dv,b,⟨⟨cs,Lc g1,g2⟩,g3⟩,g4⟩
  .exact hy
  exact hy.elim
 | call call =>
  obtain⟨callee,args,ts⟩:=call;cases callee with
  | builtin b =>
   cases b with
   | len =>
    refine goY ht fun rd obj J sets ob hy=>?_;simp only [yR] at hy |-;refine aCn (fun x t hy=>?_) hy;split at hy
    .rename_i h;rw [aR h];unfold Ft at hy |-;split at hy
     .obtain⟨m,i,clock,kvs,⟨cs,g1,g2⟩,g4⟩:=hy;exact⟨m,i,clock,kvs,⟨cs,Lc g1,g2⟩,g4⟩
     exact hy.elim
    rename_i h;rw [aH h];exact hy
   | _=>simp [Fs] at ht
  | _=>simp [Fs] at ht
 | _=>simp [Fs] at ht
theorem aNl {s:St} (ha:Oo c dst op=true)(h:gV P c dst op st (· =s)):∃J,s.obj=st.obj++J:=by
 cases op with
 | makeMap t r=>
  unfold gV at h;simp only [zV,isY,Bool.true_or,aO] at h;obtain⟨sets,ob,h1,rfl⟩:=h;have hf:(flY (Kr c dst (.makeMap t r)) (.makeMap t r)).rO=true:=rfl;simp only [hf,aO,yR,qG] at h1;split at h1
  .obtain⟨_,rfl,rfl⟩:=h1;exact⟨[[]],rfl⟩
  exact h1.elim
 | alloc e =>
  simp only [Oo,fF,pD] at ha;obtain⟨⟨h1,h2⟩,h3⟩:=ha;unfold gV at h;simp only [h2,h3,dF,qT] at h;simp only [gD,bE] at h;split at h
  .rename_i cs d _;have:c.esc.contains d=true:=by simpa using h1
   simp only [this,aO] at h;subst h;exact⟨[cs],rfl⟩
  exact h.elim
 | box e x =>
  simp only [Oo,fF,pD] at ha;obtain⟨⟨⟨h1,h0⟩,h2⟩,h3⟩:=ha;unfold gV at h;simp only [h2,h3,dF,Cn] at h;simp only [gD,bE] at h;split at h
  .rename_i d;have e1:c.esc.contains d=true:=by simpa using h1
   have e2:c.imm.contains d=false:=by simpa using h0
   simp only [e1,e2,aO] at h;simp only [gD,bE] at h;obtain⟨_,rfl⟩:=h;exact⟨_,rfl⟩
  exact h.elim
 | _=>simp [Oo] at ha
inductive DK where
 | op (f:Fl)
 | pure
 | det
 | pureT
 | detT
 | read
 | pureC
 | readT
 | detA
 | nd
def DK.isNd:DK->Bool
 | .nd=>true
 | _=>false
def pC:DK->Fl
 | .op f=>f
 | .pure=>⟨false,false,false,false⟩
 | .pureT=>⟨false,false,false,false⟩
 | .detT=>⟨false,false,true,true⟩
 | .det=>⟨false,false,true,true⟩
 | .read=>⟨false,false,true,false⟩
 | .pureC=>⟨false,false,false,false⟩
 | .readT=>⟨false,false,true,false⟩
 | .detA=>⟨false,false,true,true⟩
 | .nd=>⟨false,false,true,true⟩
def Aw(c:Cfg)(dst:Option Tmp)(op:Op):DK->Bool
 | .op f=>f.rO && !f.wO && Fs c dst op
 | .readT=>true
 | _=>false
def Zq(c:Cfg)(dst:Option Tmp)(op:Op):DK->Bool
 | .op _=>Oo c dst op
 | .detA=>true
 | _=>false
theorem Vu {k:DK} (h:Aw c dst op k=true):(pC k).rO=true/\(pC k).wO=false:=by
 cases k <;> simp_all [Aw,pC]
def uB(c:Cfg)(dst:Option Tmp)(op:Op):DK->List Nat
 | .op _=>mE c dst op
 | .pureT | .detT=>dst.toList++iO op
 | _=>dst.toList
def aTb(P:Program)(dst:Option Tmp)(op:Op)(st:St)(Q:D->List (List D)->Prop):Prop:=match op with
 | .call { callee:= .value (.func f),args, .. } =>kP args.toList st/\Ct P f (gK args.toList st) st.obj Q/\∃r σ0,Q r σ0
 | _=>False
def wI(P:Program)(c:Cfg)(dst:Option Tmp)(op:Op)(k:DK)(st:St)(K:St->Prop):Prop:=
 match k with
 | .op f=>jY op=false/\mR c dst st op=f/\gV P c dst op st K
 | .pure=>match op with
  | .call { callee:= .value (.func f),args, .. } =>kP args.toList st/\∃r,(∀σ,Ct P f (gK args.toList st) σ fun r' σ'=>r'=r/\σ'=σ)/\K (st.put dst (.d r))
  | _=>False
 | .read=>match op with
  | .call { callee:= .value (.func f),args, .. } =>kP args.toList st/\∃r,(Ct P f (gK args.toList st) st.obj fun r' σ'=>r'=r/\σ'=st.obj)/\K (st.put dst (.d r))
  | _=>False
 | .pureC => match op with
  | .call { callee:= .value f,args, .. } =>match st.rd f with
   | .clo (.func fid) first caps=>(∀d∈first++caps,d.plain=true)/\kP args.toList st/\∃r,(∀σ,Ct P fid (first.map D.strip++gK args.toList st++caps.map D.strip) σ fun r' σ'=>r'=r/\σ'=σ)/\K (st.put dst (.d r))
   | _=>False
  | _=>False
 | .readT=>match op with
  | .call { callee:= .value (.func f),args, .. } =>kP args.toList st/\∃r,(∀J,Ct P f (gK args.toList st) (st.obj++J) fun r' σ'=>r'=r/\σ'=st.obj++J)/\K (st.put dst (.d r))
  | _=>False
 | .nd=>∃Q,aTb P dst op st Q/\∀r σ0,Q r σ0->K (({ st with obj:=σ0 } :St).put dst (.d r))
 | .detA=>match op with
  | .call { callee:= .value (.func f),args, .. } =>kP args.toList st/\∃r J,(Ct P f (gK args.toList st) st.obj fun r' σ'=>r'=r/\σ'=st.obj++J)/\K (({ st with obj:=st.obj++J } :St).put dst (.d r))
  | _=>False
 | .det=>match op with
  | .call { callee:= .value (.func f),args, .. } =>kP args.toList st/\∃r σ0,(Ct P f (gK args.toList st) st.obj fun r' σ'=>r'=r/\σ'=σ0)/\K (({ st with obj:=σ0 } :St).put dst (.d r))
  | _=>False
 | .pureT => match dst, op with
  | some d,.call { callee:= .value (.func f),args, .. } =>(args.toList.filterMap cD).Nodup/\(∀x∈args.toList,wK (st.rdS x)=true/\(st.rd x).plain=true)/\
   ∃r,(∀σ,Ct P f (args.toList.map (tE st)) σ fun r' σ'=>r'=r/\σ'=σ)/\K (({ st with env:=fT (args.toList.map cD) st.env } :St).put (some d) (.d r))
  | _,_=>False
 | .detT => match dst, op with
  | some d,.call { callee:= .value (.func f),args, .. } =>(args.toList.filterMap cD).Nodup/\(∀x∈args.toList,wK (st.rdS x)=true/\(st.rd x).plain=true)/\
   ∃r σ0,(Ct P f (args.toList.map (tE st)) st.obj fun r' σ'=>r'=r/\σ'=σ0)/\K (({ st with env:=fT (args.toList.map cD) st.env,obj:=σ0 } :St).put (some d) (.d r))
  | _,_=>False
def wR(c:Cfg)(all:List Oper)(o:Oper)(k:DK):List Nat:=uB c o.dst o.op k++iO o.op++match o.guard with
 | none=> []
 | some (j,_)=>(aQ all j).toList
def fJ(ws:List Nat)(f:Fl)(s:St):Delta:=⟨ws.map fun t=>(t,s.env t),if f.wL then some s.loc else none,if f.wO then some s.obj else none⟩
theorem rD(ws:List Nat)(f:Fl)(s st:St)(t:Nat):(st.upd (fJ ws f s)).env t=if t∈ws then s.env t else st.env t:=by
 simp only [St.upd,fJ];exact xM ws s.env st.env t
def Jb(P:Program)(all:List Oper)(o:Oper)(st:St)(K:St->Prop):Prop:=
 ∀(w:World) (g:Gh) (tmps:Array Value),Ok w g st (cC tmps)->tmps.size=st.n->
  (Region.wanted o (yielded all.toArray tmps)=true->o.wp P ⟨tmps, []⟩ w (fun a w'=>a.defers= []/\∃st' g',K st'/\Fr w g w' g'/\Ok w' g' st' (cC a.tmps)/\a.tmps.size=st'.n) (fun _ _ _=>False))/\
  (Region.wanted o (yielded all.toArray tmps)=false->∃st' g',K st'/\Fr w g w g'/\Ok w g' st' (cC ((⟨tmps, []⟩:Act).put o.dst undef).tmps)/\tmps.size=st'.n)
structure AgreeD(rs:List Nat)(f:Fl)(tol:Bool)(st st':St):Prop where
 n:st'.n=st.n
 env:∀t,t∈rs->st'.env t=st.env t
 loc:f.rL=true->st'.loc=st.loc
 obj:f.rO=true->(tol=false->st'.obj=st.obj)/\∃J,st'.obj=st.obj++J
theorem Agree.toD (h:Agree rs f st st'):AgreeD rs f tol st st':=⟨h.n,h.env,h.loc,fun e=>⟨fun _=>h.obj e, [],by rw [h.obj e,iC]⟩⟩
theorem AgreeD.toA (h:AgreeD rs f false st st'):Agree rs f st st':=⟨h.n,h.env,h.loc,fun e=>(h.obj e).1 rfl⟩
theorem AgreeD.toT (h:AgreeD rs f tol st st'):AgreeT rs f st st':=⟨h.n,h.env,h.loc,fun e=>(h.obj e).2⟩
structure Step(P:Program)(c:Cfg)(all:List Oper)(o:Oper)(k:DK)(st s:St):Prop where
 self:s=st.upd (fJ (uB c o.dst o.op k) (pC k) s)
 app:Zq c o.dst o.op k=true->∃J,s.obj=st.obj++J
 go:k.isNd=false->∀st',AgreeD (wR c all o k) (pC k) (Aw c o.dst o.op k) st st'->Jb P all o st' (· =st'.upd (fJ (uB c o.dst o.op k) (pC k) s))
theorem aHf(c:Cfg)(dst:Option Tmp)(st:St)(op:Op):((gP c dst st op).wL=true->(gP c dst st op).rL=true)/\((gP c dst st op).wO=true->(gP c dst st op).rO=true):=by
 have ad:∀w s,((iL w s).wL=true->(iL w s).rL=true)/\((iL w s).wO=true->(iL w s).rO=true):=by
  intro w s;cases s with
  | lref n o=>simp [iL]
  | d d=>cases d <;> simp [iL]
 cases op <;> simp only [gP] <;> try exact⟨id,id⟩
 .split <;> simp
 .split
  .simp
  split <;> simp
 .exact ad _ _
 .exact ad _ _
 rename_i call;obtain⟨callee,args,ts⟩:=call;cases callee <;> exact⟨id,id⟩
theorem Kc(c:Cfg)(dst:Option Tmp)(st:St)(op:Op):((mR c dst st op).wL=true->(mR c dst st op).rL=true)/\((mR c dst st op).wO=true->(mR c dst st op).rO=true):=by
 unfold mR;split
 .unfold flY;split <;> first | (simp;done) | (split <;> simp)
 split
 .unfold flX;split <;> simp
 exact aHf c dst st op
theorem Ky {δ:Delta} (hδ:δ.ok ws f)(hw:(f.wL=true->f.rL=true)/\(f.wO=true->f.rO=true))(ha:Agree ws f st st'):st'.upd δ=st'.upd (fJ ws f (st.upd δ)):=by
 have key:∀t,fC δ.sets st'.env t=if t∈ws then fC δ.sets st.env t else st'.env t:=by
  intro t;split
  .rename_i ht;have:∀(l:List (Nat×Slot)) (e e':Nat->Slot),e t=e' t->fC l e t=fC l e' t:=by
    intro l;induction l with
    | nil=>intro e e' h;exact h
    | cons p l ih=>
     obtain⟨x,y⟩:=p;intro e e' h;exact ih _ _ (by split <;> first | rfl | exact h)
   exact this _ _ _ (ha.env t ht)
  rename_i ht;exact Uk fun p hp e=>ht (by rw [<- e];exact hδ.sets p hp)
 have h1:(st'.upd δ).env=(st'.upd (fJ ws f (st.upd δ))).env:=by
  funext t;rw [rD];exact key t
 have h2:(st'.upd δ).loc=(st'.upd (fJ ws f (st.upd δ))).loc:=by
  simp only [St.upd,fJ];cases hl:f.wL with
  | true=>
   simp only [aO,gU];rw [ha.loc (hw.1 hl)]
  | false=>
   cases hd:δ.loc with
   | none=>simp
   | some l=>have:=hδ.loc (by simp [hd]);rw [hl] at this;cases this
 have h3:(st'.upd δ).obj=(st'.upd (fJ ws f (st.upd δ))).obj:=by
  simp only [St.upd,fJ];cases hl:f.wO with
  | true=>
   simp only [aO,gU];rw [ha.obj (hw.2 hl)]
  | false=>
   cases hd:δ.obj with
   | none=>simp
   | some l=>have:=hδ.obj (by simp [hd]);rw [hl] at this;cases this
 show(⟨_,_,_,_⟩:St)=⟨_,_,_,_⟩
 congr 1
theorem Zn (h:AgreeD rs f tol st st') {x:Operand} (hx:∀t,cD x=some t->t∈rs):st'.rd x=st.rd x:=
 jZ (rs:=rs) (f:=⟨false,false,false,false⟩) ⟨h.n,h.env,fun e=>(by cases e),fun e=>(by cases e)⟩ hx
theorem aEa {δ:Delta} (hδ:δ.ok ws f)(hw:f.wL=true->f.rL=true)(hO:f.wO=false)(ha:AgreeT ws f st st'):st'.upd δ=st'.upd (fJ ws f (st.upd δ)):=by
 have:=Ky (st':= { st' with obj:=st.obj }) hδ ⟨hw,fun h=>by rw [hO] at h;cases h⟩ ⟨ha.n,ha.env,ha.loc,fun _=>rfl⟩;have hn:δ.obj=none:=by
  cases hd:δ.obj with
  | none=>rfl
  | some l=>have:=hδ.obj (by simp [hd]);rw [hO] at this;cases this
 simp only [St.upd,fJ,hn,hO,St.mk.injEq] at this |-;simpa using this
theorem xA(rs:List Nat)(f:Fl)(st:St):Agree rs f st st:=⟨rfl,fun _ _=>rfl,fun _=>rfl,fun _=>rfl⟩
theorem Agree.sub {rs':List Nat} (h:Agree rs f st st')(hs:∀t,t∈rs'->t∈rs):Agree rs' f st st':=⟨h.n,fun t ht=>h.env t (hs t ht),h.loc,h.obj⟩
theorem Qh {o:Oper} (hw:∀(w:World) (g:Gh) (tmps:Array Value),Ok w g st (cC tmps)->Region.wanted o (yielded all.toArray tmps)=true)(h:Does P o st K):Jb P all o st K:=by
 intro w g tmps hok hn;refine⟨fun _=>?_,fun hf=>by rw [hw w g tmps hok] at hf;cases hf⟩;exact Oper.wp_mono (fun a w' ⟨h1,st',g',h2,h3,h4,h5,_⟩=>⟨h1,st',g',h2,h3,h4,h5⟩) (h w g tmps hok hn)
theorem yY {f:FuncId} {d:Nat} {r:Slot} {e e':Nat->Slot} (he:∀t,t∈iO (.call ⟨.value (.func f),args,ts⟩)->e' t=e t)(u:Nat):
  fC (((some d).toList++iO (.call ⟨.value (.func f),args,ts⟩)).map fun t=>(t,if t=d then r else fT (args.toList.map cD) e t)) e' u=if u=d then r else fT (args.toList.map cD) e' u:=by
 rw [xM];by_cases hu:u=d
 .subst hu;simp
 simp only [hu,bE];by_cases hm:u∈iO (.call ⟨.value (.func f),args,ts⟩)
 .rw [aR (by simp [hm])];simp only [fT,he u hm]
 rw [aH (by simp [hm,hu])];have hc:(args.toList.map cD).contains (some u)=false:=by
  rw [Bool.eq_false_iff];intro hc;obtain⟨x,hx,hx'⟩:=bW.1 (by simpa using hc:some u∈args.toList.map cD);exact hm (dT (by simp [Op.operands,Call.operands];right;simpa using hx) u hx')
 simp only [fT,hc];rfl
theorem aKn {o:Oper} {k:DK} (hnd:k.isNd=false)(hfw:((pC k).wL=true->(pC k).rL=true)/\((pC k).wO=true->(pC k).rO=true))(hd:dJ o st)(h:match o.guard with
  | none=>wI P c o.dst o.op k st K
  | some (j,want)=>∃t b,aQ all j=some t/\Ca (st.env t) want=some b/\(b=want->wI P c o.dst o.op k st K)/\(b= !want->K (st.put o.dst .und))):∃s,K s/\Step P c all o k st s:=by
 -- the body of the step,taken
 have taken : wI P c o.dst o.op k st K -> ∃ s, K s /\ s = st.upd (fJ (uB c o.dst o.op k) (pC k) s) /\ (Zq c o.dst o.op k = true -> ∃ J, s.obj = st.obj ++ J) /\ ∀ st', AgreeD (wR c all o k) (pC k) (Aw c o.dst o.op k) st st' -> Does P o st' (· = st'.upd (fJ (uB c o.dst o.op k) (pC k) s)) := by
  intro h;have hd':∀st',st'.n=st.n->dJ o st':=fun st' hn=>by unfold dJ at *;split <;> simp_all
  cases k with
  | nd=>cases hnd
  | op f =>
   obtain⟨h1,rfl,h3⟩:=h;obtain⟨s,hK,hs⟩:=Rd h1 h3;have loc:∀st',Agree (wR c all o (.op (mR c o.dst st o.op))) (mR c o.dst st o.op) st st'->∃δ:Delta,δ.ok (mE c o.dst o.op) (mR c o.dst st o.op)/\s=st.upd δ/\gV P c o.dst o.op st' (· =st'.upd δ):=by
    intro st' ha;have hl:=aCh (aQq h1) (rs:=wR c all o (.op (mR c o.dst st o.op))) (fun t ht=>by simp [wR,ht]) ha hs;obtain⟨s',⟨δ,d1,d2,rfl⟩,h5⟩:=Rd h1 hl;exact⟨δ,d1,d2.symm,h5⟩
   obtain⟨δ0,d1,d2,_⟩:=loc st (xA _ _ _);refine⟨s,hK,?_,fun hap=>aNl hap hs,fun st' ha=>?_⟩
   .have:=Ky d1 (Kc c o.dst st o.op) (xA (mE c o.dst o.op) (mR c o.dst st o.op) st);rw [<- d2] at this;exact this
   by_cases htl:Aw c o.dst o.op (.op (mR c o.dst st o.op))=true
   .have hT:=ha.toT;have hop:Fs c o.dst o.op=true:=by simp only [Aw,fF] at htl;exact htl.2
    have hl:=aNg hop (rs:=wR c all o (.op (mR c o.dst st o.op))) (fun t ht=>by simp [wR,ht]) hT hs;obtain⟨s',⟨δ,e1,e2,rfl⟩,e3⟩:=Rd h1 hl;have:=aEa e1 (Kc c o.dst st o.op).1 (Vu htl).2 ⟨hT.n,fun t ht=>hT.env t (by simp [wR,uB,ht]),hT.loc,hT.obj⟩;rw [e2] at this;simp only [uB,pC];rw [<- this];exact Lq ⟨hd' st' ha.n,e3⟩
   have ha:Agree (wR c all o (.op (mR c o.dst st o.op))) (mR c o.dst st o.op) st st':=by
    have e:Aw c o.dst o.op (.op (mR c o.dst st o.op))=false:=by simpa using htl
    rw [e] at ha;exact ha.toA
   obtain⟨δ,e1,e2,e3⟩:=loc st' ha;have:=Ky e1 (Kc c o.dst st o.op) (ha.sub (rs':=mE c o.dst o.op) (fun t ht=>by simp [wR,uB,ht]));rw [<- e2] at this;simp only [uB,pC];rw [<- this];exact Lq ⟨hd' st' ha.n,e3⟩
  | pure =>
   obtain⟨dst,op,ty,pos,after,guard⟩:=o;simp only [wI] at h;split at h
   .rename_i f args ts _;obtain⟨h1,r,h2,h3⟩:=h;have ups:∀st':St,st'.upd (fJ dst.toList ⟨false,false,false,false⟩ (st.put dst (.d r)))=st'.put dst (.d r):=by
     intro st';cases dst with
     | none=>rfl
     | some d=>
      refine St.mk.injEq .. |>.mpr ⟨rfl,?_,rfl,rfl⟩
      funext u;show fC [(d,(st.put (some d) (.d r)).env d)] st'.env u=_
      simp [fC,St.put,St.set]
    refine⟨_,h3,(ups st).symm,fun e=>(by cases e),fun st' ha=>?_⟩;replace ha:=ha.toA;simp only [uB,pC];rw [ups st'];have hargs:∀x∈args.toList,st'.rd x=st.rd x:=fun x hx=>jZ ha fun t ht=>by
     have:=dT (op:= .call ⟨.value (.func f),args,ts⟩) (x:=x) (by simp [Op.operands,Call.operands];right;simpa using hx) t ht;simp [wR,this]
    refine lG (.func f) args ts (hd' st' ha.n) rfl ?_;unfold kJ;simp only [vZ];refine⟨by simp,fun x hx=>by rw [hargs x hx];exact h1 x hx,?_⟩;have e1:gK args.toList st'=gK args.toList st:=fO fun x hx=>kO (hargs x hx);rw [e1];simpa using(h2 st'.obj).mono fun r' σ' ⟨a,b⟩=>by subst a;subst b;rfl
   exact h.elim
  | pureC =>
   obtain⟨dst,op,ty,pos,after,guard⟩:=o;simp only [wI] at h;split at h
   .rename_i f args ts _;split at h
    .rename_i fid first caps hf
     obtain⟨h0,h1,r,h2,h3⟩:=h;have ups:∀st':St,st'.upd (fJ dst.toList ⟨false,false,false,false⟩ (st.put dst (.d r)))=st'.put dst (.d r):=by
      intro st';cases dst with
      | none=>rfl
      | some d=>
       refine St.mk.injEq .. |>.mpr ⟨rfl,?_,rfl,rfl⟩
       funext u;show fC [(d,(st.put (some d) (.d r)).env d)] st'.env u=_
       simp [fC,St.put,St.set]
     refine⟨_,h3,(ups st).symm,fun e=>(by cases e),fun st' ha=>?_⟩;replace ha:=ha.toA;simp only [uB,pC];rw [ups st'];have hargs:∀x∈args.toList,st'.rd x=st.rd x:=fun x hx=>jZ ha fun t ht=>by
      have:=dT (op:= .call ⟨.value f,args,ts⟩) (x:=x) (by simp [Op.operands,Call.operands];right;simpa using hx) t ht;simp [wR,this]
     have hff:st'.rd f=st.rd f:=jZ ha fun t ht=>by
      have:=dT (op:= .call ⟨.value f,args,ts⟩) (x:=f) (by simp [Op.operands,Call.operands]) t ht;simp [wR,this]
     refine lG f args ts (hd' st' ha.n) rfl ?_;unfold kJ;rw [hff,hf];refine⟨h0,fun x hx=>by rw [hargs x hx];exact h1 x hx,?_⟩;have e1:gK args.toList st'=gK args.toList st:=fO fun x hx=>kO (hargs x hx);rw [e1];exact(h2 st'.obj).mono fun r' σ' ⟨a,b⟩=>by subst a;subst b;rfl
    exact h.elim
   exact h.elim
  | read =>
   obtain⟨dst,op,ty,pos,after,guard⟩:=o;simp only [wI] at h;split at h
   .rename_i f args ts _;obtain⟨h1,r,h2,h3⟩:=h;have ups:∀st':St,st'.upd (fJ dst.toList ⟨false,false,true,false⟩ (st.put dst (.d r)))=st'.put dst (.d r):=by
     intro st';cases dst with
     | none=>rfl
     | some d=>
      refine St.mk.injEq .. |>.mpr ⟨rfl,?_,rfl,rfl⟩
      funext u;show fC [(d,(st.put (some d) (.d r)).env d)] st'.env u=_
      simp [fC,St.put,St.set]
    refine⟨_,h3,(ups st).symm,fun e=>(by cases e),fun st' ha=>?_⟩;replace ha:=ha.toA;simp only [uB,pC];rw [ups st'];have hargs:∀x∈args.toList,st'.rd x=st.rd x:=fun x hx=>jZ ha fun t ht=>by
     have:=dT (op:= .call ⟨.value (.func f),args,ts⟩) (x:=x) (by simp [Op.operands,Call.operands];right;simpa using hx) t ht;simp [wR,this]
    refine lG (.func f) args ts (hd' st' ha.n) rfl ?_;unfold kJ;simp only [vZ];refine⟨by simp,fun x hx=>by rw [hargs x hx];exact h1 x hx,?_⟩;have e1:gK args.toList st'=gK args.toList st:=fO fun x hx=>kO (hargs x hx);rw [e1];rw [show st'.obj=st.obj from ha.obj rfl];simpa using h2.mono fun r' σ' ⟨a,b⟩=>by subst a;subst b;rw [<- show st'.obj=st.obj from ha.obj rfl]
   exact h.elim
  | det =>
   obtain⟨dst,op,ty,pos,after,guard⟩:=o;simp only [wI] at h;split at h
   .rename_i f args ts _;obtain⟨h1,r,σ0,h2,h3⟩:=h;have ups:∀st':St,st'.upd (fJ dst.toList ⟨false,false,true,true⟩ (({ st with obj:=σ0 } :St).put dst (.d r)))=({ st' with obj:=σ0 } :St).put dst (.d r):=by
     intro st';cases dst with
     | none=>rfl
     | some d=>
      refine St.mk.injEq .. |>.mpr ⟨rfl,?_,rfl,rfl⟩
      funext u;show fC [(d,(({ st with obj:=σ0 } :St).put (some d) (.d r)).env d)] st'.env u=_
      simp [fC,St.put,St.set]
    refine⟨_,h3,(ups st).symm,fun e=>(by cases e),fun st' ha=>?_⟩;replace ha:=ha.toA;simp only [uB,pC];rw [ups st'];have hargs:∀x∈args.toList,st'.rd x=st.rd x:=fun x hx=>jZ ha fun t ht=>by
     have:=dT (op:= .call ⟨.value (.func f),args,ts⟩) (x:=x) (by simp [Op.operands,Call.operands];right;simpa using hx) t ht;simp [wR,this]
    refine lG (.func f) args ts (hd' st' ha.n) rfl ?_;unfold kJ;simp only [vZ];refine⟨by simp,fun x hx=>by rw [hargs x hx];exact h1 x hx,?_⟩;have e1:gK args.toList st'=gK args.toList st:=fO fun x hx=>kO (hargs x hx);have e2:st'.obj=st.obj:=ha.obj rfl;rw [e1,e2];simpa using h2.mono fun r' σ' ⟨a,b⟩=>by subst a;subst b;rfl
   exact h.elim
  | readT =>
   obtain⟨dst,op,ty,pos,after,guard⟩:=o;simp only [wI] at h;split at h
   .rename_i f args ts _;obtain⟨h1,r,h2,h3⟩:=h;have ups:∀st':St,st'.upd (fJ dst.toList ⟨false,false,true,false⟩ (st.put dst (.d r)))=st'.put dst (.d r):=by
     intro st';cases dst with
     | none=>rfl
     | some d=>
      refine St.mk.injEq .. |>.mpr ⟨rfl,?_,rfl,rfl⟩
      funext u;show fC [(d,(st.put (some d) (.d r)).env d)] st'.env u=_
      simp [fC,St.put,St.set]
    refine⟨_,h3,(ups st).symm,fun e=>(by cases e),fun st' ha=>?_⟩;obtain⟨J,hJ⟩:=(ha.obj rfl).2;simp only [uB,pC];rw [ups st'];have hargs:∀x∈args.toList,st'.rd x=st.rd x:=fun x hx=>Zn ha fun t ht=>by
     have:=dT (op:= .call ⟨.value (.func f),args,ts⟩) (x:=x) (by simp [Op.operands,Call.operands];right;simpa using hx) t ht;simp [wR,this]
    refine lG (.func f) args ts (hd' st' ha.n) rfl ?_;unfold kJ;simp only [vZ];refine⟨by simp,fun x hx=>by rw [hargs x hx];exact h1 x hx,?_⟩;have e1:gK args.toList st'=gK args.toList st:=fO fun x hx=>kO (hargs x hx);rw [e1];rw [hJ];simpa using(h2 J).mono fun r' σ' ⟨a,b⟩=>by subst a;subst b;rw [<- hJ]
   exact h.elim
  | detA =>
   obtain⟨dst,op,ty,pos,after,guard⟩:=o;simp only [wI] at h;split at h
   .rename_i f args ts _;obtain⟨h1,r,J,h2,h3⟩:=h;have ups:∀st':St,st'.upd (fJ dst.toList ⟨false,false,true,true⟩ (({ st with obj:=st.obj++J } :St).put dst (.d r)))=({ st' with obj:=st.obj++J } :St).put dst (.d r):=by
     intro st';cases dst with
     | none=>rfl
     | some d=>
      refine St.mk.injEq .. |>.mpr ⟨rfl,?_,rfl,rfl⟩
      funext u;show fC [(d,(({ st with obj:=st.obj++J } :St).put (some d) (.d r)).env d)] st'.env u=_
      simp [fC,St.put,St.set]
    refine⟨_,h3,(ups st).symm,fun _=>⟨J,by cases dst <;> rfl⟩,fun st' ha=>?_⟩;replace ha:=ha.toA;simp only [uB,pC];rw [ups st'];have hargs:∀x∈args.toList,st'.rd x=st.rd x:=fun x hx=>jZ ha fun t ht=>by
     have:=dT (op:= .call ⟨.value (.func f),args,ts⟩) (x:=x) (by simp [Op.operands,Call.operands];right;simpa using hx) t ht;simp [wR,this]
    refine lG (.func f) args ts (hd' st' ha.n) rfl ?_;unfold kJ;simp only [vZ];refine⟨by simp,fun x hx=>by rw [hargs x hx];exact h1 x hx,?_⟩;have e1:gK args.toList st'=gK args.toList st:=fO fun x hx=>kO (hargs x hx);have e2:st'.obj=st.obj:=ha.obj rfl;rw [e1,e2];simpa using h2.mono fun r' σ' ⟨a,b⟩=>by subst a;subst b;rfl
   exact h.elim
  | pureT =>
   obtain⟨dst,op,ty,pos,after,guard⟩:=o;simp only [wI] at h;split at h
   .rename_i d f args ts _;obtain⟨h0,h1,r,h2,h3⟩:=h;have ups:∀st':St,(∀t,t∈iO (.call ⟨.value (.func f),args,ts⟩)->st'.env t=st.env t)->
      st'.upd (fJ ((some d).toList++iO (.call ⟨.value (.func f),args,ts⟩)) ⟨false,false,false,false⟩ (({ st with env:=fT (args.toList.map cD) st.env } :St).put (some d) (.d r)))=({ st' with env:=fT (args.toList.map cD) st'.env } :St).put (some d) (.d r):=by
     intro st' he;refine St.mk.injEq .. |>.mpr ⟨rfl,?_,rfl,rfl⟩
     funext u;exact yY he u
    refine⟨_,h3,(ups st fun _ _=>rfl).symm,fun e=>(by cases e),fun st' ha=>?_⟩;replace ha:=ha.toA;have he:∀t,t∈iO (.call ⟨.value (.func f),args,ts⟩)->st'.env t=st.env t:=fun t ht=>ha.env t (by simp [wR,ht]);simp only [uB,pC];rw [ups st' he];have hargs:∀x∈args.toList,st'.rd x=st.rd x:=fun x hx=>jZ ha fun t ht=>by
     have:=dT (op:= .call ⟨.value (.func f),args,ts⟩) (x:=x) (by simp [Op.operands,Call.operands];right;simpa using hx) t ht;simp [wR,this]
    have hargS:∀x∈args.toList,st'.rdS x=st.rdS x:=fun x hx=>pA ha fun t ht=>by
     have:=dT (op:= .call ⟨.value (.func f),args,ts⟩) (x:=x) (by simp [Op.operands,Call.operands];right;simpa using hx) t ht;simp [wR,this]
    refine xG f args ts (hd' st' ha.n) rfl ?_;unfold mN;refine⟨h0,fun x hx=>by rw [hargs x hx,hargS x hx];exact h1 x hx,?_⟩;have e1:args.toList.map (tE st')=args.toList.map (tE st):=fO fun x hx=>xP (hargs x hx);rw [e1];exact(h2 st'.obj).mono fun r' σ' ⟨a,b⟩=>by subst a;subst b;rfl
   exact h.elim
  | detT =>
   obtain⟨dst,op,ty,pos,after,guard⟩:=o;simp only [wI] at h;split at h
   .rename_i d f args ts _;obtain⟨h0,h1,r,σ0,h2,h3⟩:=h;have ups:∀st':St,(∀t,t∈iO (.call ⟨.value (.func f),args,ts⟩)->st'.env t=st.env t)->
      st'.upd (fJ ((some d).toList++iO (.call ⟨.value (.func f),args,ts⟩)) ⟨false,false,true,true⟩ (({ st with env:=fT (args.toList.map cD) st.env,obj:=σ0 } :St).put (some d) (.d r)))=({ st' with env:=fT (args.toList.map cD) st'.env,obj:=σ0 } :St).put (some d) (.d r):=by
     intro st' he;refine St.mk.injEq .. |>.mpr ⟨rfl,?_,rfl,rfl⟩
     funext u;exact yY he u
    refine⟨_,h3,(ups st fun _ _=>rfl).symm,fun e=>(by cases e),fun st' ha=>?_⟩;replace ha:=ha.toA;have he:∀t,t∈iO (.call ⟨.value (.func f),args,ts⟩)->st'.env t=st.env t:=fun t ht=>ha.env t (by simp [wR,ht]);simp only [uB,pC];rw [ups st' he];have hargs:∀x∈args.toList,st'.rd x=st.rd x:=fun x hx=>jZ ha fun t ht=>by
     have:=dT (op:= .call ⟨.value (.func f),args,ts⟩) (x:=x) (by simp [Op.operands,Call.operands];right;simpa using hx) t ht;simp [wR,this]
    have hargS:∀x∈args.toList,st'.rdS x=st.rdS x:=fun x hx=>pA ha fun t ht=>by
     have:=dT (op:= .call ⟨.value (.func f),args,ts⟩) (x:=x) (by simp [Op.operands,Call.operands];right;simpa using hx) t ht;simp [wR,this]
    refine xG f args ts (hd' st' ha.n) rfl ?_;unfold mN;refine⟨h0,fun x hx=>by rw [hargs x hx,hargS x hx];exact h1 x hx,?_⟩;have e1:args.toList.map (tE st')=args.toList.map (tE st):=fO fun x hx=>xP (hargs x hx);have e2:st'.obj=st.obj:=ha.obj rfl;rw [e1,e2];exact h2.mono fun r' σ' ⟨a,b⟩=>by subst a;subst b;rfl
   exact h.elim
 split at h
 .rename_i hg;obtain⟨s,h1,h2,h0,h3⟩:=taken h;exact⟨s,h1,h2,h0,fun _ st' ha=>Qh (fun w g tmps _=>by simp [Region.wanted,hg]) (h3 st' ha)⟩
 rename_i j want hg;obtain⟨t,b,h1,h2,h3,h4⟩:=h;have hin:t∈wR c all o k:=by simp [wR,hg,h1]
 by_cases hb:b=want
 .obtain⟨s,k1,k2,k0,k3⟩:=taken (h3 hb);refine⟨s,k1,k2,k0,fun _ st' ha=>Qh (fun w g tmps hok=>?_) (k3 st' ha)⟩;have:=Ag (all:=all) (j:=j) (want:=want) hok h1 (by rw [ha.env t hin];exact h2);simp [Region.wanted,hg,this,hb]
 have hb':b= !want:=by cases b <;> cases want <;> simp_all
 have hdw:∀d,o.dst=some d->d∈uB c o.dst o.op k:=by
  intro d e;cases k <;> simp [uB,mE,e]
 have same:∀st',AgreeD (wR c all o k) (pC k) (Aw c o.dst o.op k) st st'->st'.upd (fJ (uB c o.dst o.op k) (pC k) (st.put o.dst .und))=st'.put o.dst .und:=by
  intro st' ha;refine St.mk.injEq .. |>.mpr ⟨by cases o.dst <;> rfl,?_,?_,?_⟩
  .funext u;have:=rD (uB c o.dst o.op k) (pC k) (st.put o.dst .und) st' u;simp only [St.upd,fJ] at this;rw [fJ];simp only;rw [this];have hin':u∈uB c o.dst o.op k->st'.env u=st.env u:=fun hu=>ha.env u (by simp [wR,hu]);cases hd':o.dst with
   | none=>
    rw [hd'] at hin';split
    .rename_i hu;exact(hin' hu).symm
    rfl
   | some d=>
    rw [hd'] at hin';have hdw':=hdw d hd';rw [hd'] at hdw';simp only [St.put,St.set];by_cases hu:u=d
    .subst hu;simp [hdw']
    simp only [hu,bE];split
    .rename_i h;exact(hin' h).symm
    rfl
  .simp only [fJ];cases hl:(pC k).wL with
   | true=>have:=ha.loc (hfw.1 hl);cases o.dst <;> simp [St.put,St.set,this]
   | false=>cases o.dst <;> simp [St.put,St.set]
  simp only [fJ];cases hl:(pC k).wO with
  | true=>
   have:=(ha.obj (hfw.2 hl)).1 (by cases ht:Aw c o.dst o.op k with | false=>rfl | true=>have:=(Vu ht).2;rw [hl] at this;cases this);cases o.dst <;> simp [St.put,St.set,this]
  | false=>cases o.dst <;> simp [St.put,St.set]
 refine⟨_,h4 hb',(same st (xA _ _ _).toD).symm,fun _=>⟨[],by cases o.dst <;> simp [St.put,St.set]⟩,fun _ st' ha=>?_⟩;rw [same st' ha];intro w g tmps hok hn;have hy:=Ag (all:=all) (j:=j) (want:=want) hok h1 (by rw [ha.env t hin];exact h2);have hw:Region.wanted o (yielded all.toArray tmps)=false:=by simp [Region.wanted,hg,hy,hb]
 refine⟨fun h=>(by rw [hw] at h;cases h),fun _=>?_⟩;have hdst:∀d,o.dst=some d->d<tmps.size:=by
  intro d hd';have hd2:d<st.n:=by simpa [dJ,hd'] using hd
  rw [hn,ha.n];exact hd2
 refine⟨_,g,rfl,Fr.refl w g,?_,by rw [Pj];exact hn⟩;rw [yV tmps [] o.dst undef hdst];exact hok.put o.dst .und undef fun t _=>aFi t
end
end Go.Vm
