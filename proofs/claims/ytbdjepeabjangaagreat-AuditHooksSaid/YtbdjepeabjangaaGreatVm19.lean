import Derived.Test.YtbdjepeabjangaaGreatVm18
set_option linter.all false
namespace Go.Vm
open Go
variable {K K':St->Prop}{all:List Oper}{args:Array Operand}{c:Cfg}{dst:Option Tmp}{f:Fl}{op:Op}{rs ws:List Nat}{st st':St}{tol:Bool}{ts:Array TypeId}
section
variable {P:Program}
def iY:Op->Bool
 | .call { callee:= .builtin _, .. } =>false
 | .call _=>true
 | .binOp _ _ _ y _=>tP y
 | .range _ _ | .next _ _ | .entry _=>true
 | _=>false
theorem aLq (h:iY op=false):xL op=false:=by
 cases op <;> first | rfl | simp [iY] at h
theorem Vy {op:BinOp} {t:TypeId} {x y:Slot} {K:D->Prop} (h:rD P op t x y K):∃d,K d/\rD P op t x y (· =d):=by
 unfold rD at *;split at h
 .obtain⟨h1,h2⟩:=h;unfold zS at *;cases op <;> simp only at h2 |- <;> first | exact⟨_,h2,h1,rfl⟩ | exact⟨_,h2.2,h1,h2.1,rfl⟩ | exact⟨_,h2.2.2,h1,h2.1,h2.2.1,rfl⟩ | exact h2.elim
 .unfold zG at *;cases op <;> simp only at h |- <;> first | exact⟨_,h,rfl⟩ | exact⟨_,h.2,h.1,rfl⟩ | exact h.elim
 .obtain⟨h1,h2⟩:=h;cases op <;> simp only at h2 |- <;> first | exact⟨_,h2,h1,rfl⟩ | exact h2.elim
 .obtain⟨h1,h2⟩:=h;cases op <;> simp only at h2 |- <;> first | (obtain⟨b,e1,e2⟩:=h2;exact⟨_,e2,h1,b,e1,rfl⟩) | exact h2.elim
 .obtain⟨h1,h2⟩:=h;cases op <;> simp only at h2 |- <;> first | exact⟨_,h2,h1,rfl⟩ | exact h2.elim
 .obtain⟨h1,h2⟩:=h;cases op <;> simp only at h2 |- <;> first | exact⟨_,h2,h1,rfl⟩ | exact h2.elim
 exact h.elim
theorem Yf {op:UnOp} {x:D} {K:D->Prop} (h:Ai op x K):∃d,K d/\Ai op x (· =d):=by
 unfold Ai at *;split at h
 .exact⟨_,h,rfl⟩
 .exact⟨_,h.2,h.1,rfl⟩
 exact h.elim
theorem Un {f:Operand} (hk:∀s,K s->K' s)(h:cY P c dst (.call ⟨.value f,args,ts⟩) st K):cY P c dst (.call ⟨.value f,args,ts⟩) st K':=by
 have pc:∀f,jH P dst f args.toList st K->jH P dst f args.toList st K':=by
  intro f h;unfold jH at *;split at h
  .exact⟨h.1,h.2.1,h.2.2.mono fun r σ' hK=>hk _ hK⟩
  exact h
 have pt:∀fid,lC P dst fid args.toList st K->lC P dst fid args.toList st K':=fun fid h=>⟨h.1,h.2.1,h.2.2.mono fun r σ' hK=>hk _ hK⟩;simp only [cY,lY] at *;cases f with
 | func fid =>
  simp only at *;cases dst with
  | none=>exact pc _ h
  | some d=>
   simp only at *;split at h
   .rename_i ht;rw [aR ht];exact pt _ h
   rename_i ht;rw [aG ht];exact pc _ h
 | _=>exact pc _ h
theorem aG5 (hc:iY op=false)(h:cY P c dst op st K):∃s,K s/\cY P c dst op st (· =s):=by
 have mv:∀x,iD c dst x st K->∃s,K s/\iD c dst x st (· =s):=by
  intro x h;unfold iD at *;split at h
  .split at h
   .exact⟨_,h,rfl⟩
   split at h
   .rename_i ht;exact⟨_,h.2.2,by rw [aR ht];exact⟨h.1,h.2.1,rfl⟩⟩
   rename_i ht;exact⟨_,h.2,by rw [aG ht];exact⟨h.1,rfl⟩⟩
  .exact h.elim
  exact⟨_,h,rfl⟩
 have ld:∀t x,gV P dst t x st K->∃s,K s/\gV P dst t x st (· =s):=by
  intro t x h;unfold gV at *;split at h
  .split at h
   .exact⟨_,h,rfl⟩
   exact h.elim
  exact h.elim
 cases op with
 | move x=>exact mv x h
 | assign x=>exact mv x h
 | binOp b t x y yt=>
  have hy:¬tP y=true:=by simp only [iY] at hc;simp [hc]
  simp only [cY] at h |-;simp only [aG hy] at h |-;obtain⟨d,h1,h2⟩:=Vy (P:=P) h;exact⟨_,h1,vA (fun e he=>by rw [he]) h2⟩
 | unOp u t x=>
  simp only [cY] at h |-;obtain⟨d,h1,h2⟩:=Yf h;exact⟨_,h1,xT (fun e he=>by rw [he]) h2⟩
 | load t x =>
  simp only [cY,iW] at *;split at h
  .split at h
   .rename_i htk;simp only [aR htk];split at h
    .split at h
     .split at h
      .exact⟨_,h.2.2,h.1,h.2.1,rfl⟩
      exact h.elim
     exact h.elim
    .split at h
     .split at h
      .exact⟨_,h.2.2,h.1,h.2.1,rfl⟩
      exact h.elim
     exact h.elim
    exact ld t x h
   rename_i htk;simp only [aG htk];exact ld t x h
  exact ld t x h
 | fieldAddr s x f=>
  simp only [cY,jN] at *;split at h
  .exact⟨_,h.2,h.1,rfl⟩
  exact h.elim
 | field s x f =>
  simp only [cY,qY] at *;split at h
  .split at h
   .exact⟨_,h,rfl⟩
   exact h.elim
  exact h.elim
 | indexAddr t x i =>
  simp only [cY,jQ] at *;split at h
  .split at h
   .split at h
    .exact⟨_,h.2.2.2,h.1,h.2.1,h.2.2.1,rfl⟩
    exact h.elim
   split at h
   .exact⟨_,h.2.2,h.1,h.2.1,rfl⟩
   exact h.elim
  exact h.elim
 | index t x i =>
  simp only [cY,qQ] at *;split at h
  .exact⟨_,h.2.2,h.1,h.2.1,rfl⟩
  .split at h
   .split at h
    .split at h
     .exact⟨_,h.2,h.1,rfl⟩
     exact h.elim
    exact h.elim
   exact h.elim
  exact h.elim
 | slice t x lo hi mx =>
  simp only [cY,qZ] at *;split at h
  .obtain⟨h1,h2,h3⟩:=h;split at h3
   .exact⟨_,h3.2,h1,h2,h3.1,rfl⟩
   exact h3.elim
  .split at h
   .split at h
    .split at h
     .exact⟨_,h.2.2,h.1,h.2.1,rfl⟩
     exact h.elim
    split at h
    .exact⟨_,h.2.2,h.1,h.2.1,rfl⟩
    exact h.elim
   exact h.elim
  exact h.elim
 | pick a x y =>
  simp only [cY,uU] at *;split at h
  .rename_i t ht;cases t with
   | true=>exact⟨_,(h.1 rfl).2,fun _=>⟨(h.1 rfl).1,rfl⟩,fun e=>(by cases e)⟩
   | false=>exact⟨_,(h.2 rfl).2,fun e=>(by cases e),fun _=>⟨(h.2 rfl).1,rfl⟩⟩
  exact h.elim
 | extract x i =>
  simp only [cY,lV] at *;split at h
  .split at h
   .split at h
    .obtain⟨h1,h2⟩:=h;split at h2
     .rename_i ht;exact⟨_,h2.2.2,h1,by rw [aR ht];exact⟨h2.1,h2.2.1,rfl⟩⟩
     rename_i ht;exact⟨_,h2,h1,by rw [aG ht]⟩
    exact h.elim
   exact h.elim
  exact h.elim
 | makeFunc f first caps=>exact⟨_,h.2,h.1,rfl⟩
 | nilCheck x=>exact⟨_,h.2,h.1,rfl⟩
 | convert s d x=>
  simp only [cY,lO] at *;split at h
  .obtain⟨a,b,h1,h2,h3,h4⟩:=h;exact⟨_,h4,a,b,h1,h2,h3,rfl⟩
  .exact⟨_,h.2.2,h.1,h.2.1,rfl⟩
  exact h.elim
 | alloc e =>
  simp only [cY,pA] at *;split at h
  .split at h
   .rename_i he;exact⟨_,h,by rw [aR he]⟩
   rename_i he;exact⟨_,h,by rw [aG he]⟩
  exact h.elim
 | box e x =>
  simp only [cY,zJ] at *;split at h
  .obtain⟨h1,h2⟩:=h;split at h2
   .rename_i hi;exact⟨_,h2,h1,by rw [aR hi]⟩
   rename_i hi;split at h2
   .rename_i he;exact⟨_,h2,h1,by rw [aG hi,aR he]⟩
   rename_i he;exact⟨_,h2,h1,by rw [aG hi,aG he]⟩
  exact h.elim
 | store t a v =>
  simp only [cY,sQ] at *;obtain⟨h1,h2,h3,h4⟩:=h;split at h4
  .split at h4
   .exact⟨_,h4.2,h1,h2,h3,h4.1,rfl⟩
   exact h4.elim
  .split at h4
   .exact⟨_,h4.2,h1,h2,h3,h4.1,rfl⟩
   exact h4.elim
  exact h4.elim
 | build t parts =>
  simp only [cY,qS] at *;split at h
  .split at h
   .exact⟨_,h,rfl⟩
   exact h.elim
  exact h.elim
 | buildSlice t len parts=>
  simp only [cY,iU] at *;split at h
  .exact⟨_,h.2.2,h.1,h.2.1,rfl⟩
  exact h.elim
 | call call =>
  obtain⟨callee,args,ts⟩:=call;cases callee with
  | builtin b =>
   simp only [cY,lY,nE] at *;split at h
   .simp only [Da] at *;split at h
    .exact⟨_,h.2,h.1,rfl⟩
    .exact⟨_,h.2,h.1,rfl⟩
    exact h.elim
   .simp only [oF] at *;split at h
    .obtain⟨h1,h2,h3,h4,h5⟩:=h;split at h5
     .exact⟨_,h5.2,h1,h2,h3,h4,h5.1,rfl⟩
     .exact⟨_,h5,h1,h2,h3,h4,rfl⟩
     exact h5.elim
    exact h.elim
   .simp only [rM] at *;split at h
    .exact⟨_,h.2,h.1,rfl⟩
    exact h.elim
   .simp only [rM] at *;split at h
    .exact⟨_,h.2,h.1,rfl⟩
    exact h.elim
   exact h.elim
  | _=>simp [iY] at hc
 | range t x=>simp [iY] at hc
 | next x s=>simp [iY] at hc
 | entry x=>simp [iY] at hc
 | _=>exact h.elim
theorem Ps (hk:∀s,K s->K' s)(h:cY P c dst op st K):cY P c dst op st K':=by
 have mv:∀x,iD c dst x st K->iD c dst x st K':=by
  intro x h;unfold iD at *;split at h
  .split at h
   .exact hk _ (h)
   split at h
   .rename_i ht;exact(by rw [aR ht];exact⟨h.1,h.2.1,hk _ (h.2.2)⟩)
   rename_i ht;exact(by rw [aG ht];exact⟨h.1,hk _ (h.2)⟩)
  .exact h.elim
  exact hk _ (h)
 have ld:∀t x,gV P dst t x st K->gV P dst t x st K':=by
  intro t x h;unfold gV at *;split at h
  .split at h
   .exact hk _ (h)
   exact h.elim
  exact h.elim
 cases op with
 | move x=>exact mv x h
 | assign x=>exact mv x h
 | binOp b t x y yt=>
  simp only [cY] at h |-;split at h
  .rename_i hy;rw [aR hy];exact Pd hk h
  rename_i hy;rw [aG hy];exact vA (fun e he=>hk _ he) h
 | unOp u t x=>
  simp only [cY] at h |-;exact xT (fun e he=>hk _ he) h
 | load t x =>
  simp only [cY,iW] at *;split at h
  .split at h
   .rename_i htk;simp only [aR htk];split at h
    .split at h
     .split at h
      .exact⟨h.1,h.2.1,hk _ (h.2.2)⟩
      exact h.elim
     exact h.elim
    .split at h
     .split at h
      .exact⟨h.1,h.2.1,hk _ (h.2.2)⟩
      exact h.elim
     exact h.elim
    exact ld t x h
   rename_i htk;simp only [aG htk];exact ld t x h
  exact ld t x h
 | fieldAddr s x f=>
  simp only [cY,jN] at *;split at h
  .exact⟨h.1,hk _ (h.2)⟩
  exact h.elim
 | field s x f =>
  simp only [cY,qY] at *;split at h
  .split at h
   .exact hk _ (h)
   exact h.elim
  exact h.elim
 | indexAddr t x i =>
  simp only [cY,jQ] at *;split at h
  .split at h
   .split at h
    .exact⟨h.1,h.2.1,h.2.2.1,hk _ (h.2.2.2)⟩
    exact h.elim
   split at h
   .exact⟨h.1,h.2.1,hk _ (h.2.2)⟩
   exact h.elim
  exact h.elim
 | index t x i =>
  simp only [cY,qQ] at *;split at h
  .exact⟨h.1,h.2.1,hk _ (h.2.2)⟩
  .split at h
   .split at h
    .split at h
     .exact⟨h.1,hk _ h.2⟩
     exact h.elim
    exact h.elim
   exact h.elim
  exact h.elim
 | slice t x lo hi mx =>
  simp only [cY,qZ] at *;split at h
  .obtain⟨h1,h2,h3⟩:=h;split at h3
   .exact⟨h1,h2,h3.1,hk _ (h3.2)⟩
   exact h3.elim
  .split at h
   .split at h
    .split at h
     .exact⟨h.1,h.2.1,hk _ (h.2.2)⟩
     exact h.elim
    split at h
    .exact⟨h.1,h.2.1,hk _ (h.2.2)⟩
    exact h.elim
   exact h.elim
  exact h.elim
 | pick a x y=>
  simp only [cY,uU] at *;split at h
  .rename_i t ht;exact⟨fun ht=>⟨(h.1 ht).1,hk _ (h.1 ht).2⟩,fun ht=>⟨(h.2 ht).1,hk _ (h.2 ht).2⟩⟩
  exact h.elim
 | extract x i =>
  simp only [cY,lV] at *;split at h
  .split at h
   .split at h
    .obtain⟨h1,h2⟩:=h;split at h2
     .rename_i ht;exact⟨h1,(by rw [aR ht];exact⟨h2.1,h2.2.1,hk _ (h2.2.2)⟩)⟩
     rename_i ht;exact⟨h1,(by rw [aG ht];exact hk _ (h2))⟩
    exact h.elim
   exact h.elim
  exact h.elim
 | makeFunc f first caps=>exact⟨h.1,hk _ (h.2)⟩
 | nilCheck x=>exact⟨h.1,hk _ (h.2)⟩
 | convert s d x=>
  simp only [cY,lO] at *;split at h
  .obtain⟨a,b,h1,h2,h3,h4⟩:=h;exact⟨a,b,h1,h2,h3,hk _ (h4)⟩
  .exact⟨h.1,h.2.1,hk _ (h.2.2)⟩
  exact h.elim
 | alloc e =>
  simp only [cY,pA] at *;split at h
  .split at h
   .rename_i he;exact(by rw [aR he];exact hk _ (h))
   rename_i he;exact(by rw [aG he];exact hk _ (h))
  exact h.elim
 | box e x =>
  simp only [cY,zJ] at *;split at h
  .obtain⟨h1,h2⟩:=h;split at h2
   .rename_i hi;exact⟨h1,(by rw [aR hi];exact hk _ (h2))⟩
   rename_i hi;split at h2
   .rename_i he;exact⟨h1,(by rw [aG hi,aR he];exact hk _ (h2))⟩
   rename_i he;exact⟨h1,(by rw [aG hi,aG he];exact hk _ (h2))⟩
  exact h.elim
 | store t a v =>
  simp only [cY,sQ] at *;obtain⟨h1,h2,h3,h4⟩:=h;split at h4
  .split at h4
   .exact⟨h1,h2,h3,h4.1,hk _ (h4.2)⟩
   exact h4.elim
  .split at h4
   .exact⟨h1,h2,h3,h4.1,hk _ (h4.2)⟩
   exact h4.elim
  exact h4.elim
 | build t parts =>
  simp only [cY,qS] at *;split at h
  .split at h
   .exact hk _ (h)
   exact h.elim
  exact h.elim
 | buildSlice t len parts=>
  simp only [cY,iU] at *;split at h
  .exact⟨h.1,h.2.1,hk _ (h.2.2)⟩
  exact h.elim
 | call call =>
  obtain⟨callee,args,ts⟩:=call;cases callee with
  | builtin b =>
   simp only [cY,lY,nE] at *;split at h
   .simp only [Da] at *;split at h
    .exact⟨h.1,hk _ (h.2)⟩
    .exact⟨h.1,hk _ (h.2)⟩
    exact h.elim
   .simp only [oF] at *;split at h
    .obtain⟨h1,h2,h3,h4,h5⟩:=h;split at h5
     .exact⟨h1,h2,h3,h4,h5.1,hk _ (h5.2)⟩
     .exact⟨h1,h2,h3,h4,hk _ (h5)⟩
     exact h5.elim
    exact h.elim
   .simp only [rM] at *;split at h
    .exact⟨h.1,hk _ (h.2)⟩
    exact h.elim
   .simp only [rM] at *;split at h
    .exact⟨h.1,hk _ (h.2)⟩
    exact h.elim
   exact h.elim
  | value f=>exact Un hk h
  | invoke r m=>exact h.elim
 | range t x=>exact Gq hk h
 | next x s=>
  cases s with
  | false=>exact Lb hk h
  | true=>exact h.elim
 | entry x=>exact Ix hk h
 | _=>exact h.elim
theorem aMm (h:Vc P dst op st K):∃s,K s/\Vc P dst op st (· =s):=by
 unfold Vc at *;split at h
 .split at h
  .simp only [xQ] at *;obtain⟨h0,h⟩:=h;split at h <;> first | exact⟨_,h,h0,rfl⟩ | exact h.elim
  exact h.elim
 .split at h
  .simp only [lP] at *;split at h
   .obtain⟨h0,h1,h2,h3⟩:=h;split at h3 <;> first | exact⟨_,h3.2,h0,h1,h2,h3.1,rfl⟩ | (obtain⟨ds,es,h4,h5⟩:=h3;exact⟨_,h5,h0,h1,h2,ds,es,h4,rfl⟩) | exact h3.elim
   exact h.elim
  exact h.elim
 .split at h
  .simp only [qH] at *;obtain⟨h0,h⟩:=h;split at h
   .split at h
    .exact⟨_,h.2,h0,h.1,rfl⟩
    exact h.elim
   exact h.elim
  exact h.elim
 .simp only [iV] at *;split at h
  .exact⟨_,h.2,h.1,rfl⟩
  exact h.elim
 .simp only [oT] at *;split at h
  .split at h
   .exact⟨_,h.2,h.1,rfl⟩
   exact h.elim
  exact h.elim
 exact h.elim
theorem aIj (hk:∀s,K s->K' s)(h:Vc P dst op st K):Vc P dst op st K':=by
 unfold Vc at *;split at h
 .split at h
  .simp only [xQ] at *;obtain⟨h0,h⟩:=h;split at h <;> first | exact⟨h0,hk _ h⟩ | exact h.elim
  exact h.elim
 .split at h
  .simp only [lP] at *;split at h
   .obtain⟨h0,h1,h2,h3⟩:=h;split at h3 <;> first | exact⟨h0,h1,h2,h3.1,hk _ h3.2⟩ | (obtain⟨ds,es,h4,h5⟩:=h3;exact⟨h0,h1,h2,ds,es,h4,hk _ h5⟩) | exact h3.elim
   exact h.elim
  exact h.elim
 .split at h
  .simp only [qH] at *;obtain⟨h0,h⟩:=h;split at h
   .split at h
    .exact⟨h0,h.1,hk _ h.2⟩
    exact h.elim
   exact h.elim
  exact h.elim
 .simp only [iV] at *;split at h
  .exact⟨h.1,hk _ h.2⟩
  exact h.elim
 .simp only [oT] at *;split at h
  .split at h
   .exact⟨h.1,hk _ h.2⟩
   exact h.elim
  exact h.elim
 exact h.elim
theorem Oc (hc:iY op=false)(h:gK P c dst op st K):∃s,K s/\gK P c dst op st (· =s):=by
 unfold gK at *;by_cases hy:yH c dst op=true
 .simp only [hy,aJ] at *;obtain⟨sets,ob,h1,hK⟩:=h;exact⟨_,hK,sets,ob,h1,rfl⟩
 simp only [hy] at *;by_cases hu:Ij c dst op=true
 .simp only [hu,aJ] at *;exact aMm h
 simp only [hu] at *;exact aG5 hc h
theorem vF (hk:∀s,K s->K' s)(h:gK P c dst op st K):gK P c dst op st K':=by
 unfold gK at *;by_cases hy:yH c dst op=true
 .simp only [hy,aJ] at *;obtain⟨sets,ob,h1,hK⟩:=h;exact⟨sets,ob,h1,hk _ hK⟩
 simp only [hy] at *;by_cases hu:Ij c dst op=true
 .simp only [hu,aJ] at *;exact aIj hk h
 simp only [hu] at *;exact Ps hk h
def Db(c:Cfg)(dst:Option Tmp):Op->Bool
 | .load t a=> !dst.any c.take.contains && !yH c dst (.load t a) && !Ij c dst (.load t a)
 | .lookup _ _ _ _=>true
 | .call ⟨.builtin .len,args,ts⟩=>yH c dst (.call ⟨.builtin .len,args,ts⟩)
 | _=>false
def Kq(c:Cfg)(dst:Option Tmp):Op->Bool
 | .makeMap _ _=>true
 | .alloc e=>dst.any c.esc.contains && !yH c dst (.alloc e) && !Ij c dst (.alloc e)
 | .box e x=>dst.any c.esc.contains && !dst.any c.imm.contains && !yH c dst (.box e x) && !Ij c dst (.box e x)
 | _=>false
structure AgreeT(rs:List Nat)(f:Fl)(st st':St):Prop where
 n:st'.n=st.n
 env:∀t,t∈rs->st'.env t=st.env t
 loc:f.rL=true->st'.loc=st.loc
 obj:f.rO=true->∃J,st'.obj=st.obj++J
theorem Hw {α:Type} {l J:List α} {n:Nat} {x:α} (h:l[n]?=some x):(l++J)[n]?=some x:=by
 rw [aU (aH.1 h).1];exact h
theorem aAt {args:List Operand} {ts:List TypeId} {f g:Operand->TypeId->lL} {sets:List (Nat×Slot)} {ob:Option (List (List D))} (h:∀x t,f x t sets ob->g x t sets ob)(hy:yA1 args ts f sets ob):yA1 args ts g sets ob:=by
 match args,ts with
 | [x], [t]=>exact h x t hy
 | [],_=>exact hy.elim
 | _::_::_,_=>exact hy.elim
 | [_], []=>exact hy.elim
 | [_],_::_::_=>exact hy.elim
theorem aJw (ht:Db c dst op=true)(hrs:∀t,t∈hC op->t∈rs)(ha:AgreeT rs (lJ c dst st op) st st')(h:gK P c dst op st K):gK P c dst op st' (Tr (lA c dst op) (lJ c dst st op) st st' K):=by
 have rdS:∀x,x∈op.operands.toList->st'.rdS x=st.rdS x:=fun x hx=>by
  cases x with
  | tmp t=>exact ha.env t (hrs t (dN hx t rfl))
  | _=>rfl
 have goY:yH c dst op=true->(∀rd obj J sets ob,yR P (Ia c dst op) dst op rd obj sets ob->yR P (Ia c dst op) dst op rd (obj++J) sets ob)->gK P c dst op st' (Tr (lA c dst op) (lJ c dst st op) st st' K):=by
  intro hy hm;have hw:lA c dst op=dst.toList++hC op:=by simp [lA,hy]
  unfold gK lJ at *;simp only [hy,aJ] at *;obtain⟨sets,ob,h1,hK⟩:=h;obtain⟨s1,s2⟩:=Rg h1;refine⟨sets,ob,?_,⟨sets,none,ob⟩,⟨fun p hp=>by rw [hw];exact s1 p hp,by simp,s2⟩,hK,rfl⟩;rw [Jg rdS];by_cases hr:(flY (Ia c dst op) op).rO=true
  .simp only [hr,aJ] at h1 |-;obtain⟨J,hJ⟩:=ha.obj hr;rw [hJ];exact hm _ _ _ _ _ h1
  simp only [hr] at h1 |-;exact h1
 cases op with
 | load t a =>
  simp only [Db,fZ,nO] at ht;obtain⟨⟨h1,h2⟩,h3⟩:=ht;have ld:∀K,gV P dst t a st K->st'.cellsAt (st'.rdS a)=st.cellsAt (st.rdS a)->gV P dst t a st' (Tr (lA c dst (.load t a)) (lJ c dst st (.load t a)) st st' K):=by
   intro K h he;unfold gV at *;rw [he];split at h
   .split at h
    .exact Mp gZ h
    exact h.elim
   exact h.elim
  have tk:∀st K,iW P c dst t a st K=gV P dst t a st K:=by
   intro st K;unfold iW;split
   .rename_i d _;have:c.take.contains d=false:=by simpa using h1
    simp only [this];rfl
   rfl
  have hfl:lJ c dst st (.load t a)=hP (dst.any c.take.contains) (st.rdS a):=by
   unfold lJ;simp only [h2,h3];rfl
  have key:gK P c dst (.load t a) st K=gV P dst t a st K:=by
   unfold gK;simp only [h2,h3,cY,tk];rfl
  have key':∀K,gK P c dst (.load t a) st' K=gV P dst t a st' K:=fun K=>by
   unfold gK;simp only [h2,h3,cY,tk];rfl
  rw [key] at h;rw [key'];refine ld K h ?_;have he:st'.rdS a=st.rdS a:=rdS a (by simp [Op.operands]);rw [he];unfold gV at h;rw [hfl] at ha;cases hs:st.rdS a with
  | lref n off=>rw [hs] at ha;simp only [St.cellsAt];rw [ha.loc rfl]
  | d x =>
   cases x with
   | ref n off=>
    rw [hs] at ha h;obtain⟨J,hJ⟩:=ha.obj rfl;simp only [St.cellsAt] at h |-;rw [hJ];cases hg:st.obj[n]? with
    | none=>rw [hg] at h;simp at h
    | some cs=>rw [Hw hg]
   | _=>rfl
 | lookup t x k ok=>
  refine goY rfl fun rd obj J sets ob hy=>?_;simp only [yR,rA] at hy |-;split at hy
  .obtain⟨m,i,clock,kvs,dv,b,⟨⟨cs,g1,g2⟩,g3⟩,g4⟩:=hy;exact⟨m,i,clock,kvs,dv,b,⟨⟨cs,Hw g1,g2⟩,g3⟩,g4⟩
  .exact hy
  exact hy.elim
 | call call =>
  obtain⟨callee,args,ts⟩:=call;cases callee with
  | builtin b =>
   cases b with
   | len =>
    refine goY ht fun rd obj J sets ob hy=>?_;simp only [yR] at hy |-;refine aAt (fun x t hy=>?_) hy;split at hy
    .rename_i h;rw [aR h];unfold Bo at hy |-;split at hy
     .obtain⟨m,i,clock,kvs,⟨cs,g1,g2⟩,g4⟩:=hy;exact⟨m,i,clock,kvs,⟨cs,Hw g1,g2⟩,g4⟩
     exact hy.elim
    rename_i h;rw [aG h];exact hy
   | _=>simp [Db] at ht
  | _=>simp [Db] at ht
 | _=>simp [Db] at ht
theorem aIx {s:St} (ha:Kq c dst op=true)(h:gK P c dst op st (· =s)):∃J,s.obj=st.obj++J:=by
 cases op with
 | makeMap t r=>
  unfold gK at h;simp only [yH,isY,Bool.true_or,aJ] at h;obtain⟨sets,ob,h1,rfl⟩:=h;have hf:(flY (Ia c dst (.makeMap t r)) (.makeMap t r)).rO=true:=rfl;simp only [hf,aJ,yR,oW] at h1;split at h1
  .obtain⟨_,rfl,rfl⟩:=h1;exact⟨[[]],rfl⟩
  exact h1.elim
 | alloc e =>
  simp only [Kq,fZ,nO] at ha;obtain⟨⟨h1,h2⟩,h3⟩:=ha;unfold gK at h;simp only [h2,h3,cY,pA] at h;simp only [fL,aZ] at h;split at h
  .rename_i cs d _;have:c.esc.contains d=true:=by simpa using h1
   simp only [this,aJ] at h;subst h;exact⟨[cs],rfl⟩
  exact h.elim
 | box e x =>
  simp only [Kq,fZ,nO] at ha;obtain⟨⟨⟨h1,h0⟩,h2⟩,h3⟩:=ha;unfold gK at h;simp only [h2,h3,cY,zJ] at h;simp only [fL,aZ] at h;split at h
  .rename_i d;have e1:c.esc.contains d=true:=by simpa using h1
   have e2:c.imm.contains d=false:=by simpa using h0
   simp only [e1,e2,aJ] at h;simp only [fL,aZ] at h;obtain⟨_,rfl⟩:=h;exact⟨_,rfl⟩
  exact h.elim
 | _=>simp [Kq] at ha
inductive DK where
 | op (f:Fl)
 | pure
 | det
 | pureT
 | detT
 | read
 | pureC
 | readT
 | detA
 | nd
def DK.isNd:DK->Bool
 | .nd=>true
 | _=>false
def nV:DK->Fl
 | .op f=>f
 | .pure=>⟨false,false,false,false⟩
 | .pureT=>⟨false,false,false,false⟩
 | .detT=>⟨false,false,true,true⟩
 | .det=>⟨false,false,true,true⟩
 | .read=>⟨false,false,true,false⟩
 | .pureC=>⟨false,false,false,false⟩
 | .readT=>⟨false,false,true,false⟩
 | .detA=>⟨false,false,true,true⟩
 | .nd=>⟨false,false,true,true⟩
def xP(c:Cfg)(dst:Option Tmp)(op:Op):DK->Bool
 | .op f=>f.rO && !f.wO && Db c dst op
 | .readT=>true
 | _=>false
def Up(c:Cfg)(dst:Option Tmp)(op:Op):DK->Bool
 | .op _=>Kq c dst op
 | .detA=>true
 | _=>false
theorem Qt {k:DK} (h:xP c dst op k=true):(nV k).rO=true/\(nV k).wO=false:=by
 cases k <;> simp_all [xP,nV]
def rY(c:Cfg)(dst:Option Tmp)(op:Op):DK->List Nat
 | .op _=>lA c dst op
 | .pureT | .detT=>dst.toList++hC op
 | _=>dst.toList
def aNv(P:Program)(dst:Option Tmp)(op:Op)(st:St)(Q:D->List (List D)->Prop):Prop:=match op with
 | .call { callee:= .value (.func f),args, .. } =>jS args.toList st/\Ct P f (fY args.toList st) st.obj Q/\∃r σ0,Q r σ0
 | _=>False
def uD(P:Program)(c:Cfg)(dst:Option Tmp)(op:Op)(k:DK)(st:St)(K:St->Prop):Prop:=
 match k with
 | .op f=>iY op=false/\lJ c dst st op=f/\gK P c dst op st K
 | .pure=>match op with
  | .call { callee:= .value (.func f),args, .. } =>jS args.toList st/\∃r,(∀σ,Ct P f (fY args.toList st) σ fun r' σ'=>r'=r/\σ'=σ)/\K (st.put dst (.d r))
  | _=>False
 | .read=>match op with
  | .call { callee:= .value (.func f),args, .. } =>jS args.toList st/\∃r,(Ct P f (fY args.toList st) st.obj fun r' σ'=>r'=r/\σ'=st.obj)/\K (st.put dst (.d r))
  | _=>False
 | .pureC => match op with
  | .call { callee:= .value f,args, .. } =>match st.rd f with
   | .clo (.func fid) first caps=>(∀d∈first++caps,d.plain=true)/\jS args.toList st/\∃r,(∀σ,Ct P fid (first.map D.strip++fY args.toList st++caps.map D.strip) σ fun r' σ'=>r'=r/\σ'=σ)/\K (st.put dst (.d r))
   | _=>False
  | _=>False
 | .readT=>match op with
  | .call { callee:= .value (.func f),args, .. } =>jS args.toList st/\∃r,(∀J,Ct P f (fY args.toList st) (st.obj++J) fun r' σ'=>r'=r/\σ'=st.obj++J)/\K (st.put dst (.d r))
  | _=>False
 | .nd=>∃Q,aNv P dst op st Q/\∀r σ0,Q r σ0->K (({ st with obj:=σ0 } :St).put dst (.d r))
 | .detA=>match op with
  | .call { callee:= .value (.func f),args, .. } =>jS args.toList st/\∃r J,(Ct P f (fY args.toList st) st.obj fun r' σ'=>r'=r/\σ'=st.obj++J)/\K (({ st with obj:=st.obj++J } :St).put dst (.d r))
  | _=>False
 | .det=>match op with
  | .call { callee:= .value (.func f),args, .. } =>jS args.toList st/\∃r σ0,(Ct P f (fY args.toList st) st.obj fun r' σ'=>r'=r/\σ'=σ0)/\K (({ st with obj:=σ0 } :St).put dst (.d r))
  | _=>False
 | .pureT => match dst, op with
  | some d,.call { callee:= .value (.func f),args, .. } =>(args.toList.filterMap bR).Nodup/\(∀x∈args.toList,uJ (st.rdS x)=true/\(st.rd x).plain=true)/\
   ∃r,(∀σ,Ct P f (args.toList.map (rH st)) σ fun r' σ'=>r'=r/\σ'=σ)/\K (({ st with env:=fF (args.toList.map bR) st.env } :St).put (some d) (.d r))
  | _,_=>False
 | .detT => match dst, op with
  | some d,.call { callee:= .value (.func f),args, .. } =>(args.toList.filterMap bR).Nodup/\(∀x∈args.toList,uJ (st.rdS x)=true/\(st.rd x).plain=true)/\
   ∃r σ0,(Ct P f (args.toList.map (rH st)) st.obj fun r' σ'=>r'=r/\σ'=σ0)/\K (({ st with env:=fF (args.toList.map bR) st.env,obj:=σ0 } :St).put (some d) (.d r))
  | _,_=>False
def uG(c:Cfg)(all:List Oper)(o:Oper)(k:DK):List Nat:=rY c o.dst o.op k++hC o.op++match o.guard with
 | none=> []
 | some (j,_)=>(aY all j).toList
def eX(ws:List Nat)(f:Fl)(s:St):Delta:=⟨ws.map fun t=>(t,s.env t),if f.wL then some s.loc else none,if f.wO then some s.obj else none⟩
theorem pM(ws:List Nat)(f:Fl)(s st:St)(t:Nat):(st.upd (eX ws f s)).env t=if t∈ws then s.env t else st.env t:=by
 simp only [St.upd,eX];exact uY ws s.env st.env t
def Fp(P:Program)(all:List Oper)(o:Oper)(st:St)(K:St->Prop):Prop:=
 ∀(w:World) (g:Gh) (tmps:Array Value),Ok w g st (bQ tmps)->tmps.size=st.n->
  (Region.wanted o (yielded all.toArray tmps)=true->o.wp P ⟨tmps, []⟩ w (fun a w'=>a.defers= []/\∃st' g',K st'/\Fr w g w' g'/\Ok w' g' st' (bQ a.tmps)/\a.tmps.size=st'.n) (fun _ _ _=>False))/\
  (Region.wanted o (yielded all.toArray tmps)=false->∃st' g',K st'/\Fr w g w g'/\Ok w g' st' (bQ ((⟨tmps, []⟩:Act).put o.dst undef).tmps)/\tmps.size=st'.n)
structure AgreeD(rs:List Nat)(f:Fl)(tol:Bool)(st st':St):Prop where
 n:st'.n=st.n
 env:∀t,t∈rs->st'.env t=st.env t
 loc:f.rL=true->st'.loc=st.loc
 obj:f.rO=true->(tol=false->st'.obj=st.obj)/\∃J,st'.obj=st.obj++J
theorem Agree.toD (h:Agree rs f st st'):AgreeD rs f tol st st':=⟨h.n,h.env,h.loc,fun e=>⟨fun _=>h.obj e, [],by rw [h.obj e,iK]⟩⟩
theorem AgreeD.toA (h:AgreeD rs f false st st'):Agree rs f st st':=⟨h.n,h.env,h.loc,fun e=>(h.obj e).1 rfl⟩
theorem AgreeD.toT (h:AgreeD rs f tol st st'):AgreeT rs f st st':=⟨h.n,h.env,h.loc,fun e=>(h.obj e).2⟩
structure Step(P:Program)(c:Cfg)(all:List Oper)(o:Oper)(k:DK)(st s:St):Prop where
 self:s=st.upd (eX (rY c o.dst o.op k) (nV k) s)
 app:Up c o.dst o.op k=true->∃J,s.obj=st.obj++J
 go:k.isNd=false->∀st',AgreeD (uG c all o k) (nV k) (xP c o.dst o.op k) st st'->Fp P all o st' (· =st'.upd (eX (rY c o.dst o.op k) (nV k) s))
theorem aBv(c:Cfg)(dst:Option Tmp)(st:St)(op:Op):((gF c dst st op).wL=true->(gF c dst st op).rL=true)/\((gF c dst st op).wO=true->(gF c dst st op).rO=true):=by
 have ad:∀w s,((hP w s).wL=true->(hP w s).rL=true)/\((hP w s).wO=true->(hP w s).rO=true):=by
  intro w s;cases s with
  | lref n o=>simp [hP]
  | d d=>cases d <;> simp [hP]
 cases op <;> simp only [gF] <;> try exact⟨id,id⟩
 .split <;> simp
 .split
  .simp
  split <;> simp
 .exact ad _ _
 .exact ad _ _
 rename_i call;obtain⟨callee,args,ts⟩:=call;cases callee <;> exact⟨id,id⟩
theorem Hu(c:Cfg)(dst:Option Tmp)(st:St)(op:Op):((lJ c dst st op).wL=true->(lJ c dst st op).rL=true)/\((lJ c dst st op).wO=true->(lJ c dst st op).rO=true):=by
 unfold lJ;split
 .unfold flY;split <;> first | (simp;done) | (split <;> simp)
 split
 .unfold flX;split <;> simp
 exact aBv c dst st op
theorem Ih {δ:Delta} (hδ:δ.ok ws f)(hw:(f.wL=true->f.rL=true)/\(f.wO=true->f.rO=true))(ha:Agree ws f st st'):st'.upd δ=st'.upd (eX ws f (st.upd δ)):=by
 have key:∀t,eR δ.sets st'.env t=if t∈ws then eR δ.sets st.env t else st'.env t:=by
  intro t;split
  .rename_i ht;have:∀(l:List (Nat×Slot)) (e e':Nat->Slot),e t=e' t->eR l e t=eR l e' t:=by
    intro l;induction l with
    | nil=>intro e e' h;exact h
    | cons p l ih=>
     obtain⟨x,y⟩:=p;intro e e' h;exact ih _ _ (by split <;> first | rfl | exact h)
   exact this _ _ _ (ha.env t ht)
  rename_i ht;exact Na fun p hp e=>ht (by rw [<- e];exact hδ.sets p hp)
 have h1:(st'.upd δ).env=(st'.upd (eX ws f (st.upd δ))).env:=by
  funext t;rw [pM];exact key t
 have h2:(st'.upd δ).loc=(st'.upd (eX ws f (st.upd δ))).loc:=by
  simp only [St.upd,eX];cases hl:f.wL with
  | true=>
   simp only [aJ,gS];rw [ha.loc (hw.1 hl)]
  | false=>
   cases hd:δ.loc with
   | none=>simp
   | some l=>have:=hδ.loc (by simp [hd]);rw [hl] at this;cases this
 have h3:(st'.upd δ).obj=(st'.upd (eX ws f (st.upd δ))).obj:=by
  simp only [St.upd,eX];cases hl:f.wO with
  | true=>
   simp only [aJ,gS];rw [ha.obj (hw.2 hl)]
  | false=>
   cases hd:δ.obj with
   | none=>simp
   | some l=>have:=hδ.obj (by simp [hd]);rw [hl] at this;cases this
 show(⟨_,_,_,_⟩:St)=⟨_,_,_,_⟩
 congr 1
theorem Tb (h:AgreeD rs f tol st st') {x:Operand} (hx:∀t,bR x=some t->t∈rs):st'.rd x=st.rd x:=
 iX (rs:=rs) (f:=⟨false,false,false,false⟩) ⟨h.n,h.env,fun e=>(by cases e),fun e=>(by cases e)⟩ hx
theorem aDm {δ:Delta} (hδ:δ.ok ws f)(hw:f.wL=true->f.rL=true)(hO:f.wO=false)(ha:AgreeT ws f st st'):st'.upd δ=st'.upd (eX ws f (st.upd δ)):=by
 have:=Ih (st':= { st' with obj:=st.obj }) hδ ⟨hw,fun h=>by rw [hO] at h;cases h⟩ ⟨ha.n,ha.env,ha.loc,fun _=>rfl⟩;have hn:δ.obj=none:=by
  cases hd:δ.obj with
  | none=>rfl
  | some l=>have:=hδ.obj (by simp [hd]);rw [hO] at this;cases this
 simp only [St.upd,eX,hn,hO,St.mk.injEq] at this |-;simpa using this
theorem uZ(rs:List Nat)(f:Fl)(st:St):Agree rs f st st:=⟨rfl,fun _ _=>rfl,fun _=>rfl,fun _=>rfl⟩
theorem Agree.sub {rs':List Nat} (h:Agree rs f st st')(hs:∀t,t∈rs'->t∈rs):Agree rs' f st st':=⟨h.n,fun t ht=>h.env t (hs t ht),h.loc,h.obj⟩
theorem Jl {o:Oper} (hw:∀(w:World) (g:Gh) (tmps:Array Value),Ok w g st (bQ tmps)->Region.wanted o (yielded all.toArray tmps)=true)(h:Does P o st K):Fp P all o st K:=by
 intro w g tmps hok hn;refine⟨fun _=>?_,fun hf=>by rw [hw w g tmps hok] at hf;cases hf⟩;exact Oper.wp_mono (fun a w' ⟨h1,st',g',h2,h3,h4,h5,_⟩=>⟨h1,st',g',h2,h3,h4,h5⟩) (h w g tmps hok hn)
theorem wC {f:FuncId} {d:Nat} {r:Slot} {e e':Nat->Slot} (he:∀t,t∈hC (.call ⟨.value (.func f),args,ts⟩)->e' t=e t)(u:Nat):
  eR (((some d).toList++hC (.call ⟨.value (.func f),args,ts⟩)).map fun t=>(t,if t=d then r else fF (args.toList.map bR) e t)) e' u=if u=d then r else fF (args.toList.map bR) e' u:=by
 rw [uY];by_cases hu:u=d
 .subst hu;simp
 simp only [hu,aZ];by_cases hm:u∈hC (.call ⟨.value (.func f),args,ts⟩)
 .rw [aR (by simp [hm])];simp only [fF,he u hm]
 rw [aG (by simp [hm,hu])];have hc:(args.toList.map bR).contains (some u)=false:=by
  rw [Bool.eq_false_iff];intro hc;obtain⟨x,hx,hx'⟩:=bY.1 (by simpa using hc:some u∈args.toList.map bR);exact hm (dN (by simp [Op.operands,Call.operands];right;simpa using hx) u hx')
 simp only [fF,hc];rfl
theorem aGm {o:Oper} {k:DK} (hnd:k.isNd=false)(hfw:((nV k).wL=true->(nV k).rL=true)/\((nV k).wO=true->(nV k).rO=true))(hd:dD o st)(h:match o.guard with
  | none=>uD P c o.dst o.op k st K
  | some (j,want)=>∃t b,aY all j=some t/\zO (st.env t) want=some b/\(b=want->uD P c o.dst o.op k st K)/\(b= !want->K (st.put o.dst .und))):∃s,K s/\Step P c all o k st s:=by
 -- the body of the step,taken
 have taken : uD P c o.dst o.op k st K -> ∃ s, K s /\ s = st.upd (eX (rY c o.dst o.op k) (nV k) s) /\ (Up c o.dst o.op k = true -> ∃ J, s.obj = st.obj ++ J) /\ ∀ st', AgreeD (uG c all o k) (nV k) (xP c o.dst o.op k) st st' -> Does P o st' (· = st'.upd (eX (rY c o.dst o.op k) (nV k) s)) := by
  intro h;have hd':∀st',st'.n=st.n->dD o st':=fun st' hn=>by unfold dD at *;split <;> simp_all
  cases k with
  | nd=>cases hnd
  | op f =>
   obtain⟨h1,rfl,h3⟩:=h;obtain⟨s,hK,hs⟩:=Oc h1 h3;have loc:∀st',Agree (uG c all o (.op (lJ c o.dst st o.op))) (lJ c o.dst st o.op) st st'->∃δ:Delta,δ.ok (lA c o.dst o.op) (lJ c o.dst st o.op)/\s=st.upd δ/\gK P c o.dst o.op st' (· =st'.upd δ):=by
    intro st' ha;have hl:=Yy (aLq h1) (rs:=uG c all o (.op (lJ c o.dst st o.op))) (fun t ht=>by simp [uG,ht]) ha hs;obtain⟨s',⟨δ,d1,d2,rfl⟩,h5⟩:=Oc h1 hl;exact⟨δ,d1,d2.symm,h5⟩
   obtain⟨δ0,d1,d2,_⟩:=loc st (uZ _ _ _);refine⟨s,hK,?_,fun hap=>aIx hap hs,fun st' ha=>?_⟩
   .have:=Ih d1 (Hu c o.dst st o.op) (uZ (lA c o.dst o.op) (lJ c o.dst st o.op) st);rw [<- d2] at this;exact this
   by_cases htl:xP c o.dst o.op (.op (lJ c o.dst st o.op))=true
   .have hT:=ha.toT;have hop:Db c o.dst o.op=true:=by simp only [xP,fZ] at htl;exact htl.2
    have hl:=aJw hop (rs:=uG c all o (.op (lJ c o.dst st o.op))) (fun t ht=>by simp [uG,ht]) hT hs;obtain⟨s',⟨δ,e1,e2,rfl⟩,e3⟩:=Oc h1 hl;have:=aDm e1 (Hu c o.dst st o.op).1 (Qt htl).2 ⟨hT.n,fun t ht=>hT.env t (by simp [uG,rY,ht]),hT.loc,hT.obj⟩;rw [e2] at this;simp only [rY,nV];rw [<- this];exact Hm ⟨hd' st' ha.n,e3⟩
   have ha:Agree (uG c all o (.op (lJ c o.dst st o.op))) (lJ c o.dst st o.op) st st':=by
    have e:xP c o.dst o.op (.op (lJ c o.dst st o.op))=false:=by simpa using htl
    rw [e] at ha;exact ha.toA
   obtain⟨δ,e1,e2,e3⟩:=loc st' ha;have:=Ih e1 (Hu c o.dst st o.op) (ha.sub (rs':=lA c o.dst o.op) (fun t ht=>by simp [uG,rY,ht]));rw [<- e2] at this;simp only [rY,nV];rw [<- this];exact Hm ⟨hd' st' ha.n,e3⟩
  | pure =>
   obtain⟨dst,op,ty,pos,after,guard⟩:=o;simp only [uD] at h;split at h
   .rename_i f args ts _;obtain⟨h1,r,h2,h3⟩:=h;have ups:∀st':St,st'.upd (eX dst.toList ⟨false,false,false,false⟩ (st.put dst (.d r)))=st'.put dst (.d r):=by
     intro st';cases dst with
     | none=>rfl
     | some d=>
      refine St.mk.injEq .. |>.mpr ⟨rfl,?_,rfl,rfl⟩
      funext u;show eR [(d,(st.put (some d) (.d r)).env d)] st'.env u=_
      simp [eR,St.put,St.set]
    refine⟨_,h3,(ups st).symm,fun e=>(by cases e),fun st' ha=>?_⟩;replace ha:=ha.toA;simp only [rY,nV];rw [ups st'];have hargs:∀x∈args.toList,st'.rd x=st.rd x:=fun x hx=>iX ha fun t ht=>by
     have:=dN (op:= .call ⟨.value (.func f),args,ts⟩) (x:=x) (by simp [Op.operands,Call.operands];right;simpa using hx) t ht;simp [uG,this]
    refine jX (.func f) args ts (hd' st' ha.n) rfl ?_;unfold jH;simp only [tF];refine⟨by simp,fun x hx=>by rw [hargs x hx];exact h1 x hx,?_⟩;have e1:fY args.toList st'=fY args.toList st:=fC fun x hx=>jU (hargs x hx);rw [e1];simpa using(h2 st'.obj).mono fun r' σ' ⟨a,b⟩=>by subst a;subst b;rfl
   exact h.elim
  | pureC =>
   obtain⟨dst,op,ty,pos,after,guard⟩:=o;simp only [uD] at h;split at h
   .rename_i f args ts _;split at h
    .rename_i fid first caps hf
     obtain⟨h0,h1,r,h2,h3⟩:=h;have ups:∀st':St,st'.upd (eX dst.toList ⟨false,false,false,false⟩ (st.put dst (.d r)))=st'.put dst (.d r):=by
      intro st';cases dst with
      | none=>rfl
      | some d=>
       refine St.mk.injEq .. |>.mpr ⟨rfl,?_,rfl,rfl⟩
       funext u;show eR [(d,(st.put (some d) (.d r)).env d)] st'.env u=_
       simp [eR,St.put,St.set]
     refine⟨_,h3,(ups st).symm,fun e=>(by cases e),fun st' ha=>?_⟩;replace ha:=ha.toA;simp only [rY,nV];rw [ups st'];have hargs:∀x∈args.toList,st'.rd x=st.rd x:=fun x hx=>iX ha fun t ht=>by
      have:=dN (op:= .call ⟨.value f,args,ts⟩) (x:=x) (by simp [Op.operands,Call.operands];right;simpa using hx) t ht;simp [uG,this]
     have hff:st'.rd f=st.rd f:=iX ha fun t ht=>by
      have:=dN (op:= .call ⟨.value f,args,ts⟩) (x:=f) (by simp [Op.operands,Call.operands]) t ht;simp [uG,this]
     refine jX f args ts (hd' st' ha.n) rfl ?_;unfold jH;rw [hff,hf];refine⟨h0,fun x hx=>by rw [hargs x hx];exact h1 x hx,?_⟩;have e1:fY args.toList st'=fY args.toList st:=fC fun x hx=>jU (hargs x hx);rw [e1];exact(h2 st'.obj).mono fun r' σ' ⟨a,b⟩=>by subst a;subst b;rfl
    exact h.elim
   exact h.elim
  | read =>
   obtain⟨dst,op,ty,pos,after,guard⟩:=o;simp only [uD] at h;split at h
   .rename_i f args ts _;obtain⟨h1,r,h2,h3⟩:=h;have ups:∀st':St,st'.upd (eX dst.toList ⟨false,false,true,false⟩ (st.put dst (.d r)))=st'.put dst (.d r):=by
     intro st';cases dst with
     | none=>rfl
     | some d=>
      refine St.mk.injEq .. |>.mpr ⟨rfl,?_,rfl,rfl⟩
      funext u;show eR [(d,(st.put (some d) (.d r)).env d)] st'.env u=_
      simp [eR,St.put,St.set]
    refine⟨_,h3,(ups st).symm,fun e=>(by cases e),fun st' ha=>?_⟩;replace ha:=ha.toA;simp only [rY,nV];rw [ups st'];have hargs:∀x∈args.toList,st'.rd x=st.rd x:=fun x hx=>iX ha fun t ht=>by
     have:=dN (op:= .call ⟨.value (.func f),args,ts⟩) (x:=x) (by simp [Op.operands,Call.operands];right;simpa using hx) t ht;simp [uG,this]
    refine jX (.func f) args ts (hd' st' ha.n) rfl ?_;unfold jH;simp only [tF];refine⟨by simp,fun x hx=>by rw [hargs x hx];exact h1 x hx,?_⟩;have e1:fY args.toList st'=fY args.toList st:=fC fun x hx=>jU (hargs x hx);rw [e1];rw [show st'.obj=st.obj from ha.obj rfl];simpa using h2.mono fun r' σ' ⟨a,b⟩=>by subst a;subst b;rw [<- show st'.obj=st.obj from ha.obj rfl]
   exact h.elim
  | det =>
   obtain⟨dst,op,ty,pos,after,guard⟩:=o;simp only [uD] at h;split at h
   .rename_i f args ts _;obtain⟨h1,r,σ0,h2,h3⟩:=h;have ups:∀st':St,st'.upd (eX dst.toList ⟨false,false,true,true⟩ (({ st with obj:=σ0 } :St).put dst (.d r)))=({ st' with obj:=σ0 } :St).put dst (.d r):=by
     intro st';cases dst with
     | none=>rfl
     | some d=>
      refine St.mk.injEq .. |>.mpr ⟨rfl,?_,rfl,rfl⟩
      funext u;show eR [(d,(({ st with obj:=σ0 } :St).put (some d) (.d r)).env d)] st'.env u=_
      simp [eR,St.put,St.set]
    refine⟨_,h3,(ups st).symm,fun e=>(by cases e),fun st' ha=>?_⟩;replace ha:=ha.toA;simp only [rY,nV];rw [ups st'];have hargs:∀x∈args.toList,st'.rd x=st.rd x:=fun x hx=>iX ha fun t ht=>by
     have:=dN (op:= .call ⟨.value (.func f),args,ts⟩) (x:=x) (by simp [Op.operands,Call.operands];right;simpa using hx) t ht;simp [uG,this]
    refine jX (.func f) args ts (hd' st' ha.n) rfl ?_;unfold jH;simp only [tF];refine⟨by simp,fun x hx=>by rw [hargs x hx];exact h1 x hx,?_⟩;have e1:fY args.toList st'=fY args.toList st:=fC fun x hx=>jU (hargs x hx);have e2:st'.obj=st.obj:=ha.obj rfl;rw [e1,e2];simpa using h2.mono fun r' σ' ⟨a,b⟩=>by subst a;subst b;rfl
   exact h.elim
  | readT =>
   obtain⟨dst,op,ty,pos,after,guard⟩:=o;simp only [uD] at h;split at h
   .rename_i f args ts _;obtain⟨h1,r,h2,h3⟩:=h;have ups:∀st':St,st'.upd (eX dst.toList ⟨false,false,true,false⟩ (st.put dst (.d r)))=st'.put dst (.d r):=by
     intro st';cases dst with
     | none=>rfl
     | some d=>
      refine St.mk.injEq .. |>.mpr ⟨rfl,?_,rfl,rfl⟩
      funext u;show eR [(d,(st.put (some d) (.d r)).env d)] st'.env u=_
      simp [eR,St.put,St.set]
    refine⟨_,h3,(ups st).symm,fun e=>(by cases e),fun st' ha=>?_⟩;obtain⟨J,hJ⟩:=(ha.obj rfl).2;simp only [rY,nV];rw [ups st'];have hargs:∀x∈args.toList,st'.rd x=st.rd x:=fun x hx=>Tb ha fun t ht=>by
     have:=dN (op:= .call ⟨.value (.func f),args,ts⟩) (x:=x) (by simp [Op.operands,Call.operands];right;simpa using hx) t ht;simp [uG,this]
    refine jX (.func f) args ts (hd' st' ha.n) rfl ?_;unfold jH;simp only [tF];refine⟨by simp,fun x hx=>by rw [hargs x hx];exact h1 x hx,?_⟩;have e1:fY args.toList st'=fY args.toList st:=fC fun x hx=>jU (hargs x hx);rw [e1];rw [hJ];simpa using(h2 J).mono fun r' σ' ⟨a,b⟩=>by subst a;subst b;rw [<- hJ]
   exact h.elim
  | detA =>
   obtain⟨dst,op,ty,pos,after,guard⟩:=o;simp only [uD] at h;split at h
   .rename_i f args ts _;obtain⟨h1,r,J,h2,h3⟩:=h;have ups:∀st':St,st'.upd (eX dst.toList ⟨false,false,true,true⟩ (({ st with obj:=st.obj++J } :St).put dst (.d r)))=({ st' with obj:=st.obj++J } :St).put dst (.d r):=by
     intro st';cases dst with
     | none=>rfl
     | some d=>
      refine St.mk.injEq .. |>.mpr ⟨rfl,?_,rfl,rfl⟩
      funext u;show eR [(d,(({ st with obj:=st.obj++J } :St).put (some d) (.d r)).env d)] st'.env u=_
      simp [eR,St.put,St.set]
    refine⟨_,h3,(ups st).symm,fun _=>⟨J,by cases dst <;> rfl⟩,fun st' ha=>?_⟩;replace ha:=ha.toA;simp only [rY,nV];rw [ups st'];have hargs:∀x∈args.toList,st'.rd x=st.rd x:=fun x hx=>iX ha fun t ht=>by
     have:=dN (op:= .call ⟨.value (.func f),args,ts⟩) (x:=x) (by simp [Op.operands,Call.operands];right;simpa using hx) t ht;simp [uG,this]
    refine jX (.func f) args ts (hd' st' ha.n) rfl ?_;unfold jH;simp only [tF];refine⟨by simp,fun x hx=>by rw [hargs x hx];exact h1 x hx,?_⟩;have e1:fY args.toList st'=fY args.toList st:=fC fun x hx=>jU (hargs x hx);have e2:st'.obj=st.obj:=ha.obj rfl;rw [e1,e2];simpa using h2.mono fun r' σ' ⟨a,b⟩=>by subst a;subst b;rfl
   exact h.elim
  | pureT =>
   obtain⟨dst,op,ty,pos,after,guard⟩:=o;simp only [uD] at h;split at h
   .rename_i d f args ts _;obtain⟨h0,h1,r,h2,h3⟩:=h;have ups:∀st':St,(∀t,t∈hC (.call ⟨.value (.func f),args,ts⟩)->st'.env t=st.env t)->
      st'.upd (eX ((some d).toList++hC (.call ⟨.value (.func f),args,ts⟩)) ⟨false,false,false,false⟩ (({ st with env:=fF (args.toList.map bR) st.env } :St).put (some d) (.d r)))=({ st' with env:=fF (args.toList.map bR) st'.env } :St).put (some d) (.d r):=by
     intro st' he;refine St.mk.injEq .. |>.mpr ⟨rfl,?_,rfl,rfl⟩
     funext u;exact wC he u
    refine⟨_,h3,(ups st fun _ _=>rfl).symm,fun e=>(by cases e),fun st' ha=>?_⟩;replace ha:=ha.toA;have he:∀t,t∈hC (.call ⟨.value (.func f),args,ts⟩)->st'.env t=st.env t:=fun t ht=>ha.env t (by simp [uG,ht]);simp only [rY,nV];rw [ups st' he];have hargs:∀x∈args.toList,st'.rd x=st.rd x:=fun x hx=>iX ha fun t ht=>by
     have:=dN (op:= .call ⟨.value (.func f),args,ts⟩) (x:=x) (by simp [Op.operands,Call.operands];right;simpa using hx) t ht;simp [uG,this]
    have hargS:∀x∈args.toList,st'.rdS x=st.rdS x:=fun x hx=>nK ha fun t ht=>by
     have:=dN (op:= .call ⟨.value (.func f),args,ts⟩) (x:=x) (by simp [Op.operands,Call.operands];right;simpa using hx) t ht;simp [uG,this]
    refine vD f args ts (hd' st' ha.n) rfl ?_;unfold lC;refine⟨h0,fun x hx=>by rw [hargs x hx,hargS x hx];exact h1 x hx,?_⟩;have e1:args.toList.map (rH st')=args.toList.map (rH st):=fC fun x hx=>uQ (hargs x hx);rw [e1];exact(h2 st'.obj).mono fun r' σ' ⟨a,b⟩=>by subst a;subst b;rfl
   exact h.elim
  | detT =>
   obtain⟨dst,op,ty,pos,after,guard⟩:=o;simp only [uD] at h;split at h
   .rename_i d f args ts _;obtain⟨h0,h1,r,σ0,h2,h3⟩:=h;have ups:∀st':St,(∀t,t∈hC (.call ⟨.value (.func f),args,ts⟩)->st'.env t=st.env t)->
      st'.upd (eX ((some d).toList++hC (.call ⟨.value (.func f),args,ts⟩)) ⟨false,false,true,true⟩ (({ st with env:=fF (args.toList.map bR) st.env,obj:=σ0 } :St).put (some d) (.d r)))=({ st' with env:=fF (args.toList.map bR) st'.env,obj:=σ0 } :St).put (some d) (.d r):=by
     intro st' he;refine St.mk.injEq .. |>.mpr ⟨rfl,?_,rfl,rfl⟩
     funext u;exact wC he u
    refine⟨_,h3,(ups st fun _ _=>rfl).symm,fun e=>(by cases e),fun st' ha=>?_⟩;replace ha:=ha.toA;have he:∀t,t∈hC (.call ⟨.value (.func f),args,ts⟩)->st'.env t=st.env t:=fun t ht=>ha.env t (by simp [uG,ht]);simp only [rY,nV];rw [ups st' he];have hargs:∀x∈args.toList,st'.rd x=st.rd x:=fun x hx=>iX ha fun t ht=>by
     have:=dN (op:= .call ⟨.value (.func f),args,ts⟩) (x:=x) (by simp [Op.operands,Call.operands];right;simpa using hx) t ht;simp [uG,this]
    have hargS:∀x∈args.toList,st'.rdS x=st.rdS x:=fun x hx=>nK ha fun t ht=>by
     have:=dN (op:= .call ⟨.value (.func f),args,ts⟩) (x:=x) (by simp [Op.operands,Call.operands];right;simpa using hx) t ht;simp [uG,this]
    refine vD f args ts (hd' st' ha.n) rfl ?_;unfold lC;refine⟨h0,fun x hx=>by rw [hargs x hx,hargS x hx];exact h1 x hx,?_⟩;have e1:args.toList.map (rH st')=args.toList.map (rH st):=fC fun x hx=>uQ (hargs x hx);have e2:st'.obj=st.obj:=ha.obj rfl;rw [e1,e2];exact h2.mono fun r' σ' ⟨a,b⟩=>by subst a;subst b;rfl
   exact h.elim
 split at h
 .rename_i hg;obtain⟨s,h1,h2,h0,h3⟩:=taken h;exact⟨s,h1,h2,h0,fun _ st' ha=>Jl (fun w g tmps _=>by simp [Region.wanted,hg]) (h3 st' ha)⟩
 rename_i j want hg;obtain⟨t,b,h1,h2,h3,h4⟩:=h;have hin:t∈uG c all o k:=by simp [uG,hg,h1]
 by_cases hb:b=want
 .obtain⟨s,k1,k2,k0,k3⟩:=taken (h3 hb);refine⟨s,k1,k2,k0,fun _ st' ha=>Jl (fun w g tmps hok=>?_) (k3 st' ha)⟩;have:=wY (all:=all) (j:=j) (want:=want) hok h1 (by rw [ha.env t hin];exact h2);simp [Region.wanted,hg,this,hb]
 have hb':b= !want:=by cases b <;> cases want <;> simp_all
 have hdw:∀d,o.dst=some d->d∈rY c o.dst o.op k:=by
  intro d e;cases k <;> simp [rY,lA,e]
 have same:∀st',AgreeD (uG c all o k) (nV k) (xP c o.dst o.op k) st st'->st'.upd (eX (rY c o.dst o.op k) (nV k) (st.put o.dst .und))=st'.put o.dst .und:=by
  intro st' ha;refine St.mk.injEq .. |>.mpr ⟨by cases o.dst <;> rfl,?_,?_,?_⟩
  .funext u;have:=pM (rY c o.dst o.op k) (nV k) (st.put o.dst .und) st' u;simp only [St.upd,eX] at this;rw [eX];simp only;rw [this];have hin':u∈rY c o.dst o.op k->st'.env u=st.env u:=fun hu=>ha.env u (by simp [uG,hu]);cases hd':o.dst with
   | none=>
    rw [hd'] at hin';split
    .rename_i hu;exact(hin' hu).symm
    rfl
   | some d=>
    rw [hd'] at hin';have hdw':=hdw d hd';rw [hd'] at hdw';simp only [St.put,St.set];by_cases hu:u=d
    .subst hu;simp [hdw']
    simp only [hu,aZ];split
    .rename_i h;exact(hin' h).symm
    rfl
  .simp only [eX];cases hl:(nV k).wL with
   | true=>have:=ha.loc (hfw.1 hl);cases o.dst <;> simp [St.put,St.set,this]
   | false=>cases o.dst <;> simp [St.put,St.set]
  simp only [eX];cases hl:(nV k).wO with
  | true=>
   have:=(ha.obj (hfw.2 hl)).1 (by cases ht:xP c o.dst o.op k with | false=>rfl | true=>have:=(Qt ht).2;rw [hl] at this;cases this);cases o.dst <;> simp [St.put,St.set,this]
  | false=>cases o.dst <;> simp [St.put,St.set]
 refine⟨_,h4 hb',(same st (uZ _ _ _).toD).symm,fun _=>⟨[],by cases o.dst <;> simp [St.put,St.set]⟩,fun _ st' ha=>?_⟩;rw [same st' ha];intro w g tmps hok hn;have hy:=wY (all:=all) (j:=j) (want:=want) hok h1 (by rw [ha.env t hin];exact h2);have hw:Region.wanted o (yielded all.toArray tmps)=false:=by simp [Region.wanted,hg,hy,hb]
 refine⟨fun h=>(by rw [hw] at h;cases h),fun _=>?_⟩;have hdst:∀d,o.dst=some d->d<tmps.size:=by
  intro d hd';have hd2:d<st.n:=by simpa [dD,hd'] using hd
  rw [hn,ha.n];exact hd2
 refine⟨_,g,rfl,Fr.refl w g,?_,by rw [Kt];exact hn⟩;rw [wN tmps [] o.dst undef hdst];exact hok.put o.dst .und undef fun t _=>aBr t
end
end Go.Vm
