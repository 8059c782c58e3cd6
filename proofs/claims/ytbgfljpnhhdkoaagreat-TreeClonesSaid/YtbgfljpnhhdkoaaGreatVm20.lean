import Derived.Test.YtbgfljpnhhdkoaaGreatVm18
import Derived.Orders
set_option linter.all false
namespace Go.Vm
open Go
variable {K K':St->Prop}{all:List Oper}{args:Array Operand}{c:Cfg}{dst:Option Tmp}{f:Fl}{o:Oper}{op:Op}{rs ws:List Nat}{st st':St}{tol:Bool}{ts:Array TypeId}
section
variable {P:Program}
def lS:Op->Bool
 | .call { callee:= .builtin _, .. } =>false
 | .call _=>true
 | .binOp _ _ _ y _=>xZ y
 | .range _ _ | .next _ _ | .entry _=>true
 | _=>false
theorem aUa (h:lS op=false):Gq op=false:=by
 cases op <;> first | rfl | simp [lS] at h
theorem aCe {op:BinOp} {t:TypeId} {x y:Slot} {K:D->Prop} (h:wA P op t x y K):∃d,K d/\wA P op t x y (· =d):=by
 unfold wA at *;split at h
 .obtain⟨h1,h2⟩:=h;unfold He at *;cases op <;> simp only at h2 |- <;> first | exact⟨_,h2,h1,rfl⟩ | exact⟨_,h2.2,h1,h2.1,rfl⟩ | exact⟨_,h2.2.2,h1,h2.1,h2.2.1,rfl⟩ | exact h2.elim
 .unfold Gz at *;cases op <;> simp only at h |- <;> first | exact⟨_,h,rfl⟩ | exact⟨_,h.2,h.1,rfl⟩ | exact h.elim
 .obtain⟨h1,h2⟩:=h;cases op <;> simp only at h2 |- <;> first | exact⟨_,h2,h1,rfl⟩ | exact h2.elim
 .obtain⟨h1,h2⟩:=h;cases op <;> simp only at h2 |- <;> first | (obtain⟨b,e1,e2⟩:=h2;exact⟨_,e2,h1,b,e1,rfl⟩) | exact h2.elim
 .obtain⟨h1,h2⟩:=h;cases op <;> simp only at h2 |- <;> first | exact⟨_,h2,h1,rfl⟩ | exact h2.elim
 .obtain⟨h1,h2⟩:=h;cases op <;> simp only at h2 |- <;> first | exact⟨_,h2,h1,rfl⟩ | exact h2.elim
 exact h.elim
theorem aLr {op:UnOp} {x:D} {K:D->Prop} (h:Hq op x K):∃d,K d/\Hq op x (· =d):=by
 unfold Hq at *;split at h
 .exact⟨_,h,rfl⟩
 .exact⟨_,h.2,h.1,rfl⟩
 exact h.elim
theorem aDf {f:Operand} (hk:∀s,K s->K' s)(h:dT P c dst (.call ⟨.value f,args,ts⟩) st K):dT P c dst (.call ⟨.value f,args,ts⟩) st K':=by
 have pc:∀f,mG P dst f args.toList st K->mG P dst f args.toList st K':=by
  intro f h;unfold mG at *;split at h
  .exact⟨h.1,h.2.1,h.2.2.mono fun r σ' hK=>hk _ hK⟩
  exact h
 have pt:∀fid,oZ P dst fid args.toList st K->oZ P dst fid args.toList st K':=fun fid h=>⟨h.1,h.2.1,h.2.2.mono fun r σ' hK=>hk _ hK⟩;simp only [dT,pU] at *;cases f with
 | func fid =>
  simp only at *;cases dst with
  | none=>exact pc _ h
  | some d=>
   simp only at *;split at h
   .rename_i ht;rw [aL ht];exact pt _ h
   rename_i ht;rw [aD ht];exact pc _ h
 | _=>exact pc _ h
theorem aQe (hc:lS op=false)(h:dT P c dst op st K):∃s,K s/\dT P c dst op st (· =s):=by
 have mv:∀x,kT c dst x st K->∃s,K s/\kT c dst x st (· =s):=by
  intro x h;unfold kT at *;split at h
  .split at h
   .exact⟨_,h,rfl⟩
   split at h
   .rename_i ht;exact⟨_,h.2.2,by rw [aL ht];exact⟨h.1,h.2.1,rfl⟩⟩
   rename_i ht;exact⟨_,h.2,by rw [aD ht];exact⟨h.1,rfl⟩⟩
  .exact h.elim
  exact⟨_,h,rfl⟩
 have ld:∀t x,jP P dst t x st K->∃s,K s/\jP P dst t x st (· =s):=by
  intro t x h;unfold jP at *;split at h
  .split at h
   .exact⟨_,h,rfl⟩
   exact h.elim
  exact h.elim
 cases op with
 | move x=>exact mv x h
 | assign x=>exact mv x h
 | binOp b t x y yt=>
  have hy:¬xZ y=true:=by simp only [lS] at hc;simp [hc]
  simp only [dT] at h |-;simp only [aD hy] at h |-;obtain⟨d,h1,h2⟩:=aCe (P:=P) h;exact⟨_,h1,Al (fun e he=>by rw [he]) h2⟩
 | unOp u t x=>
  simp only [dT] at h |-;obtain⟨d,h1,h2⟩:=aLr h;exact⟨_,h1,Eu (fun e he=>by rw [he]) h2⟩
 | load t x =>
  simp only [dT,lI] at *;split at h
  .split at h
   .rename_i htk;simp only [aL htk];split at h
    .split at h
     .split at h
      .exact⟨_,h.2.2,h.1,h.2.1,rfl⟩
      exact h.elim
     exact h.elim
    .split at h
     .split at h
      .exact⟨_,h.2.2,h.1,h.2.1,rfl⟩
      exact h.elim
     exact h.elim
    exact ld t x h
   rename_i htk;simp only [aD htk];exact ld t x h
  exact ld t x h
 | fieldAddr s x f=>
  simp only [dT,mO] at *;split at h
  .exact⟨_,h.2,h.1,rfl⟩
  exact h.elim
 | indexAddr t x i =>
  simp only [dT,mN] at *;split at h
  .split at h
   .split at h
    .exact⟨_,h.2.2.2,h.1,h.2.1,h.2.2.1,rfl⟩
    exact h.elim
   split at h
   .exact⟨_,h.2.2,h.1,h.2.1,rfl⟩
   exact h.elim
  exact h.elim
 | index t x i =>
  simp only [dT,vF] at *;split at h
  .exact⟨_,h.2.2,h.1,h.2.1,rfl⟩
  .split at h
   .split at h
    .split at h
     .exact⟨_,h.2,h.1,rfl⟩
     exact h.elim
    exact h.elim
   exact h.elim
  exact h.elim
 | slice t x lo hi mx =>
  simp only [dT,vP] at *;split at h
  .obtain⟨h1,h2,h3⟩:=h;split at h3
   .exact⟨_,h3.2,h1,h2,h3.1,rfl⟩
   exact h3.elim
  .split at h
   .split at h
    .split at h
     .exact⟨_,h.2.2,h.1,h.2.1,rfl⟩
     exact h.elim
    split at h
    .exact⟨_,h.2.2,h.1,h.2.1,rfl⟩
    exact h.elim
   exact h.elim
  exact h.elim
 | pick a x y =>
  simp only [dT,Aw] at *;split at h
  .rename_i t ht;cases t with
   | true=>exact⟨_,(h.1 rfl).2,fun _=>⟨(h.1 rfl).1,rfl⟩,fun e=>(by cases e)⟩
   | false=>exact⟨_,(h.2 rfl).2,fun e=>(by cases e),fun _=>⟨(h.2 rfl).1,rfl⟩⟩
  exact h.elim
 | extract x i =>
  simp only [dT,qO] at *;split at h
  .split at h
   .split at h
    .obtain⟨h1,h2⟩:=h;split at h2
     .rename_i ht;exact⟨_,h2.2.2,h1,by rw [aL ht];exact⟨h2.1,h2.2.1,rfl⟩⟩
     rename_i ht;exact⟨_,h2,h1,by rw [aD ht]⟩
    exact h.elim
   exact h.elim
  exact h.elim
 | makeFunc f first caps=>exact⟨_,h.2,h.1,rfl⟩
 | nilCheck x=>exact⟨_,h.2,h.1,rfl⟩
 | convert s d x=>
  simp only [dT,qM] at *;split at h
  .obtain⟨a,b,h1,h2,h3,h4⟩:=h;exact⟨_,h4,a,b,h1,h2,h3,rfl⟩
  .exact⟨_,h.2.2,h.1,h.2.1,rfl⟩
  exact h.elim
 | alloc e =>
  simp only [dT,tH] at *;split at h
  .split at h
   .rename_i he;exact⟨_,h,by rw [aL he]⟩
   rename_i he;exact⟨_,h,by rw [aD he]⟩
  exact h.elim
 | box e x =>
  simp only [dT,Hk] at *;split at h
  .obtain⟨h1,h2⟩:=h;split at h2
   .rename_i hi;exact⟨_,h2,h1,by rw [aL hi]⟩
   rename_i hi;split at h2
   .rename_i he;exact⟨_,h2,h1,by rw [aD hi,aL he]⟩
   rename_i he;exact⟨_,h2,h1,by rw [aD hi,aD he]⟩
  exact h.elim
 | store t a v =>
  simp only [dT,xN] at *;obtain⟨h1,h2,h3,h4⟩:=h;split at h4
  .split at h4
   .exact⟨_,h4.2,h1,h2,h3,h4.1,rfl⟩
   exact h4.elim
  .split at h4
   .exact⟨_,h4.2,h1,h2,h3,h4.1,rfl⟩
   exact h4.elim
  exact h4.elim
 | build t parts =>
  simp only [dT,vH] at *;split at h
  .split at h
   .exact⟨_,h,rfl⟩
   exact h.elim
  exact h.elim
 | buildSlice t len parts=>
  simp only [dT,lM] at *;split at h
  .exact⟨_,h.2.2,h.1,h.2.1,rfl⟩
  exact h.elim
 | call call =>
  obtain⟨callee,args,ts⟩:=call;cases callee with
  | builtin b =>
   simp only [dT,pU,sF] at *;split at h
   .simp only [Jj] at *;split at h
    .exact⟨_,h.2,h.1,rfl⟩
    .exact⟨_,h.2,h.1,rfl⟩
    exact h.elim
   .simp only [sK] at *;split at h
    .obtain⟨h1,h2,h3,h4,h5⟩:=h;split at h5
     .exact⟨_,h5.2,h1,h2,h3,h4,h5.1,rfl⟩
     .exact⟨_,h5,h1,h2,h3,h4,rfl⟩
     exact h5.elim
    exact h.elim
   .simp only [xC] at *;split at h
    .exact⟨_,h.2,h.1,rfl⟩
    exact h.elim
   .simp only [xC] at *;split at h
    .exact⟨_,h.2,h.1,rfl⟩
    exact h.elim
   exact h.elim
  | _=>simp [lS] at hc
 | range t x=>simp [lS] at hc
 | next x s=>simp [lS] at hc
 | entry x=>simp [lS] at hc
 | _=>exact h.elim
theorem Zc (hk:∀s,K s->K' s)(h:dT P c dst op st K):dT P c dst op st K':=by
 have mv:∀x,kT c dst x st K->kT c dst x st K':=by
  intro x h;unfold kT at *;split at h
  .split at h
   .exact hk _ (h)
   split at h
   .rename_i ht;exact(by rw [aL ht];exact⟨h.1,h.2.1,hk _ (h.2.2)⟩)
   rename_i ht;exact(by rw [aD ht];exact⟨h.1,hk _ (h.2)⟩)
  .exact h.elim
  exact hk _ (h)
 have ld:∀t x,jP P dst t x st K->jP P dst t x st K':=by
  intro t x h;unfold jP at *;split at h
  .split at h
   .exact hk _ (h)
   exact h.elim
  exact h.elim
 cases op with
 | move x=>exact mv x h
 | assign x=>exact mv x h
 | binOp b t x y yt=>
  simp only [dT] at h |-;split at h
  .rename_i hy;rw [aL hy];exact Xo hk h
  rename_i hy;rw [aD hy];exact Al (fun e he=>hk _ he) h
 | unOp u t x=>
  simp only [dT] at h |-;exact Eu (fun e he=>hk _ he) h
 | load t x =>
  simp only [dT,lI] at *;split at h
  .split at h
   .rename_i htk;simp only [aL htk];split at h
    .split at h
     .split at h
      .exact⟨h.1,h.2.1,hk _ (h.2.2)⟩
      exact h.elim
     exact h.elim
    .split at h
     .split at h
      .exact⟨h.1,h.2.1,hk _ (h.2.2)⟩
      exact h.elim
     exact h.elim
    exact ld t x h
   rename_i htk;simp only [aD htk];exact ld t x h
  exact ld t x h
 | fieldAddr s x f=>
  simp only [dT,mO] at *;split at h
  .exact⟨h.1,hk _ (h.2)⟩
  exact h.elim
 | indexAddr t x i =>
  simp only [dT,mN] at *;split at h
  .split at h
   .split at h
    .exact⟨h.1,h.2.1,h.2.2.1,hk _ (h.2.2.2)⟩
    exact h.elim
   split at h
   .exact⟨h.1,h.2.1,hk _ (h.2.2)⟩
   exact h.elim
  exact h.elim
 | index t x i =>
  simp only [dT,vF] at *;split at h
  .exact⟨h.1,h.2.1,hk _ (h.2.2)⟩
  .split at h
   .split at h
    .split at h
     .exact⟨h.1,hk _ h.2⟩
     exact h.elim
    exact h.elim
   exact h.elim
  exact h.elim
 | slice t x lo hi mx =>
  simp only [dT,vP] at *;split at h
  .obtain⟨h1,h2,h3⟩:=h;split at h3
   .exact⟨h1,h2,h3.1,hk _ (h3.2)⟩
   exact h3.elim
  .split at h
   .split at h
    .split at h
     .exact⟨h.1,h.2.1,hk _ (h.2.2)⟩
     exact h.elim
    split at h
    .exact⟨h.1,h.2.1,hk _ (h.2.2)⟩
    exact h.elim
   exact h.elim
  exact h.elim
 | pick a x y=>
  simp only [dT,Aw] at *;split at h
  .rename_i t ht;exact⟨fun ht=>⟨(h.1 ht).1,hk _ (h.1 ht).2⟩,fun ht=>⟨(h.2 ht).1,hk _ (h.2 ht).2⟩⟩
  exact h.elim
 | extract x i =>
  simp only [dT,qO] at *;split at h
  .split at h
   .split at h
    .obtain⟨h1,h2⟩:=h;split at h2
     .rename_i ht;exact⟨h1,(by rw [aL ht];exact⟨h2.1,h2.2.1,hk _ (h2.2.2)⟩)⟩
     rename_i ht;exact⟨h1,(by rw [aD ht];exact hk _ (h2))⟩
    exact h.elim
   exact h.elim
  exact h.elim
 | makeFunc f first caps=>exact⟨h.1,hk _ (h.2)⟩
 | nilCheck x=>exact⟨h.1,hk _ (h.2)⟩
 | convert s d x=>
  simp only [dT,qM] at *;split at h
  .obtain⟨a,b,h1,h2,h3,h4⟩:=h;exact⟨a,b,h1,h2,h3,hk _ (h4)⟩
  .exact⟨h.1,h.2.1,hk _ (h.2.2)⟩
  exact h.elim
 | alloc e =>
  simp only [dT,tH] at *;split at h
  .split at h
   .rename_i he;exact(by rw [aL he];exact hk _ (h))
   rename_i he;exact(by rw [aD he];exact hk _ (h))
  exact h.elim
 | box e x =>
  simp only [dT,Hk] at *;split at h
  .obtain⟨h1,h2⟩:=h;split at h2
   .rename_i hi;exact⟨h1,(by rw [aL hi];exact hk _ (h2))⟩
   rename_i hi;split at h2
   .rename_i he;exact⟨h1,(by rw [aD hi,aL he];exact hk _ (h2))⟩
   rename_i he;exact⟨h1,(by rw [aD hi,aD he];exact hk _ (h2))⟩
  exact h.elim
 | store t a v =>
  simp only [dT,xN] at *;obtain⟨h1,h2,h3,h4⟩:=h;split at h4
  .split at h4
   .exact⟨h1,h2,h3,h4.1,hk _ (h4.2)⟩
   exact h4.elim
  .split at h4
   .exact⟨h1,h2,h3,h4.1,hk _ (h4.2)⟩
   exact h4.elim
  exact h4.elim
 | build t parts =>
  simp only [dT,vH] at *;split at h
  .split at h
   .exact hk _ (h)
   exact h.elim
  exact h.elim
 | buildSlice t len parts=>
  simp only [dT,lM] at *;split at h
  .exact⟨h.1,h.2.1,hk _ (h.2.2)⟩
  exact h.elim
 | call call =>
  obtain⟨callee,args,ts⟩:=call;cases callee with
  | builtin b =>
   simp only [dT,pU,sF] at *;split at h
   .simp only [Jj] at *;split at h
    .exact⟨h.1,hk _ (h.2)⟩
    .exact⟨h.1,hk _ (h.2)⟩
    exact h.elim
   .simp only [sK] at *;split at h
    .obtain⟨h1,h2,h3,h4,h5⟩:=h;split at h5
     .exact⟨h1,h2,h3,h4,h5.1,hk _ (h5.2)⟩
     .exact⟨h1,h2,h3,h4,hk _ (h5)⟩
     exact h5.elim
    exact h.elim
   .simp only [xC] at *;split at h
    .exact⟨h.1,hk _ (h.2)⟩
    exact h.elim
   .simp only [xC] at *;split at h
    .exact⟨h.1,hk _ (h.2)⟩
    exact h.elim
   exact h.elim
  | value f=>exact aDf hk h
  | invoke r m=>exact h.elim
 | _=>exact h.elim
theorem aWe (h:vcX P dst op st K):∃s,K s/\vcX P dst op st (· =s):=by
 unfold vcX at *;split at h
 .split at h
  .simp only [Fb] at *;obtain⟨h0,h⟩:=h;split at h <;> first | exact⟨_,h,h0,rfl⟩ | exact h.elim
  exact h.elim
 .split at h
  .simp only [qC] at *;split at h
   .obtain⟨h0,h1,h2,h3⟩:=h;split at h3 <;> first | exact⟨_,h3.2,h0,h1,h2,h3.1,rfl⟩ | (obtain⟨ds,es,h4,h5⟩:=h3;exact⟨_,h5,h0,h1,h2,ds,es,h4,rfl⟩) | exact h3.elim
   exact h.elim
  exact h.elim
 .split at h
  .simp only [uU] at *;obtain⟨h0,h⟩:=h;split at h
   .split at h
    .exact⟨_,h.2,h0,h.1,rfl⟩
    exact h.elim
   exact h.elim
  exact h.elim
 .simp only [lJ] at *;split at h
  .exact⟨_,h.2,h.1,rfl⟩
  exact h.elim
 .simp only [sH] at *;split at h
  .split at h
   .exact⟨_,h.2,h.1,rfl⟩
   exact h.elim
  exact h.elim
 exact h.elim
theorem aTs (hk:∀s,K s->K' s)(h:vcX P dst op st K):vcX P dst op st K':=by
 unfold vcX at *;split at h
 .split at h
  .simp only [Fb] at *;obtain⟨h0,h⟩:=h;split at h <;> first | exact⟨h0,hk _ h⟩ | exact h.elim
  exact h.elim
 .split at h
  .simp only [qC] at *;split at h
   .obtain⟨h0,h1,h2,h3⟩:=h;split at h3 <;> first | exact⟨h0,h1,h2,h3.1,hk _ h3.2⟩ | (obtain⟨ds,es,h4,h5⟩:=h3;exact⟨h0,h1,h2,ds,es,h4,hk _ h5⟩) | exact h3.elim
   exact h.elim
  exact h.elim
 .split at h
  .simp only [uU] at *;obtain⟨h0,h⟩:=h;split at h
   .split at h
    .exact⟨h0,h.1,hk _ h.2⟩
    exact h.elim
   exact h.elim
  exact h.elim
 .simp only [lJ] at *;split at h
  .exact⟨h.1,hk _ h.2⟩
  exact h.elim
 .simp only [sH] at *;split at h
  .split at h
   .exact⟨h.1,hk _ h.2⟩
   exact h.elim
  exact h.elim
 exact h.elim
theorem aAi (hc:lS op=false)(h:iV P c dst op st K):∃s,K s/\iV P c dst op st (· =s):=by
 unfold iV at *;by_cases hy:Ey c dst op=true
 .simp only [hy,aU] at *;obtain⟨sets,ob,h1,hK⟩:=h;exact⟨_,hK,sets,ob,h1,rfl⟩
 simp only [hy] at *;by_cases hu:Pv c dst op=true
 .simp only [hu,aU] at *;exact aWe h
 simp only [hu] at *;exact aQe hc h
theorem Av (hk:∀s,K s->K' s)(h:iV P c dst op st K):iV P c dst op st K':=by
 unfold iV at *;by_cases hy:Ey c dst op=true
 .simp only [hy,aU] at *;obtain⟨sets,ob,h1,hK⟩:=h;exact⟨sets,ob,h1,hk _ hK⟩
 simp only [hy] at *;by_cases hu:Pv c dst op=true
 .simp only [hu,aU] at *;exact aTs hk h
 simp only [hu] at *;exact Zc hk h
def Lm(c:Cfg)(dst:Option Tmp):Op->Bool
 | .load t a=> !dst.any c.take.contains && !Ey c dst (.load t a) && !Pv c dst (.load t a)
 | .lookup _ _ _ _=>true
 | .call ⟨.builtin .len,args,ts⟩=>Ey c dst (.call ⟨.builtin .len,args,ts⟩)
 | _=>false
def Uj(c:Cfg)(dst:Option Tmp):Op->Bool
 | .makeMap _ _=>true
 | .alloc e=>dst.any c.esc.contains && !Ey c dst (.alloc e) && !Pv c dst (.alloc e)
 | .box e x=>dst.any c.esc.contains && !dst.any c.imm.contains && !Ey c dst (.box e x) && !Pv c dst (.box e x)
 | _=>false
structure AgreeT(rs:List Nat)(f:Fl)(st st':St):Prop where
 n:st'.n=st.n
 env:∀t,t∈rs->st'.env t=st.env t
 loc:f.rL=true->st'.loc=st.loc
 obj:f.rO=true->∃J,st'.obj=st.obj++J
theorem Qt {α:Type} {l J:List α} {n:Nat} {x:α} (h:l[n]?=some x):(l++J)[n]?=some x:=by
 rw [bB (aN.1 h).1];exact h
theorem aLm {args:List Operand} {ts:List TypeId} {f g:Operand->TypeId->pM} {sets:List (Nat×Slot)} {ob:Option (List (List D))} (h:∀x t,f x t sets ob->g x t sets ob)(hy:yA1 args ts f sets ob):yA1 args ts g sets ob:=by
 match args,ts with
 | [x], [t]=>exact h x t hy
 | [],_=>exact hy.elim
 | _::_::_,_=>exact hy.elim
 | [_], []=>exact hy.elim
 | [_],_::_::_=>exact hy.elim
theorem aTx (ht:Lm c dst op=true)(hrs:∀t,t∈jZ op->t∈rs)(ha:AgreeT rs (pN c dst st op) st st')(h:iV P c dst op st K):iV P c dst op st' (Tr (pB c dst op) (pN c dst st op) st st' K):=by
 have rdS:∀x,x∈op.operands.toList->st'.rdS x=st.rdS x:=fun x hx=>by
  cases x with
  | tmp t=>exact ha.env t (hrs t (eH hx t rfl))
  | _=>rfl
 have goY:Ey c dst op=true->(∀rd obj J sets ob,yR P (Rh c dst op) dst op rd obj sets ob->yR P (Rh c dst op) dst op rd (obj++J) sets ob)->iV P c dst op st' (Tr (pB c dst op) (pN c dst st op) st st' K):=by
  intro hy hm;have hw:pB c dst op=dst.toList++jZ op:=by simp [pB,hy]
  unfold iV pN at *;simp only [hy,aU] at *;obtain⟨sets,ob,h1,hK⟩:=h;obtain⟨s1,s2⟩:=aAp h1;refine⟨sets,ob,?_,⟨sets,none,ob⟩,⟨fun p hp=>by rw [hw];exact s1 p hp,by simp,s2⟩,hK,rfl⟩;rw [Ux rdS];by_cases hr:(flY (Rh c dst op) op).rO=true
  .simp only [hr,aU] at h1 |-;obtain⟨J,hJ⟩:=ha.obj hr;rw [hJ];exact hm _ _ _ _ _ h1
  simp only [hr] at h1 |-;exact h1
 cases op with
 | load t a =>
  simp only [Lm,gO,lV] at ht;obtain⟨⟨h1,h2⟩,h3⟩:=ht;have ld:∀K,jP P dst t a st K->st'.cellsAt (st'.rdS a)=st.cellsAt (st.rdS a)->jP P dst t a st' (Tr (pB c dst (.load t a)) (pN c dst st (.load t a)) st st' K):=by
   intro K h he;unfold jP at *;rw [he];split at h
   .split at h
    .exact Ww jY h
    exact h.elim
   exact h.elim
  have tk:∀st K,lI P c dst t a st K=jP P dst t a st K:=by
   intro st K;unfold lI;split
   .rename_i d _;have:c.take.contains d=false:=by simpa using h1
    simp only [this];rfl
   rfl
  have hfl:pN c dst st (.load t a)=kA (dst.any c.take.contains) (st.rdS a):=by
   unfold pN;simp only [h2,h3];rfl
  have key:iV P c dst (.load t a) st K=jP P dst t a st K:=by
   unfold iV;simp only [h2,h3,dT,tk];rfl
  have key':∀K,iV P c dst (.load t a) st' K=jP P dst t a st' K:=fun K=>by
   unfold iV;simp only [h2,h3,dT,tk];rfl
  rw [key] at h;rw [key'];refine ld K h ?_;have he:st'.rdS a=st.rdS a:=rdS a (by simp [Op.operands]);rw [he];unfold jP at h;rw [hfl] at ha;cases hs:st.rdS a with
  | lref n off=>rw [hs] at ha;simp only [St.cellsAt];rw [ha.loc rfl]
  | d x =>
   cases x with
   | ref n off=>
    rw [hs] at ha h;obtain⟨J,hJ⟩:=ha.obj rfl;simp only [St.cellsAt] at h |-;rw [hJ];cases hg:st.obj[n]? with
    | none=>rw [hg] at h;simp at h
    | some cs=>rw [Qt hg]
   | _=>rfl
 | lookup t x k ok=>
  refine goY rfl fun rd obj J sets ob hy=>?_;simp only [yR,vK] at hy |-;split at hy
  .obtain⟨m,i,clock,kvs,dv,b,⟨⟨cs,g1,g2⟩,g3⟩,g4⟩:=hy;exact⟨m,i,clock,kvs,dv,b,⟨⟨cs,Qt g1,g2⟩,g3⟩,g4⟩
  .exact hy
  exact hy.elim
 | call call =>
  obtain⟨callee,args,ts⟩:=call;cases callee with
  | builtin b =>
   cases b with
   | len =>
    refine goY ht fun rd obj J sets ob hy=>?_;simp only [yR] at hy |-;refine aLm (fun x t hy=>?_) hy;split at hy
    .rename_i h;rw [aL h];unfold Lg at hy |-;split at hy
     .obtain⟨m,i,clock,kvs,⟨cs,g1,g2⟩,g4⟩:=hy;exact⟨m,i,clock,kvs,⟨cs,Qt g1,g2⟩,g4⟩
     exact hy.elim
    rename_i h;rw [aD h];exact hy
   | _=>simp [Lm] at ht
  | _=>simp [Lm] at ht
 | _=>simp [Lm] at ht
theorem aRu {s:St} (ha:Uj c dst op=true)(h:iV P c dst op st (· =s)):∃J,s.obj=st.obj++J:=by
 cases op with
 | makeMap t r=>
  unfold iV at h;simp only [Ey,isY,Bool.true_or,aU] at h;obtain⟨sets,ob,h1,rfl⟩:=h;have hf:(flY (Rh c dst (.makeMap t r)) (.makeMap t r)).rO=true:=rfl;simp only [hf,aU,yR,sM] at h1;split at h1
  .obtain⟨_,rfl,rfl⟩:=h1;exact⟨[[]],rfl⟩
  exact h1.elim
 | alloc e =>
  simp only [Uj,gO,lV] at ha;obtain⟨⟨h1,h2⟩,h3⟩:=ha;unfold iV at h;simp only [h2,h3,dT,tH] at h;simp only [gN,bJ] at h;split at h
  .rename_i cs d _;have:c.esc.contains d=true:=by simpa using h1
   simp only [this,aU] at h;subst h;exact⟨[cs],rfl⟩
  exact h.elim
 | box e x =>
  simp only [Uj,gO,lV] at ha;obtain⟨⟨⟨h1,h0⟩,h2⟩,h3⟩:=ha;unfold iV at h;simp only [h2,h3,dT,Hk] at h;simp only [gN,bJ] at h;split at h
  .rename_i d;have e1:c.esc.contains d=true:=by simpa using h1
   have e2:c.imm.contains d=false:=by simpa using h0
   simp only [e1,e2,aU] at h;simp only [gN,bJ] at h;obtain⟨_,rfl⟩:=h;exact⟨_,rfl⟩
  exact h.elim
 | _=>simp [Uj] at ha
inductive DK where
 | op (f:Fl)
 | pure
 | det
 | pureT
 | detT
 | read
 | pureC
 | readT
 | detA
 | nd
def DK.isNd:DK->Bool
 | .nd=>true
 | _=>false
def sD:DK->Fl
 | .op f=>f
 | .pure=>⟨false,false,false,false⟩
 | .pureT=>⟨false,false,false,false⟩
 | .detT=>⟨false,false,true,true⟩
 | .det=>⟨false,false,true,true⟩
 | .read=>⟨false,false,true,false⟩
 | .pureC=>⟨false,false,false,false⟩
 | .readT=>⟨false,false,true,false⟩
 | .detA=>⟨false,false,true,true⟩
 | .nd=>⟨false,false,true,true⟩
def Ga(c:Cfg)(dst:Option Tmp)(op:Op):DK->Bool
 | .op f=>f.rO && !f.wO && Lm c dst op
 | .readT=>true
 | _=>false
def aFx(c:Cfg)(dst:Option Tmp)(op:Op):DK->Bool
 | .op _=>Uj c dst op
 | .detA=>true
 | _=>false
theorem aAs {k:DK} (h:Ga c dst op k=true):(sD k).rO=true/\(sD k).wO=false:=by
 cases k <;> simp_all [Ga,sD]
def wY(c:Cfg)(dst:Option Tmp)(op:Op):DK->List Nat
 | .op _=>pB c dst op
 | .pureT | .detT=>dst.toList++jZ op
 | _=>dst.toList
def aXp(P:Program)(dst:Option Tmp)(op:Op)(st:St)(Q:D->List (List D)->Prop):Prop:=match op with
 | .call { callee:= .value (.func f),args, .. } =>mM args.toList st/\Ct P f (iG args.toList st) st.obj Q/\∃r σ0,Q r σ0
 | _=>False
def zP(P:Program)(c:Cfg)(dst:Option Tmp)(op:Op)(k:DK)(st:St)(K:St->Prop):Prop:=
 match k with
 | .op f=>lS op=false/\pN c dst st op=f/\iV P c dst op st K
 | .pure=>match op with
  | .call { callee:= .value (.func f),args, .. } =>mM args.toList st/\∃r,(∀σ,Ct P f (iG args.toList st) σ fun r' σ'=>r'=r/\σ'=σ)/\K (st.put dst (.d r))
  | _=>False
 | .read=>match op with
  | .call { callee:= .value (.func f),args, .. } =>mM args.toList st/\∃r,(Ct P f (iG args.toList st) st.obj fun r' σ'=>r'=r/\σ'=st.obj)/\K (st.put dst (.d r))
  | _=>False
 | .pureC => match op with
  | .call { callee:= .value f,args, .. } =>match st.rd f with
   | .clo (.func fid) first caps=>(∀d∈first++caps,d.plain=true)/\mM args.toList st/\∃r,(∀σ,Ct P fid (first.map D.strip++iG args.toList st++caps.map D.strip) σ fun r' σ'=>r'=r/\σ'=σ)/\K (st.put dst (.d r))
   | _=>False
  | _=>False
 | .readT=>match op with
  | .call { callee:= .value (.func f),args, .. } =>mM args.toList st/\∃r,(∀J,Ct P f (iG args.toList st) (st.obj++J) fun r' σ'=>r'=r/\σ'=st.obj++J)/\K (st.put dst (.d r))
  | _=>False
 | .nd=>∃Q,aXp P dst op st Q/\∀r σ0,Q r σ0->K (({ st with obj:=σ0 } :St).put dst (.d r))
 | .detA=>match op with
  | .call { callee:= .value (.func f),args, .. } =>mM args.toList st/\∃r J,(Ct P f (iG args.toList st) st.obj fun r' σ'=>r'=r/\σ'=st.obj++J)/\K (({ st with obj:=st.obj++J } :St).put dst (.d r))
  | _=>False
 | .det=>match op with
  | .call { callee:= .value (.func f),args, .. } =>mM args.toList st/\∃r σ0,(Ct P f (iG args.toList st) st.obj fun r' σ'=>r'=r/\σ'=σ0)/\K (({ st with obj:=σ0 } :St).put dst (.d r))
  | _=>False
 | .pureT => match dst, op with
  | some d,.call { callee:= .value (.func f),args, .. } =>(args.toList.filterMap cM).Nodup/\(∀x∈args.toList,zV (st.rdS x)=true/\(st.rd x).plain=true)/\
   ∃r,(∀σ,Ct P f (args.toList.map (wC st)) σ fun r' σ'=>r'=r/\σ'=σ)/\K (({ st with env:=gS (args.toList.map cM) st.env } :St).put (some d) (.d r))
  | _,_=>False
 | .detT => match dst, op with
  | some d,.call { callee:= .value (.func f),args, .. } =>(args.toList.filterMap cM).Nodup/\(∀x∈args.toList,zV (st.rdS x)=true/\(st.rd x).plain=true)/\
   ∃r σ0,(Ct P f (args.toList.map (wC st)) st.obj fun r' σ'=>r'=r/\σ'=σ0)/\K (({ st with env:=gS (args.toList.map cM) st.env,obj:=σ0 } :St).put (some d) (.d r))
  | _,_=>False
def zR(c:Cfg)(all:List Oper)(o:Oper)(k:DK):List Nat:=wY c o.dst o.op k++jZ o.op++match o.guard with
 | none=> []
 | some (j,_)=>(aO all j).toList
def gI(ws:List Nat)(f:Fl)(s:St):Delta:=⟨ws.map fun t=>(t,s.env t),if f.wL then some s.loc else none,if f.wO then some s.obj else none⟩
theorem tZ(ws:List Nat)(f:Fl)(s st:St)(t:Nat):(st.upd (gI ws f s)).env t=if t∈ws then s.env t else st.env t:=by
 simp only [St.upd,gI];exact Am ws s.env st.env t
def Pf(P:Program)(all:List Oper)(o:Oper)(st:St)(K:St->Prop):Prop:=
 ∀(w:World) (g:Gh) (tmps:Array Value),Ok w g st (cG tmps)->tmps.size=st.n->
  (Region.wanted o (yielded all.toArray tmps)=true->o.wp P ⟨tmps, []⟩ w (fun a w'=>a.defers= []/\∃st' g',K st'/\Fr w g w' g'/\Ok w' g' st' (cG a.tmps)/\a.tmps.size=st'.n) (fun _ _ _=>False))/\
  (Region.wanted o (yielded all.toArray tmps)=false->∃st' g',K st'/\Fr w g w g'/\Ok w g' st' (cG ((⟨tmps, []⟩:Act).put o.dst undef).tmps)/\tmps.size=st'.n)
structure AgreeD(rs:List Nat)(f:Fl)(tol:Bool)(st st':St):Prop where
 n:st'.n=st.n
 env:∀t,t∈rs->st'.env t=st.env t
 loc:f.rL=true->st'.loc=st.loc
 obj:f.rO=true->(tol=false->st'.obj=st.obj)/\∃J,st'.obj=st.obj++J
theorem Agree.toD (h:Agree rs f st st'):AgreeD rs f tol st st':=⟨h.n,h.env,h.loc,fun e=>⟨fun _=>h.obj e, [],by rw [h.obj e,gG]⟩⟩
theorem AgreeD.toA (h:AgreeD rs f false st st'):Agree rs f st st':=⟨h.n,h.env,h.loc,fun e=>(h.obj e).1 rfl⟩
theorem AgreeD.toT (h:AgreeD rs f tol st st'):AgreeT rs f st st':=⟨h.n,h.env,h.loc,fun e=>(h.obj e).2⟩
structure Step(P:Program)(c:Cfg)(all:List Oper)(o:Oper)(k:DK)(st s:St):Prop where
 self:s=st.upd (gI (wY c o.dst o.op k) (sD k) s)
 app:aFx c o.dst o.op k=true->∃J,s.obj=st.obj++J
 go:k.isNd=false->∀st',AgreeD (zR c all o k) (sD k) (Ga c o.dst o.op k) st st'->Pf P all o st' (· =st'.upd (gI (wY c o.dst o.op k) (sD k) s))
theorem aIr(c:Cfg)(dst:Option Tmp)(st:St)(op:Op):((iU c dst st op).wL=true->(iU c dst st op).rL=true)/\((iU c dst st op).wO=true->(iU c dst st op).rO=true):=by
 have ad:∀w s,((kA w s).wL=true->(kA w s).rL=true)/\((kA w s).wO=true->(kA w s).rO=true):=by
  intro w s;cases s with
  | lref n o=>simp [kA]
  | d d=>cases d <;> simp [kA]
 cases op <;> simp only [iU] <;> try exact⟨id,id⟩
 .split <;> simp
 .split
  .simp
  split <;> simp
 .exact ad _ _
 .exact ad _ _
 rename_i call;obtain⟨callee,args,ts⟩:=call;cases callee <;> exact⟨id,id⟩
theorem Re(c:Cfg)(dst:Option Tmp)(st:St)(op:Op):((pN c dst st op).wL=true->(pN c dst st op).rL=true)/\((pN c dst st op).wO=true->(pN c dst st op).rO=true):=by
 unfold pN;split
 .unfold flY;split <;> first | (simp;done) | (split <;> simp)
 split
 .unfold flX;split <;> simp
 exact aIr c dst st op
theorem Rv {δ:Delta} (hδ:δ.ok ws f)(hw:(f.wL=true->f.rL=true)/\(f.wO=true->f.rO=true))(ha:Agree ws f st st'):st'.upd δ=st'.upd (gI ws f (st.upd δ)):=by
 have key:∀t,gA δ.sets st'.env t=if t∈ws then gA δ.sets st.env t else st'.env t:=by
  intro t;split
  .rename_i ht;have:∀(l:List (Nat×Slot)) (e e':Nat->Slot),e t=e' t->gA l e t=gA l e' t:=by
    intro l;induction l with
    | nil=>intro e e' h;exact h
    | cons p l ih=>
     obtain⟨x,y⟩:=p;intro e e' h;exact ih _ _ (by split <;> first | rfl | exact h)
   exact this _ _ _ (ha.env t ht)
  rename_i ht;exact aAf fun p hp e=>ht (by rw [<- e];exact hδ.sets p hp)
 have h1:(st'.upd δ).env=(st'.upd (gI ws f (st.upd δ))).env:=by
  funext t;rw [tZ];exact key t
 have h2:(st'.upd δ).loc=(st'.upd (gI ws f (st.upd δ))).loc:=by
  simp only [St.upd,gI];cases hl:f.wL with
  | true=>
   simp only [aU,kG];rw [ha.loc (hw.1 hl)]
  | false=>
   cases hd:δ.loc with
   | none=>simp
   | some l=>have:=hδ.loc (by simp [hd]);rw [hl] at this;cases this
 have h3:(st'.upd δ).obj=(st'.upd (gI ws f (st.upd δ))).obj:=by
  simp only [St.upd,gI];cases hl:f.wO with
  | true=>
   simp only [aU,kG];rw [ha.obj (hw.2 hl)]
  | false=>
   cases hd:δ.obj with
   | none=>simp
   | some l=>have:=hδ.obj (by simp [hd]);rw [hl] at this;cases this
 show(⟨_,_,_,_⟩:St)=⟨_,_,_,_⟩
 congr 1
theorem aFd (h:AgreeD rs f tol st st') {x:Operand} (hx:∀t,cM x=some t->t∈rs):st'.rd x=st.rd x:=
 lO (rs:=rs) (f:=⟨false,false,false,false⟩) ⟨h.n,h.env,fun e=>(by cases e),fun e=>(by cases e)⟩ hx
theorem aJx {δ:Delta} (hδ:δ.ok ws f)(hw:f.wL=true->f.rL=true)(hO:f.wO=false)(ha:AgreeT ws f st st'):st'.upd δ=st'.upd (gI ws f (st.upd δ)):=by
 have:=Rv (st':= { st' with obj:=st.obj }) hδ ⟨hw,fun h=>by rw [hO] at h;cases h⟩ ⟨ha.n,ha.env,ha.loc,fun _=>rfl⟩;have hn:δ.obj=none:=by
  cases hd:δ.obj with
  | none=>rfl
  | some l=>have:=hδ.obj (by simp [hd]);rw [hO] at this;cases this
 simp only [St.upd,gI,hn,hO,St.mk.injEq] at this |-;simpa using this
theorem Az(rs:List Nat)(f:Fl)(st:St):Agree rs f st st:=⟨rfl,fun _ _=>rfl,fun _=>rfl,fun _=>rfl⟩
theorem Agree.sub {rs':List Nat} (h:Agree rs f st st')(hs:∀t,t∈rs'->t∈rs):Agree rs' f st st':=⟨h.n,fun t ht=>h.env t (hs t ht),h.loc,h.obj⟩
theorem Wb (hw:∀(w:World) (g:Gh) (tmps:Array Value),Ok w g st (cG tmps)->Region.wanted o (yielded all.toArray tmps)=true)(h:Does P o st K):Pf P all o st K:=by
 intro w g tmps hok hn;refine⟨fun _=>?_,fun hf=>by rw [hw w g tmps hok] at hf;cases hf⟩;exact Oper.wp_mono (fun a w' ⟨h1,st',g',h2,h3,h4,h5,_⟩=>⟨h1,st',g',h2,h3,h4,h5⟩) (h w g tmps hok hn)
theorem Dn {f:FuncId} {d:Nat} {r:Slot} {e e':Nat->Slot} (he:∀t,t∈jZ (.call ⟨.value (.func f),args,ts⟩)->e' t=e t)(u:Nat):
  gA (((some d).toList++jZ (.call ⟨.value (.func f),args,ts⟩)).map fun t=>(t,if t=d then r else gS (args.toList.map cM) e t)) e' u=if u=d then r else gS (args.toList.map cM) e' u:=by
 rw [Am];by_cases hu:u=d
 .subst hu;simp
 simp only [hu,bJ];by_cases hm:u∈jZ (.call ⟨.value (.func f),args,ts⟩)
 .rw [aL (by simp [hm])];simp only [gS,he u hm]
 rw [aD (by simp [hm,hu])];have hc:(args.toList.map cM).contains (some u)=false:=by
  rw [qN];intro hc;obtain⟨x,hx,hx'⟩:=aX.1 (by simpa using hc:some u∈args.toList.map cM);exact hm (eH (by simp [Op.operands,Call.operands];right;simpa using hx) u hx')
 simp only [gS,hc];rfl
theorem aNj {k:DK} (hnd:k.isNd=false)(hfw:((sD k).wL=true->(sD k).rL=true)/\((sD k).wO=true->(sD k).rO=true))(hd:dX o st)(h:match o.guard with
  | none=>zP P c o.dst o.op k st K
  | some (j,want)=>∃t b,aO all j=some t/\Hf (st.env t) want=some b/\(b=want->zP P c o.dst o.op k st K)/\(b= !want->K (st.put o.dst .und))):∃s,K s/\Step P c all o k st s:=by
 -- the body of the step,taken
 have taken : zP P c o.dst o.op k st K -> ∃ s, K s /\ s = st.upd (gI (wY c o.dst o.op k) (sD k) s) /\ (aFx c o.dst o.op k = true -> ∃ J, s.obj = st.obj ++ J) /\ ∀ st', AgreeD (zR c all o k) (sD k) (Ga c o.dst o.op k) st st' -> Does P o st' (· = st'.upd (gI (wY c o.dst o.op k) (sD k) s)) := by
  intro h;have hd':∀st',st'.n=st.n->dX o st':=fun st' hn=>by unfold dX at *;split <;> simp_all
  cases k with
  | nd=>cases hnd
  | op f =>
   obtain⟨h1,rfl,h3⟩:=h;obtain⟨s,hK,hs⟩:=aAi h1 h3;have loc:∀st',Agree (zR c all o (.op (pN c o.dst st o.op))) (pN c o.dst st o.op) st st'->∃δ:Delta,δ.ok (pB c o.dst o.op) (pN c o.dst st o.op)/\s=st.upd δ/\iV P c o.dst o.op st' (· =st'.upd δ):=by
    intro st' ha;have hl:=aI2 (aUa h1) (rs:=zR c all o (.op (pN c o.dst st o.op))) (fun t ht=>by simp [zR,ht]) ha hs;obtain⟨s',⟨δ,d1,d2,rfl⟩,h5⟩:=aAi h1 hl;exact⟨δ,d1,d2.symm,h5⟩
   obtain⟨δ0,d1,d2,_⟩:=loc st (Az _ _ _);refine⟨s,hK,?_,fun hap=>aRu hap hs,fun st' ha=>?_⟩
   .have:=Rv d1 (Re c o.dst st o.op) (Az (pB c o.dst o.op) (pN c o.dst st o.op) st);rw [<- d2] at this;exact this
   by_cases htl:Ga c o.dst o.op (.op (pN c o.dst st o.op))=true
   .have hT:=ha.toT;have hop:Lm c o.dst o.op=true:=by simp only [Ga,gO] at htl;exact htl.2
    have hl:=aTx hop (rs:=zR c all o (.op (pN c o.dst st o.op))) (fun t ht=>by simp [zR,ht]) hT hs;obtain⟨s',⟨δ,e1,e2,rfl⟩,e3⟩:=aAi h1 hl;have:=aJx e1 (Re c o.dst st o.op).1 (aAs htl).2 ⟨hT.n,fun t ht=>hT.env t (by simp [zR,wY,ht]),hT.loc,hT.obj⟩;rw [e2] at this;simp only [wY,sD];rw [<- this];exact Sd ⟨hd' st' ha.n,e3⟩
   have ha:Agree (zR c all o (.op (pN c o.dst st o.op))) (pN c o.dst st o.op) st st':=by
    have e:Ga c o.dst o.op (.op (pN c o.dst st o.op))=false:=by simpa using htl
    rw [e] at ha;exact ha.toA
   obtain⟨δ,e1,e2,e3⟩:=loc st' ha;have:=Rv e1 (Re c o.dst st o.op) (ha.sub (rs':=pB c o.dst o.op) (fun t ht=>by simp [zR,wY,ht]));rw [<- e2] at this;simp only [wY,sD];rw [<- this];exact Sd ⟨hd' st' ha.n,e3⟩
  | pure =>
   obtain⟨dst,op,ty,pos,after,guard⟩:=o;simp only [zP] at h;split at h
   .rename_i f args ts _;obtain⟨h1,r,h2,h3⟩:=h;have ups:∀st':St,st'.upd (gI dst.toList ⟨false,false,false,false⟩ (st.put dst (.d r)))=st'.put dst (.d r):=by
     intro st';cases dst with
     | none=>rfl
     | some d=>
      refine St.mk.injEq .. |>.mpr ⟨rfl,?_,rfl,rfl⟩
      funext u;show gA [(d,(st.put (some d) (.d r)).env d)] st'.env u=_
      simp [gA,St.put,St.set]
    refine⟨_,h3,(ups st).symm,fun e=>(by cases e),fun st' ha=>?_⟩;replace ha:=ha.toA;simp only [wY,sD];rw [ups st'];have hargs:∀x∈args.toList,st'.rd x=st.rd x:=fun x hx=>lO ha fun t ht=>by
     have:=eH (op:= .call ⟨.value (.func f),args,ts⟩) (x:=x) (by simp [Op.operands,Call.operands];right;simpa using hx) t ht;simp [zR,this]
    refine nE (.func f) args ts (hd' st' ha.n) rfl ?_;unfold mG;simp only [xR];refine⟨by simp,fun x hx=>by rw [hargs x hx];exact h1 x hx,?_⟩;have e1:iG args.toList st'=iG args.toList st:=dH fun x hx=>mU (hargs x hx);rw [e1];simpa using(h2 st'.obj).mono fun r' σ' ⟨a,b⟩=>by subst a;subst b;rfl
   exact h.elim
  | pureC =>
   obtain⟨dst,op,ty,pos,after,guard⟩:=o;simp only [zP] at h;split at h
   .rename_i f args ts _;split at h
    .rename_i fid first caps hf
     obtain⟨h0,h1,r,h2,h3⟩:=h;have ups:∀st':St,st'.upd (gI dst.toList ⟨false,false,false,false⟩ (st.put dst (.d r)))=st'.put dst (.d r):=by
      intro st';cases dst with
      | none=>rfl
      | some d=>
       refine St.mk.injEq .. |>.mpr ⟨rfl,?_,rfl,rfl⟩
       funext u;show gA [(d,(st.put (some d) (.d r)).env d)] st'.env u=_
       simp [gA,St.put,St.set]
     refine⟨_,h3,(ups st).symm,fun e=>(by cases e),fun st' ha=>?_⟩;replace ha:=ha.toA;simp only [wY,sD];rw [ups st'];have hargs:∀x∈args.toList,st'.rd x=st.rd x:=fun x hx=>lO ha fun t ht=>by
      have:=eH (op:= .call ⟨.value f,args,ts⟩) (x:=x) (by simp [Op.operands,Call.operands];right;simpa using hx) t ht;simp [zR,this]
     have hff:st'.rd f=st.rd f:=lO ha fun t ht=>by
      have:=eH (op:= .call ⟨.value f,args,ts⟩) (x:=f) (by simp [Op.operands,Call.operands]) t ht;simp [zR,this]
     refine nE f args ts (hd' st' ha.n) rfl ?_;unfold mG;rw [hff,hf];refine⟨h0,fun x hx=>by rw [hargs x hx];exact h1 x hx,?_⟩;have e1:iG args.toList st'=iG args.toList st:=dH fun x hx=>mU (hargs x hx);rw [e1];exact(h2 st'.obj).mono fun r' σ' ⟨a,b⟩=>by subst a;subst b;rfl
    exact h.elim
   exact h.elim
  | read =>
   obtain⟨dst,op,ty,pos,after,guard⟩:=o;simp only [zP] at h;split at h
   .rename_i f args ts _;obtain⟨h1,r,h2,h3⟩:=h;have ups:∀st':St,st'.upd (gI dst.toList ⟨false,false,true,false⟩ (st.put dst (.d r)))=st'.put dst (.d r):=by
     intro st';cases dst with
     | none=>rfl
     | some d=>
      refine St.mk.injEq .. |>.mpr ⟨rfl,?_,rfl,rfl⟩
      funext u;show gA [(d,(st.put (some d) (.d r)).env d)] st'.env u=_
      simp [gA,St.put,St.set]
    refine⟨_,h3,(ups st).symm,fun e=>(by cases e),fun st' ha=>?_⟩;replace ha:=ha.toA;simp only [wY,sD];rw [ups st'];have hargs:∀x∈args.toList,st'.rd x=st.rd x:=fun x hx=>lO ha fun t ht=>by
     have:=eH (op:= .call ⟨.value (.func f),args,ts⟩) (x:=x) (by simp [Op.operands,Call.operands];right;simpa using hx) t ht;simp [zR,this]
    refine nE (.func f) args ts (hd' st' ha.n) rfl ?_;unfold mG;simp only [xR];refine⟨by simp,fun x hx=>by rw [hargs x hx];exact h1 x hx,?_⟩;have e1:iG args.toList st'=iG args.toList st:=dH fun x hx=>mU (hargs x hx);rw [e1];rw [show st'.obj=st.obj from ha.obj rfl];simpa using h2.mono fun r' σ' ⟨a,b⟩=>by subst a;subst b;rw [<- show st'.obj=st.obj from ha.obj rfl]
   exact h.elim
  | det =>
   obtain⟨dst,op,ty,pos,after,guard⟩:=o;simp only [zP] at h;split at h
   .rename_i f args ts _;obtain⟨h1,r,σ0,h2,h3⟩:=h;have ups:∀st':St,st'.upd (gI dst.toList ⟨false,false,true,true⟩ (({ st with obj:=σ0 } :St).put dst (.d r)))=({ st' with obj:=σ0 } :St).put dst (.d r):=by
     intro st';cases dst with
     | none=>rfl
     | some d=>
      refine St.mk.injEq .. |>.mpr ⟨rfl,?_,rfl,rfl⟩
      funext u;show gA [(d,(({ st with obj:=σ0 } :St).put (some d) (.d r)).env d)] st'.env u=_
      simp [gA,St.put,St.set]
    refine⟨_,h3,(ups st).symm,fun e=>(by cases e),fun st' ha=>?_⟩;replace ha:=ha.toA;simp only [wY,sD];rw [ups st'];have hargs:∀x∈args.toList,st'.rd x=st.rd x:=fun x hx=>lO ha fun t ht=>by
     have:=eH (op:= .call ⟨.value (.func f),args,ts⟩) (x:=x) (by simp [Op.operands,Call.operands];right;simpa using hx) t ht;simp [zR,this]
    refine nE (.func f) args ts (hd' st' ha.n) rfl ?_;unfold mG;simp only [xR];refine⟨by simp,fun x hx=>by rw [hargs x hx];exact h1 x hx,?_⟩;have e1:iG args.toList st'=iG args.toList st:=dH fun x hx=>mU (hargs x hx);have e2:st'.obj=st.obj:=ha.obj rfl;rw [e1,e2];simpa using h2.mono fun r' σ' ⟨a,b⟩=>by subst a;subst b;rfl
   exact h.elim
  | readT =>
   obtain⟨dst,op,ty,pos,after,guard⟩:=o;simp only [zP] at h;split at h
   .rename_i f args ts _;obtain⟨h1,r,h2,h3⟩:=h;have ups:∀st':St,st'.upd (gI dst.toList ⟨false,false,true,false⟩ (st.put dst (.d r)))=st'.put dst (.d r):=by
     intro st';cases dst with
     | none=>rfl
     | some d=>
      refine St.mk.injEq .. |>.mpr ⟨rfl,?_,rfl,rfl⟩
      funext u;show gA [(d,(st.put (some d) (.d r)).env d)] st'.env u=_
      simp [gA,St.put,St.set]
    refine⟨_,h3,(ups st).symm,fun e=>(by cases e),fun st' ha=>?_⟩;obtain⟨J,hJ⟩:=(ha.obj rfl).2;simp only [wY,sD];rw [ups st'];have hargs:∀x∈args.toList,st'.rd x=st.rd x:=fun x hx=>aFd ha fun t ht=>by
     have:=eH (op:= .call ⟨.value (.func f),args,ts⟩) (x:=x) (by simp [Op.operands,Call.operands];right;simpa using hx) t ht;simp [zR,this]
    refine nE (.func f) args ts (hd' st' ha.n) rfl ?_;unfold mG;simp only [xR];refine⟨by simp,fun x hx=>by rw [hargs x hx];exact h1 x hx,?_⟩;have e1:iG args.toList st'=iG args.toList st:=dH fun x hx=>mU (hargs x hx);rw [e1];rw [hJ];simpa using(h2 J).mono fun r' σ' ⟨a,b⟩=>by subst a;subst b;rw [<- hJ]
   exact h.elim
  | detA =>
   obtain⟨dst,op,ty,pos,after,guard⟩:=o;simp only [zP] at h;split at h
   .rename_i f args ts _;obtain⟨h1,r,J,h2,h3⟩:=h;have ups:∀st':St,st'.upd (gI dst.toList ⟨false,false,true,true⟩ (({ st with obj:=st.obj++J } :St).put dst (.d r)))=({ st' with obj:=st.obj++J } :St).put dst (.d r):=by
     intro st';cases dst with
     | none=>rfl
     | some d=>
      refine St.mk.injEq .. |>.mpr ⟨rfl,?_,rfl,rfl⟩
      funext u;show gA [(d,(({ st with obj:=st.obj++J } :St).put (some d) (.d r)).env d)] st'.env u=_
      simp [gA,St.put,St.set]
    refine⟨_,h3,(ups st).symm,fun _=>⟨J,by cases dst <;> rfl⟩,fun st' ha=>?_⟩;replace ha:=ha.toA;simp only [wY,sD];rw [ups st'];have hargs:∀x∈args.toList,st'.rd x=st.rd x:=fun x hx=>lO ha fun t ht=>by
     have:=eH (op:= .call ⟨.value (.func f),args,ts⟩) (x:=x) (by simp [Op.operands,Call.operands];right;simpa using hx) t ht;simp [zR,this]
    refine nE (.func f) args ts (hd' st' ha.n) rfl ?_;unfold mG;simp only [xR];refine⟨by simp,fun x hx=>by rw [hargs x hx];exact h1 x hx,?_⟩;have e1:iG args.toList st'=iG args.toList st:=dH fun x hx=>mU (hargs x hx);have e2:st'.obj=st.obj:=ha.obj rfl;rw [e1,e2];simpa using h2.mono fun r' σ' ⟨a,b⟩=>by subst a;subst b;rfl
   exact h.elim
  | pureT =>
   obtain⟨dst,op,ty,pos,after,guard⟩:=o;simp only [zP] at h;split at h
   .rename_i d f args ts _;obtain⟨h0,h1,r,h2,h3⟩:=h;have ups:∀st':St,(∀t,t∈jZ (.call ⟨.value (.func f),args,ts⟩)->st'.env t=st.env t)->
      st'.upd (gI ((some d).toList++jZ (.call ⟨.value (.func f),args,ts⟩)) ⟨false,false,false,false⟩ (({ st with env:=gS (args.toList.map cM) st.env } :St).put (some d) (.d r)))=({ st' with env:=gS (args.toList.map cM) st'.env } :St).put (some d) (.d r):=by
     intro st' he;refine St.mk.injEq .. |>.mpr ⟨rfl,?_,rfl,rfl⟩
     funext u;exact Dn he u
    refine⟨_,h3,(ups st fun _ _=>rfl).symm,fun e=>(by cases e),fun st' ha=>?_⟩;replace ha:=ha.toA;have he:∀t,t∈jZ (.call ⟨.value (.func f),args,ts⟩)->st'.env t=st.env t:=fun t ht=>ha.env t (by simp [zR,ht]);simp only [wY,sD];rw [ups st' he];have hargs:∀x∈args.toList,st'.rd x=st.rd x:=fun x hx=>lO ha fun t ht=>by
     have:=eH (op:= .call ⟨.value (.func f),args,ts⟩) (x:=x) (by simp [Op.operands,Call.operands];right;simpa using hx) t ht;simp [zR,this]
    have hargS:∀x∈args.toList,st'.rdS x=st.rdS x:=fun x hx=>sC ha fun t ht=>by
     have:=eH (op:= .call ⟨.value (.func f),args,ts⟩) (x:=x) (by simp [Op.operands,Call.operands];right;simpa using hx) t ht;simp [zR,this]
    refine Aj f args ts (hd' st' ha.n) rfl ?_;unfold oZ;refine⟨h0,fun x hx=>by rw [hargs x hx,hargS x hx];exact h1 x hx,?_⟩;have e1:args.toList.map (wC st')=args.toList.map (wC st):=dH fun x hx=>Au (hargs x hx);rw [e1];exact(h2 st'.obj).mono fun r' σ' ⟨a,b⟩=>by subst a;subst b;rfl
   exact h.elim
  | detT =>
   obtain⟨dst,op,ty,pos,after,guard⟩:=o;simp only [zP] at h;split at h
   .rename_i d f args ts _;obtain⟨h0,h1,r,σ0,h2,h3⟩:=h;have ups:∀st':St,(∀t,t∈jZ (.call ⟨.value (.func f),args,ts⟩)->st'.env t=st.env t)->
      st'.upd (gI ((some d).toList++jZ (.call ⟨.value (.func f),args,ts⟩)) ⟨false,false,true,true⟩ (({ st with env:=gS (args.toList.map cM) st.env,obj:=σ0 } :St).put (some d) (.d r)))=({ st' with env:=gS (args.toList.map cM) st'.env,obj:=σ0 } :St).put (some d) (.d r):=by
     intro st' he;refine St.mk.injEq .. |>.mpr ⟨rfl,?_,rfl,rfl⟩
     funext u;exact Dn he u
    refine⟨_,h3,(ups st fun _ _=>rfl).symm,fun e=>(by cases e),fun st' ha=>?_⟩;replace ha:=ha.toA;have he:∀t,t∈jZ (.call ⟨.value (.func f),args,ts⟩)->st'.env t=st.env t:=fun t ht=>ha.env t (by simp [zR,ht]);simp only [wY,sD];rw [ups st' he];have hargs:∀x∈args.toList,st'.rd x=st.rd x:=fun x hx=>lO ha fun t ht=>by
     have:=eH (op:= .call ⟨.value (.func f),args,ts⟩) (x:=x) (by simp [Op.operands,Call.operands];right;simpa using hx) t ht;simp [zR,this]
    have hargS:∀x∈args.toList,st'.rdS x=st.rdS x:=fun x hx=>sC ha fun t ht=>by
     have:=eH (op:= .call ⟨.value (.func f),args,ts⟩) (x:=x) (by simp [Op.operands,Call.operands];right;simpa using hx) t ht;simp [zR,this]
    refine Aj f args ts (hd' st' ha.n) rfl ?_;unfold oZ;refine⟨h0,fun x hx=>by rw [hargs x hx,hargS x hx];exact h1 x hx,?_⟩;have e1:args.toList.map (wC st')=args.toList.map (wC st):=dH fun x hx=>Au (hargs x hx);have e2:st'.obj=st.obj:=ha.obj rfl;rw [e1,e2];exact h2.mono fun r' σ' ⟨a,b⟩=>by subst a;subst b;rfl
   exact h.elim
 split at h
 .rename_i hg;obtain⟨s,h1,h2,h0,h3⟩:=taken h;exact⟨s,h1,h2,h0,fun _ st' ha=>Wb (fun w g tmps _=>by simp [Region.wanted,hg]) (h3 st' ha)⟩
 rename_i j want hg;obtain⟨t,b,h1,h2,h3,h4⟩:=h;have hin:t∈zR c all o k:=by simp [zR,hg,h1]
 by_cases hb:b=want
 .obtain⟨s,k1,k2,k0,k3⟩:=taken (h3 hb);refine⟨s,k1,k2,k0,fun _ st' ha=>Wb (fun w g tmps hok=>?_) (k3 st' ha)⟩;have:=Fk (all:=all) (j:=j) (want:=want) hok h1 (by rw [ha.env t hin];exact h2);simp [Region.wanted,hg,this,hb]
 have hb':b= !want:=by cases b <;> cases want <;> simp_all
 have hdw:∀d,o.dst=some d->d∈wY c o.dst o.op k:=by
  intro d e;cases k <;> simp [wY,pB,e]
 have same:∀st',AgreeD (zR c all o k) (sD k) (Ga c o.dst o.op k) st st'->st'.upd (gI (wY c o.dst o.op k) (sD k) (st.put o.dst .und))=st'.put o.dst .und:=by
  intro st' ha;refine St.mk.injEq .. |>.mpr ⟨by cases o.dst <;> rfl,?_,?_,?_⟩
  .funext u;have:=tZ (wY c o.dst o.op k) (sD k) (st.put o.dst .und) st' u;simp only [St.upd,gI] at this;rw [gI];simp only;rw [this];have hin':u∈wY c o.dst o.op k->st'.env u=st.env u:=fun hu=>ha.env u (by simp [zR,hu]);cases hd':o.dst with
   | none=>
    rw [hd'] at hin';split
    .rename_i hu;exact(hin' hu).symm
    rfl
   | some d=>
    rw [hd'] at hin';have hdw':=hdw d hd';rw [hd'] at hdw';simp only [St.put,St.set];by_cases hu:u=d
    .subst hu;simp [hdw']
    simp only [hu,bJ];split
    .rename_i h;exact(hin' h).symm
    rfl
  .simp only [gI];cases hl:(sD k).wL with
   | true=>have:=ha.loc (hfw.1 hl);cases o.dst <;> simp [St.put,St.set,this]
   | false=>cases o.dst <;> simp [St.put,St.set]
  simp only [gI];cases hl:(sD k).wO with
  | true=>
   have:=(ha.obj (hfw.2 hl)).1 (by cases ht:Ga c o.dst o.op k with | false=>rfl | true=>have:=(aAs ht).2;rw [hl] at this;cases this);cases o.dst <;> simp [St.put,St.set,this]
  | false=>cases o.dst <;> simp [St.put,St.set]
 refine⟨_,h4 hb',(same st (Az _ _ _).toD).symm,fun _=>⟨[],by cases o.dst <;> simp [St.put,St.set]⟩,fun _ st' ha=>?_⟩;rw [same st' ha];intro w g tmps hok hn;have hy:=Fk (all:=all) (j:=j) (want:=want) hok h1 (by rw [ha.env t hin];exact h2);have hw:Region.wanted o (yielded all.toArray tmps)=false:=by simp [Region.wanted,hg,hy,hb]
 refine⟨fun h=>(by rw [hw] at h;cases h),fun _=>?_⟩;have hdst:∀d,o.dst=some d->d<tmps.size:=by
  intro d hd';have hd2:d<st.n:=by simpa [dX,hd'] using hd
  rw [hn,ha.n];exact hd2
 refine⟨_,g,rfl,Fr.refl w g,?_,by rw [Wp];exact hn⟩;rw [Bl tmps [] o.dst undef hdst];exact hok.put o.dst .und undef fun t _=>aL7 t
end
section
variable {P:Program}
def Ew(acc:List Nat)(after:List Edge):Nat:=after.foldl (fun s e=>if Region.binds .any e then s ||| 2 ^ e.on ||| acc.getD e.on 0 else s) 0
def wR:List Oper->List Nat->List Nat
 | [],acc=>acc
 | o::r,acc=>wR r (acc++ [Ew acc o.after.toList])
theorem Kq(acc:List Nat):∀(after:List Edge) (s i:Nat),(after.foldl (fun s e=>if Region.binds .any e then s ||| 2 ^ e.on ||| acc.getD e.on 0 else s) s).testBit i=true->s.testBit i=true\/∃e∈after,Region.binds .any e=true/\(e.on=i\/(acc.getD e.on 0).testBit i=true)
 | [],s,i,h=> .inl h
 | e :: r, s, i, h => by
  simp only [dM] at h;rcases Kq acc r _ i h with h1 | ⟨e',he',h1⟩
  .split at h1
   .rename_i hb;rw [Nat.testBit_or,Nat.testBit_or,Nat.testBit_two_pow] at h1;simp only [Fo,fM] at h1;rcases h1 with (h1 | h1) | h1
    .exact .inl h1
    .exact .inr ⟨e,by simp,hb,.inl h1⟩
    exact .inr ⟨e,by simp,hb,.inr h1⟩
   exact .inl h1
  exact .inr ⟨e',by simp [he'],h1⟩
theorem Nr:∀(r:List Oper) (acc:List Nat),(wR r acc).take acc.length=acc/\(wR r acc).length=acc.length+r.length
 | [],acc=>by simp [wR]
 | o::r,acc=>by
  obtain⟨h1,h2⟩:=Nr r (acc++ [Ew acc o.after.toList]);simp only [wR];simp only [aY,uF] at h1 h2;refine⟨?_,by rw [h2];simp;omega⟩;have:=congrArg (List.take acc.length) h1;rw [List.take_take,kB (by omega)] at this;rw [this];simp
theorem Po:∀(r:List Oper) (acc:List Nat) (k:Nat) (o:Oper),r[k]?=some o->(wR r acc)[acc.length+k]?=some (Ew ((wR r acc).take (acc.length+k)) o.after.toList)
 | [],acc,k,o,h=>by simp at h
 | o' :: r, acc, 0, o, h => by
  simp at h;subst h;simp only [wR,kD];obtain⟨h1,h2⟩:=Nr r (acc++ [Ew acc o'.after.toList]);simp only [aY,uF] at h1;have e1:(wR r (acc++ [Ew acc o'.after.toList])).take acc.length=acc:=by
   have:=congrArg (List.take acc.length) h1;rw [List.take_take,kB (by omega)] at this;rw [this];simp
  rw [e1];have:=congrArg (fun l=>l[acc.length]?) h1;simp only [eJ,Nat.lt_succ_self,aU] at this;rw [this];simp
 | o'::r,acc,k+1,o,h=>by
  simp only [wR];have:=Po r (acc++ [Ew acc o'.after.toList]) k o (by simpa using h);simp only [aY,uF] at this;rw [show acc.length+1+k=acc.length+(k+1) by omega] at this;exact this
def rM(ops:List Oper)(i j:Nat):Bool:=((wR ops []).getD j 0).testBit i
theorem Za {ops:List Oper} {i j:Nat} (ho:ops[j]?=some o)(h:rM ops i j=true):∃e∈o.after.toList,Region.binds .any e=true/\(e.on=i\/(e.on<j/\rM ops i e.on=true)):=by
 unfold rM at h;have hg:=Po ops [] j o ho;simp only [dD,eI] at hg;rw [List.getD,hg,kG] at h;rcases Kq _ _ _ _ h with h1 | ⟨e,he,hb,h1⟩
 .simp at h1
 refine⟨e,he,hb,?_⟩;rcases h1 with h1 | h1
 .exact .inl h1
 refine .inr ?_;rw [List.getD,eJ] at h1;split at h1
 .rename_i hlt;exact⟨hlt,h1⟩
 simp at h1
structure FP where
 ws:List Nat
 rs:List Nat
 f:Fl
 t:Bool
 a:Bool
def FP.apart(a b:FP):Bool:=
 a.ws.all (fun t=> !b.ws.contains t && !b.rs.contains t) && b.ws.all (fun t=> !a.rs.contains t) &&
 !(a.f.wL && (b.f.rL || b.f.wL)) && !(b.f.wL && a.f.rL) && !(a.f.wO && (b.f.rO || b.f.wO)) && !(b.f.wO && a.f.rO && !(a.t && b.a))
def Bw(c:Cfg)(ops:List Oper)(o:Oper)(k:DK):FP:=⟨wY c o.dst o.op k,zR c ops o k,sD k,Ga c o.dst o.op k,aFx c o.dst o.op k⟩
def fps(c:Cfg)(all ops:List Oper)(ks:List DK):List FP:=(ops.zip ks).map fun p=>Bw c all p.1 p.2
def aMl(f:Fl):Bool:=(!f.wL || f.rL) && (!f.wO || f.rO)
def iT(π:List Nat)(ops:List Oper):List Oper:=π.filterMap fun i=>ops[i]?
def Ka:List Nat->Bool
 | []=>true
 | a::l=> !l.contains a && Ka l
def Ij(c:Cfg)(all:List Oper)(π:List Nat)(ks:List DK):Bool:=
 ks.length==all.length && ks.all (fun k=>aMl (sD k)) && all.zipIdx.all (fun p=>p.1.after.toList.all fun e=> !Region.binds .any e || decide (e.on<p.2)) && (π.length==all.length && ((List.range all.length).all (fun i=>π.contains i) && (Ka π && π.all fun i=>decide (i<all.length)))) &&
 (fps c all (iT π all) ks).zipIdx.all fun q=>(fps c all (iT π all) ks).zipIdx.all fun p=> !decide (p.2<q.2) || rM all (π.getD p.2 0) (π.getD q.2 0) || p.1.apart q.1
def Lp(c:Cfg)(ops:List Oper)(ks:List DK):Bool:=Ij c ops (List.range ops.length) ks && ks.all fun k=> !k.isNd
def jV (P : Program) (c : Cfg) (all : List Oper) : List Oper -> List DK -> St -> (St -> Prop) -> Prop
 | [],_,st,K=>K st
 | o :: r, k :: ks, st, K => dX o st /\ match o.guard with
  | none=>zP P c o.dst o.op k st fun s=>jV P c all r ks s K
  | some (j, want) => match aO all j with
   | some t=>match Hf (st.env t) want with
    | some b=>(b=want->zP P c o.dst o.op k st fun s=>jV P c all r ks s K)/\(b= !want->jV P c all r ks (st.put o.dst .und) K)
    | none=>False
   | none=>False
 | _::_, [],_,_=>False
inductive Chain(P:Program)(c:Cfg)(all:List Oper):List Oper->List DK->St->List St->St->Prop
 | nil (ks:List DK) (st:St):Chain P c all [] ks st [] st
 | cons (o:Oper) (r:List Oper) (k:DK) (ks:List DK) (st s:St) (ss:List St) (e:St) (h:Step P c all o k st s) (hr:Chain P c all r ks s ss e):Chain P c all (o::r) (k::ks) st (s::ss) e
theorem aC2 (h:aMl f=true):(f.wL=true->f.rL=true)/\(f.wO=true->f.rO=true):=by
 obtain⟨a,b,x,y⟩:=f;simp only [aMl] at h;cases a <;> cases b <;> cases x <;> cases y <;> simp_all
theorem Tp :∀(r:List Oper) (ks:List DK) (st:St) (K:St->Prop),(∀k∈ks,aMl (sD k)=true/\k.isNd=false)->jV P c all r ks st K->∃ss e,Chain P c all r ks st ss e/\K e
 | [],ks,st,K,_,h=>⟨[],st,.nil ks st,h⟩
 | _::_, [],_,_,_,h=>h.elim
 | o :: r, k :: ks, st, K, hw, h => by
  obtain⟨hd,h⟩:=h;have hs:∃s,jV P c all r ks s K/\Step P c all o k st s:=by
   refine aNj (hw k (by simp)).2 (aC2 (hw k (by simp)).1) hd ?_;split at h
   .rename_i hg;try rw [hg]
    exact h
   rename_i j want hg;try rw [hg]
   split at h
   .rename_i t ht;split at h
    .rename_i b hb;exact⟨t,b,ht,hb,h.1,h.2⟩
    exact h.elim
   exact h.elim
  obtain⟨s,h1,h2⟩:=hs;obtain⟨ss,e,h3,h4⟩:=Tp r ks s K (fun k hk=>hw k (by simp [hk])) h1;exact⟨s::ss,e,.cons o r k ks st s ss e h2 h3,h4⟩
theorem Chain.append {A B:List Oper} {ka kb:List DK} {s e:St} {ss tt:List St} (h:Chain P c all A ka st ss s)(hl:ka.length=A.length)(g:Chain P c all B kb s tt e):Chain P c all (A++B) (ka++kb) st (ss++tt) e:=by
 induction h with
 | nil ks st=>obtain rfl:=yN.1 hl;exact g
 | cons o r k ks st s ss e' h hr ih=>exact .cons o _ k _ st s _ e h (ih (by simpa using hl) g)
end
end Go.Vm
