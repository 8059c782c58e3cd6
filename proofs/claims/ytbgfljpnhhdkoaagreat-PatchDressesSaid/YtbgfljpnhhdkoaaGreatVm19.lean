import Derived.Test.YtbgfljpnhhdkoaaGreatVm18
set_option linter.all false
namespace Go.Vm
open Go
variable {K K':St->Prop}{all:List Oper}{args:Array Operand}{c:Cfg}{dst:Option Tmp}{f:Fl}{o:Oper}{op:Op}{rs ws:List Nat}{st st':St}{tol:Bool}{ts:Array TypeId}
section
variable {P:Program}
def mG:Op->Bool
 | .call { callee:= .builtin _, .. } =>false
 | .call _=>true
 | .binOp _ _ _ y _=>zW y
 | .range _ _ | .next _ _ | .entry _=>true
 | _=>false
theorem aXw (h:mG op=false):Hj op=false:=by
 cases op <;> first | rfl | simp [mG] at h
theorem aFx {op:BinOp} {t:TypeId} {x y:Slot} {K:D->Prop} (h:xD P op t x y K):∃d,K d/\xD P op t x y (· =d):=by
 unfold xD at *;split at h
 .obtain⟨h1,h2⟩:=h;unfold Ih at *;cases op <;> simp only at h2 |- <;> first | exact⟨_,h2,h1,rfl⟩ | exact⟨_,h2.2,h1,h2.1,rfl⟩ | exact⟨_,h2.2.2,h1,h2.1,h2.2.1,rfl⟩ | exact h2.elim
 .unfold Ho at *;cases op <;> simp only at h |- <;> first | exact⟨_,h,rfl⟩ | exact⟨_,h.2,h.1,rfl⟩ | exact h.elim
 .obtain⟨h1,h2⟩:=h;cases op <;> simp only at h2 |- <;> first | exact⟨_,h2,h1,rfl⟩ | exact h2.elim
 .obtain⟨h1,h2⟩:=h;cases op <;> simp only at h2 |- <;> first | (obtain⟨b,e1,e2⟩:=h2;exact⟨_,e2,h1,b,e1,rfl⟩) | exact h2.elim
 .obtain⟨h1,h2⟩:=h;cases op <;> simp only at h2 |- <;> first | exact⟨_,h2,h1,rfl⟩ | exact h2.elim
 .obtain⟨h1,h2⟩:=h;cases op <;> simp only at h2 |- <;> first | exact⟨_,h2,h1,rfl⟩ | exact h2.elim
 exact h.elim
theorem aMs {op:UnOp} {x:D} {K:D->Prop} (h:Is op x K):∃d,K d/\Is op x (· =d):=by
 unfold Is at *;split at h
 .exact⟨_,h,rfl⟩
 .exact⟨_,h.2,h.1,rfl⟩
 exact h.elim
theorem aGb {f:Operand} (hk:∀s,K s->K' s)(h:eL P c dst (.call ⟨.value f,args,ts⟩) st K):eL P c dst (.call ⟨.value f,args,ts⟩) st K':=by
 have pc:∀f,mA P dst f args.toList st K->mA P dst f args.toList st K':=by
  intro f h;unfold mA at *;split at h
  .exact⟨h.1,h.2.1,h.2.2.mono fun r σ' hK=>hk _ hK⟩
  exact h
 have pt:∀fid,pO P dst fid args.toList st K->pO P dst fid args.toList st K':=fun fid h=>⟨h.1,h.2.1,h.2.2.mono fun r σ' hK=>hk _ hK⟩;simp only [eL,qG] at *;cases f with
 | func fid =>
  simp only at *;cases dst with
  | none=>exact pc _ h
  | some d=>
   simp only at *;split at h
   .rename_i ht;rw [aI ht];exact pt _ h
   rename_i ht;rw [aC ht];exact pc _ h
 | _=>exact pc _ h
theorem aR2 (hc:mG op=false)(h:eL P c dst op st K):∃s,K s/\eL P c dst op st (· =s):=by
 have mv:∀x,lA c dst x st K->∃s,K s/\lA c dst x st (· =s):=by
  intro x h;unfold lA at *;split at h
  .split at h
   .exact⟨_,h,rfl⟩
   split at h
   .rename_i ht;exact⟨_,h.2.2,by rw [aI ht];exact⟨h.1,h.2.1,rfl⟩⟩
   rename_i ht;exact⟨_,h.2,by rw [aC ht];exact⟨h.1,rfl⟩⟩
  .exact h.elim
  exact⟨_,h,rfl⟩
 have ld:∀t x,kE P dst t x st K->∃s,K s/\kE P dst t x st (· =s):=by
  intro t x h;unfold kE at *;split at h
  .split at h
   .exact⟨_,h,rfl⟩
   exact h.elim
  exact h.elim
 cases op with
 | move x=>exact mv x h
 | assign x=>exact mv x h
 | binOp b t x y yt=>
  have hy:¬zW y=true:=by simp only [mG] at hc;simp [hc]
  simp only [eL] at h |-;simp only [aC hy] at h |-;obtain⟨d,h1,h2⟩:=aFx (P:=P) h;exact⟨_,h1,Bv (fun e he=>by rw [he]) h2⟩
 | unOp u t x=>
  simp only [eL] at h |-;obtain⟨d,h1,h2⟩:=aMs h;exact⟨_,h1,El (fun e he=>by rw [he]) h2⟩
 | load t x =>
  simp only [eL,lY] at *;split at h
  .split at h
   .rename_i htk;simp only [aI htk];split at h
    .split at h
     .split at h
      .exact⟨_,h.2.2,h.1,h.2.1,rfl⟩
      exact h.elim
     exact h.elim
    .split at h
     .split at h
      .exact⟨_,h.2.2,h.1,h.2.1,rfl⟩
      exact h.elim
     exact h.elim
    exact ld t x h
   rename_i htk;simp only [aC htk];exact ld t x h
  exact ld t x h
 | fieldAddr s x f=>
  simp only [eL,nS] at *;split at h
  .exact⟨_,h.2,h.1,rfl⟩
  exact h.elim
 | indexAddr t x i =>
  simp only [eL,nK] at *;split at h
  .split at h
   .split at h
    .exact⟨_,h.2.2.2,h.1,h.2.1,h.2.2.1,rfl⟩
    exact h.elim
   split at h
   .exact⟨_,h.2.2,h.1,h.2.1,rfl⟩
   exact h.elim
  exact h.elim
 | index t x i =>
  simp only [eL,wR] at *;split at h
  .exact⟨_,h.2.2,h.1,h.2.1,rfl⟩
  .split at h
   .split at h
    .split at h
     .exact⟨_,h.2,h.1,rfl⟩
     exact h.elim
    exact h.elim
   exact h.elim
  exact h.elim
 | slice t x lo hi mx =>
  simp only [eL,wV] at *;split at h
  .obtain⟨h1,h2,h3⟩:=h;split at h3
   .exact⟨_,h3.2,h1,h2,h3.1,rfl⟩
   exact h3.elim
  .split at h
   .split at h
    .split at h
     .exact⟨_,h.2.2,h.1,h.2.1,rfl⟩
     exact h.elim
    split at h
    .exact⟨_,h.2.2,h.1,h.2.1,rfl⟩
    exact h.elim
   exact h.elim
  exact h.elim
 | pick a x y =>
  simp only [eL,Bz] at *;split at h
  .rename_i t ht;cases t with
   | true=>exact⟨_,(h.1 rfl).2,fun _=>⟨(h.1 rfl).1,rfl⟩,fun e=>(by cases e)⟩
   | false=>exact⟨_,(h.2 rfl).2,fun e=>(by cases e),fun _=>⟨(h.2 rfl).1,rfl⟩⟩
  exact h.elim
 | extract x i =>
  simp only [eL,qR] at *;split at h
  .split at h
   .split at h
    .obtain⟨h1,h2⟩:=h;split at h2
     .rename_i ht;exact⟨_,h2.2.2,h1,by rw [aI ht];exact⟨h2.1,h2.2.1,rfl⟩⟩
     rename_i ht;exact⟨_,h2,h1,by rw [aC ht]⟩
    exact h.elim
   exact h.elim
  exact h.elim
 | makeFunc f first caps=>exact⟨_,h.2,h.1,rfl⟩
 | nilCheck x=>exact⟨_,h.2,h.1,rfl⟩
 | convert s d x=>
  simp only [eL,qN] at *;split at h
  .obtain⟨a,b,h1,h2,h3,h4⟩:=h;exact⟨_,h4,a,b,h1,h2,h3,rfl⟩
  .exact⟨_,h.2.2,h.1,h.2.1,rfl⟩
  exact h.elim
 | alloc e =>
  simp only [eL,uB] at *;split at h
  .split at h
   .rename_i he;exact⟨_,h,by rw [aI he]⟩
   rename_i he;exact⟨_,h,by rw [aC he]⟩
  exact h.elim
 | box e x =>
  simp only [eL,Hu] at *;split at h
  .obtain⟨h1,h2⟩:=h;split at h2
   .rename_i hi;exact⟨_,h2,h1,by rw [aI hi]⟩
   rename_i hi;split at h2
   .rename_i he;exact⟨_,h2,h1,by rw [aC hi,aI he]⟩
   rename_i he;exact⟨_,h2,h1,by rw [aC hi,aC he]⟩
  exact h.elim
 | store t a v =>
  simp only [eL,yY] at *;obtain⟨h1,h2,h3,h4⟩:=h;split at h4
  .split at h4
   .exact⟨_,h4.2,h1,h2,h3,h4.1,rfl⟩
   exact h4.elim
  .split at h4
   .exact⟨_,h4.2,h1,h2,h3,h4.1,rfl⟩
   exact h4.elim
  exact h4.elim
 | build t parts =>
  simp only [eL,vZ] at *;split at h
  .split at h
   .exact⟨_,h,rfl⟩
   exact h.elim
  exact h.elim
 | buildSlice t len parts=>
  simp only [eL,mD] at *;split at h
  .exact⟨_,h.2.2,h.1,h.2.1,rfl⟩
  exact h.elim
 | call call =>
  obtain⟨callee,args,ts⟩:=call;cases callee with
  | builtin b =>
   simp only [eL,qG,sM] at *;split at h
   .simp only [Nq] at *;split at h
    .exact⟨_,h.2,h.1,rfl⟩
    .exact⟨_,h.2,h.1,rfl⟩
    exact h.elim
   .simp only [tC] at *;split at h
    .obtain⟨h1,h2,h3,h4,h5⟩:=h;split at h5
     .exact⟨_,h5.2,h1,h2,h3,h4,h5.1,rfl⟩
     .exact⟨_,h5,h1,h2,h3,h4,rfl⟩
     exact h5.elim
    exact h.elim
   .simp only [xQ] at *;split at h
    .exact⟨_,h.2,h.1,rfl⟩
    exact h.elim
   .simp only [xQ] at *;split at h
    .exact⟨_,h.2,h.1,rfl⟩
    exact h.elim
   exact h.elim
  | _=>simp [mG] at hc
 | range t x=>simp [mG] at hc
 | next x s=>simp [mG] at hc
 | entry x=>simp [mG] at hc
 | _=>exact h.elim
theorem aBb (hk:∀s,K s->K' s)(h:eL P c dst op st K):eL P c dst op st K':=by
 have mv:∀x,lA c dst x st K->lA c dst x st K':=by
  intro x h;unfold lA at *;split at h
  .split at h
   .exact hk _ (h)
   split at h
   .rename_i ht;exact(by rw [aI ht];exact⟨h.1,h.2.1,hk _ (h.2.2)⟩)
   rename_i ht;exact(by rw [aC ht];exact⟨h.1,hk _ (h.2)⟩)
  .exact h.elim
  exact hk _ (h)
 have ld:∀t x,kE P dst t x st K->kE P dst t x st K':=by
  intro t x h;unfold kE at *;split at h
  .split at h
   .exact hk _ (h)
   exact h.elim
  exact h.elim
 cases op with
 | move x=>exact mv x h
 | assign x=>exact mv x h
 | binOp b t x y yt=>
  simp only [eL] at h |-;split at h
  .rename_i hy;rw [aI hy];exact aBl hk h
  rename_i hy;rw [aC hy];exact Bv (fun e he=>hk _ he) h
 | unOp u t x=>
  simp only [eL] at h |-;exact El (fun e he=>hk _ he) h
 | load t x =>
  simp only [eL,lY] at *;split at h
  .split at h
   .rename_i htk;simp only [aI htk];split at h
    .split at h
     .split at h
      .exact⟨h.1,h.2.1,hk _ (h.2.2)⟩
      exact h.elim
     exact h.elim
    .split at h
     .split at h
      .exact⟨h.1,h.2.1,hk _ (h.2.2)⟩
      exact h.elim
     exact h.elim
    exact ld t x h
   rename_i htk;simp only [aC htk];exact ld t x h
  exact ld t x h
 | fieldAddr s x f=>
  simp only [eL,nS] at *;split at h
  .exact⟨h.1,hk _ (h.2)⟩
  exact h.elim
 | indexAddr t x i =>
  simp only [eL,nK] at *;split at h
  .split at h
   .split at h
    .exact⟨h.1,h.2.1,h.2.2.1,hk _ (h.2.2.2)⟩
    exact h.elim
   split at h
   .exact⟨h.1,h.2.1,hk _ (h.2.2)⟩
   exact h.elim
  exact h.elim
 | index t x i =>
  simp only [eL,wR] at *;split at h
  .exact⟨h.1,h.2.1,hk _ (h.2.2)⟩
  .split at h
   .split at h
    .split at h
     .exact⟨h.1,hk _ h.2⟩
     exact h.elim
    exact h.elim
   exact h.elim
  exact h.elim
 | slice t x lo hi mx =>
  simp only [eL,wV] at *;split at h
  .obtain⟨h1,h2,h3⟩:=h;split at h3
   .exact⟨h1,h2,h3.1,hk _ (h3.2)⟩
   exact h3.elim
  .split at h
   .split at h
    .split at h
     .exact⟨h.1,h.2.1,hk _ (h.2.2)⟩
     exact h.elim
    split at h
    .exact⟨h.1,h.2.1,hk _ (h.2.2)⟩
    exact h.elim
   exact h.elim
  exact h.elim
 | pick a x y=>
  simp only [eL,Bz] at *;split at h
  .rename_i t ht;exact⟨fun ht=>⟨(h.1 ht).1,hk _ (h.1 ht).2⟩,fun ht=>⟨(h.2 ht).1,hk _ (h.2 ht).2⟩⟩
  exact h.elim
 | extract x i =>
  simp only [eL,qR] at *;split at h
  .split at h
   .split at h
    .obtain⟨h1,h2⟩:=h;split at h2
     .rename_i ht;exact⟨h1,(by rw [aI ht];exact⟨h2.1,h2.2.1,hk _ (h2.2.2)⟩)⟩
     rename_i ht;exact⟨h1,(by rw [aC ht];exact hk _ (h2))⟩
    exact h.elim
   exact h.elim
  exact h.elim
 | makeFunc f first caps=>exact⟨h.1,hk _ (h.2)⟩
 | nilCheck x=>exact⟨h.1,hk _ (h.2)⟩
 | convert s d x=>
  simp only [eL,qN] at *;split at h
  .obtain⟨a,b,h1,h2,h3,h4⟩:=h;exact⟨a,b,h1,h2,h3,hk _ (h4)⟩
  .exact⟨h.1,h.2.1,hk _ (h.2.2)⟩
  exact h.elim
 | alloc e =>
  simp only [eL,uB] at *;split at h
  .split at h
   .rename_i he;exact(by rw [aI he];exact hk _ (h))
   rename_i he;exact(by rw [aC he];exact hk _ (h))
  exact h.elim
 | box e x =>
  simp only [eL,Hu] at *;split at h
  .obtain⟨h1,h2⟩:=h;split at h2
   .rename_i hi;exact⟨h1,(by rw [aI hi];exact hk _ (h2))⟩
   rename_i hi;split at h2
   .rename_i he;exact⟨h1,(by rw [aC hi,aI he];exact hk _ (h2))⟩
   rename_i he;exact⟨h1,(by rw [aC hi,aC he];exact hk _ (h2))⟩
  exact h.elim
 | store t a v =>
  simp only [eL,yY] at *;obtain⟨h1,h2,h3,h4⟩:=h;split at h4
  .split at h4
   .exact⟨h1,h2,h3,h4.1,hk _ (h4.2)⟩
   exact h4.elim
  .split at h4
   .exact⟨h1,h2,h3,h4.1,hk _ (h4.2)⟩
   exact h4.elim
  exact h4.elim
 | build t parts =>
  simp only [eL,vZ] at *;split at h
  .split at h
   .exact hk _ (h)
   exact h.elim
  exact h.elim
 | buildSlice t len parts=>
  simp only [eL,mD] at *;split at h
  .exact⟨h.1,h.2.1,hk _ (h.2.2)⟩
  exact h.elim
 | call call =>
  obtain⟨callee,args,ts⟩:=call;cases callee with
  | builtin b =>
   simp only [eL,qG,sM] at *;split at h
   .simp only [Nq] at *;split at h
    .exact⟨h.1,hk _ (h.2)⟩
    .exact⟨h.1,hk _ (h.2)⟩
    exact h.elim
   .simp only [tC] at *;split at h
    .obtain⟨h1,h2,h3,h4,h5⟩:=h;split at h5
     .exact⟨h1,h2,h3,h4,h5.1,hk _ (h5.2)⟩
     .exact⟨h1,h2,h3,h4,hk _ (h5)⟩
     exact h5.elim
    exact h.elim
   .simp only [xQ] at *;split at h
    .exact⟨h.1,hk _ (h.2)⟩
    exact h.elim
   .simp only [xQ] at *;split at h
    .exact⟨h.1,hk _ (h.2)⟩
    exact h.elim
   exact h.elim
  | value f=>exact aGb hk h
  | invoke r m=>exact h.elim
 | _=>exact h.elim
theorem aV5 (h:vcX P dst op st K):∃s,K s/\vcX P dst op st (· =s):=by
 unfold vcX at *;split at h
 .split at h
  .simp only [Ga] at *;obtain⟨h0,h⟩:=h;split at h <;> first | exact⟨_,h,h0,rfl⟩ | exact h.elim
  exact h.elim
 .split at h
  .simp only [qM] at *;split at h
   .obtain⟨h0,h1,h2,h3⟩:=h;split at h3 <;> first | exact⟨_,h3.2,h0,h1,h2,h3.1,rfl⟩ | (obtain⟨ds,es,h4,h5⟩:=h3;exact⟨_,h5,h0,h1,h2,ds,es,h4,rfl⟩) | exact h3.elim
   exact h.elim
  exact h.elim
 .split at h
  .simp only [uN] at *;obtain⟨h0,h⟩:=h;split at h
   .split at h
    .exact⟨_,h.2,h0,h.1,rfl⟩
    exact h.elim
   exact h.elim
  exact h.elim
 .simp only [mE] at *;split at h
  .exact⟨_,h.2,h.1,rfl⟩
  exact h.elim
 .simp only [sZ] at *;split at h
  .split at h
   .exact⟨_,h.2,h.1,rfl⟩
   exact h.elim
  exact h.elim
 exact h.elim
theorem aUf (hk:∀s,K s->K' s)(h:vcX P dst op st K):vcX P dst op st K':=by
 unfold vcX at *;split at h
 .split at h
  .simp only [Ga] at *;obtain⟨h0,h⟩:=h;split at h <;> first | exact⟨h0,hk _ h⟩ | exact h.elim
  exact h.elim
 .split at h
  .simp only [qM] at *;split at h
   .obtain⟨h0,h1,h2,h3⟩:=h;split at h3 <;> first | exact⟨h0,h1,h2,h3.1,hk _ h3.2⟩ | (obtain⟨ds,es,h4,h5⟩:=h3;exact⟨h0,h1,h2,ds,es,h4,hk _ h5⟩) | exact h3.elim
   exact h.elim
  exact h.elim
 .split at h
  .simp only [uN] at *;obtain⟨h0,h⟩:=h;split at h
   .split at h
    .exact⟨h0,h.1,hk _ h.2⟩
    exact h.elim
   exact h.elim
  exact h.elim
 .simp only [mE] at *;split at h
  .exact⟨h.1,hk _ h.2⟩
  exact h.elim
 .simp only [sZ] at *;split at h
  .split at h
   .exact⟨h.1,hk _ h.2⟩
   exact h.elim
  exact h.elim
 exact h.elim
theorem aBd (hc:mG op=false)(h:jL P c dst op st K):∃s,K s/\jL P c dst op st (· =s):=by
 unfold jL at *;by_cases hy:Hb c dst op=true
 .simp only [hy,aU] at *;obtain⟨sets,ob,h1,hK⟩:=h;exact⟨_,hK,sets,ob,h1,rfl⟩
 simp only [hy] at *;by_cases hu:Ta c dst op=true
 .simp only [hu,aU] at *;exact aV5 h
 simp only [hu] at *;exact aR2 hc h
theorem Bs (hk:∀s,K s->K' s)(h:jL P c dst op st K):jL P c dst op st K':=by
 unfold jL at *;by_cases hy:Hb c dst op=true
 .simp only [hy,aU] at *;obtain⟨sets,ob,h1,hK⟩:=h;exact⟨sets,ob,h1,hk _ hK⟩
 simp only [hy] at *;by_cases hu:Ta c dst op=true
 .simp only [hu,aU] at *;exact aUf hk h
 simp only [hu] at *;exact aBb hk h
def Mb(c:Cfg)(dst:Option Tmp):Op->Bool
 | .load t a=> !dst.any c.take.contains && !Hb c dst (.load t a) && !Ta c dst (.load t a)
 | .lookup _ _ _ _=>true
 | .call ⟨.builtin .len,args,ts⟩=>Hb c dst (.call ⟨.builtin .len,args,ts⟩)
 | _=>false
def Ul(c:Cfg)(dst:Option Tmp):Op->Bool
 | .makeMap _ _=>true
 | .alloc e=>dst.any c.esc.contains && !Hb c dst (.alloc e) && !Ta c dst (.alloc e)
 | .box e x=>dst.any c.esc.contains && !dst.any c.imm.contains && !Hb c dst (.box e x) && !Ta c dst (.box e x)
 | _=>false
structure AgreeT(rs:List Nat)(f:Fl)(st st':St):Prop where
 n:st'.n=st.n
 env:∀t,t∈rs->st'.env t=st.env t
 loc:f.rL=true->st'.loc=st.loc
 obj:f.rO=true->∃J,st'.obj=st.obj++J
theorem Ja {α:Type} {l J:List α} {n:Nat} {x:α} (h:l[n]?=some x):(l++J)[n]?=some x:=by
 rw [aW (aM.1 h).1];exact h
theorem aN8 {args:List Operand} {ts:List TypeId} {f g:Operand->TypeId->qV} {sets:List (Nat×Slot)} {ob:Option (List (List D))} (h:∀x t,f x t sets ob->g x t sets ob)(hy:yA1 args ts f sets ob):yA1 args ts g sets ob:=by
 match args,ts with
 | [x], [t]=>exact h x t hy
 | [],_=>exact hy.elim
 | _::_::_,_=>exact hy.elim
 | [_], []=>exact hy.elim
 | [_],_::_::_=>exact hy.elim
theorem aT0 (ht:Mb c dst op=true)(hrs:∀t,t∈kL op->t∈rs)(ha:AgreeT rs (pV c dst st op) st st')(h:jL P c dst op st K):jL P c dst op st' (Tr (pR c dst op) (pV c dst st op) st st' K):=by
 have rdS:∀x,x∈op.operands.toList->st'.rdS x=st.rdS x:=fun x hx=>by
  cases x with
  | tmp t=>exact ha.env t (hrs t (fD hx t rfl))
  | _=>rfl
 have goY:Hb c dst op=true->(∀rd obj J sets ob,yR P (To c dst op) dst op rd obj sets ob->yR P (To c dst op) dst op rd (obj++J) sets ob)->jL P c dst op st' (Tr (pR c dst op) (pV c dst st op) st st' K):=by
  intro hy hm;have hw:pR c dst op=dst.toList++kL op:=by simp [pR,hy]
  unfold jL pV at *;simp only [hy,aU] at *;obtain⟨sets,ob,h1,hK⟩:=h;obtain⟨s1,s2⟩:=aBy h1;refine⟨sets,ob,?_,⟨sets,none,ob⟩,⟨fun p hp=>by rw [hw];exact s1 p hp,by simp,s2⟩,hK,rfl⟩;rw [Uy rdS];by_cases hr:(flY (To c dst op) op).rO=true
  .simp only [hr,aU] at h1 |-;obtain⟨J,hJ⟩:=ha.obj hr;rw [hJ];exact hm _ _ _ _ _ h1
  simp only [hr] at h1 |-;exact h1
 cases op with
 | load t a =>
  simp only [Mb,fQ,lM] at ht;obtain⟨⟨h1,h2⟩,h3⟩:=ht;have ld:∀K,kE P dst t a st K->st'.cellsAt (st'.rdS a)=st.cellsAt (st.rdS a)->kE P dst t a st' (Tr (pR c dst (.load t a)) (pV c dst st (.load t a)) st st' K):=by
   intro K h he;unfold kE at *;rw [he];split at h
   .split at h
    .exact aA9 kK h
    exact h.elim
   exact h.elim
  have tk:∀st K,lY P c dst t a st K=kE P dst t a st K:=by
   intro st K;unfold lY;split
   .rename_i d _;have:c.take.contains d=false:=by simpa using h1
    simp only [this];rfl
   rfl
  have hfl:pV c dst st (.load t a)=kI (dst.any c.take.contains) (st.rdS a):=by
   unfold pV;simp only [h2,h3];rfl
  have key:jL P c dst (.load t a) st K=kE P dst t a st K:=by
   unfold jL;simp only [h2,h3,eL,tk];rfl
  have key':∀K,jL P c dst (.load t a) st' K=kE P dst t a st' K:=fun K=>by
   unfold jL;simp only [h2,h3,eL,tk];rfl
  rw [key] at h;rw [key'];refine ld K h ?_;have he:st'.rdS a=st.rdS a:=rdS a (by simp [Op.operands]);rw [he];unfold kE at h;rw [hfl] at ha;cases hs:st.rdS a with
  | lref n off=>rw [hs] at ha;simp only [St.cellsAt];rw [ha.loc rfl]
  | d x =>
   cases x with
   | ref n off=>
    rw [hs] at ha h;obtain⟨J,hJ⟩:=ha.obj rfl;simp only [St.cellsAt] at h |-;rw [hJ];cases hg:st.obj[n]? with
    | none=>rw [hg] at h;simp at h
    | some cs=>rw [Ja hg]
   | _=>rfl
 | lookup t x k ok=>
  refine goY rfl fun rd obj J sets ob hy=>?_;simp only [yR,wF] at hy |-;split at hy
  .obtain⟨m,i,clock,kvs,dv,b,⟨⟨cs,g1,g2⟩,g3⟩,g4⟩:=hy;exact⟨m,i,clock,kvs,dv,b,⟨⟨cs,Ja g1,g2⟩,g3⟩,g4⟩
  .exact hy
  exact hy.elim
 | call call =>
  obtain⟨callee,args,ts⟩:=call;cases callee with
  | builtin b =>
   cases b with
   | len =>
    refine goY ht fun rd obj J sets ob hy=>?_;simp only [yR] at hy |-;refine aN8 (fun x t hy=>?_) hy;split at hy
    .rename_i h;rw [aI h];unfold Kb at hy |-;split at hy
     .obtain⟨m,i,clock,kvs,⟨cs,g1,g2⟩,g4⟩:=hy;exact⟨m,i,clock,kvs,⟨cs,Ja g1,g2⟩,g4⟩
     exact hy.elim
    rename_i h;rw [aC h];exact hy
   | _=>simp [Mb] at ht
  | _=>simp [Mb] at ht
 | _=>simp [Mb] at ht
theorem aS4 {s:St} (ha:Ul c dst op=true)(h:jL P c dst op st (· =s)):∃J,s.obj=st.obj++J:=by
 cases op with
 | makeMap t r=>
  unfold jL at h;simp only [Hb,isY,Bool.true_or,aU] at h;obtain⟨sets,ob,h1,rfl⟩:=h;have hf:(flY (To c dst (.makeMap t r)) (.makeMap t r)).rO=true:=rfl;simp only [hf,aU,yR,sX] at h1;split at h1
  .obtain⟨_,rfl,rfl⟩:=h1;exact⟨[[]],rfl⟩
  exact h1.elim
 | alloc e =>
  simp only [Ul,fQ,lM] at ha;obtain⟨⟨h1,h2⟩,h3⟩:=ha;unfold jL at h;simp only [h2,h3,eL,uB] at h;simp only [iH,bJ] at h;split at h
  .rename_i cs d _;have:c.esc.contains d=true:=by simpa using h1
   simp only [this,aU] at h;subst h;exact⟨[cs],rfl⟩
  exact h.elim
 | box e x =>
  simp only [Ul,fQ,lM] at ha;obtain⟨⟨⟨h1,h0⟩,h2⟩,h3⟩:=ha;unfold jL at h;simp only [h2,h3,eL,Hu] at h;simp only [iH,bJ] at h;split at h
  .rename_i d;have e1:c.esc.contains d=true:=by simpa using h1
   have e2:c.imm.contains d=false:=by simpa using h0
   simp only [e1,e2,aU] at h;simp only [iH,bJ] at h;obtain⟨_,rfl⟩:=h;exact⟨_,rfl⟩
  exact h.elim
 | _=>simp [Ul] at ha
inductive DK where
 | op (f:Fl)
 | pure
 | det
 | pureT
 | detT
 | read
 | pureC
 | readT
 | detA
 | nd
def DK.isNd:DK->Bool
 | .nd=>true
 | _=>false
def pU:DK->Fl
 | .op f=>f
 | .pure=>⟨false,false,false,false⟩
 | .pureT=>⟨false,false,false,false⟩
 | .detT=>⟨false,false,true,true⟩
 | .det=>⟨false,false,true,true⟩
 | .read=>⟨false,false,true,false⟩
 | .pureC=>⟨false,false,false,false⟩
 | .readT=>⟨false,false,true,false⟩
 | .detA=>⟨false,false,true,true⟩
 | .nd=>⟨false,false,true,true⟩
def Hg(c:Cfg)(dst:Option Tmp)(op:Op):DK->Bool
 | .op f=>f.rO && !f.wO && Mb c dst op
 | .readT=>true
 | _=>false
def aEt(c:Cfg)(dst:Option Tmp)(op:Op):DK->Bool
 | .op _=>Ul c dst op
 | .detA=>true
 | _=>false
theorem aBr {k:DK} (h:Hg c dst op k=true):(pU k).rO=true/\(pU k).wO=false:=by
 cases k <;> simp_all [Hg,pU]
def vA(c:Cfg)(dst:Option Tmp)(op:Op):DK->List Nat
 | .op _=>pR c dst op
 | .pureT | .detT=>dst.toList++kL op
 | _=>dst.toList
def aHc(P:Program)(dst:Option Tmp)(op:Op)(st:St)(Q:D->List (List D)->Prop):Prop:=match op with
 | .call { callee:= .value (.func f),args, .. } =>nG args.toList st/\Ct P f (iM args.toList st) st.obj Q/\∃r σ0,Q r σ0
 | _=>False
def At(P:Program)(c:Cfg)(dst:Option Tmp)(op:Op)(k:DK)(st:St)(K:St->Prop):Prop:=
 match k with
 | .op f=>mG op=false/\pV c dst st op=f/\jL P c dst op st K
 | .pure=>match op with
  | .call { callee:= .value (.func f),args, .. } =>nG args.toList st/\∃r,(∀σ,Ct P f (iM args.toList st) σ fun r' σ'=>r'=r/\σ'=σ)/\K (st.put dst (.d r))
  | _=>False
 | .read=>match op with
  | .call { callee:= .value (.func f),args, .. } =>nG args.toList st/\∃r,(Ct P f (iM args.toList st) st.obj fun r' σ'=>r'=r/\σ'=st.obj)/\K (st.put dst (.d r))
  | _=>False
 | .pureC => match op with
  | .call { callee:= .value f,args, .. } =>match st.rd f with
   | .clo (.func fid) first caps=>(∀d∈first++caps,d.plain=true)/\nG args.toList st/\∃r,(∀σ,Ct P fid (first.map D.strip++iM args.toList st++caps.map D.strip) σ fun r' σ'=>r'=r/\σ'=σ)/\K (st.put dst (.d r))
   | _=>False
  | _=>False
 | .readT=>match op with
  | .call { callee:= .value (.func f),args, .. } =>nG args.toList st/\∃r,(∀J,Ct P f (iM args.toList st) (st.obj++J) fun r' σ'=>r'=r/\σ'=st.obj++J)/\K (st.put dst (.d r))
  | _=>False
 | .nd=>∃Q,aHc P dst op st Q/\∀r σ0,Q r σ0->K (({ st with obj:=σ0 } :St).put dst (.d r))
 | .detA=>match op with
  | .call { callee:= .value (.func f),args, .. } =>nG args.toList st/\∃r J,(Ct P f (iM args.toList st) st.obj fun r' σ'=>r'=r/\σ'=st.obj++J)/\K (({ st with obj:=st.obj++J } :St).put dst (.d r))
  | _=>False
 | .det=>match op with
  | .call { callee:= .value (.func f),args, .. } =>nG args.toList st/\∃r σ0,(Ct P f (iM args.toList st) st.obj fun r' σ'=>r'=r/\σ'=σ0)/\K (({ st with obj:=σ0 } :St).put dst (.d r))
  | _=>False
 | .pureT => match dst, op with
  | some d,.call { callee:= .value (.func f),args, .. } =>(args.toList.filterMap cR).Nodup/\(∀x∈args.toList,Az (st.rdS x)=true/\(st.rd x).plain=true)/\
   ∃r,(∀σ,Ct P f (args.toList.map (xG st)) σ fun r' σ'=>r'=r/\σ'=σ)/\K (({ st with env:=iI (args.toList.map cR) st.env } :St).put (some d) (.d r))
  | _,_=>False
 | .detT => match dst, op with
  | some d,.call { callee:= .value (.func f),args, .. } =>(args.toList.filterMap cR).Nodup/\(∀x∈args.toList,Az (st.rdS x)=true/\(st.rd x).plain=true)/\
   ∃r σ0,(Ct P f (args.toList.map (xG st)) st.obj fun r' σ'=>r'=r/\σ'=σ0)/\K (({ st with env:=iI (args.toList.map cR) st.env,obj:=σ0 } :St).put (some d) (.d r))
  | _,_=>False
def yA(c:Cfg)(all:List Oper)(o:Oper)(k:DK):List Nat:=vA c o.dst o.op k++kL o.op++match o.guard with
 | none=> []
 | some (j,_)=>(aT all j).toList
def gC(ws:List Nat)(f:Fl)(s:St):Delta:=⟨ws.map fun t=>(t,s.env t),if f.wL then some s.loc else none,if f.wO then some s.obj else none⟩
theorem uM(ws:List Nat)(f:Fl)(s st:St)(t:Nat):(st.upd (gC ws f s)).env t=if t∈ws then s.env t else st.env t:=by
 simp only [St.upd,gC];exact Bl ws s.env st.env t
def No(P:Program)(all:List Oper)(o:Oper)(st:St)(K:St->Prop):Prop:=
 ∀(w:World) (g:Gh) (tmps:Array Value),Ok w g st (cL tmps)->tmps.size=st.n->
  (Region.wanted o (yielded all.toArray tmps)=true->o.wp P ⟨tmps, []⟩ w (fun a w'=>a.defers= []/\∃st' g',K st'/\Fr w g w' g'/\Ok w' g' st' (cL a.tmps)/\a.tmps.size=st'.n) (fun _ _ _=>False))/\
  (Region.wanted o (yielded all.toArray tmps)=false->∃st' g',K st'/\Fr w g w g'/\Ok w g' st' (cL ((⟨tmps, []⟩:Act).put o.dst undef).tmps)/\tmps.size=st'.n)
structure AgreeD(rs:List Nat)(f:Fl)(tol:Bool)(st st':St):Prop where
 n:st'.n=st.n
 env:∀t,t∈rs->st'.env t=st.env t
 loc:f.rL=true->st'.loc=st.loc
 obj:f.rO=true->(tol=false->st'.obj=st.obj)/\∃J,st'.obj=st.obj++J
theorem Agree.toD (h:Agree rs f st st'):AgreeD rs f tol st st':=⟨h.n,h.env,h.loc,fun e=>⟨fun _=>h.obj e, [],by rw [h.obj e,fZ]⟩⟩
theorem AgreeD.toA (h:AgreeD rs f false st st'):Agree rs f st st':=⟨h.n,h.env,h.loc,fun e=>(h.obj e).1 rfl⟩
theorem AgreeD.toT (h:AgreeD rs f tol st st'):AgreeT rs f st st':=⟨h.n,h.env,h.loc,fun e=>(h.obj e).2⟩
structure Step(P:Program)(c:Cfg)(all:List Oper)(o:Oper)(k:DK)(st s:St):Prop where
 self:s=st.upd (gC (vA c o.dst o.op k) (pU k) s)
 app:aEt c o.dst o.op k=true->∃J,s.obj=st.obj++J
 go:k.isNd=false->∀st',AgreeD (yA c all o k) (pU k) (Hg c o.dst o.op k) st st'->No P all o st' (· =st'.upd (gC (vA c o.dst o.op k) (pU k) s))
theorem aH6(c:Cfg)(dst:Option Tmp)(st:St)(op:Op):((jK c dst st op).wL=true->(jK c dst st op).rL=true)/\((jK c dst st op).wO=true->(jK c dst st op).rO=true):=by
 have ad:∀w s,((kI w s).wL=true->(kI w s).rL=true)/\((kI w s).wO=true->(kI w s).rO=true):=by
  intro w s;cases s with
  | lref n o=>simp [kI]
  | d d=>cases d <;> simp [kI]
 cases op <;> simp only [jK] <;> try exact⟨id,id⟩
 .split <;> simp
 .split
  .simp
  split <;> simp
 .exact ad _ _
 .exact ad _ _
 rename_i call;obtain⟨callee,args,ts⟩:=call;cases callee <;> exact⟨id,id⟩
theorem Tm(c:Cfg)(dst:Option Tmp)(st:St)(op:Op):((pV c dst st op).wL=true->(pV c dst st op).rL=true)/\((pV c dst st op).wO=true->(pV c dst st op).rO=true):=by
 unfold pV;split
 .unfold flY;split <;> first | (simp;done) | (split <;> simp)
 split
 .unfold flX;split <;> simp
 exact aH6 c dst st op
theorem Rn {δ:Delta} (hδ:δ.ok ws f)(hw:(f.wL=true->f.rL=true)/\(f.wO=true->f.rO=true))(ha:Agree ws f st st'):st'.upd δ=st'.upd (gC ws f (st.upd δ)):=by
 have key:∀t,gG δ.sets st'.env t=if t∈ws then gG δ.sets st.env t else st'.env t:=by
  intro t;split
  .rename_i ht;have:∀(l:List (Nat×Slot)) (e e':Nat->Slot),e t=e' t->gG l e t=gG l e' t:=by
    intro l;induction l with
    | nil=>intro e e' h;exact h
    | cons p l ih=>
     obtain⟨x,y⟩:=p;intro e e' h;exact ih _ _ (by split <;> first | rfl | exact h)
   exact this _ _ _ (ha.env t ht)
  rename_i ht;exact aBn fun p hp e=>ht (by rw [<- e];exact hδ.sets p hp)
 have h1:(st'.upd δ).env=(st'.upd (gC ws f (st.upd δ))).env:=by
  funext t;rw [uM];exact key t
 have h2:(st'.upd δ).loc=(st'.upd (gC ws f (st.upd δ))).loc:=by
  simp only [St.upd,gC];cases hl:f.wL with
  | true=>
   simp only [aU,fK];rw [ha.loc (hw.1 hl)]
  | false=>
   cases hd:δ.loc with
   | none=>simp
   | some l=>have:=hδ.loc (by simp [hd]);rw [hl] at this;cases this
 have h3:(st'.upd δ).obj=(st'.upd (gC ws f (st.upd δ))).obj:=by
  simp only [St.upd,gC];cases hl:f.wO with
  | true=>
   simp only [aU,fK];rw [ha.obj (hw.2 hl)]
  | false=>
   cases hd:δ.obj with
   | none=>simp
   | some l=>have:=hδ.obj (by simp [hd]);rw [hl] at this;cases this
 show(⟨_,_,_,_⟩:St)=⟨_,_,_,_⟩
 congr 1
theorem aE3 (h:AgreeD rs f tol st st') {x:Operand} (hx:∀t,cR x=some t->t∈rs):st'.rd x=st.rd x:=
 lL (rs:=rs) (f:=⟨false,false,false,false⟩) ⟨h.n,h.env,fun e=>(by cases e),fun e=>(by cases e)⟩ hx
theorem aM9 {δ:Delta} (hδ:δ.ok ws f)(hw:f.wL=true->f.rL=true)(hO:f.wO=false)(ha:AgreeT ws f st st'):st'.upd δ=st'.upd (gC ws f (st.upd δ)):=by
 have:=Rn (st':= { st' with obj:=st.obj }) hδ ⟨hw,fun h=>by rw [hO] at h;cases h⟩ ⟨ha.n,ha.env,ha.loc,fun _=>rfl⟩;have hn:δ.obj=none:=by
  cases hd:δ.obj with
  | none=>rfl
  | some l=>have:=hδ.obj (by simp [hd]);rw [hO] at this;cases this
 simp only [St.upd,gC,hn,hO,St.mk.injEq] at this |-;simpa using this
theorem Bw(rs:List Nat)(f:Fl)(st:St):Agree rs f st st:=⟨rfl,fun _ _=>rfl,fun _=>rfl,fun _=>rfl⟩
theorem Agree.sub {rs':List Nat} (h:Agree rs f st st')(hs:∀t,t∈rs'->t∈rs):Agree rs' f st st':=⟨h.n,fun t ht=>h.env t (hs t ht),h.loc,h.obj⟩
theorem Kc (hw:∀(w:World) (g:Gh) (tmps:Array Value),Ok w g st (cL tmps)->Region.wanted o (yielded all.toArray tmps)=true)(h:Does P o st K):No P all o st K:=by
 intro w g tmps hok hn;refine⟨fun _=>?_,fun hf=>by rw [hw w g tmps hok] at hf;cases hf⟩;exact Oper.wp_mono (fun a w' ⟨h1,st',g',h2,h3,h4,h5,_⟩=>⟨h1,st',g',h2,h3,h4,h5⟩) (h w g tmps hok hn)
theorem Dn {f:FuncId} {d:Nat} {r:Slot} {e e':Nat->Slot} (he:∀t,t∈kL (.call ⟨.value (.func f),args,ts⟩)->e' t=e t)(u:Nat):
  gG (((some d).toList++kL (.call ⟨.value (.func f),args,ts⟩)).map fun t=>(t,if t=d then r else iI (args.toList.map cR) e t)) e' u=if u=d then r else iI (args.toList.map cR) e' u:=by
 rw [Bl];by_cases hu:u=d
 .subst hu;simp
 simp only [hu,bJ];by_cases hm:u∈kL (.call ⟨.value (.func f),args,ts⟩)
 .rw [aI (by simp [hm])];simp only [iI,he u hm]
 rw [aC (by simp [hm,hu])];have hc:(args.toList.map cR).contains (some u)=false:=by
  rw [rA];intro hc;obtain⟨x,hx,hx'⟩:=aX.1 (by simpa using hc:some u∈args.toList.map cR);exact hm (fD (by simp [Op.operands,Call.operands];right;simpa using hx) u hx')
 simp only [iI,hc];rfl
theorem aB6 {k:DK} (hnd:k.isNd=false)(hfw:((pU k).wL=true->(pU k).rL=true)/\((pU k).wO=true->(pU k).rO=true))(hd:eT o st)(h:match o.guard with
  | none=>At P c o.dst o.op k st K
  | some (j,want)=>∃t b,aT all j=some t/\Hs (st.env t) want=some b/\(b=want->At P c o.dst o.op k st K)/\(b= !want->K (st.put o.dst .und))):∃s,K s/\Step P c all o k st s:=by
 -- the body of the step,taken
 have taken : At P c o.dst o.op k st K -> ∃ s, K s /\ s = st.upd (gC (vA c o.dst o.op k) (pU k) s) /\ (aEt c o.dst o.op k = true -> ∃ J, s.obj = st.obj ++ J) /\ ∀ st', AgreeD (yA c all o k) (pU k) (Hg c o.dst o.op k) st st' -> Does P o st' (· = st'.upd (gC (vA c o.dst o.op k) (pU k) s)) := by
  intro h;have hd':∀st',st'.n=st.n->eT o st':=fun st' hn=>by unfold eT at *;split <;> simp_all
  cases k with
  | nd=>cases hnd
  | op f =>
   obtain⟨h1,rfl,h3⟩:=h;obtain⟨s,hK,hs⟩:=aBd h1 h3;have loc:∀st',Agree (yA c all o (.op (pV c o.dst st o.op))) (pV c o.dst st o.op) st st'->∃δ:Delta,δ.ok (pR c o.dst o.op) (pV c o.dst st o.op)/\s=st.upd δ/\jL P c o.dst o.op st' (· =st'.upd δ):=by
    intro st' ha;have hl:=aNc (aXw h1) (rs:=yA c all o (.op (pV c o.dst st o.op))) (fun t ht=>by simp [yA,ht]) ha hs;obtain⟨s',⟨δ,d1,d2,rfl⟩,h5⟩:=aBd h1 hl;exact⟨δ,d1,d2.symm,h5⟩
   obtain⟨δ0,d1,d2,_⟩:=loc st (Bw _ _ _);refine⟨s,hK,?_,fun hap=>aS4 hap hs,fun st' ha=>?_⟩
   .have:=Rn d1 (Tm c o.dst st o.op) (Bw (pR c o.dst o.op) (pV c o.dst st o.op) st);rw [<- d2] at this;exact this
   by_cases htl:Hg c o.dst o.op (.op (pV c o.dst st o.op))=true
   .have hT:=ha.toT;have hop:Mb c o.dst o.op=true:=by simp only [Hg,fQ] at htl;exact htl.2
    have hl:=aT0 hop (rs:=yA c all o (.op (pV c o.dst st o.op))) (fun t ht=>by simp [yA,ht]) hT hs;obtain⟨s',⟨δ,e1,e2,rfl⟩,e3⟩:=aBd h1 hl;have:=aM9 e1 (Tm c o.dst st o.op).1 (aBr htl).2 ⟨hT.n,fun t ht=>hT.env t (by simp [yA,vA,ht]),hT.loc,hT.obj⟩;rw [e2] at this;simp only [vA,pU];rw [<- this];exact Sw ⟨hd' st' ha.n,e3⟩
   have ha:Agree (yA c all o (.op (pV c o.dst st o.op))) (pV c o.dst st o.op) st st':=by
    have e:Hg c o.dst o.op (.op (pV c o.dst st o.op))=false:=by simpa using htl
    rw [e] at ha;exact ha.toA
   obtain⟨δ,e1,e2,e3⟩:=loc st' ha;have:=Rn e1 (Tm c o.dst st o.op) (ha.sub (rs':=pR c o.dst o.op) (fun t ht=>by simp [yA,vA,ht]));rw [<- e2] at this;simp only [vA,pU];rw [<- this];exact Sw ⟨hd' st' ha.n,e3⟩
  | pure =>
   obtain⟨dst,op,ty,pos,after,guard⟩:=o;simp only [At] at h;split at h
   .rename_i f args ts _;obtain⟨h1,r,h2,h3⟩:=h;have ups:∀st':St,st'.upd (gC dst.toList ⟨false,false,false,false⟩ (st.put dst (.d r)))=st'.put dst (.d r):=by
     intro st';cases dst with
     | none=>rfl
     | some d=>
      refine St.mk.injEq .. |>.mpr ⟨rfl,?_,rfl,rfl⟩
      funext u;show gG [(d,(st.put (some d) (.d r)).env d)] st'.env u=_
      simp [gG,St.put,St.set]
    refine⟨_,h3,(ups st).symm,fun e=>(by cases e),fun st' ha=>?_⟩;replace ha:=ha.toA;simp only [vA,pU];rw [ups st'];have hargs:∀x∈args.toList,st'.rd x=st.rd x:=fun x hx=>lL ha fun t ht=>by
     have:=fD (op:= .call ⟨.value (.func f),args,ts⟩) (x:=x) (by simp [Op.operands,Call.operands];right;simpa using hx) t ht;simp [yA,this]
    refine mJ (.func f) args ts (hd' st' ha.n) rfl ?_;unfold mA;simp only [wE];refine⟨by simp,fun x hx=>by rw [hargs x hx];exact h1 x hx,?_⟩;have e1:iM args.toList st'=iM args.toList st:=eR fun x hx=>lX (hargs x hx);rw [e1];simpa using(h2 st'.obj).mono fun r' σ' ⟨a,b⟩=>by subst a;subst b;rfl
   exact h.elim
  | pureC =>
   obtain⟨dst,op,ty,pos,after,guard⟩:=o;simp only [At] at h;split at h
   .rename_i f args ts _;split at h
    .rename_i fid first caps hf
     obtain⟨h0,h1,r,h2,h3⟩:=h;have ups:∀st':St,st'.upd (gC dst.toList ⟨false,false,false,false⟩ (st.put dst (.d r)))=st'.put dst (.d r):=by
      intro st';cases dst with
      | none=>rfl
      | some d=>
       refine St.mk.injEq .. |>.mpr ⟨rfl,?_,rfl,rfl⟩
       funext u;show gG [(d,(st.put (some d) (.d r)).env d)] st'.env u=_
       simp [gG,St.put,St.set]
     refine⟨_,h3,(ups st).symm,fun e=>(by cases e),fun st' ha=>?_⟩;replace ha:=ha.toA;simp only [vA,pU];rw [ups st'];have hargs:∀x∈args.toList,st'.rd x=st.rd x:=fun x hx=>lL ha fun t ht=>by
      have:=fD (op:= .call ⟨.value f,args,ts⟩) (x:=x) (by simp [Op.operands,Call.operands];right;simpa using hx) t ht;simp [yA,this]
     have hff:st'.rd f=st.rd f:=lL ha fun t ht=>by
      have:=fD (op:= .call ⟨.value f,args,ts⟩) (x:=f) (by simp [Op.operands,Call.operands]) t ht;simp [yA,this]
     refine mJ f args ts (hd' st' ha.n) rfl ?_;unfold mA;rw [hff,hf];refine⟨h0,fun x hx=>by rw [hargs x hx];exact h1 x hx,?_⟩;have e1:iM args.toList st'=iM args.toList st:=eR fun x hx=>lX (hargs x hx);rw [e1];exact(h2 st'.obj).mono fun r' σ' ⟨a,b⟩=>by subst a;subst b;rfl
    exact h.elim
   exact h.elim
  | read =>
   obtain⟨dst,op,ty,pos,after,guard⟩:=o;simp only [At] at h;split at h
   .rename_i f args ts _;obtain⟨h1,r,h2,h3⟩:=h;have ups:∀st':St,st'.upd (gC dst.toList ⟨false,false,true,false⟩ (st.put dst (.d r)))=st'.put dst (.d r):=by
     intro st';cases dst with
     | none=>rfl
     | some d=>
      refine St.mk.injEq .. |>.mpr ⟨rfl,?_,rfl,rfl⟩
      funext u;show gG [(d,(st.put (some d) (.d r)).env d)] st'.env u=_
      simp [gG,St.put,St.set]
    refine⟨_,h3,(ups st).symm,fun e=>(by cases e),fun st' ha=>?_⟩;replace ha:=ha.toA;simp only [vA,pU];rw [ups st'];have hargs:∀x∈args.toList,st'.rd x=st.rd x:=fun x hx=>lL ha fun t ht=>by
     have:=fD (op:= .call ⟨.value (.func f),args,ts⟩) (x:=x) (by simp [Op.operands,Call.operands];right;simpa using hx) t ht;simp [yA,this]
    refine mJ (.func f) args ts (hd' st' ha.n) rfl ?_;unfold mA;simp only [wE];refine⟨by simp,fun x hx=>by rw [hargs x hx];exact h1 x hx,?_⟩;have e1:iM args.toList st'=iM args.toList st:=eR fun x hx=>lX (hargs x hx);rw [e1];rw [show st'.obj=st.obj from ha.obj rfl];simpa using h2.mono fun r' σ' ⟨a,b⟩=>by subst a;subst b;rw [<- show st'.obj=st.obj from ha.obj rfl]
   exact h.elim
  | det =>
   obtain⟨dst,op,ty,pos,after,guard⟩:=o;simp only [At] at h;split at h
   .rename_i f args ts _;obtain⟨h1,r,σ0,h2,h3⟩:=h;have ups:∀st':St,st'.upd (gC dst.toList ⟨false,false,true,true⟩ (({ st with obj:=σ0 } :St).put dst (.d r)))=({ st' with obj:=σ0 } :St).put dst (.d r):=by
     intro st';cases dst with
     | none=>rfl
     | some d=>
      refine St.mk.injEq .. |>.mpr ⟨rfl,?_,rfl,rfl⟩
      funext u;show gG [(d,(({ st with obj:=σ0 } :St).put (some d) (.d r)).env d)] st'.env u=_
      simp [gG,St.put,St.set]
    refine⟨_,h3,(ups st).symm,fun e=>(by cases e),fun st' ha=>?_⟩;replace ha:=ha.toA;simp only [vA,pU];rw [ups st'];have hargs:∀x∈args.toList,st'.rd x=st.rd x:=fun x hx=>lL ha fun t ht=>by
     have:=fD (op:= .call ⟨.value (.func f),args,ts⟩) (x:=x) (by simp [Op.operands,Call.operands];right;simpa using hx) t ht;simp [yA,this]
    refine mJ (.func f) args ts (hd' st' ha.n) rfl ?_;unfold mA;simp only [wE];refine⟨by simp,fun x hx=>by rw [hargs x hx];exact h1 x hx,?_⟩;have e1:iM args.toList st'=iM args.toList st:=eR fun x hx=>lX (hargs x hx);have e2:st'.obj=st.obj:=ha.obj rfl;rw [e1,e2];simpa using h2.mono fun r' σ' ⟨a,b⟩=>by subst a;subst b;rfl
   exact h.elim
  | readT =>
   obtain⟨dst,op,ty,pos,after,guard⟩:=o;simp only [At] at h;split at h
   .rename_i f args ts _;obtain⟨h1,r,h2,h3⟩:=h;have ups:∀st':St,st'.upd (gC dst.toList ⟨false,false,true,false⟩ (st.put dst (.d r)))=st'.put dst (.d r):=by
     intro st';cases dst with
     | none=>rfl
     | some d=>
      refine St.mk.injEq .. |>.mpr ⟨rfl,?_,rfl,rfl⟩
      funext u;show gG [(d,(st.put (some d) (.d r)).env d)] st'.env u=_
      simp [gG,St.put,St.set]
    refine⟨_,h3,(ups st).symm,fun e=>(by cases e),fun st' ha=>?_⟩;obtain⟨J,hJ⟩:=(ha.obj rfl).2;simp only [vA,pU];rw [ups st'];have hargs:∀x∈args.toList,st'.rd x=st.rd x:=fun x hx=>aE3 ha fun t ht=>by
     have:=fD (op:= .call ⟨.value (.func f),args,ts⟩) (x:=x) (by simp [Op.operands,Call.operands];right;simpa using hx) t ht;simp [yA,this]
    refine mJ (.func f) args ts (hd' st' ha.n) rfl ?_;unfold mA;simp only [wE];refine⟨by simp,fun x hx=>by rw [hargs x hx];exact h1 x hx,?_⟩;have e1:iM args.toList st'=iM args.toList st:=eR fun x hx=>lX (hargs x hx);rw [e1];rw [hJ];simpa using(h2 J).mono fun r' σ' ⟨a,b⟩=>by subst a;subst b;rw [<- hJ]
   exact h.elim
  | detA =>
   obtain⟨dst,op,ty,pos,after,guard⟩:=o;simp only [At] at h;split at h
   .rename_i f args ts _;obtain⟨h1,r,J,h2,h3⟩:=h;have ups:∀st':St,st'.upd (gC dst.toList ⟨false,false,true,true⟩ (({ st with obj:=st.obj++J } :St).put dst (.d r)))=({ st' with obj:=st.obj++J } :St).put dst (.d r):=by
     intro st';cases dst with
     | none=>rfl
     | some d=>
      refine St.mk.injEq .. |>.mpr ⟨rfl,?_,rfl,rfl⟩
      funext u;show gG [(d,(({ st with obj:=st.obj++J } :St).put (some d) (.d r)).env d)] st'.env u=_
      simp [gG,St.put,St.set]
    refine⟨_,h3,(ups st).symm,fun _=>⟨J,by cases dst <;> rfl⟩,fun st' ha=>?_⟩;replace ha:=ha.toA;simp only [vA,pU];rw [ups st'];have hargs:∀x∈args.toList,st'.rd x=st.rd x:=fun x hx=>lL ha fun t ht=>by
     have:=fD (op:= .call ⟨.value (.func f),args,ts⟩) (x:=x) (by simp [Op.operands,Call.operands];right;simpa using hx) t ht;simp [yA,this]
    refine mJ (.func f) args ts (hd' st' ha.n) rfl ?_;unfold mA;simp only [wE];refine⟨by simp,fun x hx=>by rw [hargs x hx];exact h1 x hx,?_⟩;have e1:iM args.toList st'=iM args.toList st:=eR fun x hx=>lX (hargs x hx);have e2:st'.obj=st.obj:=ha.obj rfl;rw [e1,e2];simpa using h2.mono fun r' σ' ⟨a,b⟩=>by subst a;subst b;rfl
   exact h.elim
  | pureT =>
   obtain⟨dst,op,ty,pos,after,guard⟩:=o;simp only [At] at h;split at h
   .rename_i d f args ts _;obtain⟨h0,h1,r,h2,h3⟩:=h;have ups:∀st':St,(∀t,t∈kL (.call ⟨.value (.func f),args,ts⟩)->st'.env t=st.env t)->
      st'.upd (gC ((some d).toList++kL (.call ⟨.value (.func f),args,ts⟩)) ⟨false,false,false,false⟩ (({ st with env:=iI (args.toList.map cR) st.env } :St).put (some d) (.d r)))=({ st' with env:=iI (args.toList.map cR) st'.env } :St).put (some d) (.d r):=by
     intro st' he;refine St.mk.injEq .. |>.mpr ⟨rfl,?_,rfl,rfl⟩
     funext u;exact Dn he u
    refine⟨_,h3,(ups st fun _ _=>rfl).symm,fun e=>(by cases e),fun st' ha=>?_⟩;replace ha:=ha.toA;have he:∀t,t∈kL (.call ⟨.value (.func f),args,ts⟩)->st'.env t=st.env t:=fun t ht=>ha.env t (by simp [yA,ht]);simp only [vA,pU];rw [ups st' he];have hargs:∀x∈args.toList,st'.rd x=st.rd x:=fun x hx=>lL ha fun t ht=>by
     have:=fD (op:= .call ⟨.value (.func f),args,ts⟩) (x:=x) (by simp [Op.operands,Call.operands];right;simpa using hx) t ht;simp [yA,this]
    have hargS:∀x∈args.toList,st'.rdS x=st.rdS x:=fun x hx=>sJ ha fun t ht=>by
     have:=fD (op:= .call ⟨.value (.func f),args,ts⟩) (x:=x) (by simp [Op.operands,Call.operands];right;simpa using hx) t ht;simp [yA,this]
    refine Bt f args ts (hd' st' ha.n) rfl ?_;unfold pO;refine⟨h0,fun x hx=>by rw [hargs x hx,hargS x hx];exact h1 x hx,?_⟩;have e1:args.toList.map (xG st')=args.toList.map (xG st):=eR fun x hx=>Bi (hargs x hx);rw [e1];exact(h2 st'.obj).mono fun r' σ' ⟨a,b⟩=>by subst a;subst b;rfl
   exact h.elim
  | detT =>
   obtain⟨dst,op,ty,pos,after,guard⟩:=o;simp only [At] at h;split at h
   .rename_i d f args ts _;obtain⟨h0,h1,r,σ0,h2,h3⟩:=h;have ups:∀st':St,(∀t,t∈kL (.call ⟨.value (.func f),args,ts⟩)->st'.env t=st.env t)->
      st'.upd (gC ((some d).toList++kL (.call ⟨.value (.func f),args,ts⟩)) ⟨false,false,true,true⟩ (({ st with env:=iI (args.toList.map cR) st.env,obj:=σ0 } :St).put (some d) (.d r)))=({ st' with env:=iI (args.toList.map cR) st'.env,obj:=σ0 } :St).put (some d) (.d r):=by
     intro st' he;refine St.mk.injEq .. |>.mpr ⟨rfl,?_,rfl,rfl⟩
     funext u;exact Dn he u
    refine⟨_,h3,(ups st fun _ _=>rfl).symm,fun e=>(by cases e),fun st' ha=>?_⟩;replace ha:=ha.toA;have he:∀t,t∈kL (.call ⟨.value (.func f),args,ts⟩)->st'.env t=st.env t:=fun t ht=>ha.env t (by simp [yA,ht]);simp only [vA,pU];rw [ups st' he];have hargs:∀x∈args.toList,st'.rd x=st.rd x:=fun x hx=>lL ha fun t ht=>by
     have:=fD (op:= .call ⟨.value (.func f),args,ts⟩) (x:=x) (by simp [Op.operands,Call.operands];right;simpa using hx) t ht;simp [yA,this]
    have hargS:∀x∈args.toList,st'.rdS x=st.rdS x:=fun x hx=>sJ ha fun t ht=>by
     have:=fD (op:= .call ⟨.value (.func f),args,ts⟩) (x:=x) (by simp [Op.operands,Call.operands];right;simpa using hx) t ht;simp [yA,this]
    refine Bt f args ts (hd' st' ha.n) rfl ?_;unfold pO;refine⟨h0,fun x hx=>by rw [hargs x hx,hargS x hx];exact h1 x hx,?_⟩;have e1:args.toList.map (xG st')=args.toList.map (xG st):=eR fun x hx=>Bi (hargs x hx);have e2:st'.obj=st.obj:=ha.obj rfl;rw [e1,e2];exact h2.mono fun r' σ' ⟨a,b⟩=>by subst a;subst b;rfl
   exact h.elim
 split at h
 .rename_i hg;obtain⟨s,h1,h2,h0,h3⟩:=taken h;exact⟨s,h1,h2,h0,fun _ st' ha=>Kc (fun w g tmps _=>by simp [Region.wanted,hg]) (h3 st' ha)⟩
 rename_i j want hg;obtain⟨t,b,h1,h2,h3,h4⟩:=h;have hin:t∈yA c all o k:=by simp [yA,hg,h1]
 by_cases hb:b=want
 .obtain⟨s,k1,k2,k0,k3⟩:=taken (h3 hb);refine⟨s,k1,k2,k0,fun _ st' ha=>Kc (fun w g tmps hok=>?_) (k3 st' ha)⟩;have:=Gy (all:=all) (j:=j) (want:=want) hok h1 (by rw [ha.env t hin];exact h2);simp [Region.wanted,hg,this,hb]
 have hb':b= !want:=by cases b <;> cases want <;> simp_all
 have hdw:∀d,o.dst=some d->d∈vA c o.dst o.op k:=by
  intro d e;cases k <;> simp [vA,pR,e]
 have same:∀st',AgreeD (yA c all o k) (pU k) (Hg c o.dst o.op k) st st'->st'.upd (gC (vA c o.dst o.op k) (pU k) (st.put o.dst .und))=st'.put o.dst .und:=by
  intro st' ha;refine St.mk.injEq .. |>.mpr ⟨by cases o.dst <;> rfl,?_,?_,?_⟩
  .funext u;have:=uM (vA c o.dst o.op k) (pU k) (st.put o.dst .und) st' u;simp only [St.upd,gC] at this;rw [gC];simp only;rw [this];have hin':u∈vA c o.dst o.op k->st'.env u=st.env u:=fun hu=>ha.env u (by simp [yA,hu]);cases hd':o.dst with
   | none=>
    rw [hd'] at hin';split
    .rename_i hu;exact(hin' hu).symm
    rfl
   | some d=>
    rw [hd'] at hin';have hdw':=hdw d hd';rw [hd'] at hdw';simp only [St.put,St.set];by_cases hu:u=d
    .subst hu;simp [hdw']
    simp only [hu,bJ];split
    .rename_i h;exact(hin' h).symm
    rfl
  .simp only [gC];cases hl:(pU k).wL with
   | true=>have:=ha.loc (hfw.1 hl);cases o.dst <;> simp [St.put,St.set,this]
   | false=>cases o.dst <;> simp [St.put,St.set]
  simp only [gC];cases hl:(pU k).wO with
  | true=>
   have:=(ha.obj (hfw.2 hl)).1 (by cases ht:Hg c o.dst o.op k with | false=>rfl | true=>have:=(aBr ht).2;rw [hl] at this;cases this);cases o.dst <;> simp [St.put,St.set,this]
  | false=>cases o.dst <;> simp [St.put,St.set]
 refine⟨_,h4 hb',(same st (Bw _ _ _).toD).symm,fun _=>⟨[],by cases o.dst <;> simp [St.put,St.set]⟩,fun _ st' ha=>?_⟩;rw [same st' ha];intro w g tmps hok hn;have hy:=Gy (all:=all) (j:=j) (want:=want) hok h1 (by rw [ha.env t hin];exact h2);have hw:Region.wanted o (yielded all.toArray tmps)=false:=by simp [Region.wanted,hg,hy,hb]
 refine⟨fun h=>(by rw [hw] at h;cases h),fun _=>?_⟩;have hdst:∀d,o.dst=some d->d<tmps.size:=by
  intro d hd';have hd2:d<st.n:=by simpa [eT,hd'] using hd
  rw [hn,ha.n];exact hd2
 refine⟨_,g,rfl,Fr.refl w g,?_,by rw [Vk];exact hn⟩;rw [Dl tmps [] o.dst undef hdst];exact hok.put o.dst .und undef fun t _=>aMu t
theorem aO7 {Q:D->List (List D)->Prop} (hg:o.guard=none)(hd:eT o st)(h:aHc P o.dst o.op st Q)(ha:Agree (yA c all o .nd) (pU .nd) st st'):
  No P all o st' fun s=>∃r σ0,Q r σ0/\s=({ st' with obj:=σ0 } :St).put o.dst (.d r):=by
 obtain⟨dst,op,ty,pos,after,guard⟩:=o;simp only at hg;subst hg;have hd':eT ⟨dst,op,ty,pos,after,none⟩ st':=by unfold eT at *;have:=ha.n;split <;> simp_all
 refine Kc (fun w g tmps _=>by simp [Region.wanted]) ?_;simp only [aHc] at h;split at h
 .rename_i _ f args ts;obtain⟨h1,h2,_⟩:=h;have hargs:∀x∈args.toList,st'.rd x=st.rd x:=fun x hx=>lL ha fun t ht=>by
   have:=fD (op:= .call ⟨.value (.func f),args,ts⟩) (x:=x) (by simp [Op.operands,Call.operands];right;simpa using hx) t ht;simp [yA,this]
  refine mJ (.func f) args ts hd' rfl ?_;unfold mA;simp only [wE];refine⟨by simp,fun x hx=>by rw [hargs x hx];exact h1 x hx,?_⟩;have e1:iM args.toList st'=iM args.toList st:=eR fun x hx=>lX (hargs x hx);have e2:st'.obj=st.obj:=ha.obj rfl;rw [e1,e2];simpa using h2.mono fun r' σ' hq=>⟨r',σ',hq,rfl⟩
 exact h.elim
theorem aLt {r:D} {σ0:List (List D)} :st'.upd (gC (vA c dst op .nd) (pU .nd) (({ st with obj:=σ0 } :St).put dst (.d r)))=({ st' with obj:=σ0 } :St).put dst (.d r):=by
 cases dst with
 | none=>rfl
 | some d=>
  refine St.mk.injEq .. |>.mpr ⟨rfl,?_,rfl,rfl⟩
  funext u;show gG [(d,(({ st with obj:=σ0 } :St).put (some d) (.d r)).env d)] st'.env u=_
  simp [gG,St.put,St.set]
end
end Go.Vm
