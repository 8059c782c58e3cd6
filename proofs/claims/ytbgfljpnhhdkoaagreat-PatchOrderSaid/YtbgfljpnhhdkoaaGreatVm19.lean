import Derived.Test.YtbgfljpnhhdkoaaGreatVm18
namespace Go.Vm
open Go
set_option linter.all false
section
variable {P:Program}
def gX:Op→Bool
 | .call { callee:= .builtin _, .. } =>false
 | .call _=>true
 | .binOp _ _ _ y _=>rF y
 | .range _ _ | .next _ _ | .entry _=>true
 | _=>false
theorem aKi {op:Op} (h:gX op=false):wM op=false:=by
 cases op <;> first | rfl | simp [gX] at h
theorem Rc {op:BinOp} {t:TypeId} {x y:Slot} {K:D→Prop} (h:pL P op t x y K):∃d,K d∧pL P op t x y (· =d):=by
 unfold pL at *;split at h
 ·obtain⟨h1,h2⟩:=h;unfold xS at *;cases op <;> simp only at h2 ⊢ <;> first | exact⟨_,h2,h1,rfl⟩ | exact⟨_,h2.2,h1,h2.1,rfl⟩ | exact⟨_,h2.2.2,h1,h2.1,h2.2.1,rfl⟩ | exact h2.elim
 ·unfold xE at *;cases op <;> simp only at h ⊢ <;> first | exact⟨_,h,rfl⟩ | exact⟨_,h.2,h.1,rfl⟩ | exact h.elim
 ·obtain⟨h1,h2⟩:=h;cases op <;> simp only at h2 ⊢ <;> first | exact⟨_,h2,h1,rfl⟩ | exact h2.elim
 ·obtain⟨h1,h2⟩:=h;cases op <;> simp only at h2 ⊢ <;> first | (obtain⟨b,e1,e2⟩:=h2;exact⟨_,e2,h1,b,e1,rfl⟩) | exact h2.elim
 ·obtain⟨h1,h2⟩:=h;cases op <;> simp only at h2 ⊢ <;> first | exact⟨_,h2,h1,rfl⟩ | exact h2.elim
 ·obtain⟨h1,h2⟩:=h;cases op <;> simp only at h2 ⊢ <;> first | exact⟨_,h2,h1,rfl⟩ | exact h2.elim
 exact h.elim
theorem Za {op:UnOp} {x:D} {K:D→Prop} (h:xZ op x K):∃d,K d∧xZ op x (· =d):=by
 unfold xZ at *;split at h
 ·exact⟨_,h,rfl⟩
 ·exact⟨_,h.2,h.1,rfl⟩
 exact h.elim
theorem Te {c:Cfg} {dst:Option Tmp} {f:Operand} {args:Array Operand} {ts:Array TypeId} {st:St} {K K':St→Prop} (hk:∀s,K s→K' s)(h:cN P c dst (.call ⟨.value f,args,ts⟩) st K):cN P c dst (.call ⟨.value f,args,ts⟩) st K':=by
 have pc:∀f,iE P dst f args.toList st K→iE P dst f args.toList st K':=by
  intro f h;unfold iE at *;split at h
  ·exact⟨h.1,h.2.1,h.2.2.mono fun r σ' hK=>hk _ hK⟩
  exact h
 have pt:∀fid,kB P dst fid args.toList st K→kB P dst fid args.toList st K':=fun fid h=>⟨h.1,h.2.1,h.2.2.mono fun r σ' hK=>hk _ hK⟩;simp only [cN,jU] at *;cases f with
 | func fid =>
  simp only at *;cases dst with
  | none=>exact pc _ h
  | some d=>
   simp only at *;split at h
   ·rename_i ht;rw [if_pos ht];exact pt _ h
   rename_i ht;rw [if_neg ht];exact pc _ h
 | _=>exact pc _ h
theorem aDp {c:Cfg} {dst:Option Tmp} {op:Op} {st:St} {K:St→Prop} (hc:gX op=false)(h:cN P c dst op st K):∃s,K s∧cN P c dst op st (· =s):=by
 have mv:∀x,gD c dst x st K→∃s,K s∧gD c dst x st (· =s):=by
  intro x h;unfold gD at *;split at h
  ·split at h
   ·exact⟨_,h,rfl⟩
   split at h
   ·rename_i ht;exact⟨_,h.2.2,by rw [if_pos ht];exact⟨h.1,h.2.1,rfl⟩⟩
   rename_i ht;exact⟨_,h.2,by rw [if_neg ht];exact⟨h.1,rfl⟩⟩
  ·exact h.elim
  exact⟨_,h,rfl⟩
 have ld:∀t x,fV P dst t x st K→∃s,K s∧fV P dst t x st (· =s):=by
  intro t x h;unfold fV at *;split at h
  ·split at h
   ·exact⟨_,h,rfl⟩
   exact h.elim
  exact h.elim
 cases op with
 | move x=>exact mv x h
 | assign x=>exact mv x h
 | binOp b t x y yt=>
  have hy:¬rF y=true:=by simp only [gX] at hc;simp [hc]
  simp only [cN] at h ⊢;simp only [if_neg hy] at h ⊢;obtain⟨d,h1,h2⟩:=Rc (P:=P) h;exact⟨_,h1,sM (fun e he=>by rw [he]) h2⟩
 | unOp u t x=>
  simp only [cN] at h ⊢;obtain⟨d,h1,h2⟩:=Za h;exact⟨_,h1,uY (fun e he=>by rw [he]) h2⟩
 | load t x =>
  simp only [cN,gN] at *;split at h
  ·split at h
   ·rename_i htk;simp only [if_pos htk];split at h
    ·split at h
     ·split at h
      ·exact⟨_,h.2.2,h.1,h.2.1,rfl⟩
      exact h.elim
     exact h.elim
    ·split at h
     ·split at h
      ·exact⟨_,h.2.2,h.1,h.2.1,rfl⟩
      exact h.elim
     exact h.elim
    exact ld t x h
   rename_i htk;simp only [if_neg htk];exact ld t x h
  exact ld t x h
 | fieldAddr s x f=>
  simp only [cN,iQ] at *;split at h
  ·exact⟨_,h.2,h.1,rfl⟩
  exact h.elim
 | field s x f =>
  simp only [cN,pC] at *;split at h
  ·split at h
   ·exact⟨_,h,rfl⟩
   exact h.elim
  exact h.elim
 | indexAddr t x i =>
  simp only [cN,iJ] at *;split at h
  ·split at h
   ·split at h
    ·exact⟨_,h.2.2.2,h.1,h.2.1,h.2.2.1,rfl⟩
    exact h.elim
   split at h
   ·exact⟨_,h.2.2,h.1,h.2.1,rfl⟩
   exact h.elim
  exact h.elim
 | index t x i =>
  simp only [cN,pF] at *;split at h
  ·exact⟨_,h.2.2,h.1,h.2.1,rfl⟩
  ·split at h
   ·split at h
    ·split at h
     ·exact⟨_,h.2,h.1,rfl⟩
     exact h.elim
    exact h.elim
   exact h.elim
  exact h.elim
 | slice t x lo hi mx =>
  simp only [cN,oX] at *;split at h
  ·obtain⟨h1,h2,h3⟩:=h;split at h3
   ·exact⟨_,h3.2,h1,h2,h3.1,rfl⟩
   exact h3.elim
  ·split at h
   ·split at h
    ·split at h
     ·exact⟨_,h.2.2,h.1,h.2.1,rfl⟩
     exact h.elim
    split at h
    ·exact⟨_,h.2.2,h.1,h.2.1,rfl⟩
    exact h.elim
   exact h.elim
  exact h.elim
 | pick a x y =>
  simp only [cN,sW] at *;split at h
  ·rename_i t ht;cases t with
   | true=>exact⟨_,(h.1 rfl).2,fun _=>⟨(h.1 rfl).1,rfl⟩,fun e=>(by cases e)⟩
   | false=>exact⟨_,(h.2 rfl).2,fun e=>(by cases e),fun _=>⟨(h.2 rfl).1,rfl⟩⟩
  exact h.elim
 | extract x i =>
  simp only [cN,kM] at *;split at h
  ·split at h
   ·split at h
    ·obtain⟨h1,h2⟩:=h;split at h2
     ·rename_i ht;exact⟨_,h2.2.2,h1,by rw [if_pos ht];exact⟨h2.1,h2.2.1,rfl⟩⟩
     rename_i ht;exact⟨_,h2,h1,by rw [if_neg ht]⟩
    exact h.elim
   exact h.elim
  exact h.elim
 | makeFunc f first caps=>exact⟨_,h.2,h.1,rfl⟩
 | nilCheck x=>exact⟨_,h.2,h.1,rfl⟩
 | convert s d x=>
  simp only [cN,kQ] at *;split at h
  ·obtain⟨a,b,h1,h2,h3,h4⟩:=h;exact⟨_,h4,a,b,h1,h2,h3,rfl⟩
  ·exact⟨_,h.2.2,h.1,h.2.1,rfl⟩
  exact h.elim
 | alloc e =>
  simp only [cN,nG] at *;split at h
  ·split at h
   ·rename_i he;exact⟨_,h,by rw [if_pos he]⟩
   rename_i he;exact⟨_,h,by rw [if_neg he]⟩
  exact h.elim
 | box e x =>
  simp only [cN,xL] at *;split at h
  ·obtain⟨h1,h2⟩:=h;split at h2
   ·rename_i hi;exact⟨_,h2,h1,by rw [if_pos hi]⟩
   rename_i hi;split at h2
   ·rename_i he;exact⟨_,h2,h1,by rw [if_neg hi,if_pos he]⟩
   rename_i he;exact⟨_,h2,h1,by rw [if_neg hi,if_neg he]⟩
  exact h.elim
 | store t a v =>
  simp only [cN,rG] at *;obtain⟨h1,h2,h3,h4⟩:=h;split at h4
  ·split at h4
   ·exact⟨_,h4.2,h1,h2,h3,h4.1,rfl⟩
   exact h4.elim
  ·split at h4
   ·exact⟨_,h4.2,h1,h2,h3,h4.1,rfl⟩
   exact h4.elim
  exact h4.elim
 | build t parts =>
  simp only [cN,oK] at *;split at h
  ·split at h
   ·exact⟨_,h,rfl⟩
   exact h.elim
  exact h.elim
 | buildSlice t len parts=>
  simp only [cN,gP] at *;split at h
  ·exact⟨_,h.2.2,h.1,h.2.1,rfl⟩
  exact h.elim
 | call call =>
  obtain⟨callee,args,ts⟩:=call;cases callee with
  | builtin b =>
   simp only [cN,jU,mB] at *;split at h
   ·simp only [Ao] at *;split at h
    ·exact⟨_,h.2,h.1,rfl⟩
    ·exact⟨_,h.2,h.1,rfl⟩
    exact h.elim
   ·simp only [mO] at *;split at h
    ·obtain⟨h1,h2,h3,h4,h5⟩:=h;split at h5
     ·exact⟨_,h5.2,h1,h2,h3,h4,h5.1,rfl⟩
     ·exact⟨_,h5,h1,h2,h3,h4,rfl⟩
     exact h5.elim
    exact h.elim
   ·simp only [pR] at *;split at h
    ·exact⟨_,h.2,h.1,rfl⟩
    exact h.elim
   ·simp only [pR] at *;split at h
    ·exact⟨_,h.2,h.1,rfl⟩
    exact h.elim
   exact h.elim
  | _=>simp [gX] at hc
 | range t x=>simp [gX] at hc
 | next x s=>simp [gX] at hc
 | entry x=>simp [gX] at hc
 | _=>exact h.elim
theorem Oq {c:Cfg} {dst:Option Tmp} {op:Op} {st:St} {K K':St→Prop} (hk:∀s,K s→K' s)(h:cN P c dst op st K):cN P c dst op st K':=by
 have mv:∀x,gD c dst x st K→gD c dst x st K':=by
  intro x h;unfold gD at *;split at h
  ·split at h
   ·exact hk _ (h)
   split at h
   ·rename_i ht;exact(by rw [if_pos ht];exact⟨h.1,h.2.1,hk _ (h.2.2)⟩)
   rename_i ht;exact(by rw [if_neg ht];exact⟨h.1,hk _ (h.2)⟩)
  ·exact h.elim
  exact hk _ (h)
 have ld:∀t x,fV P dst t x st K→fV P dst t x st K':=by
  intro t x h;unfold fV at *;split at h
  ·split at h
   ·exact hk _ (h)
   exact h.elim
  exact h.elim
 cases op with
 | move x=>exact mv x h
 | assign x=>exact mv x h
 | binOp b t x y yt=>
  simp only [cN] at h ⊢;split at h
  ·rename_i hy;rw [if_pos hy];exact Nd hk h
  rename_i hy;rw [if_neg hy];exact sM (fun e he=>hk _ he) h
 | unOp u t x=>
  simp only [cN] at h ⊢;exact uY (fun e he=>hk _ he) h
 | load t x =>
  simp only [cN,gN] at *;split at h
  ·split at h
   ·rename_i htk;simp only [if_pos htk];split at h
    ·split at h
     ·split at h
      ·exact⟨h.1,h.2.1,hk _ (h.2.2)⟩
      exact h.elim
     exact h.elim
    ·split at h
     ·split at h
      ·exact⟨h.1,h.2.1,hk _ (h.2.2)⟩
      exact h.elim
     exact h.elim
    exact ld t x h
   rename_i htk;simp only [if_neg htk];exact ld t x h
  exact ld t x h
 | fieldAddr s x f=>
  simp only [cN,iQ] at *;split at h
  ·exact⟨h.1,hk _ (h.2)⟩
  exact h.elim
 | field s x f =>
  simp only [cN,pC] at *;split at h
  ·split at h
   ·exact hk _ (h)
   exact h.elim
  exact h.elim
 | indexAddr t x i =>
  simp only [cN,iJ] at *;split at h
  ·split at h
   ·split at h
    ·exact⟨h.1,h.2.1,h.2.2.1,hk _ (h.2.2.2)⟩
    exact h.elim
   split at h
   ·exact⟨h.1,h.2.1,hk _ (h.2.2)⟩
   exact h.elim
  exact h.elim
 | index t x i =>
  simp only [cN,pF] at *;split at h
  ·exact⟨h.1,h.2.1,hk _ (h.2.2)⟩
  ·split at h
   ·split at h
    ·split at h
     ·exact⟨h.1,hk _ h.2⟩
     exact h.elim
    exact h.elim
   exact h.elim
  exact h.elim
 | slice t x lo hi mx =>
  simp only [cN,oX] at *;split at h
  ·obtain⟨h1,h2,h3⟩:=h;split at h3
   ·exact⟨h1,h2,h3.1,hk _ (h3.2)⟩
   exact h3.elim
  ·split at h
   ·split at h
    ·split at h
     ·exact⟨h.1,h.2.1,hk _ (h.2.2)⟩
     exact h.elim
    split at h
    ·exact⟨h.1,h.2.1,hk _ (h.2.2)⟩
    exact h.elim
   exact h.elim
  exact h.elim
 | pick a x y=>
  simp only [cN,sW] at *;split at h
  ·rename_i t ht;exact⟨fun ht=>⟨(h.1 ht).1,hk _ (h.1 ht).2⟩,fun ht=>⟨(h.2 ht).1,hk _ (h.2 ht).2⟩⟩
  exact h.elim
 | extract x i =>
  simp only [cN,kM] at *;split at h
  ·split at h
   ·split at h
    ·obtain⟨h1,h2⟩:=h;split at h2
     ·rename_i ht;exact⟨h1,(by rw [if_pos ht];exact⟨h2.1,h2.2.1,hk _ (h2.2.2)⟩)⟩
     rename_i ht;exact⟨h1,(by rw [if_neg ht];exact hk _ (h2))⟩
    exact h.elim
   exact h.elim
  exact h.elim
 | makeFunc f first caps=>exact⟨h.1,hk _ (h.2)⟩
 | nilCheck x=>exact⟨h.1,hk _ (h.2)⟩
 | convert s d x=>
  simp only [cN,kQ] at *;split at h
  ·obtain⟨a,b,h1,h2,h3,h4⟩:=h;exact⟨a,b,h1,h2,h3,hk _ (h4)⟩
  ·exact⟨h.1,h.2.1,hk _ (h.2.2)⟩
  exact h.elim
 | alloc e =>
  simp only [cN,nG] at *;split at h
  ·split at h
   ·rename_i he;exact(by rw [if_pos he];exact hk _ (h))
   rename_i he;exact(by rw [if_neg he];exact hk _ (h))
  exact h.elim
 | box e x =>
  simp only [cN,xL] at *;split at h
  ·obtain⟨h1,h2⟩:=h;split at h2
   ·rename_i hi;exact⟨h1,(by rw [if_pos hi];exact hk _ (h2))⟩
   rename_i hi;split at h2
   ·rename_i he;exact⟨h1,(by rw [if_neg hi,if_pos he];exact hk _ (h2))⟩
   rename_i he;exact⟨h1,(by rw [if_neg hi,if_neg he];exact hk _ (h2))⟩
  exact h.elim
 | store t a v =>
  simp only [cN,rG] at *;obtain⟨h1,h2,h3,h4⟩:=h;split at h4
  ·split at h4
   ·exact⟨h1,h2,h3,h4.1,hk _ (h4.2)⟩
   exact h4.elim
  ·split at h4
   ·exact⟨h1,h2,h3,h4.1,hk _ (h4.2)⟩
   exact h4.elim
  exact h4.elim
 | build t parts =>
  simp only [cN,oK] at *;split at h
  ·split at h
   ·exact hk _ (h)
   exact h.elim
  exact h.elim
 | buildSlice t len parts=>
  simp only [cN,gP] at *;split at h
  ·exact⟨h.1,h.2.1,hk _ (h.2.2)⟩
  exact h.elim
 | call call =>
  obtain⟨callee,args,ts⟩:=call;cases callee with
  | builtin b =>
   simp only [cN,jU,mB] at *;split at h
   ·simp only [Ao] at *;split at h
    ·exact⟨h.1,hk _ (h.2)⟩
    ·exact⟨h.1,hk _ (h.2)⟩
    exact h.elim
   ·simp only [mO] at *;split at h
    ·obtain⟨h1,h2,h3,h4,h5⟩:=h;split at h5
     ·exact⟨h1,h2,h3,h4,h5.1,hk _ (h5.2)⟩
     ·exact⟨h1,h2,h3,h4,hk _ (h5)⟩
     exact h5.elim
    exact h.elim
   ·simp only [pR] at *;split at h
    ·exact⟨h.1,hk _ (h.2)⟩
    exact h.elim
   ·simp only [pR] at *;split at h
    ·exact⟨h.1,hk _ (h.2)⟩
    exact h.elim
   exact h.elim
  | value f=>exact Te hk h
  | invoke r m=>
   simp only [cN,jU,nW] at *;split at h
   ·obtain⟨h1,h2,fn,h3,h4⟩:=h;exact⟨h1,h2,fn,h3,h4.mono fun r σ' hK=>hk _ hK⟩
   exact h.elim
 | range t x=>exact Ge hk h
 | next x s=>
  cases s with
  | false=>exact Jp hk h
  | true=>exact h.elim
 | entry x=>exact Ey hk h
 | _=>exact h.elim
theorem aKo {dst:Option Tmp} {op:Op} {st:St} {K:St→Prop} (h:Uh P dst op st K):∃s,K s∧Uh P dst op st (· =s):=by
 unfold Uh at *;split at h
 ·split at h
  ·simp only [uX] at *;obtain⟨h0,h⟩:=h;split at h <;> first | exact⟨_,h,h0,rfl⟩ | exact h.elim
  exact h.elim
 ·split at h
  ·simp only [kP] at *;split at h
   ·obtain⟨h0,h1,h2,h3⟩:=h;split at h3 <;> first | exact⟨_,h3.2,h0,h1,h2,h3.1,rfl⟩ | (obtain⟨ds,es,h4,h5⟩:=h3;exact⟨_,h5,h0,h1,h2,ds,es,h4,rfl⟩) | exact h3.elim
   exact h.elim
  exact h.elim
 ·split at h
  ·simp only [nX] at *;obtain⟨h0,h⟩:=h;split at h
   ·split at h
    ·exact⟨_,h.2,h0,h.1,rfl⟩
    exact h.elim
   exact h.elim
  exact h.elim
 ·simp only [gO] at *;split at h
  ·exact⟨_,h.2,h.1,rfl⟩
  exact h.elim
 ·simp only [mK] at *;split at h
  ·split at h
   ·exact⟨_,h.2,h.1,rfl⟩
   exact h.elim
  exact h.elim
 exact h.elim
theorem aHo {dst:Option Tmp} {op:Op} {st:St} {K K':St→Prop} (hk:∀s,K s→K' s)(h:Uh P dst op st K):Uh P dst op st K':=by
 unfold Uh at *;split at h
 ·split at h
  ·simp only [uX] at *;obtain⟨h0,h⟩:=h;split at h <;> first | exact⟨h0,hk _ h⟩ | exact h.elim
  exact h.elim
 ·split at h
  ·simp only [kP] at *;split at h
   ·obtain⟨h0,h1,h2,h3⟩:=h;split at h3 <;> first | exact⟨h0,h1,h2,h3.1,hk _ h3.2⟩ | (obtain⟨ds,es,h4,h5⟩:=h3;exact⟨h0,h1,h2,ds,es,h4,hk _ h5⟩) | exact h3.elim
   exact h.elim
  exact h.elim
 ·split at h
  ·simp only [nX] at *;obtain⟨h0,h⟩:=h;split at h
   ·split at h
    ·exact⟨h0,h.1,hk _ h.2⟩
    exact h.elim
   exact h.elim
  exact h.elim
 ·simp only [gO] at *;split at h
  ·exact⟨h.1,hk _ h.2⟩
  exact h.elim
 ·simp only [mK] at *;split at h
  ·split at h
   ·exact⟨h.1,hk _ h.2⟩
   exact h.elim
  exact h.elim
 exact h.elim
theorem Mj {c:Cfg} {dst:Option Tmp} {op:Op} {st:St} {K:St→Prop} (hc:gX op=false)(h:fG P c dst op st K):∃s,K s∧fG P c dst op st (· =s):=by
 unfold fG at *;by_cases hy:wC c dst op=true
 ·simp only [hy,if_true] at *;obtain⟨sets,ob,h1,hK⟩:=h;exact⟨_,hK,sets,ob,h1,rfl⟩
 simp only [hy] at *;by_cases hu:Gm c dst op=true
 ·simp only [hu,if_true] at *;exact aKo h
 simp only [hu] at *;exact aDp hc h
theorem sJ {c:Cfg} {dst:Option Tmp} {op:Op} {st:St} {K K':St→Prop} (hk:∀s,K s→K' s)(h:fG P c dst op st K):fG P c dst op st K':=by
 unfold fG at *;by_cases hy:wC c dst op=true
 ·simp only [hy,if_true] at *;obtain⟨sets,ob,h1,hK⟩:=h;exact⟨sets,ob,h1,hk _ hK⟩
 simp only [hy] at *;by_cases hu:Gm c dst op=true
 ·simp only [hu,if_true] at *;exact aHo hk h
 simp only [hu] at *;exact Oq hk h
def Bs(c:Cfg)(dst:Option Tmp):Op→Bool
 | .load t a=> !dst.any c.take.contains && !wC c dst (.load t a) && !Gm c dst (.load t a)
 | .lookup _ _ _ _=>true
 | .call ⟨.builtin .len,args,ts⟩=>wC c dst (.call ⟨.builtin .len,args,ts⟩)
 | _=>false
def Hn(c:Cfg)(dst:Option Tmp):Op→Bool
 | .makeMap _ _=>true
 | .alloc e=>dst.any c.esc.contains && !wC c dst (.alloc e) && !Gm c dst (.alloc e)
 | .box e x=>dst.any c.esc.contains && !dst.any c.imm.contains && !wC c dst (.box e x) && !Gm c dst (.box e x)
 | _=>false
structure AgreeT(rs:List Nat)(f:Fl)(st st':St):Prop where
 n:st'.n=st.n
 env:∀t,t∈rs→st'.env t=st.env t
 loc:f.rL=true→st'.loc=st.loc
 obj:f.rO=true→∃J,st'.obj=st.obj++J
theorem yI {α:Type} {l J:List α} {n:Nat} {x:α} (h:l[n]?=some x):(l++J)[n]?=some x:=by
 rw [List.getElem?_append_left (List.getElem?_eq_some_iff.1 h).1];exact h
theorem aDe {args:List Operand} {ts:List TypeId} {f g:Operand→TypeId→jG} {sets:List (Nat×Slot)} {ob:Option (List (List D))} (h:∀x t,f x t sets ob→g x t sets ob)(hy:yA1 args ts f sets ob):yA1 args ts g sets ob:=by
 match args,ts with
 | [x], [t]=>exact h x t hy
 | [],_=>exact hy.elim
 | _::_::_,_=>exact hy.elim
 | [_], []=>exact hy.elim
 | [_],_::_::_=>exact hy.elim
theorem aIk {c:Cfg} {dst:Option Tmp} {op:Op} {st st':St} {K:St→Prop} {rs:List Nat} (ht:Bs c dst op=true)(hrs:∀t,t∈fZ op→t∈rs)(ha:AgreeT rs (kG c dst st op) st st')(h:fG P c dst op st K):fG P c dst op st' (Tr (kC c dst op) (kG c dst st op) st st' K):=by
 have rdS:∀x,x∈op.operands.toList→st'.rdS x=st.rdS x:=fun x hx=>by
  cases x with
  | tmp t=>exact ha.env t (hrs t (cY hx t rfl))
  | _=>rfl
 have goY:wC c dst op=true→(∀rd obj J sets ob,yR P (Ff c dst op) dst op rd obj sets ob→yR P (Ff c dst op) dst op rd (obj++J) sets ob)→fG P c dst op st' (Tr (kC c dst op) (kG c dst st op) st st' K):=by
  intro hy hm;have hw:kC c dst op=dst.toList++fZ op:=by simp [kC,hy]
  unfold fG kG at *;simp only [hy,if_true] at *;obtain⟨sets,ob,h1,hK⟩:=h;obtain⟨s1,s2⟩:=Pc h1;refine⟨sets,ob,?_,⟨sets,none,ob⟩,⟨fun p hp=>by rw [hw];exact s1 p hp,by simp,s2⟩,hK,rfl⟩;rw [Jt rdS];by_cases hr:(flY (Ff c dst op) op).rO=true
  ·simp only [hr,if_true] at h1 ⊢;obtain⟨J,hJ⟩:=ha.obj hr;rw [hJ];exact hm _ _ _ _ _ h1
  simp only [hr] at h1 ⊢;exact h1
 cases op with
 | load t a =>
  simp only [Bs,Bool.and_eq_true,Bool.not_eq_true'] at ht;obtain⟨⟨h1,h2⟩,h3⟩:=ht;have ld:∀K,fV P dst t a st K→st'.cellsAt (st'.rdS a)=st.cellsAt (st.rdS a)→fV P dst t a st' (Tr (kC c dst (.load t a)) (kG c dst st (.load t a)) st st' K):=by
   intro K h he;unfold fV at *;rw [he];split at h
   ·split at h
    ·exact Ns fW h
    exact h.elim
   exact h.elim
  have tk:∀st K,gN P c dst t a st K=fV P dst t a st K:=by
   intro st K;unfold gN;split
   ·rename_i d _;have:c.take.contains d=false:=by simpa using h1
    simp only [this];rfl
   rfl
  have hfl:kG c dst st (.load t a)=fY (dst.any c.take.contains) (st.rdS a):=by
   unfold kG;simp only [h2,h3];rfl
  have key:fG P c dst (.load t a) st K=fV P dst t a st K:=by
   unfold fG;simp only [h2,h3,cN,tk];rfl
  have key':∀K,fG P c dst (.load t a) st' K=fV P dst t a st' K:=fun K=>by
   unfold fG;simp only [h2,h3,cN,tk];rfl
  rw [key] at h;rw [key'];refine ld K h ?_;have he:st'.rdS a=st.rdS a:=rdS a (by simp [Op.operands]);rw [he];unfold fV at h;rw [hfl] at ha;cases hs:st.rdS a with
  | lref n off=>rw [hs] at ha;simp only [St.cellsAt];rw [ha.loc rfl]
  | d x =>
   cases x with
   | ref n off=>
    rw [hs] at ha h;obtain⟨J,hJ⟩:=ha.obj rfl;simp only [St.cellsAt] at h ⊢;rw [hJ];cases hg:st.obj[n]? with
    | none=>rw [hg] at h;simp at h
    | some cs=>rw [yI hg]
   | _=>rfl
 | lookup t x k ok=>
  refine goY rfl fun rd obj J sets ob hy=>?_;simp only [yR,oG] at hy ⊢;split at hy
  ·obtain⟨m,i,clock,kvs,dv,b,⟨⟨cs,g1,g2⟩,g3⟩,g4⟩:=hy;exact⟨m,i,clock,kvs,dv,b,⟨⟨cs,yI g1,g2⟩,g3⟩,g4⟩
  ·exact hy
  exact hy.elim
 | call call =>
  obtain⟨callee,args,ts⟩:=call;cases callee with
  | builtin b =>
   cases b with
   | len =>
    refine goY ht fun rd obj J sets ob hy=>?_;simp only [yR] at hy ⊢;refine aDe (fun x t hy=>?_) hy;split at hy
    ·rename_i h;rw [if_pos h];unfold Bo at hy ⊢;split at hy
     ·obtain⟨m,i,clock,kvs,⟨cs,g1,g2⟩,g4⟩:=hy;exact⟨m,i,clock,kvs,⟨cs,yI g1,g2⟩,g4⟩
     exact hy.elim
    rename_i h;rw [if_neg h];exact hy
   | _=>simp [Bs] at ht
  | _=>simp [Bs] at ht
 | _=>simp [Bs] at ht
theorem aIt {c:Cfg} {dst:Option Tmp} {op:Op} {st s:St} (ha:Hn c dst op=true)(h:fG P c dst op st (· =s)):∃J,s.obj=st.obj++J:=by
 cases op with
 | makeMap t r=>
  unfold fG at h;simp only [wC,isY,Bool.true_or,if_true] at h;obtain⟨sets,ob,h1,rfl⟩:=h;have hf:(flY (Ff c dst (.makeMap t r)) (.makeMap t r)).rO=true:=rfl;simp only [hf,if_true,yR,mQ] at h1;split at h1
  ·obtain⟨_,rfl,rfl⟩:=h1;exact⟨[[]],rfl⟩
  exact h1.elim
 | alloc e =>
  simp only [Hn,Bool.and_eq_true,Bool.not_eq_true'] at ha;obtain⟨⟨h1,h2⟩,h3⟩:=ha;unfold fG at h;simp only [h2,h3,cN,nG] at h;simp only [Bool.false_eq_true,if_false] at h;split at h
  ·rename_i cs d _;have:c.esc.contains d=true:=by simpa using h1
   simp only [this,if_true] at h;subst h;exact⟨[cs],rfl⟩
  exact h.elim
 | box e x =>
  simp only [Hn,Bool.and_eq_true,Bool.not_eq_true'] at ha;obtain⟨⟨⟨h1,h0⟩,h2⟩,h3⟩:=ha;unfold fG at h;simp only [h2,h3,cN,xL] at h;simp only [Bool.false_eq_true,if_false] at h;split at h
  ·rename_i d;have e1:c.esc.contains d=true:=by simpa using h1
   have e2:c.imm.contains d=false:=by simpa using h0
   simp only [e1,e2,if_true] at h;simp only [Bool.false_eq_true,if_false] at h;obtain⟨_,rfl⟩:=h;exact⟨_,rfl⟩
  exact h.elim
 | _=>simp [Hn] at ha
inductive DK where
 | op (f:Fl)
 | pure
 | det
 | pureT
 | detT
 | read
 | pureC
 | readT
 | detA
 | nd
def DK.isNd:DK→Bool
 | .nd=>true
 | _=>false
def lY:DK→Fl
 | .op f=>f
 | .pure=>⟨false,false,false,false⟩
 | .pureT=>⟨false,false,false,false⟩
 | .detT=>⟨false,false,true,true⟩
 | .det=>⟨false,false,true,true⟩
 | .read=>⟨false,false,true,false⟩
 | .pureC=>⟨false,false,false,false⟩
 | .readT=>⟨false,false,true,false⟩
 | .detA=>⟨false,false,true,true⟩
 | .nd=>⟨false,false,true,true⟩
def vU(c:Cfg)(dst:Option Tmp)(op:Op):DK→Bool
 | .op f=>f.rO && !f.wO && Bs c dst op
 | .readT=>true
 | _=>false
def Sb(c:Cfg)(dst:Option Tmp)(op:Op):DK→Bool
 | .op _=>Hn c dst op
 | .detA=>true
 | _=>false
theorem Pv {c:Cfg} {dst:Option Tmp} {op:Op} {k:DK} (h:vU c dst op k=true):(lY k).rO=true∧(lY k).wO=false:=by
 cases k <;> simp_all [vU,lY]
def pV(c:Cfg)(dst:Option Tmp)(op:Op):DK→List Nat
 | .op _=>kC c dst op
 | .pureT | .detT=>dst.toList++fZ op
 | _=>dst.toList
def aNj(P:Program)(dst:Option Tmp)(op:Op)(st:St)(Q:D→List (List D)→Prop):Prop:=match op with
 | .call { callee:= .value (.func f),args, .. } =>iD args.toList st∧Ct P f (eF args.toList st) st.obj Q∧∃r σ0,Q r σ0
 | _=>False
def sK(P:Program)(c:Cfg)(dst:Option Tmp)(op:Op)(k:DK)(st:St)(K:St→Prop):Prop:=
 match k with
 | .op f=>gX op=false∧kG c dst st op=f∧fG P c dst op st K
 | .pure=>match op with
  | .call { callee:= .value (.func f),args, .. } =>iD args.toList st∧∃r,(∀σ,Ct P f (eF args.toList st) σ fun r' σ'=>r'=r∧σ'=σ)∧K (st.put dst (.d r))
  | _=>False
 | .read=>match op with
  | .call { callee:= .value (.func f),args, .. } =>iD args.toList st∧∃r,(Ct P f (eF args.toList st) st.obj fun r' σ'=>r'=r∧σ'=st.obj)∧K (st.put dst (.d r))
  | _=>False
 | .pureC => match op with
  | .call { callee:= .value f,args, .. } =>match st.rd f with
   | .clo (.func fid) first caps=>(∀d∈first++caps,d.plain=true)∧iD args.toList st∧∃r,(∀σ,Ct P fid (first.map D.strip++eF args.toList st++caps.map D.strip) σ fun r' σ'=>r'=r∧σ'=σ)∧K (st.put dst (.d r))
   | _=>False
  | _=>False
 | .readT=>match op with
  | .call { callee:= .value (.func f),args, .. } =>iD args.toList st∧∃r,(∀J,Ct P f (eF args.toList st) (st.obj++J) fun r' σ'=>r'=r∧σ'=st.obj++J)∧K (st.put dst (.d r))
  | _=>False
 | .nd=>∃Q,aNj P dst op st Q∧∀r σ0,Q r σ0→K (({ st with obj:=σ0 } :St).put dst (.d r))
 | .detA=>match op with
  | .call { callee:= .value (.func f),args, .. } =>iD args.toList st∧∃r J,(Ct P f (eF args.toList st) st.obj fun r' σ'=>r'=r∧σ'=st.obj++J)∧K (({ st with obj:=st.obj++J } :St).put dst (.d r))
  | _=>False
 | .det=>match op with
  | .call { callee:= .value (.func f),args, .. } =>iD args.toList st∧∃r σ0,(Ct P f (eF args.toList st) st.obj fun r' σ'=>r'=r∧σ'=σ0)∧K (({ st with obj:=σ0 } :St).put dst (.d r))
  | _=>False
 | .pureT => match dst, op with
  | some d,.call { callee:= .value (.func f),args, .. } =>(args.toList.filterMap bP).Nodup∧(∀x∈args.toList,sB (st.rdS x)=true∧(st.rd x).plain=true)∧
   ∃r,(∀σ,Ct P f (args.toList.map (pO st)) σ fun r' σ'=>r'=r∧σ'=σ)∧K (({ st with env:=eK (args.toList.map bP) st.env } :St).put (some d) (.d r))
  | _,_=>False
 | .detT => match dst, op with
  | some d,.call { callee:= .value (.func f),args, .. } =>(args.toList.filterMap bP).Nodup∧(∀x∈args.toList,sB (st.rdS x)=true∧(st.rd x).plain=true)∧
   ∃r σ0,(Ct P f (args.toList.map (pO st)) st.obj fun r' σ'=>r'=r∧σ'=σ0)∧K (({ st with env:=eK (args.toList.map bP) st.env,obj:=σ0 } :St).put (some d) (.d r))
  | _,_=>False
def rV(c:Cfg)(all:List Oper)(o:Oper)(k:DK):List Nat:=pV c o.dst o.op k++fZ o.op++match o.guard with
 | none=> []
 | some (j,_)=>(aR all j).toList
def eH(ws:List Nat)(f:Fl)(s:St):Delta:=⟨ws.map fun t=>(t,s.env t),if f.wL then some s.loc else none,if f.wO then some s.obj else none⟩
theorem nZ(ws:List Nat)(f:Fl)(s st:St)(t:Nat):(st.upd (eH ws f s)).env t=if t∈ws then s.env t else st.env t:=by
 simp only [St.upd,eH];exact sU ws s.env st.env t
def Db(P:Program)(all:List Oper)(o:Oper)(st:St)(K:St→Prop):Prop:=
 ∀(w:World) (g:Gh) (tmps:Array Value),Ok w g st (bL tmps)→tmps.size=st.n→
  (Region.wanted o (yielded all.toArray tmps)=true→o.wp P ⟨tmps, []⟩ w (fun a w'=>a.defers= []∧∃st' g',K st'∧Fr w g w' g'∧Ok w' g' st' (bL a.tmps)∧a.tmps.size=st'.n) (fun _ _ _=>False))∧
  (Region.wanted o (yielded all.toArray tmps)=false→∃st' g',K st'∧Fr w g w g'∧Ok w g' st' (bL ((⟨tmps, []⟩:Act).put o.dst undef).tmps)∧tmps.size=st'.n)
structure AgreeD(rs:List Nat)(f:Fl)(tol:Bool)(st st':St):Prop where
 n:st'.n=st.n
 env:∀t,t∈rs→st'.env t=st.env t
 loc:f.rL=true→st'.loc=st.loc
 obj:f.rO=true→(tol=false→st'.obj=st.obj)∧∃J,st'.obj=st.obj++J
theorem Agree.toD {rs:List Nat} {f:Fl} {tol:Bool} {st st':St} (h:Agree rs f st st'):AgreeD rs f tol st st':=⟨h.n,h.env,h.loc,fun e=>⟨fun _=>h.obj e, [],by rw [h.obj e,List.append_nil]⟩⟩
theorem AgreeD.toA {rs:List Nat} {f:Fl} {st st':St} (h:AgreeD rs f false st st'):Agree rs f st st':=⟨h.n,h.env,h.loc,fun e=>(h.obj e).1 rfl⟩
theorem AgreeD.toT {rs:List Nat} {f:Fl} {tol:Bool} {st st':St} (h:AgreeD rs f tol st st'):AgreeT rs f st st':=⟨h.n,h.env,h.loc,fun e=>(h.obj e).2⟩
structure Step(P:Program)(c:Cfg)(all:List Oper)(o:Oper)(k:DK)(st s:St):Prop where
 self:s=st.upd (eH (pV c o.dst o.op k) (lY k) s)
 app:Sb c o.dst o.op k=true→∃J,s.obj=st.obj++J
 go:k.isNd=false→∀st',AgreeD (rV c all o k) (lY k) (vU c o.dst o.op k) st st'→Db P all o st' (· =st'.upd (eH (pV c o.dst o.op k) (lY k) s))
theorem aBo(c:Cfg)(dst:Option Tmp)(st:St)(op:Op):((fA c dst st op).wL=true→(fA c dst st op).rL=true)∧((fA c dst st op).wO=true→(fA c dst st op).rO=true):=by
 have ad:∀w s,((fY w s).wL=true→(fY w s).rL=true)∧((fY w s).wO=true→(fY w s).rO=true):=by
  intro w s;cases s with
  | lref n o=>simp [fY]
  | d d=>cases d <;> simp [fY]
 cases op <;> simp only [fA] <;> try exact⟨id,id⟩
 ·split <;> simp
 ·split
  ·simp
  split <;> simp
 ·exact ad _ _
 ·exact ad _ _
 rename_i call;obtain⟨callee,args,ts⟩:=call;cases callee <;> exact⟨id,id⟩
theorem Gc(c:Cfg)(dst:Option Tmp)(st:St)(op:Op):((kG c dst st op).wL=true→(kG c dst st op).rL=true)∧((kG c dst st op).wO=true→(kG c dst st op).rO=true):=by
 unfold kG;split
 ·unfold flY;split <;> first | (simp;done) | (split <;> simp)
 split
 ·unfold flX;split <;> simp
 exact aBo c dst st op
theorem Gz {ws:List Nat} {f:Fl} {st st':St} {δ:Delta} (hδ:δ.ok ws f)(hw:(f.wL=true→f.rL=true)∧(f.wO=true→f.rO=true))(ha:Agree ws f st st'):st'.upd δ=st'.upd (eH ws f (st.upd δ)):=by
 have key:∀t,dX δ.sets st'.env t=if t∈ws then dX δ.sets st.env t else st'.env t:=by
  intro t;split
  ·rename_i ht;have:∀(l:List (Nat×Slot)) (e e':Nat→Slot),e t=e' t→dX l e t=dX l e' t:=by
    intro l;induction l with
    | nil=>intro e e' h;exact h
    | cons p l ih=>
     obtain⟨x,y⟩:=p;intro e e' h;exact ih _ _ (by split <;> first | rfl | exact h)
   exact this _ _ _ (ha.env t ht)
  rename_i ht;exact Nw fun p hp e=>ht (by rw [← e];exact hδ.sets p hp)
 have h1:(st'.upd δ).env=(st'.upd (eH ws f (st.upd δ))).env:=by
  funext t;rw [nZ];exact key t
 have h2:(st'.upd δ).loc=(st'.upd (eH ws f (st.upd δ))).loc:=by
  simp only [St.upd,eH];cases hl:f.wL with
  | true=>
   simp only [if_true,Option.getD_some];rw [ha.loc (hw.1 hl)]
  | false=>
   cases hd:δ.loc with
   | none=>simp
   | some l=>have:=hδ.loc (by simp [hd]);rw [hl] at this;cases this
 have h3:(st'.upd δ).obj=(st'.upd (eH ws f (st.upd δ))).obj:=by
  simp only [St.upd,eH];cases hl:f.wO with
  | true=>
   simp only [if_true,Option.getD_some];rw [ha.obj (hw.2 hl)]
  | false=>
   cases hd:δ.obj with
   | none=>simp
   | some l=>have:=hδ.obj (by simp [hd]);rw [hl] at this;cases this
 show(⟨_,_,_,_⟩:St)=⟨_,_,_,_⟩
 congr 1
theorem Uy {rs:List Nat} {f:Fl} {tol:Bool} {st st':St} (h:AgreeD rs f tol st st') {x:Operand} (hx:∀t,bP x=some t→t∈rs):st'.rd x=st.rd x:=
 gU (rs:=rs) (f:=⟨false,false,false,false⟩) ⟨h.n,h.env,fun e=>(by cases e),fun e=>(by cases e)⟩ hx
theorem Zo {ws:List Nat} {f:Fl} {st st':St} {δ:Delta} (hδ:δ.ok ws f)(hw:f.wL=true→f.rL=true)(hO:f.wO=false)(ha:AgreeT ws f st st'):st'.upd δ=st'.upd (eH ws f (st.upd δ)):=by
 have:=Gz (st':= { st' with obj:=st.obj }) hδ ⟨hw,fun h=>by rw [hO] at h;cases h⟩ ⟨ha.n,ha.env,ha.loc,fun _=>rfl⟩;have hn:δ.obj=none:=by
  cases hd:δ.obj with
  | none=>rfl
  | some l=>have:=hδ.obj (by simp [hd]);rw [hO] at this;cases this
 simp only [St.upd,eH,hn,hO,St.mk.injEq] at this ⊢;simpa using this
theorem sI(rs:List Nat)(f:Fl)(st:St):Agree rs f st st:=⟨rfl,fun _ _=>rfl,fun _=>rfl,fun _=>rfl⟩
theorem Agree.sub {rs rs':List Nat} {f:Fl} {st st':St} (h:Agree rs f st st')(hs:∀t,t∈rs'→t∈rs):Agree rs' f st st':=⟨h.n,fun t ht=>h.env t (hs t ht),h.loc,h.obj⟩
theorem Kr {all:List Oper} {o:Oper} {st:St} {K:St→Prop} (hw:∀(w:World) (g:Gh) (tmps:Array Value),Ok w g st (bL tmps)→Region.wanted o (yielded all.toArray tmps)=true)(h:Does P o st K):Db P all o st K:=by
 intro w g tmps hok hn;refine⟨fun _=>?_,fun hf=>by rw [hw w g tmps hok] at hf;cases hf⟩;exact Oper.wp_mono (fun a w' ⟨h1,st',g',h2,h3,h4,h5,_⟩=>⟨h1,st',g',h2,h3,h4,h5⟩) (h w g tmps hok hn)
theorem tO {f:FuncId} {args:Array Operand} {ts:Array TypeId} {d:Nat} {r:Slot} {e e':Nat→Slot} (he:∀t,t∈fZ (.call ⟨.value (.func f),args,ts⟩)→e' t=e t)(u:Nat):
  dX (((some d).toList++fZ (.call ⟨.value (.func f),args,ts⟩)).map fun t=>(t,if t=d then r else eK (args.toList.map bP) e t)) e' u=if u=d then r else eK (args.toList.map bP) e' u:=by
 rw [sU];by_cases hu:u=d
 ·subst hu;simp
 simp only [hu,if_false];by_cases hm:u∈fZ (.call ⟨.value (.func f),args,ts⟩)
 ·rw [if_pos (by simp [hm])];simp only [eK,he u hm]
 rw [if_neg (by simp [hm,hu])];have hc:(args.toList.map bP).contains (some u)=false:=by
  rw [Bool.eq_false_iff];intro hc;obtain⟨x,hx,hx'⟩:=List.mem_map.1 (by simpa using hc:some u∈args.toList.map bP);exact hm (cY (by simp [Op.operands,Call.operands];right;simpa using hx) u hx')
 simp only [eK,hc];rfl
theorem aDi {c:Cfg} {all:List Oper} {o:Oper} {k:DK} {st:St} {K:St→Prop} (hnd:k.isNd=false)(hfw:((lY k).wL=true→(lY k).rL=true)∧((lY k).wO=true→(lY k).rO=true))(hd:cO o st)(h:match o.guard with
  | none=>sK P c o.dst o.op k st K
  | some (j,want)=>∃t b,aR all j=some t∧wX (st.env t) want=some b∧(b=want→sK P c o.dst o.op k st K)∧(b= !want→K (st.put o.dst .und))):∃s,K s∧Step P c all o k st s:=by
 -- the body of the step,taken
 have taken : sK P c o.dst o.op k st K → ∃ s, K s ∧ s = st.upd (eH (pV c o.dst o.op k) (lY k) s) ∧ (Sb c o.dst o.op k = true → ∃ J, s.obj = st.obj ++ J) ∧ ∀ st', AgreeD (rV c all o k) (lY k) (vU c o.dst o.op k) st st' → Does P o st' (· = st'.upd (eH (pV c o.dst o.op k) (lY k) s)) := by
  intro h;have hd':∀st',st'.n=st.n→cO o st':=fun st' hn=>by unfold cO at *;split <;> simp_all
  cases k with
  | nd=>cases hnd
  | op f =>
   obtain⟨h1,rfl,h3⟩:=h;obtain⟨s,hK,hs⟩:=Mj h1 h3;have loc:∀st',Agree (rV c all o (.op (kG c o.dst st o.op))) (kG c o.dst st o.op) st st'→∃δ:Delta,δ.ok (kC c o.dst o.op) (kG c o.dst st o.op)∧s=st.upd δ∧fG P c o.dst o.op st' (· =st'.upd δ):=by
    intro st' ha;have hl:=Ws (aKi h1) (rs:=rV c all o (.op (kG c o.dst st o.op))) (fun t ht=>by simp [rV,ht]) ha hs;obtain⟨s',⟨δ,d1,d2,rfl⟩,h5⟩:=Mj h1 hl;exact⟨δ,d1,d2.symm,h5⟩
   obtain⟨δ0,d1,d2,_⟩:=loc st (sI _ _ _);refine⟨s,hK,?_,fun hap=>aIt hap hs,fun st' ha=>?_⟩
   ·have:=Gz d1 (Gc c o.dst st o.op) (sI (kC c o.dst o.op) (kG c o.dst st o.op) st);rw [← d2] at this;exact this
   by_cases htl:vU c o.dst o.op (.op (kG c o.dst st o.op))=true
   ·have hT:=ha.toT;have hop:Bs c o.dst o.op=true:=by simp only [vU,Bool.and_eq_true] at htl;exact htl.2
    have hl:=aIk hop (rs:=rV c all o (.op (kG c o.dst st o.op))) (fun t ht=>by simp [rV,ht]) hT hs;obtain⟨s',⟨δ,e1,e2,rfl⟩,e3⟩:=Mj h1 hl;have:=Zo e1 (Gc c o.dst st o.op).1 (Pv htl).2 ⟨hT.n,fun t ht=>hT.env t (by simp [rV,pV,ht]),hT.loc,hT.obj⟩;rw [e2] at this;simp only [pV,lY];rw [← this];exact Gp ⟨hd' st' ha.n,e3⟩
   have ha:Agree (rV c all o (.op (kG c o.dst st o.op))) (kG c o.dst st o.op) st st':=by
    have e:vU c o.dst o.op (.op (kG c o.dst st o.op))=false:=by simpa using htl
    rw [e] at ha;exact ha.toA
   obtain⟨δ,e1,e2,e3⟩:=loc st' ha;have:=Gz e1 (Gc c o.dst st o.op) (ha.sub (rs':=kC c o.dst o.op) (fun t ht=>by simp [rV,pV,ht]));rw [← e2] at this;simp only [pV,lY];rw [← this];exact Gp ⟨hd' st' ha.n,e3⟩
  | pure =>
   obtain⟨dst,op,ty,pos,after,guard⟩:=o;simp only [sK] at h;split at h
   ·rename_i f args ts _;obtain⟨h1,r,h2,h3⟩:=h;have ups:∀st':St,st'.upd (eH dst.toList ⟨false,false,false,false⟩ (st.put dst (.d r)))=st'.put dst (.d r):=by
     intro st';cases dst with
     | none=>rfl
     | some d=>
      refine St.mk.injEq .. |>.mpr ⟨rfl,?_,rfl,rfl⟩
      funext u;show dX [(d,(st.put (some d) (.d r)).env d)] st'.env u=_
      simp [dX,St.put,St.set]
    refine⟨_,h3,(ups st).symm,fun e=>(by cases e),fun st' ha=>?_⟩;replace ha:=ha.toA;simp only [pV,lY];rw [ups st'];have hargs:∀x∈args.toList,st'.rd x=st.rd x:=fun x hx=>gU ha fun t ht=>by
     have:=cY (op:= .call ⟨.value (.func f),args,ts⟩) (x:=x) (by simp [Op.operands,Call.operands];right;simpa using hx) t ht;simp [rV,this]
    refine iV (.func f) args ts (hd' st' ha.n) rfl ?_;unfold iE;simp only [rM];refine⟨by simp,fun x hx=>by rw [hargs x hx];exact h1 x hx,?_⟩;have e1:eF args.toList st'=eF args.toList st:=List.map_congr_left fun x hx=>gL (hargs x hx);rw [e1];simpa using(h2 st'.obj).mono fun r' σ' ⟨a,b⟩=>by subst a;subst b;rfl
   exact h.elim
  | pureC =>
   obtain⟨dst,op,ty,pos,after,guard⟩:=o;simp only [sK] at h;split at h
   ·rename_i f args ts _;split at h
    ·rename_i fid first caps hf
     obtain⟨h0,h1,r,h2,h3⟩:=h;have ups:∀st':St,st'.upd (eH dst.toList ⟨false,false,false,false⟩ (st.put dst (.d r)))=st'.put dst (.d r):=by
      intro st';cases dst with
      | none=>rfl
      | some d=>
       refine St.mk.injEq .. |>.mpr ⟨rfl,?_,rfl,rfl⟩
       funext u;show dX [(d,(st.put (some d) (.d r)).env d)] st'.env u=_
       simp [dX,St.put,St.set]
     refine⟨_,h3,(ups st).symm,fun e=>(by cases e),fun st' ha=>?_⟩;replace ha:=ha.toA;simp only [pV,lY];rw [ups st'];have hargs:∀x∈args.toList,st'.rd x=st.rd x:=fun x hx=>gU ha fun t ht=>by
      have:=cY (op:= .call ⟨.value f,args,ts⟩) (x:=x) (by simp [Op.operands,Call.operands];right;simpa using hx) t ht;simp [rV,this]
     have hff:st'.rd f=st.rd f:=gU ha fun t ht=>by
      have:=cY (op:= .call ⟨.value f,args,ts⟩) (x:=f) (by simp [Op.operands,Call.operands]) t ht;simp [rV,this]
     refine iV f args ts (hd' st' ha.n) rfl ?_;unfold iE;rw [hff,hf];refine⟨h0,fun x hx=>by rw [hargs x hx];exact h1 x hx,?_⟩;have e1:eF args.toList st'=eF args.toList st:=List.map_congr_left fun x hx=>gL (hargs x hx);rw [e1];exact(h2 st'.obj).mono fun r' σ' ⟨a,b⟩=>by subst a;subst b;rfl
    exact h.elim
   exact h.elim
  | read =>
   obtain⟨dst,op,ty,pos,after,guard⟩:=o;simp only [sK] at h;split at h
   ·rename_i f args ts _;obtain⟨h1,r,h2,h3⟩:=h;have ups:∀st':St,st'.upd (eH dst.toList ⟨false,false,true,false⟩ (st.put dst (.d r)))=st'.put dst (.d r):=by
     intro st';cases dst with
     | none=>rfl
     | some d=>
      refine St.mk.injEq .. |>.mpr ⟨rfl,?_,rfl,rfl⟩
      funext u;show dX [(d,(st.put (some d) (.d r)).env d)] st'.env u=_
      simp [dX,St.put,St.set]
    refine⟨_,h3,(ups st).symm,fun e=>(by cases e),fun st' ha=>?_⟩;replace ha:=ha.toA;simp only [pV,lY];rw [ups st'];have hargs:∀x∈args.toList,st'.rd x=st.rd x:=fun x hx=>gU ha fun t ht=>by
     have:=cY (op:= .call ⟨.value (.func f),args,ts⟩) (x:=x) (by simp [Op.operands,Call.operands];right;simpa using hx) t ht;simp [rV,this]
    refine iV (.func f) args ts (hd' st' ha.n) rfl ?_;unfold iE;simp only [rM];refine⟨by simp,fun x hx=>by rw [hargs x hx];exact h1 x hx,?_⟩;have e1:eF args.toList st'=eF args.toList st:=List.map_congr_left fun x hx=>gL (hargs x hx);rw [e1];rw [show st'.obj=st.obj from ha.obj rfl];simpa using h2.mono fun r' σ' ⟨a,b⟩=>by subst a;subst b;rw [← show st'.obj=st.obj from ha.obj rfl]
   exact h.elim
  | det =>
   obtain⟨dst,op,ty,pos,after,guard⟩:=o;simp only [sK] at h;split at h
   ·rename_i f args ts _;obtain⟨h1,r,σ0,h2,h3⟩:=h;have ups:∀st':St,st'.upd (eH dst.toList ⟨false,false,true,true⟩ (({ st with obj:=σ0 } :St).put dst (.d r)))=({ st' with obj:=σ0 } :St).put dst (.d r):=by
     intro st';cases dst with
     | none=>rfl
     | some d=>
      refine St.mk.injEq .. |>.mpr ⟨rfl,?_,rfl,rfl⟩
      funext u;show dX [(d,(({ st with obj:=σ0 } :St).put (some d) (.d r)).env d)] st'.env u=_
      simp [dX,St.put,St.set]
    refine⟨_,h3,(ups st).symm,fun e=>(by cases e),fun st' ha=>?_⟩;replace ha:=ha.toA;simp only [pV,lY];rw [ups st'];have hargs:∀x∈args.toList,st'.rd x=st.rd x:=fun x hx=>gU ha fun t ht=>by
     have:=cY (op:= .call ⟨.value (.func f),args,ts⟩) (x:=x) (by simp [Op.operands,Call.operands];right;simpa using hx) t ht;simp [rV,this]
    refine iV (.func f) args ts (hd' st' ha.n) rfl ?_;unfold iE;simp only [rM];refine⟨by simp,fun x hx=>by rw [hargs x hx];exact h1 x hx,?_⟩;have e1:eF args.toList st'=eF args.toList st:=List.map_congr_left fun x hx=>gL (hargs x hx);have e2:st'.obj=st.obj:=ha.obj rfl;rw [e1,e2];simpa using h2.mono fun r' σ' ⟨a,b⟩=>by subst a;subst b;rfl
   exact h.elim
  | readT =>
   obtain⟨dst,op,ty,pos,after,guard⟩:=o;simp only [sK] at h;split at h
   ·rename_i f args ts _;obtain⟨h1,r,h2,h3⟩:=h;have ups:∀st':St,st'.upd (eH dst.toList ⟨false,false,true,false⟩ (st.put dst (.d r)))=st'.put dst (.d r):=by
     intro st';cases dst with
     | none=>rfl
     | some d=>
      refine St.mk.injEq .. |>.mpr ⟨rfl,?_,rfl,rfl⟩
      funext u;show dX [(d,(st.put (some d) (.d r)).env d)] st'.env u=_
      simp [dX,St.put,St.set]
    refine⟨_,h3,(ups st).symm,fun e=>(by cases e),fun st' ha=>?_⟩;obtain⟨J,hJ⟩:=(ha.obj rfl).2;simp only [pV,lY];rw [ups st'];have hargs:∀x∈args.toList,st'.rd x=st.rd x:=fun x hx=>Uy ha fun t ht=>by
     have:=cY (op:= .call ⟨.value (.func f),args,ts⟩) (x:=x) (by simp [Op.operands,Call.operands];right;simpa using hx) t ht;simp [rV,this]
    refine iV (.func f) args ts (hd' st' ha.n) rfl ?_;unfold iE;simp only [rM];refine⟨by simp,fun x hx=>by rw [hargs x hx];exact h1 x hx,?_⟩;have e1:eF args.toList st'=eF args.toList st:=List.map_congr_left fun x hx=>gL (hargs x hx);rw [e1];rw [hJ];simpa using(h2 J).mono fun r' σ' ⟨a,b⟩=>by subst a;subst b;rw [← hJ]
   exact h.elim
  | detA =>
   obtain⟨dst,op,ty,pos,after,guard⟩:=o;simp only [sK] at h;split at h
   ·rename_i f args ts _;obtain⟨h1,r,J,h2,h3⟩:=h;have ups:∀st':St,st'.upd (eH dst.toList ⟨false,false,true,true⟩ (({ st with obj:=st.obj++J } :St).put dst (.d r)))=({ st' with obj:=st.obj++J } :St).put dst (.d r):=by
     intro st';cases dst with
     | none=>rfl
     | some d=>
      refine St.mk.injEq .. |>.mpr ⟨rfl,?_,rfl,rfl⟩
      funext u;show dX [(d,(({ st with obj:=st.obj++J } :St).put (some d) (.d r)).env d)] st'.env u=_
      simp [dX,St.put,St.set]
    refine⟨_,h3,(ups st).symm,fun _=>⟨J,by cases dst <;> rfl⟩,fun st' ha=>?_⟩;replace ha:=ha.toA;simp only [pV,lY];rw [ups st'];have hargs:∀x∈args.toList,st'.rd x=st.rd x:=fun x hx=>gU ha fun t ht=>by
     have:=cY (op:= .call ⟨.value (.func f),args,ts⟩) (x:=x) (by simp [Op.operands,Call.operands];right;simpa using hx) t ht;simp [rV,this]
    refine iV (.func f) args ts (hd' st' ha.n) rfl ?_;unfold iE;simp only [rM];refine⟨by simp,fun x hx=>by rw [hargs x hx];exact h1 x hx,?_⟩;have e1:eF args.toList st'=eF args.toList st:=List.map_congr_left fun x hx=>gL (hargs x hx);have e2:st'.obj=st.obj:=ha.obj rfl;rw [e1,e2];simpa using h2.mono fun r' σ' ⟨a,b⟩=>by subst a;subst b;rfl
   exact h.elim
  | pureT =>
   obtain⟨dst,op,ty,pos,after,guard⟩:=o;simp only [sK] at h;split at h
   ·rename_i d f args ts _;obtain⟨h0,h1,r,h2,h3⟩:=h;have ups:∀st':St,(∀t,t∈fZ (.call ⟨.value (.func f),args,ts⟩)→st'.env t=st.env t)→
      st'.upd (eH ((some d).toList++fZ (.call ⟨.value (.func f),args,ts⟩)) ⟨false,false,false,false⟩ (({ st with env:=eK (args.toList.map bP) st.env } :St).put (some d) (.d r)))=({ st' with env:=eK (args.toList.map bP) st'.env } :St).put (some d) (.d r):=by
     intro st' he;refine St.mk.injEq .. |>.mpr ⟨rfl,?_,rfl,rfl⟩
     funext u;exact tO he u
    refine⟨_,h3,(ups st fun _ _=>rfl).symm,fun e=>(by cases e),fun st' ha=>?_⟩;replace ha:=ha.toA;have he:∀t,t∈fZ (.call ⟨.value (.func f),args,ts⟩)→st'.env t=st.env t:=fun t ht=>ha.env t (by simp [rV,ht]);simp only [pV,lY];rw [ups st' he];have hargs:∀x∈args.toList,st'.rd x=st.rd x:=fun x hx=>gU ha fun t ht=>by
     have:=cY (op:= .call ⟨.value (.func f),args,ts⟩) (x:=x) (by simp [Op.operands,Call.operands];right;simpa using hx) t ht;simp [rV,this]
    have hargS:∀x∈args.toList,st'.rdS x=st.rdS x:=fun x hx=>lZ ha fun t ht=>by
     have:=cY (op:= .call ⟨.value (.func f),args,ts⟩) (x:=x) (by simp [Op.operands,Call.operands];right;simpa using hx) t ht;simp [rV,this]
    refine sR f args ts (hd' st' ha.n) rfl ?_;unfold kB;refine⟨h0,fun x hx=>by rw [hargs x hx,hargS x hx];exact h1 x hx,?_⟩;have e1:args.toList.map (pO st')=args.toList.map (pO st):=List.map_congr_left fun x hx=>sT (hargs x hx);rw [e1];exact(h2 st'.obj).mono fun r' σ' ⟨a,b⟩=>by subst a;subst b;rfl
   exact h.elim
  | detT =>
   obtain⟨dst,op,ty,pos,after,guard⟩:=o;simp only [sK] at h;split at h
   ·rename_i d f args ts _;obtain⟨h0,h1,r,σ0,h2,h3⟩:=h;have ups:∀st':St,(∀t,t∈fZ (.call ⟨.value (.func f),args,ts⟩)→st'.env t=st.env t)→
      st'.upd (eH ((some d).toList++fZ (.call ⟨.value (.func f),args,ts⟩)) ⟨false,false,true,true⟩ (({ st with env:=eK (args.toList.map bP) st.env,obj:=σ0 } :St).put (some d) (.d r)))=({ st' with env:=eK (args.toList.map bP) st'.env,obj:=σ0 } :St).put (some d) (.d r):=by
     intro st' he;refine St.mk.injEq .. |>.mpr ⟨rfl,?_,rfl,rfl⟩
     funext u;exact tO he u
    refine⟨_,h3,(ups st fun _ _=>rfl).symm,fun e=>(by cases e),fun st' ha=>?_⟩;replace ha:=ha.toA;have he:∀t,t∈fZ (.call ⟨.value (.func f),args,ts⟩)→st'.env t=st.env t:=fun t ht=>ha.env t (by simp [rV,ht]);simp only [pV,lY];rw [ups st' he];have hargs:∀x∈args.toList,st'.rd x=st.rd x:=fun x hx=>gU ha fun t ht=>by
     have:=cY (op:= .call ⟨.value (.func f),args,ts⟩) (x:=x) (by simp [Op.operands,Call.operands];right;simpa using hx) t ht;simp [rV,this]
    have hargS:∀x∈args.toList,st'.rdS x=st.rdS x:=fun x hx=>lZ ha fun t ht=>by
     have:=cY (op:= .call ⟨.value (.func f),args,ts⟩) (x:=x) (by simp [Op.operands,Call.operands];right;simpa using hx) t ht;simp [rV,this]
    refine sR f args ts (hd' st' ha.n) rfl ?_;unfold kB;refine⟨h0,fun x hx=>by rw [hargs x hx,hargS x hx];exact h1 x hx,?_⟩;have e1:args.toList.map (pO st')=args.toList.map (pO st):=List.map_congr_left fun x hx=>sT (hargs x hx);have e2:st'.obj=st.obj:=ha.obj rfl;rw [e1,e2];exact h2.mono fun r' σ' ⟨a,b⟩=>by subst a;subst b;rfl
   exact h.elim
 split at h
 ·rename_i hg;obtain⟨s,h1,h2,h0,h3⟩:=taken h;exact⟨s,h1,h2,h0,fun _ st' ha=>Kr (fun w g tmps _=>by simp [Region.wanted,hg]) (h3 st' ha)⟩
 rename_i j want hg;obtain⟨t,b,h1,h2,h3,h4⟩:=h;have hin:t∈rV c all o k:=by simp [rV,hg,h1]
 by_cases hb:b=want
 ·obtain⟨s,k1,k2,k0,k3⟩:=taken (h3 hb);refine⟨s,k1,k2,k0,fun _ st' ha=>Kr (fun w g tmps hok=>?_) (k3 st' ha)⟩;have:=wA (all:=all) (j:=j) (want:=want) hok h1 (by rw [ha.env t hin];exact h2);simp [Region.wanted,hg,this,hb]
 have hb':b= !want:=by cases b <;> cases want <;> simp_all
 have hdw:∀d,o.dst=some d→d∈pV c o.dst o.op k:=by
  intro d e;cases k <;> simp [pV,kC,e]
 have same:∀st',AgreeD (rV c all o k) (lY k) (vU c o.dst o.op k) st st'→st'.upd (eH (pV c o.dst o.op k) (lY k) (st.put o.dst .und))=st'.put o.dst .und:=by
  intro st' ha;refine St.mk.injEq .. |>.mpr ⟨by cases o.dst <;> rfl,?_,?_,?_⟩
  ·funext u;have:=nZ (pV c o.dst o.op k) (lY k) (st.put o.dst .und) st' u;simp only [St.upd,eH] at this;rw [eH];simp only;rw [this];have hin':u∈pV c o.dst o.op k→st'.env u=st.env u:=fun hu=>ha.env u (by simp [rV,hu]);cases hd':o.dst with
   | none=>
    rw [hd'] at hin';split
    ·rename_i hu;exact(hin' hu).symm
    rfl
   | some d=>
    rw [hd'] at hin';have hdw':=hdw d hd';rw [hd'] at hdw';simp only [St.put,St.set];by_cases hu:u=d
    ·subst hu;simp [hdw']
    simp only [hu,if_false];split
    ·rename_i h;exact(hin' h).symm
    rfl
  ·simp only [eH];cases hl:(lY k).wL with
   | true=>have:=ha.loc (hfw.1 hl);cases o.dst <;> simp [St.put,St.set,this]
   | false=>cases o.dst <;> simp [St.put,St.set]
  simp only [eH];cases hl:(lY k).wO with
  | true=>
   have:=(ha.obj (hfw.2 hl)).1 (by cases ht:vU c o.dst o.op k with | false=>rfl | true=>have:=(Pv ht).2;rw [hl] at this;cases this);cases o.dst <;> simp [St.put,St.set,this]
  | false=>cases o.dst <;> simp [St.put,St.set]
 refine⟨_,h4 hb',(same st (sI _ _ _).toD).symm,fun _=>⟨[],by cases o.dst <;> simp [St.put,St.set]⟩,fun _ st' ha=>?_⟩;rw [same st' ha];intro w g tmps hok hn;have hy:=wA (all:=all) (j:=j) (want:=want) hok h1 (by rw [ha.env t hin];exact h2);have hw:Region.wanted o (yielded all.toArray tmps)=false:=by simp [Region.wanted,hg,hy,hb]
 refine⟨fun h=>(by rw [hw] at h;cases h),fun _=>?_⟩;have hdst:∀d,o.dst=some d→d<tmps.size:=by
  intro d hd';have hd2:d<st.n:=by simpa [cO,hd'] using hd
  rw [hn,ha.n];exact hd2
 refine⟨_,g,rfl,Fr.refl w g,?_,by rw [Kp];exact hn⟩;rw [uK tmps [] o.dst undef hdst];exact hok.put o.dst .und undef fun t _=>Vz t
end
end Go.Vm
