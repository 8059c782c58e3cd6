import Derived.Lib.Overlaps
import Derived.Laws.IdiomStrings
import Derived.Laws.Externs
import Derived.Test.YtbgfljpnhhdkoaaGreatVmX9
import Derived.Test.YtbgfljpnhhdkoaaGreatVmX12
import Derived.Maps.RangeRun
set_option linter.all false
namespace Go.Vm
open Go
variable {alt:Bool}{args:Array Operand}{dst:Option Tmp}{f:Operand->TypeId->qV}{o:Oper}{ob:Option (List (List D))}{obj:List (List D)}{op:Op}{rd:Operand->Slot}{sets:List (Nat×Slot)}{sk sx:Slot}{st:St}{t:TypeId}{ts:Array TypeId}
section
variable {P:Program}
def aW1:TypeDesc->Bool
 | .interface _=>true
 | _=>false
def ifI(P:Program)(t:TypeId):Option Bool:=(P.underlying t).map aW1
theorem Rz {ok:Bool} (h:wF P dst t sx sk ok obj sets ob):(∀p∈sets,p.1∈dst.toList)/\ob=none:=by
 unfold wF at h;split at h
 .obtain⟨_,_,_,_,_,_,_,rfl,rfl⟩:=h;exact⟨by simp,rfl⟩
 .obtain⟨_,_,_,rfl,rfl⟩:=h;exact⟨by simp,rfl⟩
 exact h.elim
theorem Dd {x:Operand} {sv:Slot} (h:wU P dst t x sx sk sv obj sets ob):∀p∈sets,p.1∈dst.toList++(cR x).toList:=by
 unfold wU at h;split at h
 .obtain⟨_,_,_,_,_,_,_,rfl,rfl⟩:=h;simp
 .obtain⟨_,_,_,⟨rfl,_⟩,rfl,rfl⟩:=h;simp [cR]
 exact h.elim
theorem Tu (h:zJ P dst t sx sk obj sets ob):∀p∈sets,p.1∈dst.toList:=by
 unfold zJ at h;split at h
 .obtain⟨_,_,_,_,_,_,rfl,rfl⟩:=h;simp
 exact h.elim
theorem Ol {r:Option Slot} (h:sX P dst t r obj sets ob):∀p∈sets,p.1∈dst.toList:=by
 unfold sX at h;split at h
 .obtain⟨_,rfl,rfl⟩:=h;simp
 exact h.elim
theorem Zi (h:Kb P dst t sx obj sets ob):(∀p∈sets,p.1∈dst.toList)/\ob=none:=by
 unfold Kb at h;split at h
 .obtain⟨_,_,_,_,_,rfl,rfl⟩:=h;exact⟨by simp,rfl⟩
 exact h.elim
def So (P : Program) (f : FuncId) : Prop := ∃ fn tS tR e ti, P.funcs[f]? = some fn ∧ (fn.name == "runtime.NumGoroutine") = false ∧ fn.body.isNone = true ∧ Extern.findNext fn = none ∧ Extern.find fn = some (Extern.SlicesOverlaps.overlaps #[tS, tS] #[tR]) ∧ P.underlying tS = some (.slice e) ∧ P.info? e = some ti
def Qf(P:Program)(dst:Option Tmp)(f:FuncId)(sx sy:Slot)(obj:List (List D)):qV:=fun sets ob=>
 match sx,sy with
 | .d (.sl true (_::_)),.d (.slo m _ _ cap)=>(So P f/\0<cap/\∃cs,obj[m]?=some cs/\cs≠ [])/\sets=dst.toList.map (fun d=>(d,.d (.bool false)))/\ob=none
 | _,_=>False
theorem Zs (f:FuncId)(t t2:TypeId)(y x:Operand)(hd:eT o st)(ho:o.op= .call { callee:= .value (.func f),args:=#[y,x],argTypes:=#[t,t2] }) 
  (h:Qf P o.dst f (st.rdS y) (st.rdS x) st.obj sets ob):Does P o st (· =st.upd ⟨sets,none,ob⟩):=by
 unfold Qf at h;split at h
 .rename_i e0 es m a len cap hy hx;obtain⟨⟨⟨fn,tS,tR,e,ti,f1,f2,f3,f4,f5,f7,f8⟩,hcap,cs,hcs,hne⟩,rfl,rfl⟩:=h;have hst:st.upd ⟨o.dst.toList.map (fun d=>(d,.d (.bool false))),none,none⟩=st.put o.dst (.d (.bool false)):=by
   cases o.dst <;> rfl
  rw [hst];refine cU hd (.d (.bool false)) (fun w g tmps hok=>?_) rfl;cases y with
  | const u=>simp only [St.rdS,Slot.d.injEq] at hy;cases u <;> simp [D.ofV,D.ofV1] at hy <;> (repeat' split at hy) <;> cases hy
  | func u=>simp [St.rdS] at hy
  | global u=>simp [St.rdS,Slot.any] at hy
  | tmp s=>
  have hy:st.env s= .d (.sl true (e0::es)):=hy;have hsl:=hok.slot s;rw [hy] at hsl;obtain⟨hr,ho2⟩:=hsl;have hr':=hok.rd x;rw [eS hx] at hr';have hvy:ev tmps (.tmp s)=cL tmps s:=rfl;generalize cL tmps s=vy at hr ho2 hvy;generalize hvx:ev tmps x=vx at hr';refine⟨.bool false,?_,bV (.v _ rfl) rfl⟩;have run:∀v1 v2:Value,(Extern.SlicesOverlaps.overlaps #[tS,tS] #[tR] #[v1,v2]).run P w= .ok (.bool false) w->ev tmps (.tmp s)=v1->ev tmps x=v2->(execOp (ev tmps) o).run P w= .ok (.value (.bool false)) w:=by
   intro v1 v2 hrun e1 e2;have hfe:∀(t:Array Value),(⟨t, []⟩:Act).eval (.func f)= .func (.func f) #[] #[]:=fun _=>rfl;have hc:=run_callFunc_extern (P:=P) f1 f2 f3 f4 f5 #[v1,v2] w;rw [hrun] at hc;simp [execOp,ho,resolve,hfe,Deferred.ofValue,invoke,e1,e2,hc,Result.andThen]
  cases hr' with
  | slo _ _ _ _ xa hb hc hm =>
   obtain⟨b,hb2,rfl⟩:=hb hcap;obtain⟨cur,E,o1,o2,o3,o4,o5⟩:=(hok.obj m b cs hb2 hcs).resolve_left hne;cases ho2 with
   | flat p d v hf=>simp [D.flat] at hf
   | sl p es' v hO=>
   cases hr with
   | sl _ _ b' off n cap' k vs hl hn hk hc' hm' hr hs hx' =>
    have hv:0<vs.length:=by rw [hl];simp
    rcases hO with ⟨a0,n0,e1⟩ | ⟨b0,n0,c0,k0,cur0,E0,e1,_,_,hh,hk0,hcs0,hn0,hle,_⟩
    .simp only [Value.slice.injEq] at e1;obtain⟨_,_,rfl⟩:=e1;subst hn;simp at hc'
    simp only [Value.slice.injEq,bC,Addr.mk.injEq] at e1;obtain⟨⟨rfl,rfl,_⟩,rfl,rfl⟩:=e1;refine run _ _ (Lib.run_overlaps_apart (P:=P) w tS tR e f7 ti.size (bX f8) _ _ _ _ _ _ ?_ E0 E cur0.size cur.size ?_ ?_ ?_ ?_ ?_) hvy hvx
    .show b'≠b
     rintro rfl;obtain⟨x1,x2⟩:=hx' 0 vs[0] (aQ hv);have hz:0<vs[0].cells.size:=by rw [x1];exact hk
     have:=(x2 0 _ (bO hz)).2;rw [o4] at this;cases this
    .simp [World.shape?,hh]
    .simp [World.shape?,o1]
    .rw [o2];intro e;exact hne (lS e)
    .simp [World.frozen?,hh]
    simp [World.frozen?,hh]
 exact h.elim
theorem aAm {f:FuncId} {sy:Slot} (h:Qf P dst f sx sy obj sets ob):(∀p∈sets,p.1∈dst.toList)/\ob=none:=by
 unfold Qf at h;split at h
 .obtain⟨_,rfl,rfl⟩:=h;refine⟨fun p hp=>?_,rfl⟩;obtain⟨d,hd,rfl⟩:=aX.1 hp;exact hd
 exact h.elim
def yA1(args:List Operand)(ts:List TypeId)(f:Operand->TypeId->qV):qV:=match args,ts with
 | [x], [t]=>f x t
 | _,_=>fun _ _=>False
def yA2(args:List Operand)(ts:List TypeId)(f:Operand->Operand->TypeId->TypeId->qV):qV:=match args,ts with
 | [s,x], [t,t2]=>f s x t t2
 | _,_=>fun _ _=>False
theorem Cv (h:yA1 args.toList ts.toList f sets ob):∃x t,args=#[x]/\ts=#[t]/\f x t sets ob:=by
 unfold yA1 at h;rcases args with ⟨_ | ⟨a,_ | ⟨b,l⟩⟩⟩ <;> rcases ts with ⟨_ | ⟨t,_ | ⟨u,m⟩⟩⟩ <;> first | exact absurd h not_false | exact⟨a,t,rfl,rfl,h⟩
theorem rI {f:Operand->Operand->TypeId->TypeId->qV} (h:yA2 args.toList ts.toList f sets ob):∃s x t u,args=#[s,x]/\ts=#[t,u]/\f s x t u sets ob:=by
 unfold yA2 at h;rcases args with ⟨_ | ⟨a,_ | ⟨b,_ | ⟨c,l⟩⟩⟩⟩ <;> rcases ts with ⟨_ | ⟨t,_ | ⟨u,_ | ⟨v,m⟩⟩⟩⟩ <;> first | exact absurd h not_false | exact⟨a,b,t,u,rfl,rfl,h⟩
theorem Qv {args:List Operand} {ts:List TypeId} {f':Operand->TypeId->qV} (h:∀x t,x∈args->f' x t=f x t):yA1 args ts f'=yA1 args ts f:=by
 unfold yA1;split
 .exact h _ _ (by simp)
 rfl
theorem Ac {args:List Operand} {ts:List TypeId} {f f':Operand->Operand->TypeId->TypeId->qV} (h:∀s x t u,s∈args->x∈args->f' s x t u=f s x t u):yA2 args ts f'=yA2 args ts f:=by
 unfold yA2;split
 .exact h _ _ _ _ (by simp) (by simp)
 rfl
def yR(P:Program)(alt:Bool)(dst:Option Tmp)(op:Op)(rd:Operand->Slot)(obj:List (List D)):qV:=match op with
 | .slice t x lo hi none=>Eo P dst t x (rd x) (lo.map rd) (hi.map rd)
 | .makeSlice t l c=>Rg P alt dst t (rd l) (rd c) obj
 | .call ⟨.builtin .cap,args,ts⟩=>yA1 args.toList ts.toList fun x t=>aGp P dst t (rd x)
 | .call ⟨.builtin .len,args,ts⟩=>yA1 args.toList ts.toList fun x t=>if alt=true then Kb P dst t (rd x) obj else aFa P dst t (rd x)
 | .call ⟨.builtin .append,args,ts⟩=>yA2 args.toList ts.toList fun s x t t2=>Aj P dst t t2 s (rd s) (rd x) obj
 | .call ⟨.builtin .copy,args,ts⟩=>yA2 args.toList ts.toList fun s x t t2=>Pv P alt dst t t2 (rd s) (rd x) obj
 | .call ⟨.builtin .delete,args,ts⟩=>yA2 args.toList ts.toList fun s x t _=>zJ P dst t (rd s) (rd x) obj
 | .call ⟨.value (.func f),args,ts⟩=>yA2 args.toList ts.toList fun s x _ _=>Qf P dst f (rd s) (rd x) obj
 | .lookup t x i ok=>wF P dst t (rd x) (rd i) ok obj
 | .mapUpdate t x i v=>wU P dst t x (rd x) (rd i) (rd v) obj
 | .insert t x i v=>wU P dst t x (rd x) (rd i) (rd v) obj
 | .makeMap t r=>sX P dst t (r.map rd) obj
 | _=>fun _ _=>False
def flY(alt:Bool)(op:Op):Fl:=match op with
 | .slice _ _ _ _ _=>⟨false,false,false,false⟩
 | .makeSlice _ _ _=>if alt=true then⟨false,false,false,false⟩else⟨false,false,true,true⟩
 | .call ⟨.builtin .cap,_,_⟩=>⟨false,false,false,false⟩
 | .call ⟨.builtin .len,_,_⟩=>if alt=true then⟨false,false,true,false⟩else⟨false,false,false,false⟩
 | .lookup _ _ _ _=>⟨false,false,true,false⟩
 | .makeInterface _ _=>⟨false,false,false,false⟩
 | .typeAssert _ _ _ _=>⟨false,false,false,false⟩
 | .call ⟨.builtin .append,_,_⟩=>⟨false,false,true,false⟩
 | .convert _ _ _=>⟨false,false,true,false⟩
 | _=>⟨false,false,true,true⟩
theorem Uy {rd':Operand->Slot} (h:∀x∈op.operands.toList,rd' x=rd x):yR P alt dst op rd' obj=yR P alt dst op rd obj:=by
 unfold yR;split
 .rename_i t x lo hi;have e1:lo.map rd'=lo.map rd:=by
   cases lo with
   | none=>rfl
   | some y=>simp only [gL];rw [h y (by simp [Op.operands])]
  have e2:hi.map rd'=hi.map rd:=by
   cases hi with
   | none=>rfl
   | some y=>simp only [gL];rw [h y (by simp [Op.operands])]
  rw [e1,e2,h x (by simp [Op.operands])]
 .rename_i t l c;rw [h l (by simp [Op.operands]),h c (by simp [Op.operands])]
 .rename_i args ts;exact Qv fun x t hx=>by rw [h x (by simpa [Op.operands,Call.operands] using hx)]
 .rename_i args ts;exact Qv fun x t hx=>by rw [h x (by simpa [Op.operands,Call.operands] using hx)]
 .rename_i args ts;exact Ac fun s x t u hs hx=>by rw [h x (by simpa [Op.operands,Call.operands] using hx),h s (by simpa [Op.operands,Call.operands] using hs)]
 .rename_i args ts;exact Ac fun s x t u hs hx=>by rw [h x (by simpa [Op.operands,Call.operands] using hx),h s (by simpa [Op.operands,Call.operands] using hs)]
 .rename_i args ts;exact Ac fun s x t u hs hx=>by rw [h x (by simpa [Op.operands,Call.operands] using hx),h s (by simpa [Op.operands,Call.operands] using hs)]
 .rename_i f args ts;exact Ac fun s x t u hs hx=>by rw [h x (by simp [Op.operands,Call.operands,hx]),h s (by simp [Op.operands,Call.operands,hs])]
 .rename_i t x i ok;rw [h x (by simp [Op.operands]),h i (by simp [Op.operands])]
 .rename_i t x i v;rw [h x (by simp [Op.operands]),h i (by simp [Op.operands]),h v (by simp [Op.operands])]
 .rename_i t x i v;rw [h x (by simp [Op.operands]),h i (by simp [Op.operands]),h v (by simp [Op.operands])]
 .rename_i t r;have e1:r.map rd'=r.map rd:=by
   cases r with
   | none=>rfl
   | some y=>simp only [gL];rw [h y (by simp [Op.operands])]
  rw [e1]
 rfl
theorem Co {x:Operand} (hx:x∈op.operands.toList) {t:Nat} (h:t∈dst.toList++(cR x).toList):t∈dst.toList++kL op:=by
 rcases cK.1 h with h | h
 .exact iS _ h
 refine uK _ (oU.2 ⟨x,hx,?_⟩);cases hs:cR x with
 | none=>rw [hs] at h;simp at h
 | some u=>rw [hs] at h;simp at h;rw [h]
theorem aBy (h:yR P alt dst op rd obj sets ob):(∀p∈sets,p.1∈dst.toList++kL op)/\(ob.isSome=true->(flY alt op).wO=true):=by
 unfold yR at h;split at h
 .obtain⟨h1,rfl⟩:=Vz h;exact⟨fun p hp=>Co (by simp [Op.operands]) (h1 p hp),by simp⟩
 .obtain⟨h1,h2⟩:=Zj h;exact⟨fun p hp=>iS _ (h1 p hp),fun h3=>by rw [h2 h3];rfl⟩
 .obtain⟨x,t,rfl,rfl,h⟩:=Cv h;obtain⟨h1,rfl⟩:=aG4 h;exact⟨fun p hp=>iS _ (h1 p hp),by simp⟩
 .obtain⟨x,t,rfl,rfl,h⟩:=Cv h;split at h
  .obtain⟨h1,rfl⟩:=Zi h;exact⟨fun p hp=>iS _ (h1 p hp),by simp⟩
  obtain⟨h1,rfl⟩:=aEu h;exact⟨fun p hp=>iS _ (h1 p hp),by simp⟩
 .obtain⟨s,x,t,u,rfl,rfl,h⟩:=rI h;obtain⟨h1,rfl⟩:=Ua h;exact⟨fun p hp=>Co (by simp [Op.operands,Call.operands]) (h1 p hp),by simp⟩
 .obtain⟨s,x,t,u,rfl,rfl,h⟩:=rI h;have h1:=Zm h;exact⟨fun p hp=>iS _ (h1 p hp),fun _=>rfl⟩
 .obtain⟨s,x,t,u,rfl,rfl,h⟩:=rI h;have h1:=Tu h;exact⟨fun p hp=>iS _ (h1 p hp),fun _=>rfl⟩
 .obtain⟨s,x,t,u,rfl,rfl,h⟩:=rI h;obtain⟨h1,rfl⟩:=aAm h;exact⟨fun p hp=>iS _ (h1 p hp),by simp⟩
 .obtain⟨h1,rfl⟩:=Rz h;exact⟨fun p hp=>iS _ (h1 p hp),by simp⟩
 .have h1:=Dd h;exact⟨fun p hp=>Co (by simp [Op.operands]) (h1 p hp),fun _=>rfl⟩
 .have h1:=Dd h;exact⟨fun p hp=>Co (by simp [Op.operands]) (h1 p hp),fun _=>rfl⟩
 .have h1:=Ol h;exact⟨fun p hp=>iS _ (h1 p hp),fun _=>rfl⟩
 exact h.elim
def vcY(P:Program)(alt:Bool)(dst:Option Tmp)(op:Op)(st:St)(K:St->Prop):Prop:=
 ∃sets ob,yR P alt dst op st.rdS (if(flY alt op).rO=true then st.obj else []) sets ob/\K (st.upd ⟨sets,none,ob⟩)
theorem aTl (hd:eT o st) (h:yR P alt o.dst o.op st.rdS (if(flY alt o.op).rO=true then st.obj else []) sets ob):Does P o st (· =st.upd ⟨sets,none,ob⟩):=by
 generalize hop:o.op=op at h;unfold yR at h;split at h
 .rename_i t x lo hi;exact Xq t x lo hi hd hop h
 .rename_i t l c;refine Zr (alt:=alt) t l c hd hop (fun ha=>?_) h;subst ha;rfl
 .obtain⟨x,t,rfl,rfl,h⟩:=Cv h;exact aFd t x hd hop h
 .obtain⟨x,t,rfl,rfl,h⟩:=Cv h;split at h
  .rename_i ha;subst ha;exact Zh t x hd hop h
  exact aGs t x hd hop h
 .obtain⟨s,x,t,u,rfl,rfl,h⟩:=rI h;exact Tc t u s x hd hop h
 .obtain⟨s,x,t,u,rfl,rfl,h⟩:=rI h;exact aAz t u s x hd hop h
 .obtain⟨s,x,t,u,rfl,rfl,h⟩:=rI h;exact Td t u s x hd hop h
 .obtain⟨s,x,t,u,rfl,rfl,h⟩:=rI h;exact Zs _ t u s x hd hop h
 .rename_i t x i ok;exact Sb t x i ok hd hop h
 .rename_i t x i v;exact Ck t x i v hd (.inl hop) h
 .rename_i t x i v;exact Ck t x i v hd (.inr hop) h
 .rename_i t r;exact Ob t r hd hop h
 exact h.elim
theorem aNe {K:St->Prop} (hd:eT o st)(h:vcY P alt o.dst o.op st K):Does P o st K:=by
 obtain⟨sets,ob,h1,hK⟩:=h;exact(aTl hd h1).mono (by rintro _ rfl;exact hK)
end
section
variable {P:Program}
end
end Go.Vm
