import Derived.Lib.Overlaps
import Derived.Laws.IdiomStrings
import Derived.Laws.Externs
import Derived.LaidEql
import Derived.Test.YtbdjepeabjangaaGreatVm6
import Derived.Test.YtbdjepeabjangaaGreatVmX9
import Derived.Test.YtbdjepeabjangaaGreatVmX12
set_option linter.all false
namespace Go.Vm
open Go
variable {alt:Bool}{args:Array Operand}{dst:Option Tmp}{f:Operand->TypeId->lL}{o:Oper}{ob:Option (List (List D))}{obj:List (List D)}{op:Op}{rd:Operand->Slot}{sets:List (Nat×Slot)}{sk sx:Slot}{st:St}{t:TypeId}{ts:Array TypeId}
section
variable {P:Program}
def aMb:TypeDesc->Bool
 | .interface _=>true
 | _=>false
def ifI(P:Program)(t:TypeId):Option Bool:=(P.underlying t).map aMb
theorem Gx {ok:Bool} (h:rA P dst t sx sk ok obj sets ob):(∀p∈sets,p.1∈dst.toList)/\ob=none:=by
 unfold rA at h;split at h
 .obtain⟨_,_,_,_,_,_,_,rfl,rfl⟩:=h;exact⟨by simp,rfl⟩
 .obtain⟨_,_,_,rfl,rfl⟩:=h;exact⟨by simp,rfl⟩
 exact h.elim
theorem vU {x:Operand} {sv:Slot} (h:qT P dst t x sx sk sv obj sets ob):∀p∈sets,p.1∈dst.toList++(bR x).toList:=by
 unfold qT at h;split at h
 .obtain⟨_,_,_,_,_,_,_,rfl,rfl⟩:=h;simp
 .obtain⟨_,_,_,⟨rfl,_⟩,rfl,rfl⟩:=h;simp [bR]
 exact h.elim
theorem Gz (h:tU P dst t sx sk obj sets ob):∀p∈sets,p.1∈dst.toList:=by
 unfold tU at h;split at h
 .obtain⟨_,_,_,_,_,_,rfl,rfl⟩:=h;simp
 exact h.elim
theorem Dk {r:Option Slot} (h:oW P dst t r obj sets ob):∀p∈sets,p.1∈dst.toList:=by
 unfold oW at h;split at h
 .obtain⟨_,rfl,rfl⟩:=h;simp
 exact h.elim
theorem Oy (h:Bo P dst t sx obj sets ob):(∀p∈sets,p.1∈dst.toList)/\ob=none:=by
 unfold Bo at h;split at h
 .obtain⟨_,_,_,_,_,rfl,rfl⟩:=h;exact⟨by simp,rfl⟩
 exact h.elim
def Pf (P : Program) (f : FuncId) : Prop := ∃ fn tS tR e ti, P.funcs[f]? = some fn ∧ (fn.name == "runtime.NumGoroutine") = false ∧ fn.body.isNone = true ∧ Extern.findNext fn = none ∧ Extern.find fn = some (Extern.SlicesOverlaps.overlaps #[tS, tS] #[tR]) ∧ P.underlying tS = some (.slice e) ∧ P.info? e = some ti
def Fc(P:Program)(dst:Option Tmp)(f:FuncId)(sx sy:Slot)(obj:List (List D)):lL:=fun sets ob=>
 match sx,sy with
 | .d (.sl true (_::_)),.d (.slo m _ _ cap)=>(Pf P f/\0<cap/\∃cs,obj[m]?=some cs/\cs≠ [])/\sets=dst.toList.map (fun d=>(d,.d (.bool false)))/\ob=none
 | _,_=>False
theorem Mq (f:FuncId)(t t2:TypeId)(y x:Operand)(hd:dD o st)(ho:o.op= .call { callee:= .value (.func f),args:=#[y,x],argTypes:=#[t,t2] }) 
  (h:Fc P o.dst f (st.rdS y) (st.rdS x) st.obj sets ob):Does P o st (· =st.upd ⟨sets,none,ob⟩):=by
 unfold Fc at h;split at h
 .rename_i e0 es m a len cap hy hx;obtain⟨⟨⟨fn,tS,tR,e,ti,f1,f2,f3,f4,f5,f7,f8⟩,hcap,cs,hcs,hne⟩,rfl,rfl⟩:=h;have hst:st.upd ⟨o.dst.toList.map (fun d=>(d,.d (.bool false))),none,none⟩=st.put o.dst (.d (.bool false)):=by
   cases o.dst <;> rfl
  rw [hst];refine bL hd (.d (.bool false)) (fun w g tmps hok=>?_) rfl;cases y with
  | const u=>simp only [St.rdS,Slot.d.injEq] at hy;cases u <;> simp [D.ofV,D.ofV1] at hy <;> (repeat' split at hy) <;> cases hy
  | func u=>simp [St.rdS] at hy
  | global u=>simp [St.rdS,Slot.any] at hy
  | tmp s=>
  have hy:st.env s= .d (.sl true (e0::es)):=hy;have hsl:=hok.slot s;rw [hy] at hsl;obtain⟨hr,ho2⟩:=hsl;have hr':=hok.rd x;rw [cS hx] at hr';have hvy:ev tmps (.tmp s)=bQ tmps s:=rfl;generalize bQ tmps s=vy at hr ho2 hvy;generalize hvx:ev tmps x=vx at hr';refine⟨.bool false,?_,bC (.v _ rfl) rfl⟩;have run:∀v1 v2:Value,(Extern.SlicesOverlaps.overlaps #[tS,tS] #[tR] #[v1,v2]).run P w= .ok (.bool false) w->ev tmps (.tmp s)=v1->ev tmps x=v2->(execOp (ev tmps) o).run P w= .ok (.value (.bool false)) w:=by
   intro v1 v2 hrun e1 e2;have hfe:∀(t:Array Value),(⟨t, []⟩:Act).eval (.func f)= .func (.func f) #[] #[]:=fun _=>rfl;have hc:=run_callFunc_extern (P:=P) f1 f2 f3 f4 f5 #[v1,v2] w;rw [hrun] at hc;simp [execOp,ho,resolve,hfe,Deferred.ofValue,invoke,e1,e2,hc,Result.andThen]
  cases hr' with
  | slo _ _ _ _ xa hb hc hm =>
   obtain⟨b,hb2,rfl⟩:=hb hcap;obtain⟨cur,E,o1,o2,o3,o4,o5⟩:=(hok.obj m b cs hb2 hcs).resolve_left hne;cases ho2 with
   | flat p d v hf=>simp [D.flat] at hf
   | sl p es' v hO=>
   cases hr with
   | sl _ _ b' off n cap' k vs hl hn hk hc' hm' hr hs hx' =>
    have hv:0<vs.length:=by rw [hl];simp
    rcases hO with ⟨a0,n0,e1⟩ | ⟨b0,n0,c0,k0,cur0,E0,e1,_,_,hh,hk0,hcs0,hn0,hle,_⟩
    .simp only [Value.slice.injEq] at e1;obtain⟨_,_,rfl⟩:=e1;subst hn;simp at hc'
    simp only [Value.slice.injEq,aP,Addr.mk.injEq] at e1;obtain⟨⟨rfl,rfl,_⟩,rfl,rfl⟩:=e1;refine run _ _ (Lib.run_overlaps_apart (P:=P) w tS tR e f7 ti.size (bH f8) _ _ _ _ _ _ ?_ E0 E cur0.size cur.size ?_ ?_ ?_ ?_ ?_) hvy hvx
    .show b'≠b
     rintro rfl;obtain⟨x1,x2⟩:=hx' 0 vs[0] (aN hv);have hz:0<vs[0].cells.size:=by rw [x1];exact hk
     have:=(x2 0 _ (aV hz)).2;rw [o4] at this;cases this
    .simp [World.shape?,hh]
    .simp [World.shape?,o1]
    .rw [o2];intro e;exact hne (jW e)
    .simp [World.frozen?,hh]
    simp [World.frozen?,hh]
 exact h.elim
theorem Pp {f:FuncId} {sy:Slot} (h:Fc P dst f sx sy obj sets ob):(∀p∈sets,p.1∈dst.toList)/\ob=none:=by
 unfold Fc at h;split at h
 .obtain⟨_,rfl,rfl⟩:=h;refine⟨fun p hp=>?_,rfl⟩;obtain⟨d,hd,rfl⟩:=bY.1 hp;exact hd
 exact h.elim
def bnE(op:BinOp)(r:Bool):Bool:=match op with | .eql=>r | _=> !r
def Ue(P:Program)(dst:Option Tmp)(op:BinOp)(t:TypeId)(sx sy:Slot)(obj:List (List D)):lL:=fun sets ob=>
 match dst,sx,sy with
 | some d,.d (.ref n a),.d (.ref m b)=>((∃e z,P.underlying t=some (.pointer e)/\fE P e=some z/\¬z.2=0)/\(op= .eql\/op= .neq)/\((n=m/\a=b)\/(¬n=m/\¬obj[n]?.getD []= []/\¬obj[m]?.getD []= [])))/\sets= [(d,.d (.bool (bnE op (decide (n=m)))))]/\ob=none
 | _,_,_=>False
theorem Sj {op:BinOp} {sy:Slot} (h:Ue P dst op t sx sy obj sets ob):(∀p∈sets,p.1∈dst.toList)/\ob=none:=by
 unfold Ue at h;split at h
 .obtain⟨_,rfl,rfl⟩:=h;exact⟨by simp,rfl⟩
 exact h.elim
theorem Bw {e:TypeId} {i:TypeInfo} (ht:P.underlying t=some (.pointer e))(hi:P.info? e=some i)(hz:¬i.size=0)(a b:Addr)(w:World) {r:Bool} (hr:(sameAddr a b).run P w= .ok r w):(Op.equal t (.pointer (some a)) (.pointer (some b))).run P w= .ok r w:=by
 show(Op.equalIn (9999+1) t (.pointer (some a)) (.pointer (some b))).run P w=_
 unfold Op.equalIn;simp [run_underlying ht,typeInfo,hi,sizeOf,hz,hr]
theorem Sl (op:BinOp)(t:TypeId)(x y:Operand)(yt:TypeId)(hd:dD o st)(ho:o.op= .binOp op t x y yt) 
  (h:Ue P o.dst op t (st.rdS x) (st.rdS y) st.obj sets ob):Does P o st (· =st.upd ⟨sets,none,ob⟩):=by
 unfold Ue at h;split at h
 .rename_i d n a m b hdst hx hy;obtain⟨⟨⟨e,⟨ag,sz⟩,ht,hz,hz0⟩,hop,hne⟩,rfl,rfl⟩:=h;obtain⟨td,ti,i1,i2,i3,i4⟩:=lD hz;have hz1:¬ti.size=0:=by rw [i4];exact hz0
  refine bL hd (.d (.bool (bnE op (decide (n=m))))) (fun w g tmps hok=>?_) (by rw [hdst];rfl);have hrx:=hok.rd x;rw [cS hx] at hrx;have hry:=hok.rd y;rw [cS hy] at hry;refine⟨.bool (bnE op (decide (n=m))),?_,bC (.v _ rfl) rfl⟩;generalize hvx:ev tmps x=vx at hrx;generalize hvy:ev tmps y=vy at hry;cases hrx with
  | ref _ _ b1 h1=>
  cases hry with
  | ref _ _ b2 h2=>
  have key:(sameAddr ⟨b1,a,none⟩ ⟨b2,b,none⟩).run P w= .ok (decide (n=m)) w:=by
   rcases hne with ⟨rfl,rfl⟩ | ⟨hne,n1,n2⟩
   .rw [h1] at h2;rw [qB h2];simpa using run_sameAddr_same (P:=P) w ⟨b2,a,none⟩
   cases q1:st.obj[n]? with
   | none=>rw [q1] at n1;exact absurd rfl n1
   | some c1=>
   cases q2:st.obj[m]? with
   | none=>rw [q2] at n2;exact absurd rfl n2
   | some c2=>
   rw [q1] at n1;rw [q2] at n2;obtain⟨u1,E1,y1,_,x1,_⟩:=(hok.obj n b1 c1 h1 q1).resolve_left n1;obtain⟨u2,E2,y2,_,x2,_⟩:=(hok.obj m b2 c2 h2 q2).resolve_left n2;have hb:b1≠b2:=by
    rintro rfl;rw [x1] at x2;exact hne (by simpa using x2)
   rw [show decide (n=m)=false by simpa using hne];exact run_sameAddr_other (P:=P) w (a:=⟨b1,a,none⟩) (b:=⟨b2,b,none⟩) (fun e=>hb (congrArg Addr.block e)) y1 y2
  have hr:(binOp op t (.pointer (some ⟨b1,a,none⟩)) (.pointer (some ⟨b2,b,none⟩))).run P w= .ok (.bool (bnE op (decide (n=m)))) w:=by
   rcases hop with rfl | rfl
   .simp [binOp,Bw ht i2 hz1 _ _ w key,bnE]
   simp [binOp,Bw ht i2 hz1 _ _ w key,bnE]
  simp [execOp,ho,hvx,hvy,vG (P:=P) (op:=op) (t:=t) (x:=x) (y:=y) (a:= .pointer (some ⟨b1,a,none⟩)) (b:= .pointer (some ⟨b2,b,none⟩)) (w:=w) (by simp) (by simp),hr]
 exact h.elim
def yA1(args:List Operand)(ts:List TypeId)(f:Operand->TypeId->lL):lL:=match args,ts with
 | [x], [t]=>f x t
 | _,_=>fun _ _=>False
def yA2(args:List Operand)(ts:List TypeId)(f:Operand->Operand->TypeId->TypeId->lL):lL:=match args,ts with
 | [s,x], [t,t2]=>f s x t t2
 | _,_=>fun _ _=>False
theorem wS (h:yA1 args.toList ts.toList f sets ob):∃x t,args=#[x]/\ts=#[t]/\f x t sets ob:=by
 unfold yA1 at h;rcases args with ⟨_ | ⟨a,_ | ⟨b,l⟩⟩⟩ <;> rcases ts with ⟨_ | ⟨t,_ | ⟨u,m⟩⟩⟩ <;> first | exact absurd h not_false | exact⟨a,t,rfl,rfl,h⟩
theorem mC {f:Operand->Operand->TypeId->TypeId->lL} (h:yA2 args.toList ts.toList f sets ob):∃s x t u,args=#[s,x]/\ts=#[t,u]/\f s x t u sets ob:=by
 unfold yA2 at h;rcases args with ⟨_ | ⟨a,_ | ⟨b,_ | ⟨c,l⟩⟩⟩⟩ <;> rcases ts with ⟨_ | ⟨t,_ | ⟨u,_ | ⟨v,m⟩⟩⟩⟩ <;> first | exact absurd h not_false | exact⟨a,b,t,u,rfl,rfl,h⟩
theorem Ey {args:List Operand} {ts:List TypeId} {f':Operand->TypeId->lL} (h:∀x t,x∈args->f' x t=f x t):yA1 args ts f'=yA1 args ts f:=by
 unfold yA1;split
 .exact h _ _ (by simp)
 rfl
theorem sW {args:List Operand} {ts:List TypeId} {f f':Operand->Operand->TypeId->TypeId->lL} (h:∀s x t u,s∈args->x∈args->f' s x t u=f s x t u):yA2 args ts f'=yA2 args ts f:=by
 unfold yA2;split
 .exact h _ _ _ _ (by simp) (by simp)
 rfl
def yR(P:Program)(alt:Bool)(dst:Option Tmp)(op:Op)(rd:Operand->Slot)(obj:List (List D)):lL:=match op with
 | .slice t x lo hi none=>xR P dst t x (rd x) (lo.map rd) (hi.map rd)
 | .makeSlice t l c=>Ge P alt dst t (rd l) (rd c) obj
 | .call ⟨.builtin .cap,args,ts⟩=>yA1 args.toList ts.toList fun x t=>Sh P dst t (rd x)
 | .call ⟨.builtin .len,args,ts⟩=>yA1 args.toList ts.toList fun x t=>if alt=true then Bo P dst t (rd x) obj else Wd P dst t (rd x)
 | .call ⟨.builtin .append,args,ts⟩=>yA2 args.toList ts.toList fun s x t t2=>sT P dst t t2 s (rd s) (rd x) obj
 | .call ⟨.builtin .copy,args,ts⟩=>yA2 args.toList ts.toList fun s x t t2=>Eb P alt dst t t2 (rd s) (rd x) obj
 | .call ⟨.builtin .delete,args,ts⟩=>yA2 args.toList ts.toList fun s x t _=>tU P dst t (rd s) (rd x) obj
 | .call ⟨.value (.func f),args,ts⟩=>yA2 args.toList ts.toList fun s x _ _=>Fc P dst f (rd s) (rd x) obj
 | .lookup t x i ok=>rA P dst t (rd x) (rd i) ok obj
 | .mapUpdate t x i v=>qT P dst t x (rd x) (rd i) (rd v) obj
 | .insert t x i v=>qT P dst t x (rd x) (rd i) (rd v) obj
 | .makeMap t r=>oW P dst t (r.map rd) obj
 | .binOp op t x y _=>Ue P dst op t (rd x) (rd y) obj
 | _=>fun _ _=>False
def flY(alt:Bool)(op:Op):Fl:=match op with
 | .slice _ _ _ _ _=>⟨false,false,false,false⟩
 | .makeSlice _ _ _=>if alt=true then⟨false,false,false,false⟩else⟨false,false,true,true⟩
 | .call ⟨.builtin .cap,_,_⟩=>⟨false,false,false,false⟩
 | .call ⟨.builtin .len,_,_⟩=>if alt=true then⟨false,false,true,false⟩else⟨false,false,false,false⟩
 | .lookup _ _ _ _=>⟨false,false,true,false⟩
 | .makeInterface _ _=>⟨false,false,false,false⟩
 | .typeAssert _ _ _ _=>⟨false,false,false,false⟩
 | .call ⟨.builtin .append,_,_⟩=>⟨false,false,true,false⟩
 | .convert _ _ _=>⟨false,false,true,false⟩
 | .binOp _ _ _ _ _=>⟨false,false,true,false⟩
 | _=>⟨false,false,true,true⟩
theorem Jg {rd':Operand->Slot} (h:∀x∈op.operands.toList,rd' x=rd x):yR P alt dst op rd' obj=yR P alt dst op rd obj:=by
 unfold yR;split
 .rename_i t x lo hi;have e1:lo.map rd'=lo.map rd:=by
   cases lo with
   | none=>rfl
   | some y=>simp only [eT];rw [h y (by simp [Op.operands])]
  have e2:hi.map rd'=hi.map rd:=by
   cases hi with
   | none=>rfl
   | some y=>simp only [eT];rw [h y (by simp [Op.operands])]
  rw [e1,e2,h x (by simp [Op.operands])]
 .rename_i t l c;rw [h l (by simp [Op.operands]),h c (by simp [Op.operands])]
 .rename_i args ts;exact Ey fun x t hx=>by rw [h x (by simpa [Op.operands,Call.operands] using hx)]
 .rename_i args ts;exact Ey fun x t hx=>by rw [h x (by simpa [Op.operands,Call.operands] using hx)]
 .rename_i args ts;exact sW fun s x t u hs hx=>by rw [h x (by simpa [Op.operands,Call.operands] using hx),h s (by simpa [Op.operands,Call.operands] using hs)]
 .rename_i args ts;exact sW fun s x t u hs hx=>by rw [h x (by simpa [Op.operands,Call.operands] using hx),h s (by simpa [Op.operands,Call.operands] using hs)]
 .rename_i args ts;exact sW fun s x t u hs hx=>by rw [h x (by simpa [Op.operands,Call.operands] using hx),h s (by simpa [Op.operands,Call.operands] using hs)]
 .rename_i f args ts;exact sW fun s x t u hs hx=>by rw [h x (by simp [Op.operands,Call.operands,hx]),h s (by simp [Op.operands,Call.operands,hs])]
 .rename_i t x i ok;rw [h x (by simp [Op.operands]),h i (by simp [Op.operands])]
 .rename_i t x i v;rw [h x (by simp [Op.operands]),h i (by simp [Op.operands]),h v (by simp [Op.operands])]
 .rename_i t x i v;rw [h x (by simp [Op.operands]),h i (by simp [Op.operands]),h v (by simp [Op.operands])]
 .rename_i t r;have e1:r.map rd'=r.map rd:=by
   cases r with
   | none=>rfl
   | some y=>simp only [eT];rw [h y (by simp [Op.operands])]
  rw [e1]
 .rename_i op t x y yt;rw [h x (by simp [Op.operands]),h y (by simp [Op.operands])]
 rfl
theorem wH {x:Operand} (hx:x∈op.operands.toList) {t:Nat} (h:t∈dst.toList++(bR x).toList):t∈dst.toList++hC op:=by
 rcases dZ.1 h with h | h
 .exact gQ _ h
 refine xD _ (kV.2 ⟨x,hx,?_⟩);cases hs:bR x with
 | none=>rw [hs] at h;simp at h
 | some u=>rw [hs] at h;simp at h;rw [h]
theorem Rg (h:yR P alt dst op rd obj sets ob):(∀p∈sets,p.1∈dst.toList++hC op)/\(ob.isSome=true->(flY alt op).wO=true):=by
 unfold yR at h;split at h
 .obtain⟨h1,rfl⟩:=Kl h;exact⟨fun p hp=>wH (by simp [Op.operands]) (h1 p hp),by simp⟩
 .obtain⟨h1,h2⟩:=Mv h;exact⟨fun p hp=>gQ _ (h1 p hp),fun h3=>by rw [h2 h3];rfl⟩
 .obtain⟨x,t,rfl,rfl,h⟩:=wS h;obtain⟨h1,rfl⟩:=Vq h;exact⟨fun p hp=>gQ _ (h1 p hp),by simp⟩
 .obtain⟨x,t,rfl,rfl,h⟩:=wS h;split at h
  .obtain⟨h1,rfl⟩:=Oy h;exact⟨fun p hp=>gQ _ (h1 p hp),by simp⟩
  obtain⟨h1,rfl⟩:=Vh h;exact⟨fun p hp=>gQ _ (h1 p hp),by simp⟩
 .obtain⟨s,x,t,u,rfl,rfl,h⟩:=mC h;obtain⟨h1,rfl⟩:=Ib h;exact⟨fun p hp=>wH (by simp [Op.operands,Call.operands]) (h1 p hp),by simp⟩
 .obtain⟨s,x,t,u,rfl,rfl,h⟩:=mC h;have h1:=Nl h;exact⟨fun p hp=>gQ _ (h1 p hp),fun _=>rfl⟩
 .obtain⟨s,x,t,u,rfl,rfl,h⟩:=mC h;have h1:=Gz h;exact⟨fun p hp=>gQ _ (h1 p hp),fun _=>rfl⟩
 .obtain⟨s,x,t,u,rfl,rfl,h⟩:=mC h;obtain⟨h1,rfl⟩:=Pp h;exact⟨fun p hp=>gQ _ (h1 p hp),by simp⟩
 .obtain⟨h1,rfl⟩:=Gx h;exact⟨fun p hp=>gQ _ (h1 p hp),by simp⟩
 .have h1:=vU h;exact⟨fun p hp=>wH (by simp [Op.operands]) (h1 p hp),fun _=>rfl⟩
 .have h1:=vU h;exact⟨fun p hp=>wH (by simp [Op.operands]) (h1 p hp),fun _=>rfl⟩
 .have h1:=Dk h;exact⟨fun p hp=>gQ _ (h1 p hp),fun _=>rfl⟩
 .obtain⟨h1,rfl⟩:=Sj h;exact⟨fun p hp=>gQ _ (h1 p hp),by simp⟩
 exact h.elim
def vcY(P:Program)(alt:Bool)(dst:Option Tmp)(op:Op)(st:St)(K:St->Prop):Prop:=
 ∃sets ob,yR P alt dst op st.rdS (if(flY alt op).rO=true then st.obj else []) sets ob/\K (st.upd ⟨sets,none,ob⟩)
theorem aKn (hd:dD o st) (h:yR P alt o.dst o.op st.rdS (if(flY alt o.op).rO=true then st.obj else []) sets ob):Does P o st (· =st.upd ⟨sets,none,ob⟩):=by
 generalize hop:o.op=op at h;unfold yR at h;split at h
 .rename_i t x lo hi;exact Je t x lo hi hd hop h
 .rename_i t l c;refine Pk (alt:=alt) t l c hd hop (fun ha=>?_) h;subst ha;rfl
 .obtain⟨x,t,rfl,rfl,h⟩:=wS h;exact Uq t x hd hop h
 .obtain⟨x,t,rfl,rfl,h⟩:=wS h;split at h
  .rename_i ha;subst ha;exact Py t x hd hop h
  exact Wr t x hd hop h
 .obtain⟨s,x,t,u,rfl,rfl,h⟩:=mC h;exact It t u s x hd hop h
 .obtain⟨s,x,t,u,rfl,rfl,h⟩:=mC h;exact Oi t u s x hd hop h
 .obtain⟨s,x,t,u,rfl,rfl,h⟩:=mC h;exact Ig t u s x hd hop h
 .obtain⟨s,x,t,u,rfl,rfl,h⟩:=mC h;exact Mq _ t u s x hd hop h
 .rename_i t x i ok;exact Gn t x i ok hd hop h
 .rename_i t x i v;exact vQ t x i v hd (.inl hop) h
 .rename_i t x i v;exact vQ t x i v hd (.inr hop) h
 .rename_i t r;exact Di t r hd hop h
 .rename_i op t x y yt;exact Sl op t x y yt hd hop h
 exact h.elim
theorem aDf {K:St->Prop} (hd:dD o st)(h:vcY P alt o.dst o.op st K):Does P o st K:=by
 obtain⟨sets,ob,h1,hK⟩:=h;exact(aKn hd h1).mono (by rintro _ rfl;exact hK)
end
end Go.Vm
