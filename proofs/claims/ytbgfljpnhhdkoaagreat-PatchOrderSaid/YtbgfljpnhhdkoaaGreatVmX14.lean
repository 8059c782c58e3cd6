import Derived.Lib.Overlaps
import Derived.Laws.IdiomStrings
import Derived.Laws.Externs
import Derived.Test.YtbgfljpnhhdkoaaGreatVmX9
import Derived.Test.YtbgfljpnhhdkoaaGreatVmX12
import Derived.Maps.RangeRun
set_option linter.all false
namespace Go.Vm
open Go
section
variable {P:Program}
def aJ4:TypeDesc→Bool
 | .interface _=>true
 | _=>false
def ifI(P:Program)(t:TypeId):Option Bool:=(P.underlying t).map aJ4
def wG(P:Program)(dst:Option Tmp)(t:TypeId)(sx:Slot):jG:=fun sets ob=>
 match dst,sx,ifI P t with
 | some d,.d d0,some false=>d0.solid=true∧sets= [(d,.d (.ifc t d0.s2))]∧ob=none
 | _,_,_=>False
def rN(P:Program)(dst:Option Tmp)(a:TypeId)(sx:Slot)(ok:Bool):jG:=fun sets ob=>
 match dst,sx,ifI P a with
 | some d,.d (.ifc t d0),some false=>(t=a∧d0.solid=true)∧sets= [(d,.d (if ok=true then .tup [d0.s2,.bool true] else d0.s2))]∧ob=none
 | _,_,_=>False
theorem Iz {t:TypeId} (h:ifI P t=some false):∃td,P.underlying t=some td∧∀m,td≠ .interface m:=by
 unfold ifI at h;rw [Option.map_eq_some_iff] at h;obtain⟨td,h1,h2⟩:=h;exact⟨td,h1,by rintro m rfl;cases h2⟩
theorem Ig {o:Oper} {st:St} (t:TypeId)(x:Operand)(hd:cO o st)(ho:o.op= .makeInterface t x) {sets:List (Nat×Slot)} {ob:Option (List (List D))}
  (h:wG P o.dst t (st.rdS x) sets ob):Does P o st (· =st.upd ⟨sets,none,ob⟩):=by
 unfold wG at h;split at h
 ·rename_i d d0 hdst hx hi;obtain⟨hs,rfl,rfl⟩:=h;obtain⟨td,u1,u2⟩:=Iz hi;refine bH hd (.d (.ifc t d0.s2)) (fun w g tmps hok=>?_) (by rw [hdst];rfl);have hr:=hok.rd x;rw [bS hx] at hr;refine⟨.iface t (ev tmps x),?_,aZ (.ifc _ _ _ hr.s2) rfl⟩;cases td with
  | interface m=>exact absurd rfl (u2 m)
  | _=>simp [execOp,ho,Instr.makeInterface,run_underlying u1]
 exact h.elim
theorem Gf {o:Oper} {st:St} (x:Operand)(xt a:TypeId)(ok:Bool)(hd:cO o st)(ho:o.op= .typeAssert x xt a ok) {sets:List (Nat×Slot)} {ob:Option (List (List D))}
  (h:rN P o.dst a (st.rdS x) ok sets ob):Does P o st (· =st.upd ⟨sets,none,ob⟩):=by
 unfold rN at h;split at h
 ·rename_i d t d0 hdst hx hi;obtain⟨⟨rfl,hs⟩,rfl,rfl⟩:=h;obtain⟨td,u1,u2⟩:=Iz hi;obtain⟨hs1,hs2⟩:=fT hs;refine bH hd (.d (if ok=true then .tup [d0.s2,.bool true] else d0.s2)) (fun w g tmps hok=>?_) (by rw [hdst];rfl);have hr:=hok.rd x;rw [bS hx] at hr;generalize hv:ev tmps x=v at hr;cases hr with
  | ifc _ _ y hy =>
   refine⟨if ok=true then .tuple #[y,.bool true] else y,?_,fun u=>?_⟩
   ·cases td with
    | interface m=>exact absurd rfl (u2 m)
    | _=>cases ok <;> simp [execOp,ho,Instr.typeAssert,run_underlying u1,hv]
   cases ok with
   | false=>exact⟨hy.s2,oN hy hs2⟩
   | true =>
    have hall:∀(i:Nat) (d:D) (x:Value), [d0.s2,D.bool true][i]?=some d→(#[y,Value.bool true]:Array Value)[i]?=some x→R g.M g.bs d x∧∀X h p,Own w g.M g.bs X h p d x:=by
     intro i d x a1 a2
     match i with
     | 0=>simp at a1 a2;subst a1;subst a2;exact⟨hy.s2,fun X h p=>oN hy hs2⟩
     | 1=>simp at a1 a2;subst a1;subst a2;exact⟨.v _ rfl,fun X h p=> .flat _ _ _ rfl⟩
     | i+2=>simp at a1
    exact⟨.tup _ _ (by simp) fun i d x a1 a2=>(hall i d x a1 a2).1,.tup _ _ _ fun i d x a1 a2=>(hall i d x a1 a2).2 _ _ _⟩
 exact h.elim
theorem wZ(b off j:Nat):(⟨b,off,none⟩:Addr).add j=⟨b,off+j,none⟩:=by unfold Addr.add;split <;> simp_all
def Pr(P:Program)(s d:TypeId):Prop:=∃e,P.underlying s=some (.slice e)∧P.underlying e=some (.int .u8)∧P.underlying d=some .string
def Dp(P:Program)(dst:Option Tmp)(s d:TypeId)(sx:Slot)(obj:List (List D)):jG:=fun sets ob=>
 match dst,sx with
 | some t,.d (.slo m a len _)=>∃l:List UInt8,(Pr P s d∧l.length=len∧∃cs,obj[m]?=some cs∧∀(i:Nat) (x:UInt8),l[i]?=some x→cs[a+i]?=some (.v (.int .u8 (x.toNat:Int))))∧sets= [(t,.d (.str ⟨l.toArray⟩))]∧ob=none
 | some t,.d (.sl _ es)=>∃l:List UInt8,(Pr P s d∧es=l.map fun x=>D.v (.int .u8 (x.toNat:Int)))∧sets= [(t,.d (.str ⟨l.toArray⟩))]∧ob=none
 | _,_=>False
theorem Mc {dst:Option Tmp} {s d:TypeId} {sx:Slot} {obj:List (List D)} {sets:List (Nat×Slot)} {ob:Option (List (List D))} (h:Dp P dst s d sx obj sets ob):(∀p∈sets,p.1∈dst.toList)∧ob=none:=by
 unfold Dp at h;split at h
 ·obtain⟨_,_,rfl,rfl⟩:=h;exact⟨by simp,rfl⟩
 ·obtain⟨_,_,rfl,rfl⟩:=h;exact⟨by simp,rfl⟩
 exact h.elim
theorem Ou {o:Oper} {st:St} (s d:TypeId)(x:Operand)(hd:cO o st)(ho:o.op= .convert s d x) {sets:List (Nat×Slot)} {ob:Option (List (List D))}
  (h:Dp P o.dst s d (st.rdS x) st.obj sets ob):Does P o st (· =st.upd ⟨sets,none,ob⟩):=by
 unfold Dp at h;split at h
 ·rename_i t m a len cap hdst hx;obtain⟨l,⟨⟨e,u1,u2,u3⟩,hl,cs,hcs,hb⟩,rfl,rfl⟩:=h;refine bH hd (.d (.str ⟨l.toArray⟩)) (fun w g tmps hok=>?_) (by rw [hdst];rfl);have hr:=hok.rd x;rw [bS hx] at hr;refine⟨.string ⟨l.toArray⟩,?_,aZ (.v _ rfl) rfl⟩;suffices hgo:(convert s d (ev tmps x)).run P w= .ok (.string ⟨l.toArray⟩) w by
   simp only [execOp,ho];simp [hgo]
  generalize ev tmps x=v at hr;cases hr with
  | slo _ _ _ _ xa hxa hc hm=>
  subst hl;rcases Nat.eq_zero_or_pos l.length with h0 | h0
  ·obtain rfl:l= []:=List.eq_nil_of_length_eq_zero h0;cases xa with
   | none=>
    rw [run_convert_bytes_string w s d e none ([]:List UInt8).length cap u1 u2 u3];rfl
   | some ad=>exact run_convert_bytes_back w s d e ad cap [] u1 u2 u3 (fun j hj=>absurd hj (Nat.not_lt_zero _))
  obtain⟨b,hbs,rfl⟩:=hxa (by omega);have hne:cs≠ []:=by
   rintro rfl;have:=hb 0 l[0] (List.getElem?_eq_getElem h0);simp at this
  obtain⟨cur,E,o1,o2,o3,o4,o5⟩:=(hok.obj m b cs hbs hcs).resolve_left hne;refine run_convert_bytes_back w s d e _ cap l u1 u2 u3 fun j hj=>?_;have hd1:=hb j l[j] (List.getElem?_eq_getElem hj);have hlt:=(List.getElem?_eq_some_iff.1 hd1).1;have hx1:cur[a+j]?=some (cur[a+j]'(by omega)):=Array.getElem?_eq_getElem (by omega);obtain⟨r1, -, -⟩:=o5 (a+j) _ _ hd1 hx1;have hv:=r1.vEq;rw [wZ];simp only [World.cell?,o1];rw [← hv];exact hx1
 ·rename_i t o es hdst hx;obtain⟨l,⟨⟨e,u1,u2,u3⟩,hes⟩,rfl,rfl⟩:=h;refine bH hd (.d (.str ⟨l.toArray⟩)) (fun w g tmps hok=>?_) (by rw [hdst];rfl);have hr:=hok.rd x;rw [bS hx] at hr;refine⟨.string ⟨l.toArray⟩,?_,aZ (.v _ rfl) rfl⟩;suffices hgo:(convert s d (ev tmps x)).run P w= .ok (.string ⟨l.toArray⟩) w by
   simp only [execOp,ho];simp [hgo]
  have hlen:es.length=l.length:=by rw [hes];simp
  generalize ev tmps x=v at hr;cases hr with
  | nil=>
   obtain rfl:l= []:=List.eq_nil_of_length_eq_zero (by rw [← hlen];rfl);rw [run_convert_bytes_string w s d e none 0 0 u1 u2 u3];rfl
  | emp _ a cap hm=>
   obtain rfl:l= []:=List.eq_nil_of_length_eq_zero (by rw [← hlen];rfl);exact run_convert_bytes_back w s d e a cap [] u1 u2 u3 (fun j hj=>absurd hj (Nat.not_lt_zero _))
  | sl _ _ b off n cap k vs hl hn hk hc hm hr hs hx2=>
   have hn2:n=l.length:=by rw [hn,hlen]
   subst hn2;refine run_convert_bytes_back w s d e _ cap l u1 u2 u3 fun j hj=>?_;have hd1:es[j]?=some (.v (.int .u8 (l[j].toNat:Int))):=by rw [hes,List.getElem?_map,List.getElem?_eq_getElem hj];rfl
   obtain rfl:k=1:=(hs j _ hd1).symm;have hv1:vs[j]?=some (vs[j]'(by omega)):=List.getElem?_eq_getElem (by omega);have hv2:=(hr j _ _ hd1 hv1).vEq;have hm2:=(hx2 j _ hv1).2 0 (.int .u8 (l[j].toNat:Int)) (by rw [hv2];rfl);rw [wZ];have:=hok.mem _ _ _ hm2.2;simpa using this
 exact h.elim
theorem Hy {dst:Option Tmp} {t:TypeId} {sx:Slot} {sets:List (Nat×Slot)} {ob:Option (List (List D))} (h:wG P dst t sx sets ob):(∀p∈sets,p.1∈dst.toList)∧ob=none:=by
 unfold wG at h;split at h
 ·obtain⟨_,rfl,rfl⟩:=h;exact⟨by simp,rfl⟩
 exact h.elim
theorem Gd {dst:Option Tmp} {t:TypeId} {sx:Slot} {ok:Bool} {sets:List (Nat×Slot)} {ob:Option (List (List D))} (h:rN P dst t sx ok sets ob):(∀p∈sets,p.1∈dst.toList)∧ob=none:=by
 unfold rN at h;split at h
 ·obtain⟨_,rfl,rfl⟩:=h;exact⟨by simp,rfl⟩
 exact h.elim
theorem Ha {dst:Option Tmp} {t:TypeId} {sx sk:Slot} {ok:Bool} {obj:List (List D)} {sets:List (Nat×Slot)} {ob:Option (List (List D))} (h:oG P dst t sx sk ok obj sets ob):(∀p∈sets,p.1∈dst.toList)∧ob=none:=by
 unfold oG at h;split at h
 ·obtain⟨_,_,_,_,_,_,_,rfl,rfl⟩:=h;exact⟨by simp,rfl⟩
 ·obtain⟨_,_,_,rfl,rfl⟩:=h;exact⟨by simp,rfl⟩
 exact h.elim
theorem sZ {dst:Option Tmp} {t:TypeId} {x:Operand} {sx sk sv:Slot} {obj:List (List D)} {sets:List (Nat×Slot)} {ob:Option (List (List D))} (h:oW P dst t x sx sk sv obj sets ob):∀p∈sets,p.1∈dst.toList++(bP x).toList:=by
 unfold oW at h;split at h
 ·obtain⟨_,_,_,_,_,_,_,rfl,rfl⟩:=h;simp
 ·obtain⟨_,_,_,⟨rfl,_⟩,rfl,rfl⟩:=h;simp [bP]
 exact h.elim
theorem Fq {dst:Option Tmp} {t:TypeId} {sx sk sv:Slot} {obj:List (List D)} {sets:List (Nat×Slot)} {ob:Option (List (List D))} (h:rQ P dst t sx sk sv obj sets ob):∀p∈sets,p.1∈dst.toList:=by
 unfold rQ at h;split at h
 ·obtain⟨_,_,_,_,_,_,rfl,rfl⟩:=h;simp
 exact h.elim
theorem Fe {dst:Option Tmp} {t:TypeId} {sx sk:Slot} {obj:List (List D)} {sets:List (Nat×Slot)} {ob:Option (List (List D))} (h:rH P dst t sx sk obj sets ob):∀p∈sets,p.1∈dst.toList:=by
 unfold rH at h;split at h
 ·obtain⟨_,_,_,_,_,_,rfl,rfl⟩:=h;simp
 exact h.elim
theorem Hi {dst:Option Tmp} {t:TypeId} {sx sk:Slot} {obj:List (List D)} {sets:List (Nat×Slot)} {ob:Option (List (List D))} (h:wJ P dst t sx sk obj sets ob):∀p∈sets,p.1∈dst.toList:=by
 unfold wJ at h;split at h
 ·obtain⟨_,_,_,_,_,_,_,_,_,rfl,rfl⟩:=h;simp
 exact h.elim
theorem Cf {dst:Option Tmp} {t:TypeId} {r:Option Slot} {obj:List (List D)} {sets:List (Nat×Slot)} {ob:Option (List (List D))} (h:mQ P dst t r obj sets ob):∀p∈sets,p.1∈dst.toList:=by
 unfold mQ at h;split at h
 ·obtain⟨_,rfl,rfl⟩:=h;simp
 exact h.elim
theorem Nj {dst:Option Tmp} {t:TypeId} {sx:Slot} {obj:List (List D)} {sets:List (Nat×Slot)} {ob:Option (List (List D))} (h:Bo P dst t sx obj sets ob):(∀p∈sets,p.1∈dst.toList)∧ob=none:=by
 unfold Bo at h;split at h
 ·obtain⟨_,_,_,_,_,rfl,rfl⟩:=h;exact⟨by simp,rfl⟩
 exact h.elim
def Gi (P : Program) (f : FuncId) : Prop := ∃ fn tS tR e ti, P.funcs[f]? = some fn ∧ (fn.name == "runtime.NumGoroutine") = false ∧ fn.body.isNone = true ∧ Extern.findNext fn = none ∧ Extern.find fn = some (Extern.SlicesOverlaps.overlaps #[tS, tS] #[tR]) ∧ P.underlying tS = some (.slice e) ∧ P.info? e = some ti
def Eb(P:Program)(dst:Option Tmp)(f:FuncId)(sx sy:Slot)(obj:List (List D)):jG:=fun sets ob=>
 match sx,sy with
 | .d (.sl true (_::_)),.d (.slo m _ _ cap)=>(Gi P f∧0<cap∧∃cs,obj[m]?=some cs∧cs≠ [])∧sets=dst.toList.map (fun d=>(d,.d (.bool false)))∧ob=none
 | _,_=>False
theorem Ms {o:Oper} {st:St} (f:FuncId)(t t2:TypeId)(y x:Operand)(hd:cO o st)(ho:o.op= .call { callee:= .value (.func f),args:=#[y,x],argTypes:=#[t,t2] }) {sets:List (Nat×Slot)} {ob:Option (List (List D))}
  (h:Eb P o.dst f (st.rdS y) (st.rdS x) st.obj sets ob):Does P o st (· =st.upd ⟨sets,none,ob⟩):=by
 unfold Eb at h;split at h
 ·rename_i e0 es m a len cap hy hx;obtain⟨⟨⟨fn,tS,tR,e,ti,f1,f2,f3,f4,f5,f7,f8⟩,hcap,cs,hcs,hne⟩,rfl,rfl⟩:=h;have hst:st.upd ⟨o.dst.toList.map (fun d=>(d,.d (.bool false))),none,none⟩=st.put o.dst (.d (.bool false)):=by
   cases o.dst <;> rfl
  rw [hst];refine bH hd (.d (.bool false)) (fun w g tmps hok=>?_) rfl;cases y with
  | const u=>simp only [St.rdS,Slot.d.injEq] at hy;cases u <;> simp [D.ofV,D.ofV1] at hy <;> (repeat' split at hy) <;> cases hy
  | func u=>simp [St.rdS] at hy
  | global u=>simp [St.rdS,Slot.any] at hy
  | tmp s=>
  have hy:st.env s= .d (.sl true (e0::es)):=hy;have hsl:=hok.slot s;rw [hy] at hsl;obtain⟨hr,ho2⟩:=hsl;have hr':=hok.rd x;rw [bS hx] at hr';have hvy:ev tmps (.tmp s)=bL tmps s:=rfl;generalize bL tmps s=vy at hr ho2 hvy;generalize hvx:ev tmps x=vx at hr';refine⟨.bool false,?_,aZ (.v _ rfl) rfl⟩;have run:∀v1 v2:Value,(Extern.SlicesOverlaps.overlaps #[tS,tS] #[tR] #[v1,v2]).run P w= .ok (.bool false) w→ev tmps (.tmp s)=v1→ev tmps x=v2→(execOp (ev tmps) o).run P w= .ok (.value (.bool false)) w:=by
   intro v1 v2 hrun e1 e2;have hfe:∀(t:Array Value),(⟨t, []⟩:Act).eval (.func f)= .func (.func f) #[] #[]:=fun _=>rfl;have hc:=run_callFunc_extern (P:=P) f1 f2 f3 f4 f5 #[v1,v2] w;rw [hrun] at hc;simp [execOp,ho,resolve,hfe,Deferred.ofValue,invoke,e1,e2,hc,Result.andThen]
  cases hr' with
  | slo _ _ _ _ xa hb hc hm =>
   obtain⟨b,hb2,rfl⟩:=hb hcap;obtain⟨cur,E,o1,o2,o3,o4,o5⟩:=(hok.obj m b cs hb2 hcs).resolve_left hne;cases ho2 with
   | flat p d v hf=>simp [D.flat] at hf
   | sl p es' v hO=>
   cases hr with
   | sl _ _ b' off n cap' k vs hl hn hk hc' hm' hr hs hx' =>
    have hv:0<vs.length:=by rw [hl];simp
    rcases hO with ⟨a0,n0,e1⟩ | ⟨b0,n0,c0,k0,cur0,E0,e1,_,_,hh,hk0,hcs0,hn0,hle,_⟩
    ·simp only [Value.slice.injEq] at e1;obtain⟨_,_,rfl⟩:=e1;subst hn;simp at hc'
    simp only [Value.slice.injEq,Option.some.injEq,Addr.mk.injEq] at e1;obtain⟨⟨rfl,rfl,_⟩,rfl,rfl⟩:=e1;refine run _ _ (Lib.run_overlaps_apart (P:=P) w tS tR e f7 ti.size (bE f8) _ _ _ _ _ _ ?_ E0 E cur0.size cur.size ?_ ?_ ?_ ?_ ?_) hvy hvx
    ·show b'≠b
     rintro rfl;obtain⟨x1,x2⟩:=hx' 0 vs[0] (List.getElem?_eq_getElem hv);have hz:0<vs[0].cells.size:=by rw [x1];exact hk
     have:=(x2 0 _ (Array.getElem?_eq_getElem hz)).2;rw [o4] at this;cases this
    ·simp [World.shape?,hh]
    ·simp [World.shape?,o1]
    ·rw [o2];intro e;exact hne (List.eq_nil_of_length_eq_zero e)
    ·simp [World.frozen?,hh]
    simp [World.frozen?,hh]
 exact h.elim
theorem Nb {dst:Option Tmp} {f:FuncId} {sx sy:Slot} {obj:List (List D)} {sets:List (Nat×Slot)} {ob:Option (List (List D))} (h:Eb P dst f sx sy obj sets ob):(∀p∈sets,p.1∈dst.toList)∧ob=none:=by
 unfold Eb at h;split at h
 ·obtain⟨_,rfl,rfl⟩:=h;refine⟨fun p hp=>?_,rfl⟩;obtain⟨d,hd,rfl⟩:=List.mem_map.1 hp;exact hd
 exact h.elim
def yA1(args:List Operand)(ts:List TypeId)(f:Operand→TypeId→jG):jG:=match args,ts with
 | [x], [t]=>f x t
 | _,_=>fun _ _=>False
def yA2(args:List Operand)(ts:List TypeId)(f:Operand→Operand→TypeId→TypeId→jG):jG:=match args,ts with
 | [s,x], [t,t2]=>f s x t t2
 | _,_=>fun _ _=>False
theorem tD {args:Array Operand} {ts:Array TypeId} {f:Operand→TypeId→jG} {sets:List (Nat×Slot)} {ob:Option (List (List D))} (h:yA1 args.toList ts.toList f sets ob):∃x t,args=#[x]∧ts=#[t]∧f x t sets ob:=by
 unfold yA1 at h;rcases args with ⟨_ | ⟨a,_ | ⟨b,l⟩⟩⟩ <;> rcases ts with ⟨_ | ⟨t,_ | ⟨u,m⟩⟩⟩ <;> first | exact absurd h not_false | exact⟨a,t,rfl,rfl,h⟩
theorem lD {args:Array Operand} {ts:Array TypeId} {f:Operand→Operand→TypeId→TypeId→jG} {sets:List (Nat×Slot)} {ob:Option (List (List D))} (h:yA2 args.toList ts.toList f sets ob):∃s x t u,args=#[s,x]∧ts=#[t,u]∧f s x t u sets ob:=by
 unfold yA2 at h;rcases args with ⟨_ | ⟨a,_ | ⟨b,_ | ⟨c,l⟩⟩⟩⟩ <;> rcases ts with ⟨_ | ⟨t,_ | ⟨u,_ | ⟨v,m⟩⟩⟩⟩ <;> first | exact absurd h not_false | exact⟨a,b,t,u,rfl,rfl,h⟩
theorem Dh {args:List Operand} {ts:List TypeId} {f f':Operand→TypeId→jG} (h:∀x t,x∈args→f' x t=f x t):yA1 args ts f'=yA1 args ts f:=by
 unfold yA1;split
 ·exact h _ _ (by simp)
 rfl
theorem rD {args:List Operand} {ts:List TypeId} {f f':Operand→Operand→TypeId→TypeId→jG} (h:∀s x t u,s∈args→x∈args→f' s x t u=f s x t u):yA2 args ts f'=yA2 args ts f:=by
 unfold yA2;split
 ·exact h _ _ _ _ (by simp) (by simp)
 rfl
def yR(P:Program)(alt:Bool)(dst:Option Tmp)(op:Op)(rd:Operand→Slot)(obj:List (List D)):jG:=match op with
 | .slice t x lo hi none=>wK P dst t x (rd x) (lo.map rd) (hi.map rd)
 | .makeSlice t l c=>Cn P alt dst t (rd l) (rd c) obj
 | .call ⟨.builtin .cap,args,ts⟩=>yA1 args.toList ts.toList fun x t=>Us P dst t (rd x)
 | .call ⟨.builtin .len,args,ts⟩=>yA1 args.toList ts.toList fun x t=>if alt=true then Bo P dst t (rd x) obj else Ug P dst t (rd x)
 | .call ⟨.builtin .append,args,ts⟩=>yA2 args.toList ts.toList fun s x t t2=>rE P dst t t2 s (rd s) (rd x) obj
 | .call ⟨.builtin .copy,args,ts⟩=>yA2 args.toList ts.toList fun s x t t2=>Ed P alt dst t t2 (rd s) (rd x) obj
 | .call ⟨.builtin .delete,args,ts⟩=>yA2 args.toList ts.toList fun s x t _=>rH P dst t (rd s) (rd x) obj
 | .call ⟨.value (.func f),args,ts⟩=>yA2 args.toList ts.toList fun s x _ _=>Eb P dst f (rd s) (rd x) obj
 | .lookup t x i ok=>oG P dst t (rd x) (rd i) ok obj
 | .mapUpdate t x i v=>oW P dst t x (rd x) (rd i) (rd v) obj
 | .insert t x i v=>oW P dst t x (rd x) (rd i) (rd v) obj
 | .makeMap t r=>mQ P dst t (r.map rd) obj
 | .mapEntry t x i=>wJ P dst t (rd x) (rd i) obj
 | .entryStore t x i v=>rQ P dst t (rd x) (rd i) (rd v) obj
 | .makeInterface t x=>wG P dst t (rd x)
 | .typeAssert x _ a ok=>rN P dst a (rd x) ok
 | .convert s d x=>Dp P dst s d (rd x) obj
 | _=>fun _ _=>False
def flY(alt:Bool)(op:Op):Fl:=match op with
 | .slice _ _ _ _ _=>⟨false,false,false,false⟩
 | .makeSlice _ _ _=>if alt=true then⟨false,false,false,false⟩else⟨false,false,true,true⟩
 | .call ⟨.builtin .cap,_,_⟩=>⟨false,false,false,false⟩
 | .call ⟨.builtin .len,_,_⟩=>if alt=true then⟨false,false,true,false⟩else⟨false,false,false,false⟩
 | .lookup _ _ _ _=>⟨false,false,true,false⟩
 | .makeInterface _ _=>⟨false,false,false,false⟩
 | .typeAssert _ _ _ _=>⟨false,false,false,false⟩
 | .call ⟨.builtin .append,_,_⟩=>⟨false,false,true,false⟩
 | .convert _ _ _=>⟨false,false,true,false⟩
 | _=>⟨false,false,true,true⟩
theorem Jt {alt:Bool} {dst:Option Tmp} {op:Op} {rd rd':Operand→Slot} {obj:List (List D)} (h:∀x∈op.operands.toList,rd' x=rd x):yR P alt dst op rd' obj=yR P alt dst op rd obj:=by
 unfold yR;split
 ·rename_i t x lo hi;have e1:lo.map rd'=lo.map rd:=by
   cases lo with
   | none=>rfl
   | some y=>simp only [Option.map_some];rw [h y (by simp [Op.operands])]
  have e2:hi.map rd'=hi.map rd:=by
   cases hi with
   | none=>rfl
   | some y=>simp only [Option.map_some];rw [h y (by simp [Op.operands])]
  rw [e1,e2,h x (by simp [Op.operands])]
 ·rename_i t l c;rw [h l (by simp [Op.operands]),h c (by simp [Op.operands])]
 ·rename_i args ts;exact Dh fun x t hx=>by rw [h x (by simpa [Op.operands,Call.operands] using hx)]
 ·rename_i args ts;exact Dh fun x t hx=>by rw [h x (by simpa [Op.operands,Call.operands] using hx)]
 ·rename_i args ts;exact rD fun s x t u hs hx=>by rw [h x (by simpa [Op.operands,Call.operands] using hx),h s (by simpa [Op.operands,Call.operands] using hs)]
 ·rename_i args ts;exact rD fun s x t u hs hx=>by rw [h x (by simpa [Op.operands,Call.operands] using hx),h s (by simpa [Op.operands,Call.operands] using hs)]
 ·rename_i args ts;exact rD fun s x t u hs hx=>by rw [h x (by simpa [Op.operands,Call.operands] using hx),h s (by simpa [Op.operands,Call.operands] using hs)]
 ·rename_i f args ts;exact rD fun s x t u hs hx=>by rw [h x (by simp [Op.operands,Call.operands,hx]),h s (by simp [Op.operands,Call.operands,hs])]
 ·rename_i t x i ok;rw [h x (by simp [Op.operands]),h i (by simp [Op.operands])]
 ·rename_i t x i v;rw [h x (by simp [Op.operands]),h i (by simp [Op.operands]),h v (by simp [Op.operands])]
 ·rename_i t x i v;rw [h x (by simp [Op.operands]),h i (by simp [Op.operands]),h v (by simp [Op.operands])]
 ·rename_i t r;have e1:r.map rd'=r.map rd:=by
   cases r with
   | none=>rfl
   | some y=>simp only [Option.map_some];rw [h y (by simp [Op.operands])]
  rw [e1]
 ·rename_i t x i;rw [h x (by simp [Op.operands]),h i (by simp [Op.operands])]
 ·rename_i t x i v;rw [h x (by simp [Op.operands]),h i (by simp [Op.operands]),h v (by simp [Op.operands])]
 ·rename_i t x;rw [h x (by simp [Op.operands])]
 ·rename_i x xt a ok;rw [h x (by simp [Op.operands])]
 ·rename_i s d x;rw [h x (by simp [Op.operands])]
 rfl
theorem tL {op:Op} {x:Operand} {dst:Option Tmp} (hx:x∈op.operands.toList) {t:Nat} (h:t∈dst.toList++(bP x).toList):t∈dst.toList++fZ op:=by
 rcases List.mem_append.1 h with h | h
 ·exact List.mem_append_left _ h
 refine List.mem_append_right _ (List.mem_filterMap.2 ⟨x,hx,?_⟩);cases hs:bP x with
 | none=>rw [hs] at h;simp at h
 | some u=>rw [hs] at h;simp at h;rw [h]
theorem Pc {alt:Bool} {dst:Option Tmp} {op:Op} {rd:Operand→Slot} {obj:List (List D)} {sets:List (Nat×Slot)} {ob:Option (List (List D))} (h:yR P alt dst op rd obj sets ob):(∀p∈sets,p.1∈dst.toList++fZ op)∧(ob.isSome=true→(flY alt op).wO=true):=by
 unfold yR at h;split at h
 ·obtain⟨h1,rfl⟩:=Kc h;exact⟨fun p hp=>tL (by simp [Op.operands]) (h1 p hp),by simp⟩
 ·obtain⟨h1,h2⟩:=Oc h;exact⟨fun p hp=>List.mem_append_left _ (h1 p hp),fun h3=>by rw [h2 h3];rfl⟩
 ·obtain⟨x,t,rfl,rfl,h⟩:=tD h;obtain⟨h1,rfl⟩:=Rk h;exact⟨fun p hp=>List.mem_append_left _ (h1 p hp),by simp⟩
 ·obtain⟨x,t,rfl,rfl,h⟩:=tD h;split at h
  ·obtain⟨h1,rfl⟩:=Nj h;exact⟨fun p hp=>List.mem_append_left _ (h1 p hp),by simp⟩
  obtain⟨h1,rfl⟩:=Tl h;exact⟨fun p hp=>List.mem_append_left _ (h1 p hp),by simp⟩
 ·obtain⟨s,x,t,u,rfl,rfl,h⟩:=lD h;obtain⟨h1,rfl⟩:=Gt h;exact⟨fun p hp=>tL (by simp [Op.operands,Call.operands]) (h1 p hp),by simp⟩
 ·obtain⟨s,x,t,u,rfl,rfl,h⟩:=lD h;have h1:=Pa h;exact⟨fun p hp=>List.mem_append_left _ (h1 p hp),fun _=>rfl⟩
 ·obtain⟨s,x,t,u,rfl,rfl,h⟩:=lD h;have h1:=Fe h;exact⟨fun p hp=>List.mem_append_left _ (h1 p hp),fun _=>rfl⟩
 ·obtain⟨s,x,t,u,rfl,rfl,h⟩:=lD h;obtain⟨h1,rfl⟩:=Nb h;exact⟨fun p hp=>List.mem_append_left _ (h1 p hp),by simp⟩
 ·obtain⟨h1,rfl⟩:=Ha h;exact⟨fun p hp=>List.mem_append_left _ (h1 p hp),by simp⟩
 ·have h1:=sZ h;exact⟨fun p hp=>tL (by simp [Op.operands]) (h1 p hp),fun _=>rfl⟩
 ·have h1:=sZ h;exact⟨fun p hp=>tL (by simp [Op.operands]) (h1 p hp),fun _=>rfl⟩
 ·have h1:=Cf h;exact⟨fun p hp=>List.mem_append_left _ (h1 p hp),fun _=>rfl⟩
 ·have h1:=Hi h;exact⟨fun p hp=>List.mem_append_left _ (h1 p hp),fun _=>rfl⟩
 ·have h1:=Fq h;exact⟨fun p hp=>List.mem_append_left _ (h1 p hp),fun _=>rfl⟩
 ·obtain⟨h1,rfl⟩:=Hy h;exact⟨fun p hp=>List.mem_append_left _ (h1 p hp),by simp⟩
 ·obtain⟨h1,rfl⟩:=Gd h;exact⟨fun p hp=>List.mem_append_left _ (h1 p hp),by simp⟩
 ·obtain⟨h1,rfl⟩:=Mc h;exact⟨fun p hp=>List.mem_append_left _ (h1 p hp),by simp⟩
 exact h.elim
def vcY(P:Program)(alt:Bool)(dst:Option Tmp)(op:Op)(st:St)(K:St→Prop):Prop:=
 ∃sets ob,yR P alt dst op st.rdS (if(flY alt op).rO=true then st.obj else []) sets ob∧K (st.upd ⟨sets,none,ob⟩)
theorem aIg {o:Oper} {st:St} {alt:Bool} (hd:cO o st) {sets:List (Nat×Slot)} {ob:Option (List (List D))} (h:yR P alt o.dst o.op st.rdS (if(flY alt o.op).rO=true then st.obj else []) sets ob):Does P o st (· =st.upd ⟨sets,none,ob⟩):=by
 generalize hop:o.op=op at h;unfold yR at h;split at h
 ·rename_i t x lo hi;exact Kt t x lo hi hd hop h
 ·rename_i t l c;refine Ly (alt:=alt) t l c hd hop (fun ha=>?_) h;subst ha;rfl
 ·obtain⟨x,t,rfl,rfl,h⟩:=tD h;exact Vp t x hd hop h
 ·obtain⟨x,t,rfl,rfl,h⟩:=tD h;split at h
  ·rename_i ha;subst ha;exact Lc t x hd hop h
  exact Tk t x hd hop h
 ·obtain⟨s,x,t,u,rfl,rfl,h⟩:=lD h;exact Er t u s x hd hop h
 ·obtain⟨s,x,t,u,rfl,rfl,h⟩:=lD h;exact Mq t u s x hd hop h
 ·obtain⟨s,x,t,u,rfl,rfl,h⟩:=lD h;exact El t u s x hd hop h
 ·obtain⟨s,x,t,u,rfl,rfl,h⟩:=lD h;exact Ms _ t u s x hd hop h
 ·rename_i t x i ok;exact Ga t x i ok hd hop h
 ·rename_i t x i v;exact tZ t x i v hd (.inl hop) h
 ·rename_i t x i v;exact tZ t x i v hd (.inr hop) h
 ·rename_i t r;exact Cc t r hd hop h
 ·rename_i t x i;exact Iw t x i hd hop h
 ·rename_i t x i v;exact En t x i v hd hop h
 ·rename_i t x;exact Ig t x hd hop h
 ·rename_i x xt a ok;exact Gf x xt a ok hd hop h
 ·rename_i s d x;exact Ou s d x hd hop h
 exact h.elim
theorem aBk {o:Oper} {st:St} {alt:Bool} {K:St→Prop} (hd:cO o st)(h:vcY P alt o.dst o.op st K):Does P o st K:=by
 obtain⟨sets,ob,h1,hK⟩:=h;exact(aIg hd h1).mono (by rintro _ rfl;exact hK)
end
section
variable {P:Program}
def oL(P:Program)(dst:Option Tmp)(t:TypeId)(x:Operand)(st:St)(K:St→Prop):Prop:=
 match dst,st.rdS x,Tg P t with
 | some d,.d (.mref N),some (kd,_)=>∃m i clock kvs,qA st.obj m i N kd clock kvs∧K (st.set d (.d (.mit N clock [] clock)))
 | _,_,_=>False
def aGt(kvs:List (Value×Nat×D))(d t N clock:Nat)(seen:List Nat)(st:St)(K:St→Prop):Prop:=
 (kvs.map fun e=>e.2.1).Nodup→((∀(j s:Nat) (key:Value) (dv:D),kvs[j]?=some (key,s,dv)→s∈seen)→K (st.set d (.d (.tup [.bool false]))))∧
 ∀(j s:Nat) (key:Value) (dv:D),kvs[j]?=some (key,s,dv)→s∉seen→K ((st.set t (.d (.mit N clock (seen++ [s]) clock))).set d (.d (.tup [.bool true,.any,.any])))
def sH(dst:Option Tmp)(x:Operand)(st:St)(K:St→Prop):Prop:=
 match dst,x with
 | some d,.tmp t=>match st.env t with
  | .d (.mit N since seen last)=>∃m i kd clock kvs,(qA st.obj m i N kd clock kvs∧since=clock∧last=clock∧d≠t)∧aGt kvs d t N clock seen st K
  | _=>False
 | _,_=>False
def oH(dst:Option Tmp)(x:Operand)(st:St)(K:St→Prop):Prop:=
 match dst,x with
 | some d,.tmp t=>match st.env t with
  | .d (.mit N since seen last)=>∃(m i:Nat) (kd:TypeDesc) (clock:Nat) (kvs:List (Value×Nat×D)) (seen':List Nat) (s:Nat) (key:Value) (dv:D) (j:Nat),(qA st.obj m i N kd clock kvs∧last=clock∧seen=seen'++ [s]∧kvs[j]?=some (key,s,dv)∧key.oneCell'=true)∧K (st.set d (.d (.tup [.v key,dv])))
  | _=>False
 | _,_=>False
theorem Ge {dst:Option Tmp} {t:TypeId} {x:Operand} {st:St} {K K':St→Prop} (hk:∀s,K s→K' s)(h:oL P dst t x st K):oL P dst t x st K':=by
 unfold oL at h ⊢;split at h
 ·obtain⟨m,i,c,kvs,h1,h2⟩:=h;exact⟨m,i,c,kvs,h1,hk _ h2⟩
 exact h.elim
theorem Jp {dst:Option Tmp} {x:Operand} {st:St} {K K':St→Prop} (hk:∀s,K s→K' s)(h:sH dst x st K):sH dst x st K':=by
 unfold sH at h ⊢;split at h
 ·split at h
  ·obtain⟨m,i,kd,c,kvs,h1,h2⟩:=h;exact⟨m,i,kd,c,kvs,h1,fun hn=>⟨fun a=>hk _ ((h2 hn).1 a),fun j s key dv a b=>hk _ ((h2 hn).2 j s key dv a b)⟩⟩
  exact h.elim
 exact h.elim
theorem Ey {dst:Option Tmp} {x:Operand} {st:St} {K K':St→Prop} (hk:∀s,K s→K' s)(h:oH dst x st K):oH dst x st K':=by
 unfold oH at h ⊢;split at h
 ·split at h
  ·obtain⟨m,i,kd,c,kvs,s',s,key,dv,j,h1,h2⟩:=h;exact⟨m,i,kd,c,kvs,s',s,key,dv,j,h1,hk _ h2⟩
  exact h.elim
 exact h.elim
theorem Ok.newIt {w:World} {g:Gh} {st:St} {val:Nat→Value} (h:Ok w g st val)(d N clock bm:Nat)(hbm:g.bs[N]?=some bm):
  Ok (w.alloc (.mapIter (some bm) clock #[] clock)) { g with X:=(fun b=>if b=w.heap.size then some (.slot d, [])else g.X b) } (st.set d (.d (.mit N clock [] clock))) (fun u=>if u=d then .pointer (some ⟨w.heap.size,0,none⟩)else val u)∧
   Fr w g (w.alloc (.mapIter (some bm) clock #[] clock)) { g with X:=(fun b=>if b=w.heap.size then some (.slot d, [])else g.X b) } :=by
 have hk:∀(hd:Holder) (b:Nat) (q:List Nat),g.X b=some (hd,q)→(w.alloc (.mapIter (some bm) clock #[] clock)).heap[b]?=w.heap[b]?∧(∀o,g.M b o=none→g.M b o=none)∧(if b=w.heap.size then some (Holder.slot d, [])else g.X b)=some (hd,q):=by
  intro hd b q hb;have:=h.xlt b _ hb;exact⟨gI w _ this,fun o ho=>ho,by rw [if_neg (by omega)];exact hb⟩
 have base:Ok (w.alloc (.mapIter (some bm) clock #[] clock)) { g with X:=(fun b=>if b=w.heap.size then some (.slot d, [])else g.X b) } st val:=by
  refine⟨fun b o c hc=>?_,fun b t hb=>?_,fun t=>(h.slot t).keep (fun _ _ _ h=>h) (fun _ _ h=>h) (fun _ _ h=>h) (hk _),h.ll,fun n b ds h1 h2=>(h.loc n b ds h1 h2).keep (fun _ _ _ h=>h) (fun _ _ h=>h) (hk _),h.ol,fun n b ds h1 h2=>(h.obj n b ds h1 h2).keep (fun _ _ _ h=>h) (fun _ _ h=>h) (hk _)⟩
  ·have:=h.mlt hc;rw [World.cell?_alloc_lt w _ ⟨b,o,none⟩ this];exact h.mem b o c hc
  simp only at hb;simp only [World.size_alloc];split at hb
  ·omega
  have:=h.xlt b t hb;omega
 refine⟨base.set d _ _ ⟨.mit _ _ _ _ w.heap.size,.mit _ _ _ _ _ _ ⟨w.heap.size,bm,rfl,hbm,by simp,mN w _,fun o=>h.newM o⟩⟩,rfl,rfl,rfl,by simp,fun b hb hx=>⟨gI w _ hb,?_,fun o=>rfl⟩,fun _ _ _ h=>h,fun _ _ h=>h⟩;simp only [if_neg (show ¬b=w.heap.size by omega)];exact hx
theorem Mz {o:Oper} {st:St} {K:St→Prop} (t:TypeId)(x:Operand)(hd:cO o st)(ho:o.op= .range t x)(h:oL P o.dst t x st K):Does P o st K:=by
 unfold oL at h;split at h
 ·rename_i d N kd z hdst hx hmp;obtain⟨m,i,clock,kvs,hh,hK⟩:=h;obtain⟨kt,et,ti,u1,u2,u3,u4⟩:=lF hmp;refine bA hd fun w g tmps hok=>?_;have hrx:=hok.rd x;rw [bS hx] at hrx;obtain⟨bl,es,hv,o1,o2,o3,o4,o5,o6,o7⟩:=pA hok hh hrx;obtain⟨q1,q2⟩:=hok.newIt d N clock bl o7;rw [hdst];refine⟨.pointer (some ⟨w.heap.size,0,none⟩),_,_,_,.inl ?_,hK,q2,q1,rfl,by simp⟩;simp [execOp,ho,Instr.range,hv,run_underlying u1,MapKept.run_getObj_map o2,newObj];rfl
 exact h.elim
theorem Ok.stepIt {w:World} {g:Gh} {st:St} {val:Nat→Value} (h:Ok w g st val) {t N since last clock b bm:Nat} {seen seen':List Nat} (hX:g.X b=some (.slot t, []))(hb:w.heap[b]?=some (.mapIter (some bm) since seen.toArray last))(hM:∀o,g.M b o=none)(hbn:g.bs[N]?=some bm)(hv:val t= .pointer (some ⟨b,0,none⟩)):
  Ok (ChangeMaps.setBlock w b (.mapIter (some bm) since seen'.toArray clock)) g (st.set t (.d (.mit N since seen' clock))) val∧Fr w g (ChangeMaps.setBlock w b (.mapIter (some bm) since seen'.toArray clock)) g:=by
 have hlt:b<w.heap.size:=(Array.getElem?_eq_some_iff.1 hb).1;have hself:(w.heap.setIfInBounds b (.mapIter (some bm) since seen'.toArray clock))[b]?=some (.mapIter (some bm) since seen'.toArray clock):=by rw [Array.getElem?_setIfInBounds];simp [hlt]
 have hoth:∀b',b'≠b→(w.heap.setIfInBounds b (.mapIter (some bm) since seen'.toArray clock))[b']?=w.heap[b']?:=fun b' hne=>by rw [Array.getElem?_setIfInBounds,if_neg (Ne.symm hne)]
 have other:∀(hd:Holder),hd≠ .slot t→∀(b':Nat) (q:List Nat),g.X b'=some (hd,q)→(w.heap.setIfInBounds b (.mapIter (some bm) since seen'.toArray clock))[b']?=w.heap[b']?∧(∀o,g.M b' o=none→g.M b' o=none)∧g.X b'=some (hd,q):=fun hd hne' b' q hq=>by
  have:b'≠b:=by rintro rfl;rw [hX] at hq;simp only [Option.some.injEq,Prod.mk.injEq] at hq;exact hne' hq.1.symm
  exact⟨hoth b' this,fun _ h=>h,hq⟩
 refine⟨⟨fun b' o c hc=>?_,fun b' t ht=>?_,fun u=>?_,h.ll,fun n b' ds a1 a2=>(h.loc n b' ds a1 a2).keep (fun _ _ _ h=>h) (fun _ _ h=>h) (other _ (by simp)),h.ol,fun n b' ds a1 a2=>(h.obj n b' ds a1 a2).keep (fun _ _ _ h=>h) (fun _ _ h=>h) (other _ (by simp))⟩,⟨rfl,rfl,rfl,by simp [ChangeMaps.setBlock],fun b' hb' hx'=>?_,fun _ _ _ h=>h,fun _ _ h=>h⟩⟩
 ·have hne':b'≠b:=by intro e;subst e;rw [hM] at hc;cases hc
  rw [World.cell?_of_block (w:=w) (a:=⟨b',o,none⟩) (hoth b' hne')];exact h.mem b' o c hc
 ·have:=h.xlt b' t ht;simpa [ChangeMaps.setBlock] using this
 ·by_cases e:u=t
  ·subst e;rw [hv];show SlotOk _ g u ((st.set u (.d (.mit N since seen' clock))).env u) _
   simp only [St.set,if_true];exact⟨.mit _ _ _ _ b,.mit _ _ _ _ _ _ ⟨b,bm,rfl,hbn,hX,hself,hM⟩⟩
  show SlotOk _ g u ((st.set t (.d (.mit N since seen' clock))).env u) _
  simp only [St.set,if_neg e];exact(h.slot u).keep (fun _ _ _ h=>h) (fun _ _ h=>h) (fun _ _ h=>h) (other _ (by simp;exact e))
 have:b'≠b:=by intro e;subst e;rw [hX] at hx';cases hx'
 exact⟨hoth b' this,hx',fun _=>rfl⟩
theorem Uf {o:Oper} {st:St} {K:St→Prop} (x:Operand)(hd:cO o st)(ho:o.op= .next x false)(h:sH o.dst x st K):Does P o st K:=by
 unfold sH at h;split at h
 ·rename_i d t hdst;split at h
  ·rename_i N since seen last henv;obtain⟨m,i,kd,clock,kvs,⟨hh,rfl,rfl,hne⟩,hKK⟩:=h;refine bA hd fun w g tmps hok=>?_;have hsl:=hok.slot t;rw [henv] at hsl;obtain⟨hR,hO⟩:=hsl;cases hO with
   | flat _ _ _ hf=>simp [D.flat] at hf
   | mit _ _ _ _ _ _ hit =>
    obtain⟨b,bm,hv,hbn,hX,hb,hM⟩:=hit;obtain⟨bl,es,hv2,o1,o2,o3,o4,o5,o6,o7⟩:=pA hok hh (v:= .map (some bm)) (.mref _ _ hbn);simp only [Value.map.injEq,Option.some.injEq] at hv2;subst hv2;have hev:ev tmps (.tmp t)= .pointer (some ⟨b,0,none⟩):=hv;have hkn:(kvs.map fun e=>e.2.1).Nodup:=by
     have:(kvs.map fun e=>e.2.1)=es.toList.map (·.born):=by
      refine List.ext_getElem (by simp [o4]) fun i h1 h2=>?_;simp only [List.length_map,Array.length_toList] at h1 h2;rcases hkv:kvs[i] with ⟨k,s,d⟩;have:=(o6 i k s d es[i] (by rw [List.getElem?_eq_getElem h1,hkv]) (Array.getElem?_eq_getElem h2)).2.1;simp [hkv,this]
     rw [this];exact o5.1.2.1
    obtain⟨hK1,hK2⟩:=hKK hkn;have hrun:=run_next_at (P:=P) w o.type b bm last last seen.toArray es last hb o2 o5.1.1 (Nat.le_refl _);rw [hdst];rcases hrun with ⟨h0,hrun⟩ | ⟨e,he,w1,hw1,hrun⟩
    ·refine⟨.tuple #[.bool false],w,g,_,.inl ?_,hK1 fun j s key dv hj=>?_,Fr.refl w g,hok.set d _ _ ⟨.tup _ _ rfl fun i d x a1 a2=>?_,.tup _ _ _ fun i d x a1 a2=>?_⟩,rfl,by simp⟩
     ·simp [execOp,ho,hev,hrun,Sem.run_bind,Result.andThen]
     ·have hlt:j<es.size:=by rw [o4];exact(List.getElem?_eq_some_iff.1 hj).1
      have hej:es[j]?=some es[j]:=Array.getElem?_eq_getElem hlt;obtain⟨_,hbs,_,_⟩:=o6 j key s dv _ hj hej;have hemp:leftOf es seen.toArray=#[]:=Array.eq_empty_of_size_eq_zero h0;unfold leftOf at hemp;rw [Array.filter_eq_empty_iff] at hemp;have:=hemp es[j] (by simp);rw [← hbs];simpa using this
     ·match i with
      | 0=>simp at a1 a2;subst a1;subst a2;exact .v _ rfl
      | i+1=>simp at a1
     match i with
     | 0=>simp at a1 a2;subst a1;subst a2;exact .flat _ _ _ rfl
     | i+1=>simp at a1
    unfold leftOf at he;simp only [Array.toList_filter,List.mem_filter,Array.mem_toList_iff] at he;obtain⟨he1,he2⟩:=he;obtain⟨j,hj,hej⟩:=Array.getElem_of_mem he1;obtain⟨s,dv,k1,k2,k3,k4⟩:=aCr o4 o6 j e (by rw [Array.getElem?_eq_getElem hj,hej]);have hns:¬e.born∈seen:=by simpa using he2
    have hok1:Ok w1 g st (bL tmps):=by
     rcases hw1 with rfl | rfl
     ·exact hok
     exact hok.drew
    have hfr1:Fr w g w1 g:=by
     rcases hw1 with rfl | rfl
     ·exact Fr.refl _ _
     exact Fr.drew w g
    have hb1:w1.heap[b]?=some (.mapIter (some bm) last seen.toArray last):=by
     rcases hw1 with rfl | rfl <;> exact hb
    obtain⟨p1,p2⟩:=hok1.stepIt (seen':=seen++ [s]) (clock:=last) hX hb1 hM hbn hv;rw [show(seen++ [s]).toArray=seen.toArray.push e.born by rw [k2];simp] at p1 p2;refine⟨.tuple #[.bool true,e.key,e.val],_,g,_,.inl ?_,hK2 j s e.key dv k1 (by rw [← k2];exact hns),hfr1.trans p2,p1.set d _ _ ⟨.tup _ _ rfl fun i d x a1 a2=>?_,.tup _ _ _ fun i d x a1 a2=>?_⟩,rfl,by simp⟩
    ·simp [execOp,ho,hev,hrun,Sem.run_bind,Result.andThen]
    ·match i with
     | 0=>simp at a1 a2;subst a1;subst a2;exact .v _ rfl
     | 1=>simp at a1 a2;subst a1;exact .any _
     | 2=>simp at a1 a2;subst a1;exact .any _
     | i+3=>simp at a1
    match i with
    | 0=>simp at a1 a2;subst a1;subst a2;exact .flat _ _ _ rfl
    | 1=>simp at a1 a2;subst a1;exact .flat _ _ _ rfl
    | 2=>simp at a1 a2;subst a1;exact .flat _ _ _ rfl
    | i+3=>simp at a1
  exact h.elim
 exact h.elim
theorem Nv {o:Oper} {st:St} {K:St→Prop} (x:Operand)(hd:cO o st)(ho:o.op= .entry x)(h:oH o.dst x st K):Does P o st K:=by
 unfold oH at h;split at h
 ·rename_i d t hdst;split at h
  ·rename_i N since seen last henv;obtain⟨m,i,kd,clock,kvs,seen',s,key,dv,j,⟨hh,rfl,rfl,hj,hone⟩,hK⟩:=h;refine bA hd fun w g tmps hok=>?_;have hsl:=hok.slot t;rw [henv] at hsl;obtain⟨hR,hO⟩:=hsl;cases hO with
   | flat _ _ _ hf=>simp [D.flat] at hf
   | mit _ _ _ _ _ _ hit =>
    obtain⟨b,bm,hv,hbn,hX,hb,hM⟩:=hit;obtain⟨bl,es,hv2,o1,o2,o3,o4,o5,o6,o7⟩:=pA hok hh (v:= .map (some bm)) (.mref _ _ hbn);simp only [Value.map.injEq,Option.some.injEq] at hv2;subst hv2;have hev:ev tmps (.tmp t)= .pointer (some ⟨b,0,none⟩):=hv;have hlt:j<es.size:=by rw [o4];exact(List.getElem?_eq_some_iff.1 hj).1
    have hej:es[j]?=some es[j]:=Array.getElem?_eq_getElem hlt;obtain⟨k1,k2,k3,k4⟩:=o6 j key s dv _ hj hej;have hrun:=run_entry_at (P:=P) w b bm since seen'.toArray es last es[j] (by rw [hb,k2];simp) o2 (by simp) o5.1.2.1;rw [hdst];refine⟨.tuple #[es[j].key,es[j].val],w,g,_,.inl ?_,hK,Fr.refl w g,hok.set d _ _ ⟨.tup _ _ rfl fun i d x a1 a2=>?_,.tup _ _ _ fun i d x a1 a2=>?_⟩,rfl,by simp⟩
    ·simp [execOp,ho,hev,hrun,Sem.run_bind,Result.andThen]
    ·match i with
     | 0=>simp at a1 a2;subst a1;subst a2;rw [k1];exact .v _ hone
     | 1=>simp at a1 a2;subst a1;subst a2;exact k3
     | i+2=>simp at a1
    match i with
    | 0=>simp at a1 a2;subst a1;exact .flat _ _ _ rfl
    | 1=>simp at a1 a2;subst a1;subst a2;exact yK k3 k4
    | i+2=>simp at a1
  exact h.elim
 exact h.elim
end
end Go.Vm
