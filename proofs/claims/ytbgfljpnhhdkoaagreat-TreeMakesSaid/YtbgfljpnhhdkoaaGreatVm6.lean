import Derived.Test.YtbgfljpnhhdkoaaGreatVm3
import Derived.Laws.Cover3
set_option linter.all false
namespace Go.Vm
open Go
variable {M:Mem}{P:Program}{a:Bool}{b n off:Nat}{bs:List Nat}{e t:TypeId}{g:Gh}{k:IntKind}{o:Oper}{op:BinOp}{tmps vs:Array Value}{v:Value}{w:World}{x:Operand}
def D.ofV1:Value->D
 | .slice none 0 0=> .sl true []
 | .agg _ | .tuple _=> .any
 | x=> .v x
def D.ofV:Value->D
 | .agg cs=>if cs.all Value.oneCell' then .agg (cs.toList.map D.ofV1)else .any
 | .tuple vs=>if vs.size=0 then .tup [] else .any
 | x=>D.ofV1 x
theorem R.ofV1(M:Mem)(bs:List Nat)(v:Value):R M bs (D.ofV1 v) v:=by
 unfold D.ofV1;split
 .exact .nil _
 .exact .any _
 .exact .any _
 rename_i h1 h2 h3;refine .v _ ?_;cases v <;> simp_all [Value.oneCell']
theorem R.ofV(M:Mem)(bs:List Nat)(v:Value):R M bs (D.ofV v) v:=by
 unfold D.ofV;split
 .rename_i cs;split
  .rename_i h;rw [Fz] at h;refine .agg _ cs (by simp) (fun i d x h1 h2=>?_) fun i x h1=>?_
   .rw [cF,dM,h2] at h1;simp at h1;subst h1;exact R.ofV1 M bs x
   obtain⟨hl,rfl⟩:=dL.1 h1;exact h i hl
  exact .any _
 .rename_i vs;split
  .rename_i h;have:vs=#[]:=by simpa using h
   subst this;exact .tup [] #[] rfl (fun i d x h1=>by simp at h1)
  exact .any _
 exact R.ofV1 M bs v
theorem aRn {X:Nat->Option mV} {h:Holder} {p:List Nat} (v:Value):Own w M bs X h p (D.ofV v) v:=by
 have one:∀(v:Value) (p:List Nat),Own w M bs X h p (D.ofV1 v) v:=by
  intro v p;unfold D.ofV1;split
  .exact .sl _ _ _ (.inl ⟨_,_,rfl⟩)
  all_goals exact .flat _ _ _ rfl
 unfold D.ofV;split
 .rename_i cs;split
  .refine .agg _ _ cs fun i d x h1 h2=>?_;rw [cF,dM,h2] at h1;simp at h1;subst h1;exact one x _
  exact .flat _ _ _ rfl
 .split
  .rename_i vs hv;have:vs=#[]:=by simpa using hv
   subst this;exact .tup _ [] #[] (fun i d x h1=>by simp at h1)
  exact .flat _ _ _ rfl
 exact one v _
def St.rdS(st:St):Operand->Slot
 | .tmp t=>st.env t
 | .const v=> .d (D.ofV v)
 | .func f=> .d (.clo (.func f) [] [])
 | .global _=> .any
def St.rd(st:St)(x:Operand):D:=match st.rdS x with | .d d=>d | .lref _ _=> .any
abbrev ev(tmps:Array Value):Operand->Value:=(⟨tmps, []⟩:Act).eval
theorem Ok.rd {st:St} (h:Ok w g st (cJ tmps))(x:Operand):R g.M g.bs (st.rd x) (ev tmps x):=by
 unfold St.rd;cases x with
 | tmp t=>
  have hs:=h.slot t;simp only [St.rdS];cases he:st.env t with
  | d d=>rw [he] at hs;exact hs.1
  | lref n off=>exact .any _
 | const v=>exact R.ofV _ _ v
 | func f=>exact .clo _ [] [] #[] #[] rfl rfl (fun i d x h=>by simp at h) (fun i d x h=>by simp at h)
 | global n=>exact .any _
theorem Ok.rdL {st:St} (h:Ok w g st (cJ tmps)) (hx:st.rdS x= .lref n off):∃b,g.bl[n]?=some b/\ev tmps x= .pointer (some ⟨b,off,none⟩):=by
 cases x with
 | tmp t=>
  have hs:=h.slot t;simp only [St.rdS] at hx;rw [hx] at hs;exact hs
 | const v=>simp [St.rdS] at hx
 | func f=>simp [St.rdS] at hx
 | global n=>simp [St.rdS,Slot.any] at hx
theorem R.int {n:Int} (h:R M bs (.v (.int k n)) v):v= .int k n:=by cases h;rfl
theorem R.vEq {x:Value} (h:R M bs (.v x) v):v=x:=by cases h;rfl
def D.plain:D->Bool
 | .tup cs=>cs.all fun c=>match c with | .tup _=>false | _=>true
 | _=>true
theorem nH {d:D} (h:d.plain=true):∀cs,d= .tup cs->∀c∈cs,∀ds,c≠ .tup ds:=by
 intro cs hd c hc ds e;subst hd;subst e;simp [D.plain] at h;have:=h _ hc;simp at this
theorem rW {d:D} (h:R g.M g.bs d v)(hp:d.plain=true):∀t,SlotOk w g t (.d d.strip) v:=
 fun _=>⟨h.strip,nM h (nH hp)⟩
structure Cfg where
 take:List Nat
 imm:List Nat
 esc:List Nat
 xs:List Nat
 ys:List Nat
def kX(c:Cfg)(dst:Option Tmp)(x:Operand)(st:St)(K:St->Prop):Prop:=
 match x,dst with
 | .tmp s,some d=>
  match st.env s with
  | .lref n off=>K (st.set d (.lref n off))
  | .d y=>if c.take.contains d then s≠d/\(match y with | .tup _=>False | _=>True)/\K ((st.set s (.d y.s2)).set d (.d y))else y.plain=true/\K (st.set d (.d y.strip))
 | .tmp _,none=>False
 | x,dst=>K (st.put dst (st.rdS x))
theorem Qf {st:St} {K:St->Prop} (c:Cfg)(x:Operand)(hd:eF o st)(ho:o.op= .move x\/o.op= .assign x)(h:kX c o.dst x st K):Does P o st K:=by
 have hrun:∀(tmps:Array Value) (w:World),(execOp (ev tmps) o).run P w= .ok (.value (ev tmps x)) w:=by
  intro tmps w;rcases ho with ho | ho <;> simp [execOp,ho]
 cases x with
 | tmp s =>
  cases hdst:o.dst with
  | none=>simp [kX,hdst] at h
  | some d =>
   simp only [kX,hdst] at h;cases hs:st.env s with
   | lref n off=>
    simp only [hs] at h;refine cH hd fun w g tmps hok=>⟨_,w,g,_,.inl (hrun tmps w),h,Fr.refl w g,?_,rfl,by simp⟩;rw [hdst];exact hok.set d _ _ (hok.rdL (x:= .tmp s) hs)
   | d y=>
    simp only [hs] at h;split at h
    .obtain⟨h1,h2,h3⟩:=h;refine cH hd fun w g tmps hok=>⟨_,w,_,_,.inl (hrun tmps w),h3,Fr.ren w g (kZ (.slot s) [] (.slot d) []),?_,rfl,by simp⟩;rw [hdst];exact hok.take s d h1 y hs (by intro cs e;subst e;exact h2)
    obtain⟨h1,h2⟩:=h;refine cH hd fun w g tmps hok=>⟨_,w,g,_,.inl (hrun tmps w),h2,Fr.refl w g,?_,rfl,by simp⟩;rw [hdst];have hr:=hok.slot s;rw [hs] at hr;exact hok.set d _ _ (rW hr.1 h1 d)
 | const v=>
  have h':K (st.put o.dst (.d (D.ofV v))):=by unfold kX at h;split at h <;> simp_all [St.rdS]
  exact cM hd (.d (D.ofV v)) (fun w g tmps hok=>⟨_,hrun tmps w,fun t=>⟨R.ofV _ _ v,aRn v⟩⟩) h'
 | func f=>
  have h':K (st.put o.dst (.d (.clo (.func f) [] []))):=by unfold kX at h;split at h <;> simp_all [St.rdS]
  exact cM hd _ (fun w g tmps hok=>⟨_,hrun tmps w,bV (hok.rd (.func f)) rfl⟩) h'
 | global n=>
  have h':K (st.put o.dst (.d .any)):=by unfold kX at h;split at h <;> simp_all [St.rdS]
  exact cM hd _ (fun w g tmps hok=>⟨_,hrun tmps w,bV (.any _) rfl⟩) h'
def inR(k:IntKind)(n:Int):Prop:=k.min<=n/\n<=k.max
theorem tZ {n:Int} (h:inR k n):k.wrap n=n:=by
 obtain⟨h1,h2⟩:=h;cases k <;> simp only [IntKind.min,IntKind.max,IntKind.wrap,IntKind.signed,IntKind.bits] at * <;> simp at * <;> (try split) <;> omega
def Ic(op:BinOp)(k:IntKind)(a b:Int)(K:D->Prop):Prop:=
 match op with
 | .add=>inR k (a+b)/\K (.v (.int k (a+b)))
 | .sub=>inR k (a - b)/\K (.v (.int k (a - b)))
 | .mul=>inR k (a * b)/\K (.v (.int k (a * b)))
 | .quo=>b≠0/\inR k (a.tdiv b)/\K (.v (.int k (a.tdiv b)))
 | .rem=>b≠0/\K (.v (.int k (a.tmod b)))
 | .eql=>K (.bool (decide (a=b)))
 | .neq=>K (.bool (!decide (a=b)))
 | .lss=>K (.bool (decide (a<b)))
 | .leq=>K (.bool (decide (a<=b)))
 | .gtr=>K (.bool (decide (b<a)))
 | .geq=>K (.bool (decide (b<=a)))
 | .and=>K (.v (.int k (k.wrap (BitVec.ofInt k.bits a &&& BitVec.ofInt k.bits b).toNat)))
 | .or=>K (.v (.int k (k.wrap (BitVec.ofInt k.bits a ||| BitVec.ofInt k.bits b).toNat)))
 | .xor=>K (.v (.int k (k.wrap (BitVec.ofInt k.bits a ^^^ BitVec.ofInt k.bits b).toNat)))
 | .andNot=>K (.v (.int k (k.wrap (BitVec.ofInt k.bits a &&& ~~~ BitVec.ofInt k.bits b).toNat)))
 | .shl=>K (.v (.int k (k.wrap (a * 2 ^ (min b.toNat k.bits)))))
 | .shr=>K (.v (.int k (a.fdiv (2 ^ (min b.toNat k.bits)))))
def aOt(op:BinOp)(k k':IntKind)(b:Int):Prop:=match op with
 | .shl=>0<=b
 | .shr=>0<=b
 | _=>k=k'
def Ih(op:BinOp)(a b:ByteArray)(K:D->Prop):Prop:=
 match op with
 | .add=>a.size+b.size<=maxLen/\K (.str (a++b))
 | .eql=>K (.bool (decide (a=b)))
 | .neq=>K (.bool (!decide (a=b)))
 | .lss=>K (.bool (Op.bytesLess a.toList b.toList))
 | .geq=>K (.bool (!Op.bytesLess a.toList b.toList))
 | .gtr=>K (.bool (Op.bytesLess b.toList a.toList))
 | .leq=>K (.bool (!Op.bytesLess b.toList a.toList))
 | _=>False
def aBp:Slot->Bool
 | .lref _ _=>true
 | .d (.adr _) | .d (.ref _ _)=>true
 | _=>false
def Cl(P:Program)(t:TypeId)(cs ds:List D)(b:Bool):Prop:=
 ∃xs ys:List Value,cs=xs.map .v/\ds=ys.map .v/\∀w,(Op.equalIn 10000 t (.agg xs.toArray) (.agg ys.toArray)).run P w= .ok b w
def uI(P:Program)(t:TypeId)(cs ds:List D)(K:Bool->Prop):Prop:=∃b,Cl P t cs ds b/\K b
theorem sI {cs ds:List D} {b:Bool} {K:Bool->Prop} (h:Cl P t cs ds b):uI P t cs ds K=K b:=by
 apply propext;constructor
 .rintro⟨b',⟨xs',ys',h1',h2',h3'⟩,hK⟩;obtain⟨xs,ys,h1,h2,h3⟩:=h;have inj:∀a b:List Value,a.map D.v=b.map D.v->a=b:=by
   intro a b e;exact(List.map_inj_right (fun x y h=>by cases h;rfl)).1 e
  have e1:=inj xs xs' (h1.symm.trans h1');have e2:=inj ys ys' (h2.symm.trans h2');subst e1;subst e2;have:=(h3 default).symm.trans (h3' default);simp only [Result.ok.injEq,oR] at this;rw [this];exact hK
 exact fun hK=>⟨b,h,hK⟩
def wQ(P:Program)(op:BinOp)(t:TypeId)(x y:Slot)(K:D->Prop):Prop:=
 match x,y with
 | .d (.v (.int k a)),.d (.v (.int k' b))=>aOt op k k' b/\Ic op k a b K
 | .d (.v (.string a)),.d (.v (.string b))=>Ih op a b K
 | .d (.v (.bool a)),.d (.v (.bool b))=>P.underlying t=some .bool/\(match op with | .eql=>K (.bool (a==b)) | .neq=>K (.bool (a !=b)) | _=>False)
 | .d (.agg cs),.d (.agg ds)=>P.eqGuardType P.depth t=false/\(match op with | .eql=>uI P t cs ds fun b=>K (.bool b) | .neq=>uI P t cs ds fun b=>K (.bool (!b)) | _=>False)
 | .d (.v (.pointer none)),.d (.v (.pointer none))=>(∃e,P.underlying t=some (.pointer e))/\(match op with | .eql=>K (.bool true) | .neq=>K (.bool false) | _=>False)
 | s,.d (.v (.pointer none))=>(aBp s=true/\∃e,P.underlying t=some (.pointer e))/\(match op with | .eql=>K (.bool false) | .neq=>K (.bool true) | _=>False)
 | _,_=>False
theorem qW {a b:ByteArray} :(a.toList==b.toList)=decide (a=b):=by
 have e:∀s:ByteArray,s.toList=s.data.toList:=fun s=>ByteArray.toList_eq s;rw [e,e,iZ];simp only [xY,fN];constructor
 .intro h;have:a.data=b.data:=vA.1 h;cases a;cases b;simp_all
 intro h;rw [h]
theorem oT(a b:ByteArray):(a.toList=b.toList)=(a=b):=by
 have h:=qW (a:=a) (b:=b);rw [iZ] at h;simp only [xY,fN] at h;exact propext h
theorem Bl {y:Operand} {a b:Value} (h:∀cs ds,a= .agg cs->b= .agg ds->False)(h2:a= .nilIface->b= .nilIface->False):
  (eqGuard op t x y a b).run P w= .ok () w:=by
 cases op <;> first
  | rfl
  | (unfold eqGuard;cases a <;> first | rfl | (cases b <;> first | rfl | exact(h _ _ rfl rfl).elim | exact(h2 rfl rfl).elim))
theorem aQ4 {k':IntKind} {a b:Int} {K:D->Prop} (hs:aOt op k k' b)(h:Ic op k a b K):∃d v,K d/\(∀M bs,R M bs d v)/\d.flat=true/\∀w,(binOp op t (.int k a) (.int k' b)).run P w= .ok v w:=by
 cases op <;> simp only [Ic,aOt] at h hs
 case shl=>exact⟨_,_,h,fun M bs=> .v _ rfl,rfl,fun w=>by simp [binOp,Op.shift,Int.not_lt.2 hs]⟩
 case shr=>exact⟨_,_,h,fun M bs=> .v _ rfl,rfl,fun w=>by simp [binOp,Op.shift,Int.not_lt.2 hs]⟩
 all_goals subst hs
 case add=>exact⟨_,_,h.2,fun M bs=> .v _ rfl,rfl,fun w=>by simp [binOp,Op.intArith,tZ h.1]⟩
 case sub=>exact⟨_,_,h.2,fun M bs=> .v _ rfl,rfl,fun w=>by simp [binOp,Op.intArith,tZ h.1]⟩
 case mul=>exact⟨_,_,h.2,fun M bs=> .v _ rfl,rfl,fun w=>by simp [binOp,Op.intArith,tZ h.1]⟩
 case quo=>exact⟨_,_,h.2.2,fun M bs=> .v _ rfl,rfl,fun w=>by simp [binOp,Op.intDiv,h.1,tZ h.2.1]⟩
 case rem=>exact⟨_,_,h.2,fun M bs=> .v _ rfl,rfl,fun w=>by simp [binOp,Op.intDiv,h.1]⟩
 case eql=>exact⟨_,_,h,fun M bs=> .v _ rfl,rfl,fun w=>by simp [binOp,Op.intCmp];rfl⟩
 case neq=>exact⟨_,_,h,fun M bs=> .v _ rfl,rfl,fun w=>by simp [binOp,Op.intCmp];rfl⟩
 case lss=>exact⟨_,_,h,fun M bs=> .v _ rfl,rfl,fun w=>by simp [binOp,Op.intCmp]⟩
 case leq=>exact⟨_,_,h,fun M bs=> .v _ rfl,rfl,fun w=>by simp [binOp,Op.intCmp]⟩
 case gtr=>exact⟨_,_,h,fun M bs=> .v _ rfl,rfl,fun w=>by simp [binOp,Op.intCmp]⟩
 case geq=>exact⟨_,_,h,fun M bs=> .v _ rfl,rfl,fun w=>by simp [binOp,Op.intCmp]⟩
 case and=>exact⟨_,_,h,fun M bs=> .v _ rfl,rfl,fun w=>by simp [binOp,Op.intBits]⟩
 case or=>exact⟨_,_,h,fun M bs=> .v _ rfl,rfl,fun w=>by simp [binOp,Op.intBits]⟩
 case xor=>exact⟨_,_,h,fun M bs=> .v _ rfl,rfl,fun w=>by simp [binOp,Op.intBits]⟩
 case andNot=>exact⟨_,_,h,fun M bs=> .v _ rfl,rfl,fun w=>by simp [binOp,Op.intBits]⟩
theorem yA:∀a b:List UInt8,(Op.bytesLess a b || a==b)= !Op.bytesLess b a
 | [], []=>rfl
 | [],_::_=>rfl
 | _::_, []=>rfl
 | a :: x, b :: y => by
  have ih:=yA x y;simp only [Op.bytesLess,List.cons_beq_cons];rcases vK a.toNat b.toNat with h | h | h
  .have h1:a<b:=h;have h2:¬b<a:=fun h'=>by have h':b.toNat<a.toNat:=h';omega
   have h3:(b==a)=false:=by rw [beq_eq_false_iff_ne];rintro rfl;omega
   simp [h1,h2,h3]
  .have h0:a=b:=UInt8.toNat_inj.1 h;subst h0;have h1:¬a<a:=fun h'=>by have h':a.toNat<a.toNat:=h';omega
   simp [h1,ih]
  have h1:b<a:=h;have h2:¬a<b:=fun h'=>by have h':a.toNat<b.toNat:=h';omega
  have h3:(a==b)=false:=by rw [beq_eq_false_iff_ne];rintro rfl;omega
  simp [h1,h2,h3]
theorem aOo {a b:ByteArray} {K:D->Prop} (h:Ih op a b K):∃d v,K d/\(∀M bs,R M bs d v)/\d.flat=true/\∀w,(binOp op t (.string a) (.string b)).run P w= .ok v w:=by
 cases op <;> simp only [Ih] at h
 case add=>
  refine⟨_,_,h.2,fun M bs=> .v _ rfl,rfl,fun w=>?_⟩;have:¬((a.size+b.size:Nat):Int) > IntKind.i64.max:=by
   have h1:=h.1;unfold maxLen at h1;have h2:IntKind.i64.max=9223372036854775807:=rfl;rw [h2];omega
  simp only [binOp,Op.stringOp,aD this,Sem.run_pure]
 case eql=>exact⟨_,_,h,fun M bs=> .v _ rfl,rfl,fun w=>by simp [binOp,Op.stringOp,qW]⟩
 case neq=>exact⟨_,_,h,fun M bs=> .v _ rfl,rfl,fun w=>by simp [binOp,Op.stringOp,qW]⟩
 case lss=>exact⟨_,_,h,fun M bs=> .v _ rfl,rfl,fun w=>by simp [binOp,Op.stringOp]⟩
 case geq=>exact⟨_,_,h,fun M bs=> .v _ rfl,rfl,fun w=>by simp [binOp,Op.stringOp]⟩
 case gtr=>exact⟨_,_,h,fun M bs=> .v _ rfl,rfl,fun w=>by simp only [binOp,Op.stringOp,yA,Bool.not_not,Sem.run_pure]⟩
 case leq=>exact⟨_,_,h,fun M bs=> .v _ rfl,rfl,fun w=>by simp only [binOp,Op.stringOp,yA,Sem.run_pure]⟩
theorem Oc {st:St} (h:Ok w g st (cJ tmps)) (hp:aBp (st.rdS x)=true):∃a,ev tmps x= .pointer (some a):=by
 cases hs:st.rdS x with
 | lref n off=>obtain⟨b,_,hv⟩:=h.rdL hs;exact⟨_,hv⟩
 | d d=>
  have hr:=h.rd x;simp only [St.rd,hs] at hr;rw [hs] at hp;cases d <;> simp [aBp] at hp
  .generalize ev tmps x=v at hr;cases hr;exact⟨_,rfl⟩
  generalize ev tmps x=v at hr;cases hr;exact⟨_,rfl⟩
theorem Js (ht:P.underlying t=some .bool)(a b:Bool)(w:World):(Op.equal t (.bool a) (.bool b)).run P w= .ok (a==b) w:=by
 show(Op.equalIn (9999+1) t (.bool a) (.bool b)).run P w=_
 unfold Op.equalIn;simp [run_underlying ht]
theorem Pq (ht:P.underlying t=some (.pointer e))(w:World):(Op.equal t (.pointer none) (.pointer none)).run P w= .ok true w:=by
 show(Op.equalIn (9999+1) t (.pointer none) (.pointer none)).run P w=_
 unfold Op.equalIn;simp [run_underlying ht]
theorem Qa (ht:P.underlying t=some (.pointer e))(a:Addr)(w:World):(Op.equal t (.pointer (some a)) (.pointer none)).run P w= .ok false w:=by
 show(Op.equalIn (9999+1) t (.pointer (some a)) (.pointer none)).run P w=_
 unfold Op.equalIn;simp [run_underlying ht]
theorem aJr {st:St} {K:St->Prop} (op:BinOp)(t:TypeId)(x y:Operand)(yt:TypeId)(hd:eF o st)(ho:o.op= .binOp op t x y yt)
  (h:wQ P op t (st.rdS x) (st.rdS y) fun d=>K (st.put o.dst (.d d))):Does P o st K:=by
 have fin:∀d,K (st.put o.dst (.d d))->d.flat=true->(∀(w:World) (g:Gh) (tmps:Array Value),Ok w g st (cJ tmps)->∃v,R g.M g.bs d v/\(∀cs ds,ev tmps x= .agg cs->ev tmps y= .agg ds->False)/\(ev tmps x= .nilIface->ev tmps y= .nilIface->False)/\(binOp op t (ev tmps x) (ev tmps y)).run P w= .ok v w)->Does P o st K:=by
  intro d hK hf hr;refine cM hd (.d d) (fun w g tmps hok=>?_) hK;obtain⟨v,h1,h2,h3,h4⟩:=hr w g tmps hok;refine⟨v,?_,bV h1 hf⟩;simp [execOp,ho,Bl h2 h3,h4]
 have finA:∀(cs ds:List D) (b b':Bool),P.eqGuardType P.depth t=false->st.rdS x= .d (.agg cs)->st.rdS y= .d (.agg ds)->Cl P t cs ds b->K (st.put o.dst (.d (.bool b')))->(∀(xs ys:Array Value) (w:World),(Op.equalIn 10000 t (.agg xs) (.agg ys)).run P w= .ok b w->(binOp op t (.agg xs) (.agg ys)).run P w= .ok (.bool b') w)->Does P o st K:=by
  rintro cs ds b b' hg hx hy ⟨xs,ys,rfl,rfl,hrun⟩ hK hop;refine cM hd (.d (.bool b')) (fun w g tmps hok=>?_) hK;have get:∀(z:Operand) (zs:List Value),st.rdS z= .d (.agg (zs.map .v))->ev tmps z= .agg zs.toArray:=by
   intro z zs hz;have hr:=hok.rd z;simp only [St.rd,hz] at hr;generalize ev tmps z=v at hr;cases hr with
   | agg _ vs hl hr h1=>
    congr 1;apply Array.ext
    .simpa using hl
    intro i h3 h4;have:=hr i (.v zs[i]) vs[i] (by simp [cF]) (by simp [h3]);exact this.vEq
  refine⟨.bool b',?_,bV (.v _ rfl) rfl⟩;simp only [execOp,ho];have ex:(⟨tmps, []⟩:Act).eval x= .agg xs.toArray:=get x xs hx;have ey:(⟨tmps, []⟩:Act).eval y= .agg ys.toArray:=get y ys hy;simp [ex,ey,run_eqGuard_agg w op t x y _ _ hg,hop _ _ w (hrun w)]
 have rd:∀(z:Operand) (v:Value),st.rdS z= .d (.v v)->∀(w:World) (g:Gh) (tmps:Array Value),Ok w g st (cJ tmps)->ev tmps z=v:=by
  intro z v hz w g tmps hok;have:=hok.rd z;simp only [St.rd,hz] at this;exact this.vEq
 unfold wQ at h;split at h
 .rename_i k a k' b hx hy;obtain⟨hs,h⟩:=h;obtain⟨d,v,hK,hR,hf,hrun⟩:=aQ4 (P:=P) (t:=t) hs h;exact fin d hK hf fun w g tmps hok=>⟨v,hR _ _,by rw [rd x _ hx w g tmps hok];simp,by rw [rd x _ hx w g tmps hok];simp,by rw [rd x _ hx w g tmps hok,rd y _ hy w g tmps hok];exact hrun w⟩
 .rename_i a b hx hy;obtain⟨d,v,hK,hR,hf,hrun⟩:=aOo (P:=P) (t:=t) h;exact fin d hK hf fun w g tmps hok=>⟨v,hR _ _,by rw [rd x _ hx w g tmps hok];simp,by rw [rd x _ hx w g tmps hok];simp,by rw [rd x _ hx w g tmps hok,rd y _ hy w g tmps hok];exact hrun w⟩
 .rename_i a b hx hy;obtain⟨ht,h⟩:=h;split at h
  .refine fin _ h rfl fun w g tmps hok=>⟨.bool (a==b),.v _ rfl,by rw [rd x _ hx w g tmps hok];simp,by rw [rd x _ hx w g tmps hok];simp,?_⟩;rw [rd x _ hx w g tmps hok,rd y _ hy w g tmps hok];simp [binOp,Js ht]
  .refine fin _ h rfl fun w g tmps hok=>⟨.bool (a !=b),.v _ rfl,by rw [rd x _ hx w g tmps hok];simp,by rw [rd x _ hx w g tmps hok];simp,?_⟩;rw [rd x _ hx w g tmps hok,rd y _ hy w g tmps hok];simp [binOp,Js ht,bne]
  exact h.elim
 .rename_i cs ds hx hy;obtain⟨hg,h⟩:=h;split at h
  .obtain⟨b,hb,hK⟩:=h;exact finA cs ds b b hg hx hy hb hK fun xs ys w hr=>by rw [run_eql_struct,hr];rfl
  .obtain⟨b,hb,hK⟩:=h;exact finA cs ds b (!b) hg hx hy hb hK fun xs ys w hr=>by rw [run_neq_struct,hr];rfl
  exact h.elim
 .rename_i hx hy;obtain⟨⟨e,ht⟩,h⟩:=h;split at h
  .refine fin _ h rfl fun w g tmps hok=>⟨.bool true,.v _ rfl,by rw [rd x _ hx w g tmps hok];simp,by rw [rd x _ hx w g tmps hok];simp,?_⟩;rw [rd x _ hx w g tmps hok,rd y _ hy w g tmps hok];simp [binOp,Pq ht]
  .refine fin _ h rfl fun w g tmps hok=>⟨.bool false,.v _ rfl,by rw [rd x _ hx w g tmps hok];simp,by rw [rd x _ hx w g tmps hok];simp,?_⟩;rw [rd x _ hx w g tmps hok,rd y _ hy w g tmps hok];simp [binOp,Pq ht]
  exact h.elim
 .rename_i hx hy;obtain⟨⟨hp,e,ht⟩,h⟩:=h;split at h
  .refine fin _ h rfl fun w g tmps hok=>?_;obtain⟨a,ha⟩:=Oc hok hp;refine⟨.bool false,.v _ rfl,by rw [ha];simp,by rw [ha];simp,?_⟩;rw [ha,rd y _ hx w g tmps hok];simp [binOp,Qa ht]
  .refine fin _ h rfl fun w g tmps hok=>?_;obtain⟨a,ha⟩:=Oc hok hp;refine⟨.bool true,.v _ rfl,by rw [ha];simp,by rw [ha];simp,?_⟩;rw [ha,rd y _ hx w g tmps hok];simp [binOp,Qa ht]
  exact h.elim
 exact h.elim
def Xn:D->Option Prop
 | .sl _ es=>some (es= [])
 | .slo _ _ len _=>some (len=0)
 | .xl n=>some (n=0)
 | .xs _ es=>some (es= [])
 | _=>none
def Km(P:Program)(dst:Option Tmp)(op:BinOp)(t:TypeId)(x:Operand)(st:St)(K:St->Prop):Prop:=
 (∃e,P.underlying t=some (.slice e))/\match Xn (st.rd x)with
  | some c=>match op with
   | .eql=>K (st.put dst (.d (.bool false)))/\(c->K (st.put dst (.d (.bool true))))
   | .neq=>K (st.put dst (.d (.bool true)))/\(c->K (st.put dst (.d (.bool false))))
   | _=>False
  | none=>False
def zS:Operand->Bool
 | .const (.slice none 0 0)=>true
 | _=>false
theorem Vr {st:St} {K:St->Prop} (op:BinOp)(t:TypeId)(x:Operand)(y:Operand)(yt:TypeId)(hd:eF o st)(ho:o.op= .binOp op t x y yt)(hy:zS y=true)(h:Km P o.dst op t x st K):Does P o st K:=by
 obtain⟨⟨e,ht⟩,h⟩:=h;have hy':y= .const (.slice none 0 0):=by
  unfold zS at hy;split at hy
  .rfl
  cases hy
 subst hy';split at h
 .rename_i cc hx;refine cH hd fun w g tmps hok=>?_;have hr:=hok.rd x;have sl:∃a n c,ev tmps x= .slice a n c/\(a=none->cc):=by
   generalize ev tmps x=v at hr;generalize st.rd x=dx at hr hx;cases hr with
   | nil o=>simp only [Xn,bF] at hx;subst hx;exact⟨_,_,_,rfl,fun _=>by simp⟩
   | emp o a cap hm=>simp only [Xn,bF] at hx;subst hx;exact⟨_,_,_,rfl,fun _=>by simp⟩
   | sl o es b off n cap k vs hl hn hk hc hm hr hs hx=>exact⟨_,_,_,rfl,by simp⟩
   | slo n a len cap y hb hc hm=>
    simp only [Xn,bF] at hx;subst hx;refine⟨_,_,_,rfl,fun h=>?_⟩;rcases uX cap with h0 | h0
    .omega
    obtain⟨b,_,h2⟩:=hb h0;rw [h] at h2;cases h2
   | xl a n cap hc hm ha=>simp only [Xn,bF] at hx;subst hx;exact⟨_,_,_,rfl,fun h=>(ha h).1⟩
   | xs k es a n cap hn hc hm ha=>simp only [Xn,bF] at hx;subst hx;exact⟨_,_,_,rfl,fun h=>nO (by have:=(ha h).1;omega)⟩
   | _=>simp [Xn] at hx
  obtain⟨a,n,c,hv,ha⟩:=sl;have he:∀b:Bool,(op= .eql\/op= .neq)->(if op= .eql then a.isNone else !a.isNone)=b->(execOp (⟨tmps, []⟩:Act).eval o).run P w= .ok (.value (.bool b)) w:=by
   intro b hop hb;have hv':(⟨tmps, []⟩:Act).eval x= .slice a n c:=hv;have hyv:(⟨tmps, []⟩:Act).eval (.const (.slice none 0 0))= .slice none 0 0:=rfl;have hq:=run_equal_slice_nil (P:=P) w t e a n c ht;have hgd:=Bl (P:=P) (op:=op) (t:=t) (x:=x) (y:= .const (.slice none 0 0)) (a:= .slice a n c) (b:= .slice none 0 0) (w:=w) (by intro cs ds h;cases h) (by intro h;cases h);rcases hop with rfl | rfl
   .simp only [aU] at hb;subst hb;simp [execOp,ho,hv',hyv,hgd,binOp,hq]
   simp at hb;subst hb;simp [execOp,ho,hv',hyv,hgd,binOp,hq]
  have fin:∀b:Bool,K (st.put o.dst (.d (.bool b)))->(execOp (⟨tmps, []⟩:Act).eval o).run P w= .ok (.value (.bool b)) w->∃v w' g' st',((execOp (⟨tmps, []⟩:Act).eval o).run P w= .ok (.value v) w'\/((execOp (⟨tmps, []⟩:Act).eval o).run P w= .ok .skip w'/\v=undef))/\
   K st'/\Fr w g w' g'/\Ok w' g' st' (xC o.dst v (cJ tmps))/\st'.n=st.n/\g'.bl.take g.bl.length=g.bl:=fun b hK hrun=>
   ⟨_,w,g,_,.inl hrun,hK,Fr.refl w g,hok.put o.dst _ _ (fun t _=>bV (.v _ rfl) rfl t),Vv _ _ _,by simp⟩
  split at h
  .cases a with
   | none=>exact fin true (h.2 (ha rfl)) (he true (.inl rfl) rfl)
   | some a=>exact fin false h.1 (he false (.inl rfl) rfl)
  .cases a with
   | none=>exact fin false (h.2 (ha rfl)) (he false (.inr rfl) rfl)
   | some a=>exact fin true h.1 (he true (.inr rfl) rfl)
  exact h.elim
 exact h.elim
theorem Xy {dst:Option Tmp} {st:St} {K K':St->Prop} (hk:∀s,K s->K' s)(h:Km P dst op t x st K):Km P dst op t x st K':=by
 unfold Km at *;refine⟨h.1,?_⟩;have h:=h.2;split at h
 .split at h
  .exact⟨hk _ h.1,fun e=>hk _ (h.2 e)⟩
  .exact⟨hk _ h.1,fun e=>hk _ (h.2 e)⟩
  exact h
 exact h
def aTw:TypeDesc->Bool
 | .struct _ | .array _ _=>true
 | _=>false
def kJ(P:Program)(t:TypeId):Option (Bool×Nat):=
 match P.underlying t,P.info? t with
 | some d,some i=>some (aTw d,i.size)
 | _,_=>none
def cN(P:Program)(s:TypeId)(f:Nat):Option (Nat×Bool×Nat):=
 match P.underlying s with
 | some (.struct fs) => match fs[f]? with
  | some fd=>match kJ P fd.type with
   | some (a,n)=>if n=0 then none else some (fd.offset,a,n)
   | none=>none
  | none=>none
 | _=>none
def kD(P:Program)(t:TypeId):Option (TypeId×Nat×Nat×Array Value):=
 match P.underlying t with
 | some (.slice e) => match P.info? e with
  | some i=>match i.zero with
   | some z=>if z.cells.size=i.size/\0<i.size then some (e,i.size,i.bytes,z.cells)else none
   | none=>none
  | none=>none
 | _=>none
def aQd(P:Program)(t:TypeId):Option (Nat×Nat):=
 match P.underlying t with
 | some (.array n e)=>match P.info? e with
  | some i=>some (n,i.size)
  | none=>none
 | _=>none
section
theorem rH (h:kJ P t=some (a,n)):∃d i,P.underlying t=some d/\P.info? t=some i/\aTw d=a/\i.size=n:=by
 unfold kJ at h;split at h
 .rename_i d i h1 h2;simp only [bF,gI] at h;exact⟨d,i,h1,h2,h.1,h.2⟩
 cases h
theorem jI {k by_:Nat} {z:Array Value} (h:kD P t=some (e,k,by_,z)):∃i zv,P.underlying t=some (.slice e)/\P.info? e=some i/\i.zero=some zv/\zv.cells=z/\i.size=k/\i.bytes=by_/\z.size=k/\0<k:=by
 unfold kD at h;split at h
 .rename_i e' h1;split at h
  .rename_i i h2;split at h
   .rename_i zv h3;split at h
    .rename_i h4;simp only [bF,gI] at h;obtain⟨rfl,rfl,rfl,rfl⟩:=h;exact⟨i,zv,h1,h2,h3,rfl,rfl,rfl,h4.1,h4.2⟩
    cases h
   cases h
  cases h
 cases h
theorem oZ {d:TypeDesc} (h:P.underlying t=some d)(w:World):(isAgg t).run P w= .ok (aTw d) w:=by
 unfold isAgg;simp only [Sem.run_bind,run_underlying h,Result.andThen_ok];cases d <;> rfl
theorem cD {i:TypeInfo} (h:P.info? t=some i)(w:World):(sizeOf t).run P w= .ok i.size w:=by
 simp [sizeOf,typeInfo,h]
theorem Hr(w:World):(program).run P w= .ok P w:=rfl
theorem wX {x:Value} (h:w.cell? ⟨b,off,none⟩=some x):(load ⟨b,off,none⟩).run P w= .ok x w:=by
 rw [run_load,h]
def CV(w:World)(g:Gh)(b off:Nat)(cs:List D):Prop:=
 ∀(i:Nat) (d:D),cs[i]?=some d->∃x,w.cell? ⟨b,off+i,none⟩=some x/\R g.M g.bs d x/\x.oneCell'=true
def Ae(a:Bool)(n:Nat)(cs:List D):Option D:=
 if a then(if n<=cs.length then some (.agg (cs.take n))else none)else cs.head?
theorem CV.list :∀ {cs:List D},CV w g b off cs->∃xs:List Value,xs.length=cs.length/\(∀(i:Nat) (x:Value),xs[i]?=some x->w.cell? ⟨b,off+i,none⟩=some x/\x.oneCell'=true)/\∀(i:Nat) (d:D) (x:Value),cs[i]?=some d->xs[i]?=some x->R g.M g.bs d x:=by
 intro cs h;induction cs generalizing off with
 | nil=>exact⟨[],rfl,fun i x h=>by simp at h,fun i d x h=>by simp at h⟩
 | cons c cs ih =>
  obtain⟨x,h1,h2,h3⟩:=h 0 c rfl;obtain⟨xs,h4,h5,h6⟩:=ih (off:=off+1) (fun i d hi=>by
   obtain⟨y,a1,a2,a3⟩:=h (i+1) d (by simpa using hi);exact⟨y,by rw [show off+1+i=off+(i+1) by omega];exact a1,a2,a3⟩)
  refine⟨x::xs,by simp [h4],fun i y hi=>?_,fun i d y hd hi=>?_⟩
  .match i with
   | 0=>simp at hi;subst hi;exact⟨h1,h3⟩
   | i+1=>rw [show off+(i+1)=off+1+i by omega];exact h5 i y (by simpa using hi)
  match i with
  | 0=>simp at hi hd;subst hi;subst hd;exact h2
  | i+1=>exact h6 i d y (by simpa using hd) (by simpa using hi)
theorem Addr.add_none(b off n:Nat):(⟨b,off,none⟩:Addr).add n=⟨b,off+n,none⟩:=by
 unfold Addr.add;split <;> simp_all
theorem xO {cs:List D} {d:D} (hc:CV w g b off cs)(ht:kJ P t=some (a,n))(hd:Ae a n cs=some d):
  ∃v,(loadVar t ⟨b,off,none⟩).run P w= .ok v w/\R g.M g.bs d v:=by
 obtain⟨td,ti,h1,h2,h3,h4⟩:=rH ht;unfold Ae at hd;cases a with
 | true =>
  simp only [aU] at hd;split at hd
  .rename_i hn;simp only [bF] at hd;obtain⟨xs,e1,e2,e3⟩:=CV.list (cs:=cs.take n) (w:=w) (g:=g) (b:=b) (off:=off) (fun i d hi=>hc i d (by rw [eN] at hi;split at hi <;> simp_all));have hlen:xs.length=n:=by rw [e1,bG];omega
   refine⟨.agg xs.toArray,?_,?_⟩
   .have hl:=run_loadCells_list (P:=P) w ⟨b,off,none⟩ xs (fun j v hj=>by rw [Addr.add_none];exact(e2 j v hj).1);rw [hlen] at hl;simp [loadVar,oZ h1,h3,cD h2,h4,hl]
   rw [<- hd];exact .agg _ _ (by simpa using e1) (fun i d x a1 a2=>e3 i d x a1 (by simpa using a2)) (fun i x a1=>(e2 i x (by simpa using a1)).2)
  cases hd
 | false =>
  simp only [gO,bK] at hd;cases cs with
  | nil=>simp at hd
  | cons c cs=>
   simp at hd;subst hd;obtain⟨x,a1,a2,a3⟩:=hc 0 c rfl;refine⟨x,?_,a2⟩;simp only [loadVar,Sem.run_bind,oZ h1,h3,Result.andThen_ok,gO,bK];exact wX a1
theorem aS6 {st:St} {val:Nat->Value} (h:Ok w g st val) {cs:List D} (hr:R g.M g.bs (.adr cs) (.pointer (some ⟨b,off,none⟩))):CV w g b off cs:=by
 intro i d hi;cases hr with
 | adr cs b off vs hl hr hx=>
  have hlt:i<vs.length:=by rw [hl];exact(aP.1 hi).1
  have hv:vs[i]?=some vs[i]:=aS hlt;exact⟨vs[i],h.mem _ _ _ (hx i _ hv).2,hr i d _ hi hv,(hx i _ hv).1⟩
theorem Gs {hd:Holder} {cs:List D} (h:BoxOk w g hd b cs)(off:Nat):CV w g b off (cs.drop off):=by
 rcases h with rfl | ⟨cur,E,h1,h2,h3,h4,h5⟩
 .intro i d hi;simp at hi
 intro i d hi;rw [mL] at hi;have hlt:off+i<cur.size:=by rw [h2];exact(aP.1 hi).1
 have hv:cur[off+i]?=some cur[off+i]:=bR hlt;obtain⟨a1,a2,a3⟩:=h5 _ d _ hi hv;exact⟨_,by rw [cell_of_row w b (off+i) cur E (0,0) h1];exact hv,a1,a3⟩
def St.cellsAt(st:St):Slot->Option (List D)
 | .lref n off=>(st.loc[n]?).map (·.drop off)
 | .d (.adr cs)=>some cs
 | .d (.ref n off)=>(st.obj[n]?).map (·.drop off)
 | _=>none
theorem Ok.cellsAt {st:St} (h:Ok w g st (cJ tmps)) {cs:List D} (hc:st.cellsAt (st.rdS x)=some cs):∃b off,ev tmps x= .pointer (some ⟨b,off,none⟩)/\CV w g b off cs:=by
 cases hs:st.rdS x with
 | lref n off=>
  rw [hs] at hc;simp only [St.cellsAt,dG] at hc;obtain⟨ds,h1,rfl⟩:=hc;obtain⟨b,hb,hv⟩:=h.rdL hs;exact⟨b,off,hv,Gs (h.loc n b ds hb h1) off⟩
 | d d =>
  have hr:=h.rd x;simp only [St.rd,hs] at hr;rw [hs] at hc;generalize ev tmps x=v at hr;cases hr <;> simp [St.cellsAt] at hc
  case adr cs' b off vs hl hx hy=>
   subst hc;exact⟨b,off,rfl,aS6 h (.adr _ b off vs hl hx hy)⟩
  case ref n off b hb=>
   obtain⟨ds,h1,rfl⟩:=hc;exact⟨b,off,rfl,Gs (h.obj n b ds hb h1) off⟩
def jY(P:Program)(dst:Option Tmp)(t:TypeId)(x:Operand)(st:St)(K:St->Prop):Prop:=
 match kJ P t,st.cellsAt (st.rdS x)with
 | some (a,n),some cs=>match Ae a n cs with
  | some d=>K (st.put dst (.d d.s2))
  | none=>False
 | _,_=>False
theorem Fq {d:D} (h:R g.M g.bs d v)(hp:∀cs,d≠ .tup cs):∀t,SlotOk w g t (.d d.s2) v:=
 fun _=>⟨h.s2,Bk h hp⟩
theorem uB {cs:List D} {d:D} (hc:CV w g b off cs)(hd:Ae a n cs=some d):∀ds,d≠ .tup ds:=by
 intro ds e;subst e;unfold Ae at hd;split at hd
 .split at hd <;> simp at hd
 cases cs with
 | nil=>simp at hd
 | cons c cs=>
  simp at hd;subst hd;obtain⟨x,_,hr,h1⟩:=hc 0 _ rfl;exact(hr.one h1).2 _ rfl
theorem aDv {st:St} {K:St->Prop} (t:TypeId)(x:Operand)(hd:eF o st)(ho:o.op= .load t x)(h:jY P o.dst t x st K):Does P o st K:=by
 unfold jY at h;split at h
 .rename_i a n cs ht hcs;split at h
  .rename_i d hld;refine cM hd _ (fun w g tmps hok=>?_) h;obtain⟨b,off,hv,hcv⟩:=hok.cellsAt hcs;obtain⟨v,hrun,hr⟩:=xO (P:=P) hcv ht hld;refine⟨v,?_,Fq hr (uB hcv hld)⟩;simp [execOp,ho,Instr.loadAt,hv,Instr.sureAddr,hrun]
  exact h.elim
 exact h.elim
def Slot.plus(k:Nat):Slot->Slot
 | .lref n off=> .lref n (off+k)
 | .d (.adr cs)=> .d (.adr (cs.drop k))
 | .d (.ref n off)=> .d (.ref n (off+k))
 | _=> .any
def Slot.isAddr:Slot->Bool
 | .lref _ _ | .d (.adr _) | .d (.ref _ _)=>true
 | _=>false
theorem Ok.plus {st:St} (h:Ok w g st (cJ tmps)) (k:Nat)(hx:(st.rdS x).isAddr=true):
  ∃b off,ev tmps x= .pointer (some ⟨b,off,none⟩)/\∀t,SlotOk w g t ((st.rdS x).plus k) (.pointer (some ⟨b,off+k,none⟩)):=by
 cases hs:st.rdS x with
 | lref n off=>
  obtain⟨b,hb,hv⟩:=h.rdL hs;exact⟨b,off,hv,fun t=>⟨b,hb,rfl⟩⟩
 | d d =>
  have hr:=h.rd x;simp only [St.rd,hs] at hr;rw [hs] at hx;generalize ev tmps x=v at hr;cases hr <;> simp [Slot.isAddr] at hx
  case adr cs b off vs hl hr hy=>
   refine⟨b,off,rfl,fun t=>⟨?_,.flat _ _ _ rfl⟩⟩;refine .adr _ b (off+k) (vs.drop k) (by simp [hl]) (fun i d x h1 h2=>?_) (fun i x h1=>?_)
   .rw [mL] at h1 h2;exact hr _ d x h1 h2
   rw [mL] at h1;have:=hy _ x h1;rw [show off+k+i=off+(k+i) by omega];exact this
  case ref n off b hb=>exact⟨b,off,rfl,fun t=>⟨.ref n (off+k) b hb,.flat _ _ _ rfl⟩⟩
def nB(P:Program)(dst:Option Tmp)(s:TypeId)(x:Operand)(f:Nat)(st:St)(K:St->Prop):Prop:=
 match cN P s f with
 | some (off,_,_)=>(st.rdS x).isAddr=true/\K (st.put dst ((st.rdS x).plus off))
 | none=>False
theorem aD6 {s:TypeId} {f:Nat} (h:cN P s f=some (off,a,n)):∃fs fd,P.underlying s=some (.struct fs)/\fs[f]?=some fd/\kJ P fd.type=some (a,n)/\n≠0/\fd.offset=off:=by
 unfold cN at h;split at h
 .rename_i fs h1;split at h
  .rename_i fd h2;split at h
   .rename_i a' n' h3;split at h
    .cases h
    rename_i h4;simp only [bF,gI] at h;obtain⟨rfl,rfl,rfl⟩:=h;exact⟨fs,fd,h1,h2,h3,h4,rfl⟩
   cases h
  cases h
 cases h
theorem Kw {st:St} {K:St->Prop} (s:TypeId)(x:Operand)(f:Nat)(hd:eF o st)(ho:o.op= .fieldAddr s x f)(h:nB P o.dst s x f st K):Does P o st K:=by
 unfold nB at h;split at h
 .rename_i off a n hf;obtain⟨fs,fd,h1,h2,h3,h4,h5⟩:=aD6 hf;obtain⟨td,ti,i1,i2,i3,i4⟩:=rH h3;refine cM hd _ (fun w g tmps hok=>?_) h.2;obtain⟨b,o',hv,hs⟩:=hok.plus off h.1;refine⟨_,?_,hs⟩;simp [execOp,ho,Instr.fieldAt,run_underlying h1,h2,hv,Instr.sureAddr,fieldPlace,cD i2,i4,h4,h5,Addr.add_none]
 exact h.elim
theorem aOc {cs:List D} {d:D} (hl:vs.size=cs.length)
  (hr:∀(i:Nat) (d:D) (x:Value),cs[i]?=some d->vs[i]?=some x->R M bs d x) (h1:∀(i:Nat) (x:Value),vs[i]?=some x->x.oneCell'=true)
  (ht:kJ P t=some (a,n)) (hd:Ae a n (cs.drop off)=some d):∃v,(part t vs off).run P w= .ok v w/\R M bs d v:=by
 obtain⟨td,ti,i1,i2,i3,i4⟩:=rH ht;unfold Ae at hd;cases a with
 | true =>
  simp only [aU] at hd;split at hd
  .rename_i hn;simp only [bF] at hd;refine⟨.agg (vs.extract off (off+n)),?_,?_⟩
   .simp [part,oZ i1,i3,cD i2,i4]
   rw [<- hd];rw [dI] at hn;refine .agg _ _ ?_ (fun i d x a1 a2=>?_) (fun i x a1=>?_)
   .simp;omega
   .rw [eN] at a1;split at a1
    .rw [mL] at a1;rw [vI] at a2;split at a2
     .exact hr _ d x a1 a2
     cases a2
    cases a1
   rw [vI] at a1;split at a1
   .exact h1 _ x a1
   cases a1
  cases hd
 | false=>
  simp only [gO,bK,qD] at hd;have hlt:off<vs.size:=by rw [hl];exact(aP.1 hd).1
  have hv:vs[off]?=some vs[off]:=bR hlt;exact⟨vs[off],by simp [part,oZ i1,i3,hlt],hr off d _ hd hv⟩
theorem Vn {cs:List D} {d:D} (hl:vs.size=cs.length)
  (hr:∀(i:Nat) (d:D) (x:Value),cs[i]?=some d->vs[i]?=some x->R M bs d x) (h1:∀(i:Nat) (x:Value),vs[i]?=some x->x.oneCell'=true) (hd:Ae a n (cs.drop off)=some d):∀ds,d≠ .tup ds:=by
 intro ds e;subst e;unfold Ae at hd;split at hd
 .split at hd <;> simp at hd
 rw [qD] at hd;have hlt:off<vs.size:=by rw [hl];exact(aP.1 hd).1
 have hv:vs[off]?=some vs[off]:=bR hlt;exact((hr off _ _ hd hv).one (h1 off _ hv)).2 _ rfl
end
section
def D.solid:D->Bool
 | .any | .tup _ | .mit _ _ _ _=>false
 | _=>true
theorem kW {d:D} (h:d.solid=true):d≠ .any/\∀cs,d≠ .tup cs:=by
 cases d <;> simp_all [D.solid]
def nD(P:Program)(dst:Option Tmp)(t:TypeId)(x i:Operand)(st:St)(K:St->Prop):Prop:=
 match st.rd i with
 | .v (.int _ n) =>
  match kD P t with
  | some (_,k,_,_)=>
   match st.rd x with
   | .sl _ es=>(0<=n/\n<es.length)/\(es.getD n.toNat .any).solid=true/\(es.getD n.toNat .any).ncells=k/\K (st.put dst (.d (.adr (es.getD n.toNat .any).cells)))
   | _=>False
  | none=>
   match aQd P t with
   | some (len,k)=>(st.rdS x).isAddr=true/\(0<=n/\n<len)/\K (st.put dst ((st.rdS x).plus (n.toNat * k)))
   | none=>False
 | _=>False
theorem Oe {k:Nat} (h:aQd P t=some (n,k)):∃e i,P.underlying t=some (.array n e)/\P.info? e=some i/\i.size=k:=by
 unfold aQd at h;split at h
 .rename_i n' e h1;split at h
  .rename_i i h2;simp only [bF,gI] at h;obtain⟨rfl,rfl⟩:=h;exact⟨e,i,h1,h2,rfl⟩
  cases h
 cases h
theorem Lw {st:St} {K:St->Prop} (t:TypeId)(x i:Operand)(hd:eF o st)(ho:o.op= .indexAddr t x i)(h:nD P o.dst t x i st K):Does P o st K:=by
 unfold nD at h;split at h
 .rename_i kk n hi;split at h
  .rename_i e k by_ z he;obtain⟨ti,zv,h1,h2,h3,h4,h5,h6,h7,h8⟩:=jI he;split at h
   .rename_i own es hx;obtain⟨⟨hn0,hn1⟩,hs,hk,hK⟩:=h;refine cM hd _ (fun w g tmps hok=>?_) hK;have hr:=hok.rd x;rw [hx] at hr;have hri:=hok.rd i;rw [hi] at hri;have hiv:=hri.int;generalize hv:ev tmps x=v at hr;have hlt:n.toNat<es.length:=by omega
    have hel:es[n.toNat]?=some (es.getD n.toNat .any):=by simp [List.getD,aS hlt]
    cases hr with
    | nil o=>simp at hlt
    | emp o a cap hm=>simp at hlt
    | sl o' es b off m cap k' vs hl hm hk' hc hmx hrr hss hxx=>
     have hvlt:n.toNat<vs.length:=by omega
     have hvv:vs[n.toNat]?=some vs[n.toNat]:=aS hvlt;have hkk:k'=k:=by rw [<- hk];exact(hss _ _ hel).symm
     subst hkk;refine⟨.pointer (some ⟨b,off+n.toNat * k',none⟩),?_,bV ?_ rfl⟩
     .have hc2:0<=n/\n<(m:Int):=⟨hn0,by omega⟩;simp [execOp,ho,Instr.indexAt,hv,hiv,asIntOf,run_underlying h1,cD h2,h5,hc2,Addr.add_none]
     have hre:=hrr _ _ _ hel hvv;have hsz:=(hxx _ _ hvv).1;refine .adr _ b _ vs[n.toNat].cells.toList ?_ (fun j d y a1 a2=>?_) (fun j y a1=>?_)
     .rw [cG,hsz,<- hk];cases (es.getD n.toNat D.any) <;> rfl
     .exact(hre.each (kW hs).1 (kW hs).2 j d y a1 (by simpa using a2)).1
     have:=(hxx _ _ hvv).2 j y (by simpa using a1);rw [show off+n.toNat * k'+j=off+(n.toNat * k'+j) by omega];exact this
   exact h.elim
  split at h
  .rename_i len k ha;obtain⟨e,ti,h1,h2,h3⟩:=Oe ha;obtain⟨hx,⟨hn0,hn1⟩,hK⟩:=h;refine cM hd _ (fun w g tmps hok=>?_) hK;have hri:=hok.rd i;rw [hi] at hri;have hiv:=hri.int;obtain⟨b,off,hv,hs⟩:=hok.plus (n.toNat * k) hx;refine⟨_,?_,hs⟩;have hc2:0<=n/\n<(len:Int):=⟨hn0,hn1⟩;simp [execOp,ho,Instr.indexAt,hv,hiv,asIntOf,run_underlying h1,cD h2,h3,Instr.sureAddr,hc2,Addr.add_none]
  exact h.elim
 exact h.elim
def wA (P : Program) (dst : Option Tmp) (t : TypeId) (x i : Operand) (st : St) (K : St -> Prop) : Prop :=
 match st.rd x,st.rd i with
 | .v (.string s),.v (.int _ n)=>P.underlying t=some .string/\(0<=n/\n<s.size)/\K (st.put dst (.d (.v (.int .u8 ((s.data.toList.getD n.toNat 0).toNat:Nat)))))
 | .agg cs, .v (.int _ n) => match P.underlying t with
  | some (.array len e) => match kJ P e with
   | some (a,m)=>match Ae a m (cs.drop (n.toNat * m))with
    | some d=>(0<=n/\n<len)/\K (st.put dst (.d d.s2))
    | none=>False
   | none=>False
  | _=>False
 | _,_=>False
theorem Yb {st:St} {K:St->Prop} (t:TypeId)(x i:Operand)(hd:eF o st)(ho:o.op= .index t x i)(h:wA P o.dst t x i st K):Does P o st K:=by
 unfold wA at h;split at h
 .rename_i s kk n hx hi;obtain⟨ht,⟨hn0,hn1⟩,hK⟩:=h;refine cM hd _ (fun w g tmps hok=>?_) hK;have hr:=hok.rd x;rw [hx] at hr;have hxv:=hr.vEq;have hri:=hok.rd i;rw [hi] at hri;have hiv:=hri.int;refine⟨_,?_,bV (.v _ rfl) rfl⟩;have hlt:n.toNat<s.size:=by omega
  have hl2:n.toNat<s.data.size:=hlt;have e:s[n.toNat]?=some (s.data.toList.getD n.toNat 0):=by
   rw [getElem?_pos s n.toNat hlt];have e2:s.data.toList.getD n.toNat 0=s.data[n.toNat]:=by simp [List.getD,bR hl2]
   rw [e2];rfl
  simp [execOp,ho,Instr.index,hxv,hiv,asIntOf,run_underlying ht,hn0,e]
 .rename_i cs kk n hx hi;split at h
  .rename_i len e hu;split at h
   .rename_i a m hty;split at h
    .rename_i d hld;obtain⟨⟨hn0,hn1⟩,hK⟩:=h;obtain⟨td,ti,i1,i2,i3,i4⟩:=rH hty;refine cM hd _ (fun w g tmps hok=>?_) hK;have hr:=hok.rd x;rw [hx] at hr;have hri:=hok.rd i;rw [hi] at hri;have hiv:=hri.int;generalize hv:ev tmps x=v at hr;cases hr with
     | agg cs vs hl hr h1'=>
      obtain⟨y,hy,hry⟩:=aOc (P:=P) (w:=w) hl hr h1' hty hld;refine⟨y,?_,Fq hry (Vn hl hr h1' hld)⟩;simp [execOp,ho,Instr.index,hv,hiv,asIntOf,run_underlying hu,hn0,hn1,cD i2,i4,hy]
    exact h.elim
   exact h.elim
  exact h.elim
 exact h.elim
def gN(st:St)(d:Int):Option Operand->Option Int
 | none=>some d
 | some x=>match st.rd x with
  | .v (.int _ n)=>some n
  | _=>none
def vR (P : Program) (dst : Option Tmp) (t : TypeId) (x : Operand) (lo hi mx : Option Operand) (st : St) (K : St -> Prop) : Prop :=
 match st.rd x with
 | .v (.string s)=>mx=none/\P.underlying t=some .string/\match gN st 0 lo,gN st s.size hi with
  | some l,some h=>(0<=l/\l<=h/\h<=s.size)/\K (st.put dst (.d (.str (s.extract l.toNat h.toNat))))
  | _,_=>False
 | .sl _ es => match kD P t with
  | some (_, k, _, _) => match mx with
   | none=>match gN st 0 lo,gN st es.length hi with
    | some l,some h=>(0<=l/\l<=h/\h<=es.length)/\(∀d∈es,d.ncells=k)/\K (st.put dst (.d (.sl false ((es.take h.toNat).drop l.toNat))))
    | _,_=>False
   | some m=>match gN st 0 lo,gN st 0 hi,gN st 0 (some m)with
    | some l,some h,some m=>(l=0/\h=0/\m=0)/\hi≠none/\K (st.put dst (.d (.sl true [])))
    | _,_,_=>False
  | none=>False
 | _=>False
theorem nV {st:St} (hok:Ok w g st (cJ tmps)) {d n:Int} {x:Option Operand} (h:gN st d x=some n):(x=none/\n=d)\/∃y k,x=some y/\ev tmps y= .int k n:=by
 cases x with
 | none=>simp [gN] at h;exact .inl ⟨rfl,h.symm⟩
 | some y=>
  simp only [gN] at h;split at h
  .rename_i k m hy;simp at h;subst h;have hr:=hok.rd y;rw [hy] at hr;exact .inr ⟨y,k,rfl,hr.int⟩
  cases h
theorem eT {i:Int} {y:Nat} {code:BoundsCode} (h:0<=i/\i<=y):(Instr.sliceBound (.int k i) y code).run P w= .ok i.toNat w:=by
 simp [Instr.sliceBound,asIntOf,h]
theorem jF {st:St} (hok:Ok w g st (cJ tmps)) {isSlice:Bool} {len cap:Nat} {lo hi:Option Operand} {l h:Int} (hcap:len<=cap)
  (h1:gN st 0 lo=some l) (h2:gN st len hi=some h) (hb:0<=l/\l<=h/\h<=len):
  (Instr.sliceBounds isSlice len cap (lo.map (ev tmps)) (hi.map (ev tmps)) none).run P w= .ok (l.toNat,h.toNat,cap) w:=by
 obtain⟨b1,b2,b3⟩:=hb;rcases nV hok h1 with ⟨rfl,rfl⟩ | ⟨y,k,rfl,e1⟩ <;> rcases nV hok h2 with ⟨rfl,rfl⟩ | ⟨z,k',rfl,e2⟩
 .simp [Instr.sliceBounds]
 .simp [Instr.sliceBounds,e2,eT (P:=P) (w:=w) (k:=k') (i:=h) (y:=cap) (code:=if isSlice=true then .sliceAcap else .sliceAlen) (by omega)]
 .have:=eT (P:=P) (w:=w) (k:=k) (i:=l) (y:=len) (code:= .sliceB) (by omega);simp [Instr.sliceBounds,e1,this]
 have a1:=eT (P:=P) (w:=w) (k:=k') (i:=h) (y:=cap) (code:=if isSlice=true then .sliceAcap else .sliceAlen) (by omega);have a2:=eT (P:=P) (w:=w) (k:=k) (i:=l) (y:=h.toNat) (code:= .sliceB) (by omega);simp [Instr.sliceBounds,e1,e2,a1,a2]
theorem Yf {st : St} {K : St -> Prop} (t : TypeId) (x : Operand) (lo hi mx : Option Operand) (hd : eF o st) (ho : o.op = .slice t x lo hi mx) (h : vR P o.dst t x lo hi mx st K) : Does P o st K := by
 unfold vR at h;split at h
 .rename_i s hx;obtain⟨rfl,ht,h⟩:=h;split at h
  .rename_i l hh e1 e2;obtain⟨hb,hK⟩:=h;refine cM hd _ (fun w g tmps hok=>?_) hK;have hr:=hok.rd x;rw [hx] at hr;have hxv:=hr.vEq;refine⟨_,?_,bV (.v _ rfl) rfl⟩;have:=jF (P:=P) (isSlice:=false) hok (aW s.size) e1 e2 hb;simp [execOp,ho,Instr.sliceAt,hxv,run_underlying ht,Instr.slice,this]
  exact h.elim
 .rename_i own es hx;split at h
  .rename_i e k by_ z he;obtain⟨ti,zv,h1,h2,h3,h4,h5,h6,h7,h8⟩:=jI he;split at h
   .split at h
    .rename_i l hh e1 e2;obtain⟨hb,hnc,hK⟩:=h;refine cM hd _ (fun w g tmps hok=>?_) hK;have hr:=hok.rd x;rw [hx] at hr;generalize hv:ev tmps x=v at hr;cases hr with
     | nil o=>
      have:=jF (P:=P) (isSlice:=true) hok (aW 0) e1 e2 hb;have hl0:l=0:=by have:=hb.2.2;have:=hb.2.1;have:=hb.1;simp at *;omega
      have hh0:hh=0:=by have:=hb.2.2;have:=hb.2.1;have:=hb.1;simp at *;omega
      subst hl0;subst hh0;refine⟨.slice none 0 0,?_,bV (by simpa using R.nil false) rfl⟩;simp at this;simp [execOp,ho,Instr.sliceAt,hv,run_underlying h1,Instr.slice,this,cD h2]
     | emp o a cap hm=>
      have:=jF (P:=P) (isSlice:=true) hok (iM cap) e1 e2 hb;have hl0:l=0:=by have:=hb.2.2;have:=hb.2.1;have:=hb.1;simp at *;omega
      have hh0:hh=0:=by have:=hb.2.2;have:=hb.2.1;have:=hb.1;simp at *;omega
      subst hl0;subst hh0;refine⟨.slice (some a) 0 cap,?_,bV (by simpa using R.emp false a cap hm) rfl⟩;simp at this;simp [execOp,ho,Instr.sliceAt,hv,run_underlying h1,Instr.slice,this,cD h2,Addr.add]
     | sl o' es b off m cap k' vs hl hm hk' hc hmx hrr hss hxx =>
      have e2':gN st m hi=some hh:=by rw [hm];exact e2
      have:=jF (P:=P) (isSlice:=true) hok hc e1 e2' (by omega);obtain⟨b1,b2,b3⟩:=hb;by_cases hml:cap=l.toNat
      .-- the piece is empty,and lies at the end
       have hh0:hh.toNat=l.toNat:=by omega
       subst hml;refine⟨.slice (some ⟨b,off,none⟩) (hh.toNat - l.toNat) (l.toNat - l.toNat),?_,bV ?_ rfl⟩
       .simp [execOp,ho,Instr.sliceAt,hv,run_underlying h1,Instr.slice,this,cD h2]
       have e0:(es.take hh.toNat).drop l.toNat= []:=by
        apply vF;rw [bG];omega
       rw [e0];refine .sl false [] b off _ _ k' [] rfl (by simp;omega) hk' (by omega) (by omega) (fun i d y a=>by simp at a) (fun i d a=>by simp at a) (fun i y a=>by simp at a)
      refine⟨.slice (some ⟨b,off+l.toNat * k,none⟩) (hh.toNat - l.toNat) (cap - l.toNat),?_,bV ?_ rfl⟩
      .simp [execOp,ho,Instr.sliceAt,hv,run_underlying h1,Instr.slice,this,cD h2,hml,h5,Addr.add_none]
      have hlen:((es.take hh.toNat).drop l.toNat).length=hh.toNat - l.toNat:=by rw [dI,bG];omega
      by_cases he0:hh.toNat=l.toNat
      .have e0:(es.take hh.toNat).drop l.toNat= []:=by
        apply vF;rw [bG];omega
       rw [e0];refine .sl false [] b _ _ _ k' [] rfl (by simp;omega) hk' (by omega) (by omega) (fun i d y a=>by simp at a) (fun i d a=>by simp at a) (fun i y a=>by simp at a)
      have hkk:k'=k:=by
       have h0:0<es.length:=by omega
       have hel:es[0]?=some es[0]:=aS h0;rw [<- hss 0 _ hel];exact hnc _ (bS h0)
      subst hkk;have get:∀ {α:Type} (xs:List α) (i:Nat) (y:α),((xs.take hh.toNat).drop l.toNat)[i]?=some y->xs[l.toNat+i]?=some y:=by
       intro α xs i y a;rw [mL,eN] at a;split at a
       .exact a
       cases a
      refine .sl false _ b _ _ _ k' ((vs.take hh.toNat).drop l.toNat) (by rw [hlen,dI,bG];omega) hlen.symm hk' (by omega) (by omega)
       (fun i d y a1 a2=>hrr _ d y (get _ _ _ a1) (get _ _ _ a2)) (fun i d a=>hss _ d (get _ _ _ a)) (fun i y a=>?_)
      have:=hxx _ _ (get _ _ _ a);refine⟨this.1,fun j c hj=>?_⟩;have h9:=this.2 j c hj;rw [show off+l.toNat * k'+(i * k'+j)=off+((l.toNat+i) * k'+j) by rw [dB];omega];exact h9
    exact h.elim
   rename_i m;split at h
   .rename_i l hh mm e1 e2 e3;obtain⟨⟨rfl,rfl,rfl⟩,hne,hK⟩:=h;refine cM hd _ (fun w g tmps hok=>?_) hK;have hr:=hok.rd x;rw [hx] at hr;generalize hv:ev tmps x=v at hr;obtain⟨y2,k2,rfl,ev2⟩:∃y k,hi=some y/\ev tmps y= .int k 0:=by
     rcases nV hok e2 with ⟨rfl,_⟩ | h
     .exact absurd rfl hne
     exact h
    obtain⟨y3,k3,h3',ev3⟩:∃y k,some m=some y/\ev tmps y= .int k 0:=by
     rcases nV hok e3 with ⟨h,_⟩ | h
     .cases h
     exact h
    cases h3';have b2:=eT (P:=P) (w:=w) (k:=k2) (i:=0) (y:=0) (code:= .slice3B) (by omega);have b3:∀cap:Nat,(Instr.sliceBound (.int k3 0) cap .slice3Acap).run P w= .ok 0 w:=fun cap=>eT (P:=P) (w:=w) (k:=k3) (i:=0) (y:=cap) (code:= .slice3Acap) (by omega);cases hr with
    | nil o=>
     refine⟨.slice none 0 0,?_,fun t=>⟨.nil true,.sl _ _ _ (.inl ⟨_,_,rfl⟩)⟩⟩;simp [execOp,ho,Instr.sliceAt,hv,run_underlying h1,Instr.slice,Instr.sliceBounds,ev2,ev3,b2,b3,cD h2];rcases nV hok e1 with ⟨rfl,_⟩ | ⟨y,k,rfl,e⟩
     .simp
     have b1:=eT (P:=P) (w:=w) (k:=k) (i:=0) (y:=0) (code:= .slice3C) (by omega);simp at b1;simp [b1,e]
    | emp o a cap hm=>
     refine⟨.slice (some a) 0 0,?_,fun t=>⟨.emp true a 0 (iM _),.sl _ _ _ (.inl ⟨_,_,rfl⟩)⟩⟩;simp [execOp,ho,Instr.sliceAt,hv,run_underlying h1,Instr.slice,Instr.sliceBounds,ev2,ev3,b2,b3,cD h2,Addr.add];rcases nV hok e1 with ⟨rfl,_⟩ | ⟨y,k,rfl,e⟩
     .simp
     have b1:=eT (P:=P) (w:=w) (k:=k) (i:=0) (y:=0) (code:= .slice3C) (by omega);simp at b1;simp [b1,e]
    | sl o' es b off n cap k' vs hl hm hk' hc hmx hrr hss hxx=>
     refine⟨.slice (some ⟨b,off,none⟩) 0 0,?_,fun t=>⟨.sl true [] b off _ _ k' [] rfl rfl hk' (aW _) (by simp) (fun i d y a=>by simp at a) (fun i d a=>by simp at a) (fun i y a=>by simp at a),.sl _ _ _ (.inl ⟨_,_,rfl⟩)⟩⟩;simp [execOp,ho,Instr.sliceAt,hv,run_underlying h1,Instr.slice,Instr.sliceBounds,ev2,ev3,b2,b3,cD h2];rcases nV hok e1 with ⟨rfl,_⟩ | ⟨y,k,rfl,e⟩
     .simp
     have b1:=eT (P:=P) (w:=w) (k:=k) (i:=0) (y:=0) (code:= .slice3C) (by omega);simp at b1;simp [b1,e]
   exact h.elim
  exact h.elim
 exact h.elim
end
end Go.Vm
