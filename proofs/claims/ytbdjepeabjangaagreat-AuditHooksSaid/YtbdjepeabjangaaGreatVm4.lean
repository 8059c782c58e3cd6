import Derived.Test.YtbdjepeabjangaaGreatVm3
import Derived.Laws.Cover3
set_option linter.all false
namespace Go.Vm
open Go
variable {M:Mem}{P:Program}{a b:ByteArray}{bs:List Nat}{g:Gh}{k:IntKind}{o:Oper}{op:BinOp}{t:TypeId}{tmps:Array Value}{v:Value}{w:World}{x:Operand}
def D.ofV1:Value->D
 | .slice none 0 0=> .sl true []
 | .agg _ | .tuple _=> .any
 | x=> .v x
def D.ofV:Value->D
 | .agg cs=>if cs.all Value.oneCell' then .agg (cs.toList.map D.ofV1)else .any
 | .tuple vs=>if vs.size=0 then .tup [] else .any
 | x=>D.ofV1 x
theorem R.ofV1(M:Mem)(bs:List Nat)(v:Value):R M bs (D.ofV1 v) v:=by
 unfold D.ofV1;split
 .exact .nil _
 .exact .any _
 .exact .any _
 rename_i h1 h2 h3;refine .v _ ?_;cases v <;> simp_all [Value.oneCell']
theorem R.ofV(M:Mem)(bs:List Nat)(v:Value):R M bs (D.ofV v) v:=by
 unfold D.ofV;split
 .rename_i cs;split
  .rename_i h;rw [yJ] at h;refine .agg _ cs (by simp) (fun i d x h1 h2=>?_) fun i x h1=>?_
   .rw [bP,cQ,h2] at h1;simp at h1;subst h1;exact R.ofV1 M bs x
   obtain⟨hl,rfl⟩:=cZ.1 h1;exact h i hl
  exact .any _
 .rename_i vs;split
  .rename_i h;have:vs=#[]:=by simpa using h
   subst this;exact .tup [] #[] rfl (fun i d x h1=>by simp at h1)
  exact .any _
 exact R.ofV1 M bs v
theorem aEy {X:Nat->Option jK} {h:Holder} {p:List Nat} (v:Value):Own w M bs X h p (D.ofV v) v:=by
 have one:∀(v:Value) (p:List Nat),Own w M bs X h p (D.ofV1 v) v:=by
  intro v p;unfold D.ofV1;split
  .exact .sl _ _ _ (.inl ⟨_,_,rfl⟩)
  all_goals exact .flat _ _ _ rfl
 unfold D.ofV;split
 .rename_i cs;split
  .refine .agg _ _ cs fun i d x h1 h2=>?_;rw [bP,cQ,h2] at h1;simp at h1;subst h1;exact one x _
  exact .flat _ _ _ rfl
 .split
  .rename_i vs hv;have:vs=#[]:=by simpa using hv
   subst this;exact .tup _ [] #[] (fun i d x h1=>by simp at h1)
  exact .flat _ _ _ rfl
 exact one v _
def St.rdS(st:St):Operand->Slot
 | .tmp t=>st.env t
 | .const v=> .d (D.ofV v)
 | .func f=> .d (.clo (.func f) [] [])
 | .global _=> .any
def St.rd(st:St)(x:Operand):D:=match st.rdS x with | .d d=>d | .lref _ _=> .any
variable {K:St->Prop}{st:St}
abbrev ev(tmps:Array Value):Operand->Value:=(⟨tmps, []⟩:Act).eval
theorem Ok.rd (h:Ok w g st (bQ tmps))(x:Operand):R g.M g.bs (st.rd x) (ev tmps x):=by
 unfold St.rd;cases x with
 | tmp t=>
  have hs:=h.slot t;simp only [St.rdS];cases he:st.env t with
  | d d=>rw [he] at hs;exact hs.1
  | lref n off=>exact .any _
 | const v=>exact R.ofV _ _ v
 | func f=>exact .clo _ [] [] #[] #[] rfl rfl (fun i d x h=>by simp at h) (fun i d x h=>by simp at h)
 | global n=>exact .any _
theorem Ok.rdL (h:Ok w g st (bQ tmps)) {n off:Nat} (hx:st.rdS x= .lref n off):∃b,g.bl[n]?=some b/\ev tmps x= .pointer (some ⟨b,off,none⟩):=by
 cases x with
 | tmp t=>
  have hs:=h.slot t;simp only [St.rdS] at hx;rw [hx] at hs;exact hs
 | const v=>simp [St.rdS] at hx
 | func f=>simp [St.rdS] at hx
 | global n=>simp [St.rdS,Slot.any] at hx
theorem R.int {n:Int} (h:R M bs (.v (.int k n)) v):v= .int k n:=by cases h;rfl
theorem R.vEq {x:Value} (h:R M bs (.v x) v):v=x:=by cases h;rfl
def D.plain:D->Bool
 | .tup cs=>cs.all fun c=>match c with | .tup _=>false | _=>true
 | _=>true
theorem jT {d:D} (h:d.plain=true):∀cs,d= .tup cs->∀c∈cs,∀ds,c≠ .tup ds:=by
 intro cs hd c hc ds e;subst hd;subst e;simp [D.plain] at h;have:=h _ hc;simp at this
theorem nB {d:D} (h:R g.M g.bs d v)(hp:d.plain=true):∀t,SlotOk w g t (.d d.strip) v:=
 fun _=>⟨h.strip,jY h (jT hp)⟩
structure Cfg where
 take:List Nat
 imm:List Nat
 esc:List Nat
 xs:List Nat
 ys:List Nat
def iD(c:Cfg)(dst:Option Tmp)(x:Operand)(st:St)(K:St->Prop):Prop:=
 match x,dst with
 | .tmp s,some d=>
  match st.env s with
  | .lref n off=>K (st.set d (.lref n off))
  | .d y=>if c.take.contains d then s≠d/\(match y with | .tup _=>False | _=>True)/\K ((st.set s (.d y.s2)).set d (.d y))else y.plain=true/\K (st.set d (.d y.strip))
 | .tmp _,none=>False
 | x,dst=>K (st.put dst (st.rdS x))
theorem Es (c:Cfg)(x:Operand)(hd:dD o st)(ho:o.op= .move x\/o.op= .assign x)(h:iD c o.dst x st K):Does P o st K:=by
 have hrun:∀(tmps:Array Value) (w:World),(execOp (ev tmps) o).run P w= .ok (.value (ev tmps x)) w:=by
  intro tmps w;rcases ho with ho | ho <;> simp [execOp,ho]
 cases x with
 | tmp s =>
  cases hdst:o.dst with
  | none=>simp [iD,hdst] at h
  | some d =>
   simp only [iD,hdst] at h;cases hs:st.env s with
   | lref n off=>
    simp only [hs] at h;refine bE hd fun w g tmps hok=>⟨_,w,g,_,.inl (hrun tmps w),h,Fr.refl w g,?_,rfl,by simp⟩;rw [hdst];exact hok.set d _ _ (hok.rdL (x:= .tmp s) hs)
   | d y=>
    simp only [hs] at h;split at h
    .obtain⟨h1,h2,h3⟩:=h;refine bE hd fun w g tmps hok=>⟨_,w,_,_,.inl (hrun tmps w),h3,Fr.ren w g (iF (.slot s) [] (.slot d) []),?_,rfl,by simp⟩;rw [hdst];exact hok.take s d h1 y hs (by intro cs e;subst e;exact h2)
    obtain⟨h1,h2⟩:=h;refine bE hd fun w g tmps hok=>⟨_,w,g,_,.inl (hrun tmps w),h2,Fr.refl w g,?_,rfl,by simp⟩;rw [hdst];have hr:=hok.slot s;rw [hs] at hr;exact hok.set d _ _ (nB hr.1 h1 d)
 | const v=>
  have h':K (st.put o.dst (.d (D.ofV v))):=by unfold iD at h;split at h <;> simp_all [St.rdS]
  exact bL hd (.d (D.ofV v)) (fun w g tmps hok=>⟨_,hrun tmps w,fun t=>⟨R.ofV _ _ v,aEy v⟩⟩) h'
 | func f=>
  have h':K (st.put o.dst (.d (.clo (.func f) [] []))):=by unfold iD at h;split at h <;> simp_all [St.rdS]
  exact bL hd _ (fun w g tmps hok=>⟨_,hrun tmps w,bC (hok.rd (.func f)) rfl⟩) h'
 | global n=>
  have h':K (st.put o.dst (.d .any)):=by unfold iD at h;split at h <;> simp_all [St.rdS]
  exact bL hd _ (fun w g tmps hok=>⟨_,hrun tmps w,bC (.any _) rfl⟩) h'
def Xk(k:IntKind)(n:Int):Prop:=k.min<=n/\n<=k.max
theorem pB {n:Int} (h:Xk k n):k.wrap n=n:=by
 obtain⟨h1,h2⟩:=h;cases k <;> simp only [IntKind.min,IntKind.max,IntKind.wrap,IntKind.signed,IntKind.bits] at * <;> simp at * <;> (try split) <;> omega
def zS(op:BinOp)(k:IntKind)(a b:Int)(K:D->Prop):Prop:=
 match op with
 | .add=>Xk k (a+b)/\K (.v (.int k (a+b)))
 | .sub=>Xk k (a - b)/\K (.v (.int k (a - b)))
 | .mul=>Xk k (a * b)/\K (.v (.int k (a * b)))
 | .quo=>b≠0/\Xk k (a.tdiv b)/\K (.v (.int k (a.tdiv b)))
 | .rem=>b≠0/\K (.v (.int k (a.tmod b)))
 | .eql=>K (.bool (decide (a=b)))
 | .neq=>K (.bool (!decide (a=b)))
 | .lss=>K (.bool (decide (a<b)))
 | .leq=>K (.bool (decide (a<=b)))
 | .gtr=>K (.bool (decide (b<a)))
 | .geq=>K (.bool (decide (b<=a)))
 | .and=>K (.v (.int k (k.wrap (BitVec.ofInt k.bits a &&& BitVec.ofInt k.bits b).toNat)))
 | .or=>K (.v (.int k (k.wrap (BitVec.ofInt k.bits a ||| BitVec.ofInt k.bits b).toNat)))
 | .xor=>K (.v (.int k (k.wrap (BitVec.ofInt k.bits a ^^^ BitVec.ofInt k.bits b).toNat)))
 | .andNot=>K (.v (.int k (k.wrap (BitVec.ofInt k.bits a &&& ~~~ BitVec.ofInt k.bits b).toNat)))
 | .shl=>K (.v (.int k (k.wrap (a * 2 ^ (min b.toNat k.bits)))))
 | .shr=>K (.v (.int k (a.fdiv (2 ^ (min b.toNat k.bits)))))
def aG0(op:BinOp)(k k':IntKind)(b:Int):Prop:=match op with
 | .shl=>0<=b
 | .shr=>0<=b
 | _=>k=k'
def zG(op:BinOp)(a b:ByteArray)(K:D->Prop):Prop:=
 match op with
 | .add=>a.size+b.size<=maxLen/\K (.str (a++b))
 | .eql=>K (.bool (decide (a=b)))
 | .neq=>K (.bool (!decide (a=b)))
 | .lss=>K (.bool (Op.bytesLess a.toList b.toList))
 | .geq=>K (.bool (!Op.bytesLess a.toList b.toList))
 | .gtr=>K (.bool (Op.bytesLess b.toList a.toList))
 | .leq=>K (.bool (!Op.bytesLess b.toList a.toList))
 | _=>False
def Qu:Slot->Bool
 | .lref _ _=>true
 | .d (.adr _) | .d (.ref _ _)=>true
 | _=>false
def zW(P:Program)(t:TypeId)(cs ds:List D)(b:Bool):Prop:=
 ∃xs ys:List Value,cs=xs.map .v/\ds=ys.map .v/\∀w,(Op.equalIn 10000 t (.agg xs.toArray) (.agg ys.toArray)).run P w= .ok b w
def rE(P:Program)(t:TypeId)(cs ds:List D)(K:Bool->Prop):Prop:=∃b,zW P t cs ds b/\K b
theorem pO {cs ds:List D} {b:Bool} {K:Bool->Prop} (h:zW P t cs ds b):rE P t cs ds K=K b:=by
 apply propext;constructor
 .rintro⟨b',⟨xs',ys',h1',h2',h3'⟩,hK⟩;obtain⟨xs,ys,h1,h2,h3⟩:=h;have inj:∀a b:List Value,a.map D.v=b.map D.v->a=b:=by
   intro a b e;exact(List.map_inj_right (fun x y h=>by cases h;rfl)).1 e
  have e1:=inj xs xs' (h1.symm.trans h1');have e2:=inj ys ys' (h2.symm.trans h2');subst e1;subst e2;have:=(h3 default).symm.trans (h3' default);simp only [Result.ok.injEq,nJ] at this;rw [this];exact hK
 exact fun hK=>⟨b,h,hK⟩
def rD(P:Program)(op:BinOp)(t:TypeId)(x y:Slot)(K:D->Prop):Prop:=
 match x,y with
 | .d (.v (.int k a)),.d (.v (.int k' b))=>aG0 op k k' b/\zS op k a b K
 | .d (.v (.string a)),.d (.v (.string b))=>zG op a b K
 | .d (.v (.bool a)),.d (.v (.bool b))=>P.underlying t=some .bool/\(match op with | .eql=>K (.bool (a==b)) | .neq=>K (.bool (a !=b)) | _=>False)
 | .d (.agg cs),.d (.agg ds)=>P.eqGuardType P.depth t=false/\(match op with | .eql=>rE P t cs ds fun b=>K (.bool b) | .neq=>rE P t cs ds fun b=>K (.bool (!b)) | _=>False)
 | .d (.v (.pointer none)),.d (.v (.pointer none))=>(∃e,P.underlying t=some (.pointer e))/\(match op with | .eql=>K (.bool true) | .neq=>K (.bool false) | _=>False)
 | s,.d (.v (.pointer none))=>(Qu s=true/\∃e,P.underlying t=some (.pointer e))/\(match op with | .eql=>K (.bool false) | .neq=>K (.bool true) | _=>False)
 | _,_=>False
theorem mA :(a.toList==b.toList)=decide (a=b):=by
 have e:∀s:ByteArray,s.toList=s.data.toList:=fun s=>ByteArray.toList_eq s;rw [e,e,yL];simp only [sN,jB];constructor
 .intro h;have:a.data=b.data:=pL.1 h;cases a;cases b;simp_all
 intro h;rw [h]
theorem mJ(a b:ByteArray):(a.toList=b.toList)=(a=b):=by
 have h:=mA (a:=a) (b:=b);rw [yL] at h;simp only [sN,jB] at h;exact propext h
theorem vG {y:Operand} {a b:Value} (h:∀cs ds,a= .agg cs->b= .agg ds->False)(h2:a= .nilIface->b= .nilIface->False):
  (eqGuard op t x y a b).run P w= .ok () w:=by
 cases op <;> first
  | rfl
  | (unfold eqGuard;cases a <;> first | rfl | (cases b <;> first | rfl | exact(h _ _ rfl rfl).elim | exact(h2 rfl rfl).elim))
theorem aGx {k':IntKind} {a b:Int} {K:D->Prop} (hs:aG0 op k k' b)(h:zS op k a b K):∃d v,K d/\(∀M bs,R M bs d v)/\d.flat=true/\∀w,(binOp op t (.int k a) (.int k' b)).run P w= .ok v w:=by
 cases op <;> simp only [zS,aG0] at h hs
 case shl=>exact⟨_,_,h,fun M bs=> .v _ rfl,rfl,fun w=>by simp [binOp,Op.shift,Int.not_lt.2 hs]⟩
 case shr=>exact⟨_,_,h,fun M bs=> .v _ rfl,rfl,fun w=>by simp [binOp,Op.shift,Int.not_lt.2 hs]⟩
 all_goals subst hs
 case add=>exact⟨_,_,h.2,fun M bs=> .v _ rfl,rfl,fun w=>by simp [binOp,Op.intArith,pB h.1]⟩
 case sub=>exact⟨_,_,h.2,fun M bs=> .v _ rfl,rfl,fun w=>by simp [binOp,Op.intArith,pB h.1]⟩
 case mul=>exact⟨_,_,h.2,fun M bs=> .v _ rfl,rfl,fun w=>by simp [binOp,Op.intArith,pB h.1]⟩
 case quo=>exact⟨_,_,h.2.2,fun M bs=> .v _ rfl,rfl,fun w=>by simp [binOp,Op.intDiv,h.1,pB h.2.1]⟩
 case rem=>exact⟨_,_,h.2,fun M bs=> .v _ rfl,rfl,fun w=>by simp [binOp,Op.intDiv,h.1]⟩
 case eql=>exact⟨_,_,h,fun M bs=> .v _ rfl,rfl,fun w=>by simp [binOp,Op.intCmp];rfl⟩
 case neq=>exact⟨_,_,h,fun M bs=> .v _ rfl,rfl,fun w=>by simp [binOp,Op.intCmp];rfl⟩
 case lss=>exact⟨_,_,h,fun M bs=> .v _ rfl,rfl,fun w=>by simp [binOp,Op.intCmp]⟩
 case leq=>exact⟨_,_,h,fun M bs=> .v _ rfl,rfl,fun w=>by simp [binOp,Op.intCmp]⟩
 case gtr=>exact⟨_,_,h,fun M bs=> .v _ rfl,rfl,fun w=>by simp [binOp,Op.intCmp]⟩
 case geq=>exact⟨_,_,h,fun M bs=> .v _ rfl,rfl,fun w=>by simp [binOp,Op.intCmp]⟩
 case and=>exact⟨_,_,h,fun M bs=> .v _ rfl,rfl,fun w=>by simp [binOp,Op.intBits]⟩
 case or=>exact⟨_,_,h,fun M bs=> .v _ rfl,rfl,fun w=>by simp [binOp,Op.intBits]⟩
 case xor=>exact⟨_,_,h,fun M bs=> .v _ rfl,rfl,fun w=>by simp [binOp,Op.intBits]⟩
 case andNot=>exact⟨_,_,h,fun M bs=> .v _ rfl,rfl,fun w=>by simp [binOp,Op.intBits]⟩
theorem tK:∀a b:List UInt8,(Op.bytesLess a b || a==b)= !Op.bytesLess b a
 | [], []=>rfl
 | [],_::_=>rfl
 | _::_, []=>rfl
 | a :: x, b :: y => by
  have ih:=tK x y;simp only [Op.bytesLess,List.cons_beq_cons];rcases Nat.lt_trichotomy a.toNat b.toNat with h | h | h
  .have h1:a<b:=h;have h2:¬b<a:=fun h'=>by have h':b.toNat<a.toNat:=h';omega
   have h3:(b==a)=false:=by rw [beq_eq_false_iff_ne];rintro rfl;omega
   simp [h1,h2,h3]
  .have h0:a=b:=UInt8.toNat_inj.1 h;subst h0;have h1:¬a<a:=fun h'=>by have h':a.toNat<a.toNat:=h';omega
   simp [h1,ih]
  have h1:b<a:=h;have h2:¬a<b:=fun h'=>by have h':a.toNat<b.toNat:=h';omega
  have h3:(a==b)=false:=by rw [beq_eq_false_iff_ne];rintro rfl;omega
  simp [h1,h2,h3]
theorem aEv {K:D->Prop} (h:zG op a b K):∃d v,K d/\(∀M bs,R M bs d v)/\d.flat=true/\∀w,(binOp op t (.string a) (.string b)).run P w= .ok v w:=by
 cases op <;> simp only [zG] at h
 case add=>
  refine⟨_,_,h.2,fun M bs=> .v _ rfl,rfl,fun w=>?_⟩;have:¬((a.size+b.size:Nat):Int) > IntKind.i64.max:=by
   have h1:=h.1;unfold maxLen at h1;have h2:IntKind.i64.max=9223372036854775807:=rfl;rw [h2];omega
  simp only [binOp,Op.stringOp,aG this,Sem.run_pure]
 case eql=>exact⟨_,_,h,fun M bs=> .v _ rfl,rfl,fun w=>by simp [binOp,Op.stringOp,mA]⟩
 case neq=>exact⟨_,_,h,fun M bs=> .v _ rfl,rfl,fun w=>by simp [binOp,Op.stringOp,mA]⟩
 case lss=>exact⟨_,_,h,fun M bs=> .v _ rfl,rfl,fun w=>by simp [binOp,Op.stringOp]⟩
 case geq=>exact⟨_,_,h,fun M bs=> .v _ rfl,rfl,fun w=>by simp [binOp,Op.stringOp]⟩
 case gtr=>exact⟨_,_,h,fun M bs=> .v _ rfl,rfl,fun w=>by simp only [binOp,Op.stringOp,tK,Bool.not_not,Sem.run_pure]⟩
 case leq=>exact⟨_,_,h,fun M bs=> .v _ rfl,rfl,fun w=>by simp only [binOp,Op.stringOp,tK,Sem.run_pure]⟩
theorem Dt (h:Ok w g st (bQ tmps)) (hp:Qu (st.rdS x)=true):∃a,ev tmps x= .pointer (some a):=by
 cases hs:st.rdS x with
 | lref n off=>obtain⟨b,_,hv⟩:=h.rdL hs;exact⟨_,hv⟩
 | d d=>
  have hr:=h.rd x;simp only [St.rd,hs] at hr;rw [hs] at hp;cases d <;> simp [Qu] at hp
  .generalize ev tmps x=v at hr;cases hr;exact⟨_,rfl⟩
  generalize ev tmps x=v at hr;cases hr;exact⟨_,rfl⟩
theorem Bz (ht:P.underlying t=some .bool)(a b:Bool)(w:World):(Op.equal t (.bool a) (.bool b)).run P w= .ok (a==b) w:=by
 show(Op.equalIn (9999+1) t (.bool a) (.bool b)).run P w=_
 unfold Op.equalIn;simp [run_underlying ht]
theorem Eg {e:TypeId} (ht:P.underlying t=some (.pointer e))(w:World):(Op.equal t (.pointer none) (.pointer none)).run P w= .ok true w:=by
 show(Op.equalIn (9999+1) t (.pointer none) (.pointer none)).run P w=_
 unfold Op.equalIn;simp [run_underlying ht]
theorem Fi {e:TypeId} (ht:P.underlying t=some (.pointer e))(a:Addr)(w:World):(Op.equal t (.pointer (some a)) (.pointer none)).run P w= .ok false w:=by
 show(Op.equalIn (9999+1) t (.pointer (some a)) (.pointer none)).run P w=_
 unfold Op.equalIn;simp [run_underlying ht]
theorem aDl (op:BinOp)(t:TypeId)(x y:Operand)(yt:TypeId)(hd:dD o st)(ho:o.op= .binOp op t x y yt)
  (h:rD P op t (st.rdS x) (st.rdS y) fun d=>K (st.put o.dst (.d d))):Does P o st K:=by
 have fin:∀d,K (st.put o.dst (.d d))->d.flat=true->(∀(w:World) (g:Gh) (tmps:Array Value),Ok w g st (bQ tmps)->∃v,R g.M g.bs d v/\(∀cs ds,ev tmps x= .agg cs->ev tmps y= .agg ds->False)/\(ev tmps x= .nilIface->ev tmps y= .nilIface->False)/\(binOp op t (ev tmps x) (ev tmps y)).run P w= .ok v w)->Does P o st K:=by
  intro d hK hf hr;refine bL hd (.d d) (fun w g tmps hok=>?_) hK;obtain⟨v,h1,h2,h3,h4⟩:=hr w g tmps hok;refine⟨v,?_,bC h1 hf⟩;simp [execOp,ho,vG h2 h3,h4]
 have finA:∀(cs ds:List D) (b b':Bool),P.eqGuardType P.depth t=false->st.rdS x= .d (.agg cs)->st.rdS y= .d (.agg ds)->zW P t cs ds b->K (st.put o.dst (.d (.bool b')))->(∀(xs ys:Array Value) (w:World),(Op.equalIn 10000 t (.agg xs) (.agg ys)).run P w= .ok b w->(binOp op t (.agg xs) (.agg ys)).run P w= .ok (.bool b') w)->Does P o st K:=by
  rintro cs ds b b' hg hx hy ⟨xs,ys,rfl,rfl,hrun⟩ hK hop;refine bL hd (.d (.bool b')) (fun w g tmps hok=>?_) hK;have get:∀(z:Operand) (zs:List Value),st.rdS z= .d (.agg (zs.map .v))->ev tmps z= .agg zs.toArray:=by
   intro z zs hz;have hr:=hok.rd z;simp only [St.rd,hz] at hr;generalize ev tmps z=v at hr;cases hr with
   | agg _ vs hl hr h1=>
    congr 1;apply Array.ext
    .simpa using hl
    intro i h3 h4;have:=hr i (.v zs[i]) vs[i] (by simp [bP]) (by simp [h3]);exact this.vEq
  refine⟨.bool b',?_,bC (.v _ rfl) rfl⟩;simp only [execOp,ho];have ex:(⟨tmps, []⟩:Act).eval x= .agg xs.toArray:=get x xs hx;have ey:(⟨tmps, []⟩:Act).eval y= .agg ys.toArray:=get y ys hy;simp [ex,ey,run_eqGuard_agg w op t x y _ _ hg,hop _ _ w (hrun w)]
 have rd:∀(z:Operand) (v:Value),st.rdS z= .d (.v v)->∀(w:World) (g:Gh) (tmps:Array Value),Ok w g st (bQ tmps)->ev tmps z=v:=by
  intro z v hz w g tmps hok;have:=hok.rd z;simp only [St.rd,hz] at this;exact this.vEq
 unfold rD at h;split at h
 .rename_i k a k' b hx hy;obtain⟨hs,h⟩:=h;obtain⟨d,v,hK,hR,hf,hrun⟩:=aGx (P:=P) (t:=t) hs h;exact fin d hK hf fun w g tmps hok=>⟨v,hR _ _,by rw [rd x _ hx w g tmps hok];simp,by rw [rd x _ hx w g tmps hok];simp,by rw [rd x _ hx w g tmps hok,rd y _ hy w g tmps hok];exact hrun w⟩
 .rename_i a b hx hy;obtain⟨d,v,hK,hR,hf,hrun⟩:=aEv (P:=P) (t:=t) h;exact fin d hK hf fun w g tmps hok=>⟨v,hR _ _,by rw [rd x _ hx w g tmps hok];simp,by rw [rd x _ hx w g tmps hok];simp,by rw [rd x _ hx w g tmps hok,rd y _ hy w g tmps hok];exact hrun w⟩
 .rename_i a b hx hy;obtain⟨ht,h⟩:=h;split at h
  .refine fin _ h rfl fun w g tmps hok=>⟨.bool (a==b),.v _ rfl,by rw [rd x _ hx w g tmps hok];simp,by rw [rd x _ hx w g tmps hok];simp,?_⟩;rw [rd x _ hx w g tmps hok,rd y _ hy w g tmps hok];simp [binOp,Bz ht]
  .refine fin _ h rfl fun w g tmps hok=>⟨.bool (a !=b),.v _ rfl,by rw [rd x _ hx w g tmps hok];simp,by rw [rd x _ hx w g tmps hok];simp,?_⟩;rw [rd x _ hx w g tmps hok,rd y _ hy w g tmps hok];simp [binOp,Bz ht,bne]
  exact h.elim
 .rename_i cs ds hx hy;obtain⟨hg,h⟩:=h;split at h
  .obtain⟨b,hb,hK⟩:=h;exact finA cs ds b b hg hx hy hb hK fun xs ys w hr=>by rw [run_eql_struct,hr];rfl
  .obtain⟨b,hb,hK⟩:=h;exact finA cs ds b (!b) hg hx hy hb hK fun xs ys w hr=>by rw [run_neq_struct,hr];rfl
  exact h.elim
 .rename_i hx hy;obtain⟨⟨e,ht⟩,h⟩:=h;split at h
  .refine fin _ h rfl fun w g tmps hok=>⟨.bool true,.v _ rfl,by rw [rd x _ hx w g tmps hok];simp,by rw [rd x _ hx w g tmps hok];simp,?_⟩;rw [rd x _ hx w g tmps hok,rd y _ hy w g tmps hok];simp [binOp,Eg ht]
  .refine fin _ h rfl fun w g tmps hok=>⟨.bool false,.v _ rfl,by rw [rd x _ hx w g tmps hok];simp,by rw [rd x _ hx w g tmps hok];simp,?_⟩;rw [rd x _ hx w g tmps hok,rd y _ hy w g tmps hok];simp [binOp,Eg ht]
  exact h.elim
 .rename_i hx hy;obtain⟨⟨hp,e,ht⟩,h⟩:=h;split at h
  .refine fin _ h rfl fun w g tmps hok=>?_;obtain⟨a,ha⟩:=Dt hok hp;refine⟨.bool false,.v _ rfl,by rw [ha];simp,by rw [ha];simp,?_⟩;rw [ha,rd y _ hx w g tmps hok];simp [binOp,Fi ht]
  .refine fin _ h rfl fun w g tmps hok=>?_;obtain⟨a,ha⟩:=Dt hok hp;refine⟨.bool true,.v _ rfl,by rw [ha];simp,by rw [ha];simp,?_⟩;rw [ha,rd y _ hx w g tmps hok];simp [binOp,Fi ht]
  exact h.elim
 exact h.elim
def Lk:D->Option Prop
 | .sl _ es=>some (es= [])
 | .slo _ _ len _=>some (len=0)
 | .xl n=>some (n=0)
 | .xs _ es=>some (es= [])
 | _=>none
def Ba(P:Program)(dst:Option Tmp)(op:BinOp)(t:TypeId)(x:Operand)(st:St)(K:St->Prop):Prop:=
 (∃e,P.underlying t=some (.slice e))/\match Lk (st.rd x)with
  | some c=>match op with
   | .eql=>K (st.put dst (.d (.bool false)))/\(c->K (st.put dst (.d (.bool true))))
   | .neq=>K (st.put dst (.d (.bool true)))/\(c->K (st.put dst (.d (.bool false))))
   | _=>False
  | none=>False
def tP:Operand->Bool
 | .const (.slice none 0 0)=>true
 | _=>false
theorem Mf (op:BinOp)(t:TypeId)(x:Operand)(y:Operand)(yt:TypeId)(hd:dD o st)(ho:o.op= .binOp op t x y yt)(hy:tP y=true)(h:Ba P o.dst op t x st K):Does P o st K:=by
 obtain⟨⟨e,ht⟩,h⟩:=h;have hy':y= .const (.slice none 0 0):=by
  unfold tP at hy;split at hy
  .rfl
  cases hy
 subst hy';split at h
 .rename_i cc hx;refine bE hd fun w g tmps hok=>?_;have hr:=hok.rd x;have sl:∃a n c,ev tmps x= .slice a n c/\(a=none->cc):=by
   generalize ev tmps x=v at hr;generalize st.rd x=dx at hr hx;cases hr with
   | nil o=>simp only [Lk,aP] at hx;subst hx;exact⟨_,_,_,rfl,fun _=>by simp⟩
   | emp o a cap hm=>simp only [Lk,aP] at hx;subst hx;exact⟨_,_,_,rfl,fun _=>by simp⟩
   | sl o es b off n cap k vs hl hn hk hc hm hr hs hx=>exact⟨_,_,_,rfl,by simp⟩
   | slo n a len cap y hb hc hm=>
    simp only [Lk,aP] at hx;subst hx;refine⟨_,_,_,rfl,fun h=>?_⟩;rcases sL cap with h0 | h0
    .omega
    obtain⟨b,_,h2⟩:=hb h0;rw [h] at h2;cases h2
   | xl a n cap hc hm ha=>simp only [Lk,aP] at hx;subst hx;exact⟨_,_,_,rfl,fun h=>(ha h).1⟩
   | xs k es a n cap hn hc hm ha=>simp only [Lk,aP] at hx;subst hx;exact⟨_,_,_,rfl,fun h=>jW (by have:=(ha h).1;omega)⟩
   | _=>simp [Lk] at hx
  obtain⟨a,n,c,hv,ha⟩:=sl;have he:∀b:Bool,(op= .eql\/op= .neq)->(if op= .eql then a.isNone else !a.isNone)=b->(execOp (⟨tmps, []⟩:Act).eval o).run P w= .ok (.value (.bool b)) w:=by
   intro b hop hb;have hv':(⟨tmps, []⟩:Act).eval x= .slice a n c:=hv;have hyv:(⟨tmps, []⟩:Act).eval (.const (.slice none 0 0))= .slice none 0 0:=rfl;have hq:=run_equal_slice_nil (P:=P) w t e a n c ht;have hgd:=vG (P:=P) (op:=op) (t:=t) (x:=x) (y:= .const (.slice none 0 0)) (a:= .slice a n c) (b:= .slice none 0 0) (w:=w) (by intro cs ds h;cases h) (by intro h;cases h);rcases hop with rfl | rfl
   .simp only [aJ] at hb;subst hb;simp [execOp,ho,hv',hyv,hgd,binOp,hq]
   simp at hb;subst hb;simp [execOp,ho,hv',hyv,hgd,binOp,hq]
  have fin:∀b:Bool,K (st.put o.dst (.d (.bool b)))->(execOp (⟨tmps, []⟩:Act).eval o).run P w= .ok (.value (.bool b)) w->∃v w' g' st',((execOp (⟨tmps, []⟩:Act).eval o).run P w= .ok (.value v) w'\/((execOp (⟨tmps, []⟩:Act).eval o).run P w= .ok .skip w'/\v=undef))/\
   K st'/\Fr w g w' g'/\Ok w' g' st' (sJ o.dst v (bQ tmps))/\st'.n=st.n/\g'.bl.take g.bl.length=g.bl:=fun b hK hrun=>
   ⟨_,w,g,_,.inl hrun,hK,Fr.refl w g,hok.put o.dst _ _ (fun t _=>bC (.v _ rfl) rfl t),Kt _ _ _,by simp⟩
  split at h
  .cases a with
   | none=>exact fin true (h.2 (ha rfl)) (he true (.inl rfl) rfl)
   | some a=>exact fin false h.1 (he false (.inl rfl) rfl)
  .cases a with
   | none=>exact fin false (h.2 (ha rfl)) (he false (.inr rfl) rfl)
   | some a=>exact fin true h.1 (he true (.inr rfl) rfl)
  exact h.elim
 exact h.elim
theorem Pd {dst:Option Tmp} {K':St->Prop} (hk:∀s,K s->K' s)(h:Ba P dst op t x st K):Ba P dst op t x st K':=by
 unfold Ba at *;refine⟨h.1,?_⟩;have h:=h.2;split at h
 .split at h
  .exact⟨hk _ h.1,fun e=>hk _ (h.2 e)⟩
  .exact⟨hk _ h.1,fun e=>hk _ (h.2 e)⟩
  exact h
 exact h
end Go.Vm
