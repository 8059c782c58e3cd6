import Derived.Test.YtbdjepeabjangaaGreatWkAu25
import Derived.Test.YtbdjepeabjangaaGreatVm22
import Derived.ProofKit
set_option linter.all false
set_option maxRecDepth 20000
set_option maxHeartbeats 8000000
open Go.Proofs.Tryz
namespace Go.Proofs.YtbdjepeabjangaaGreat
open Go Go.Vm
theorem aOf(σ J:List (List D)):NewAt (σ++(aA9 σ.length++J)) σ.length:=by rw [<- bU];exact(Hc σ).app J
theorem aA1  (σ:List (List D))  :Ct prog 5 [] σ (fun r σ'=>r= .v (.bool true)/\∃J,σ'=σ++J):=by
 refine zf func5 ?_;refine bT fun _ _ Z=>?_;simp(disch:=omega)[nN,oQ,fY,wF];apply Z;refine bT fun _ _ Z=>?_;refine zs 1 fun _ Y=>?_;simp(disch:=omega)[nN,oQ,fY,wF];apply Y;refine aG fun _ Y=>?_;simp(disch:=omega)[nN,oQ,fY,wF];refine dX (aNo _) ?_;apply Y;simp(disch:=omega)[nN,oQ,fY,wF];apply Z;apply aF;refine oL ⟨[],[],[],[],[]⟩ fun all hall _ Z=>?_;have ga2:aQ all 2=some 8:=hall 2;refine zs 3 fun _ Y=>?_;simp(disch:=omega)[nN,oQ,fY,wF,ga2];apply Y;refine zb 8 ?_ ?_<;>intro g1<;>try simp at g1
 refine zs 1 fun _ Y=>?_;simp(disch:=omega)[nN,oQ,fY,wF,ga2];apply Y;refine zg ga2 fun _ Y=>?_;simp(disch:=omega)[nN,oQ,fY,wF,ga2];refine dX (Vd (σ.length+10) (σ.length+9) (σ.length+3) (σ.length+8) (σ.length+1) σ.length (σ.length+2) _ ((Hc σ) 10 (by decide)) ((Hc σ) 9 (by decide)) ((Hc σ) 3 (by decide)) ((Hc σ) 1 (by decide)) ((Hc σ) 2 (by decide))) ?_;apply Y;simp(disch:=omega)[nN,oQ,fY,wF,ga2];apply Z;refine zI ?_ ?_<;>intro c2<;>try simp at c2
 apply zA;refine bT fun _ _ Z=>?_;refine zs 1 fun _ Y=>?_;simp(disch:=omega)[nN,oQ,fY,wF];apply Y;refine aG fun _ Y=>?_;simp(disch:=omega)[nN,oQ,fY,wF];refine dX (aDa σ.length _ (aOf σ [[],wU (σ.length+11) 18 (σ.length+11+3), [],kK])) ?_;apply Y;simp(disch:=omega)[nN,oQ,fY,wF];apply Z;refine zk [0,2] ?_;refine bT fun _ _ Z=>?_;refine zs 1 fun _ Y=>?_;simp(disch:=omega)[nN,oQ,fY,wF];apply Y;refine aG fun _ Y=>?_;simp(disch:=omega)[nN,oQ,fY,wF];refine dX (Zf _) ?_;apply Y;simp(disch:=omega)[nN,oQ,fY,wF];apply Z;refine zk [0,2,3] ?_;refine oL ⟨[],[],[],[],[]⟩ fun all hall _ Z=>?_;have ga4:aQ all 4=some 21:=hall 4;have ga10:aQ all 10=some 27:=hall 10;have ga15:aQ all 15=some 32:=hall 15;refine zs 5 fun _ Y=>?_;simp(disch:=omega)[nN,oQ,fY,wF,ga4,ga10,ga15];apply Y;refine zb 21 ?_ ?_<;>intro g3<;>try simp at g3
 refine zs 1 fun _ Y=>?_;simp(disch:=omega)[nN,oQ,fY,wF,ga4,ga10,ga15];apply Y;refine zg ga4 fun _ Y=>?_;simp(disch:=omega)[nN,oQ,fY,wF,ga4,ga10,ga15];refine dX (aBj _) ?_;apply Y;refine zs 4 fun _ Y=>?_;simp(disch:=omega)[nN,oQ,fY,wF,ga4,ga10,ga15];and_intros<;>(try omega);apply Y;refine zb 27 ?_ ?_<;>intro g4<;>try simp at g4
 refine zs 5 fun _ Y=>?_;simp(disch:=omega)[nN,oQ,fY,wF,ga4,ga10,ga15];and_intros<;>(try omega);apply Y;refine zb 32 ?_ ?_<;>intro g5<;>try simp at g5
 simp(disch:=omega)[nN,oQ,fY,wF,ga4,ga10,ga15];and_intros<;>(try omega);apply Z;apply aE;simp [aP]
theorem aC2(σ:List (List D)):Ct prog 5 [] σ (fun r σ'=>r= .v (.bool true)/\σ'=σ):=(aA1 σ).trim fun r σ' ⟨hr,J,hs⟩=>⟨σ,J,hs,rfl,by rw [hr];exact Sc.v _,fun n cs h=> .inl h,hr,rfl⟩
theorem aP7 {l:List HE} {n:Nat} (hn:n<=1000)(hg:∀e∈l, -9223372036854775808<=e.group/\e.group<=9223372036854775807):Wn (oM l n):=
 Ut _ (cZ (yX l n) hn) fun e he=>by
  unfold oM at he;obtain⟨x,hx,rfl⟩:=bW.1 he;exact⟨hg x (mW hx),cZ (oA 20 x.key) (by decide)⟩
theorem aQh {d:DRW} {t:TN} {v:VN} (ht:TG t)(hc:jF t<=25)(hv:VG v)(hvc:fG v<=25):PW (zN d t v):=aP1 ht hc hv hvc (oM d.hooks 12) (cZ (yX _ _) (by decide))
theorem aO9 {d:DRW} {t:TN} {v:VN} (ht:TG t)(hc:jF t<=25)(hv:VG v)(hvc:fG v<=25)(σ:List (List D)):Ct prog 9 [Hh (Ly d t v)] σ (fun r σ'=>r= .sl true ((mL (zN d t v)).map mC)/\σ'=σ):=by
 have hp:=aQh (d:=d) ht hc hv hvc;rw [<- aPf ht hc];exact aBt (Ly d t v) σ (Lh (Qi ht (by omega))) rfl hv (by show fG v<=100;omega) (cZ (Kz _ _) (by decide)) (cZ (Kt _ _) (by decide)) (cZ (yX _ _) (by decide))
theorem Ki(d:DRW)(σ:List (List D))(h:DOk d)(hg:∀e∈d.hooks, -9223372036854775808<=e.group/\e.group<=9223372036854775807):Ct prog 3 [Wo d] σ (fun r σ'=>r= .bool true):=by
 refine zf func3 ?_;refine bT fun _ _ Z=>?_;simp(disch:=omega);apply Z;apply aF;refine bT fun _ _ Z=>?_;refine aG fun _ Y=>?_;simp(disch:=omega);refine dX (aC2 _) ?_;apply Y;simp(disch:=omega);apply Z;refine zI ?_ ?_<;>intro c1<;>try simp at c1
 apply zA;refine bT fun _ _ Z=>?_;refine zs 1 fun _ Y=>?_;simp(disch:=omega);apply Y;refine aG fun _ Y=>?_;simp(disch:=omega);refine zcm (aKv d _ h) ?_;rintro _ τ3 ⟨⟨t,v,htg,htc,hvg,hvc,hr3⟩,J3,hτ3⟩;subst hr3;subst hτ3;have hpw:=aQh (d:=d) htg htc hvg hvc;have hcl:=aBr hpw;apply Y;simp(disch:=omega);apply Z;refine zd ⟨[],[],[],[],[]⟩ [.op {rL:=true},.pure,.op {rL:=true},.pure,.pure,.op {}] fun all hall _ Z=>?_;refine iK 1 fun _ Y=>?_;simp(disch:=omega);apply Y;refine bJ fun _ Y=>?_;simp(disch:=omega);refine pH (fun _=>(Fp (zN d t v) _ hpw (aP7 (by decide) hg))) ?_;apply Y;refine iK 1 fun _ Y=>?_;simp(disch:=omega);apply Y;refine bJ fun _ Y=>?_;simp(disch:=omega);refine pH (fun _=>(aO9 htg htc hvg hvc _)) ?_;apply Y;refine bJ fun _ Y=>?_;simp(disch:=omega);refine pH (fun _=>(Zu (mL (zN d t v)) (mL (zN d t v)) _ (by omega) (by omega))) ?_;apply Y;simp(disch:=omega);apply Z;apply aE;simp [aP]
end Go.Proofs.YtbdjepeabjangaaGreat
namespace Go.Vm
open Go Go.RowKit
variable {fs:Array Field}{n:Nat}{w:World}{α:Type}
def tO(w:World):Mem:=fun b o=>w.cell? ⟨b,o,none⟩
def CellsAt(w:World)(ds:List D)(cs:List Value):Prop:=
 ds.length=cs.length/\∀(i:Nat) (c:D) (y:Value),ds[i]?=some c->cs[i]?=some y->R (tO w) [] c y/\y.oneCell'=true/\c.flat=true
def OpenAt(w:World)(d:D)(cs:List Value):Prop:=CellsAt w d.cells cs/\d≠ .any
def Opens(P:Program)(t:TypeId) {α:Type} (f:α->D)(p:α->Prop):Prop:=
 ∀(H:Type) (enc:TypeId×Value->H) (w:World) (spare:Nat->Bool) (held:Bool) (fuel:Nat) (cs:List Value) (x:DataW H×List MemPlace),DataW.trod enc P w 0 spare held fuel t cs=some x->∃a,p a/\OpenAt w (f a) cs
theorem OpenAt.one {d:D} {y:Value} (hd:d.cells= [d])(hr:R (tO w) [] d y)(h1:y.oneCell'=true)(hf:d.flat=true)(ha:d≠ .any):OpenAt w d [y]:=by
 refine⟨⟨by rw [hd];rfl,fun i c z h2 h3=>?_⟩,ha⟩;rw [hd] at h2
 match i with
 | 0=>simp at h2 h3;subst h2;subst h3;exact⟨hr,h1,hf⟩
 | i+1=>simp at h2
section
variable {P:Program} {t:TypeId}
theorem Rv(ht:P.underlying t=some .bool):Opens P t D.bool (fun _=>True):=by
 intro H enc w spare held fuel cs x h;obtain⟨b,rfl,_⟩:=DataW.trod_bool ht h;exact⟨b,trivial,.one rfl (.v _ rfl) rfl rfl (by simp)⟩
theorem aAp(ht:P.underlying t=some (.int .i64)):Opens P t D.int (fun n=> -9223372036854775808<=n/\n<=9223372036854775807):=by
 intro H enc w spare held fuel cs x h;obtain⟨n,rfl,_,hw⟩:=DataW.trod_int ht h;refine⟨n,?_,.one rfl (.v _ rfl) rfl rfl (by simp)⟩;have h1:IntKind.i64.min= -9223372036854775808:=rfl;have h2:IntKind.i64.max=9223372036854775807:=rfl;simp only [Lit.wf,fF,iS] at hw;omega
theorem Xm(ht:P.underlying t=some .string):Opens P t D.str (fun s=>s.size<=maxLen):=by
 intro H enc w spare held fuel cs x h;obtain⟨s,rfl,_,hw⟩:=DataW.trod_string ht h;exact⟨s,hw,.one rfl (.v _ rfl) rfl rfl (by simp)⟩
theorem OpenAt.value {d:D} {cs:List Value} (h:OpenAt w d cs):∃x:Value,x.cells.toList=cs/\R (tO w) [] d x:=by
 have gen:d.cells= [d]->∃x:Value,x.cells.toList=cs/\R (tO w) [] d x:=by
  intro hd;have hl:=h.1.1;rw [hd] at hl;obtain⟨y,rfl⟩:=List.length_eq_one_iff.1 hl.symm;have:=h.1.2 0 d y (by rw [hd];rfl) rfl;exact⟨y,by rw [Value.cells_one this.2.1],this.1⟩
 cases d with
 | agg ds=>
  refine⟨.agg cs.toArray,by simp [Value.cells],.agg ds cs.toArray (by have:=h.1.1;simp [D.cells] at this;simp [this]) (fun i e y a1 a2=>(h.1.2 i e y a1 (by simpa using a2)).1) (fun i y a2=>?_)⟩;have a2':cs[i]?=some y:=by simpa using a2
  have hi:=(aJ.1 a2').1;have hl:=h.1.1;have hi2:i<(D.cells (.agg ds)).length:=by omega
  exact(h.1.2 i _ y (aS hi2) a2').2.1
 | _=>exact gen rfl
theorem Cp {Q:Nat->α->Prop} (h:∀i,i<n->∃a,Q i a):∃l:List α,l.length=n/\∀i a,l[i]?=some a->Q i a:=by
 induction n with
 | zero=>exact⟨[],rfl,by simp⟩
 | succ n ih =>
  obtain⟨l,hl,hq⟩:=ih (fun i hi=>h i (by omega));obtain⟨a,ha⟩:=h n (by omega);refine⟨l++ [a],by simp [hl],fun i b hb=>?_⟩;by_cases hi:i<l.length
  .rw [aX hi] at hb;exact hq i b hb
  rw [bR (by omega)] at hb;have h0:i - l.length=0:=by
   have:=(aJ.1 hb).1;simp at this;omega
  rw [h0] at hb;simp at hb;subst hb;rw [show i=n by omega];exact ha
theorem Rz {d:D} :d.ncells=d.cells.length:=by cases d <;> rfl
theorem kX {e:TypeId} {f:α->D} {p:α->Prop} (ht:P.underlying t=some (.slice e))(h:Opens P e f p)(hk:0<P.cellsOf e):Opens P t (fun l:List α=> .sl false (l.map f)) (fun l=>l.length<=maxLen/\∀a∈l,p a):=by
 intro H enc w spare held fuel cs x hx;rcases DataW.trod_slice ht hx with ⟨rfl,_⟩ | ⟨a,len,cap,elems,rest,n,_,rfl,_,_,hlc,hcm,hlen,hel,_,_⟩
 .exact⟨[],⟨by simp,by simp⟩,.one rfl (.nil false) rfl rfl (by simp)⟩
 by_cases h0:len=0
 .subst h0;exact⟨[],⟨by simp,by simp⟩,.one rfl (.emp false a cap hcm) rfl rfl (by simp)⟩
 have each:∀i,i<len->∃b:α×List Value,p b.1/\OpenAt w (f b.1) b.2/\w.cells? 0 (a.add (i * P.cellsOf e)) (P.cellsOf e)=some b.2:=by
  intro i hi;have hi':i<elems.length:=by omega
  have:=hel i hi;rw [aS hi',kF] at this;obtain⟨ds,h1,h2⟩:=this;obtain⟨b,hb,ho⟩:=h H enc w spare held n ds _ h2;exact⟨(b,ds),hb,ho,h1⟩
 obtain⟨L,hL,hq⟩:=Cp each;have each2:∀i,i<len->∃v:Value,∃b,L[i]?=some b/\v.cells.toList=b.2/\R (tO w) [] (f b.1) v:=by
  intro i hi;have hi':i<L.length:=by omega
  have hb:L[i]?=some L[i]:=aS hi';obtain⟨v,h1,h2⟩:=(hq i _ hb).2.1.value;exact⟨v,_,hb,h1,h2⟩
 obtain⟨V,hV,hv⟩:=Cp each2;have hspot:a.spot=none:=by
  have hi':0<L.length:=by omega
  have h1:=(hq 0 _ (aS hi')).2.2;obtain⟨_,hl,hc⟩:=World.cells?_some h1;have h2:=hc 0 hk;rw [aS (by omega)] at h2;simpa [Addr.add] using World.cell?_spot h2
 obtain⟨b,off,spot⟩:=a;simp only at hspot;subst hspot;refine⟨L.map (·.1),⟨by rw [cG,hL];exact cZ hlc hcm,fun y hy=>?_⟩,.one rfl ?_ rfl rfl (by simp)⟩
 .obtain⟨z,hz,rfl⟩:=bW.1 hy;obtain⟨i,hi⟩:=eK hz;exact(hq i z hi).1
 refine .sl false _ b off len cap (P.cellsOf e) V (by simp [hV,hL]) (by simp [hL]) hk hlc hcm (fun i d x h1 h2=>?_) (fun i d h1=>?_) (fun i x h1=>?_)
 .obtain⟨z,hz,h3,h4⟩:=hv i x h2;simp only [cB,hz,fA,aV] at h1;subst h1;exact h4
 .simp only [cB,Option.map_map,dG] at h1;obtain⟨z,hz,rfl⟩:=h1;obtain⟨_,h5,h6⟩:=hq i z hz;show(f z.1).ncells=_
  rw [Rz,h5.1.1];exact(World.cells?_some h6).2.1
 obtain⟨z,hz,h3,h4⟩:=hv i x h1;obtain⟨_,h5,h6⟩:=hq i z hz;obtain⟨_,h7,h8⟩:=World.cells?_some h6;have hsz:x.cells.size=P.cellsOf e:=by rw [<- h7,<- h3,bP]
 refine⟨hsz,fun j c hj=>?_⟩;have hjl:j<P.cellsOf e:=by rw [<- hsz];exact(dH.1 hj).1
 have hj2:z.2[j]?=some c:=by rw [<- h3];simpa using hj
 have hj3:j<(f z.1).cells.length:=by rw [h5.1.1];omega
 refine⟨(h5.1.2 j _ c (aS hj3) hj2).2.1,?_⟩;have:=h8 j hjl;rw [Addr.add_none,Addr.add_none,hj2] at this;show w.cell? _=_
 rw [show off+(i * P.cellsOf e+j)=off+i * P.cellsOf e+j by omega];exact this
theorem CellsAt.append {a b:List D} {x y:List Value} (h1:CellsAt w a x)(h2:CellsAt w b y):CellsAt w (a++b) (x++y):=by
 refine⟨by simp [h1.1,h2.1],fun i c v e1 e2=>?_⟩;by_cases hi:i<a.length
 .rw [aX hi] at e1;rw [aX (by have:=h1.1;omega)] at e2;exact h1.2 i c v e1 e2
 rw [bR (by omega)] at e1;rw [bR (by have:=h1.1;omega)] at e2;rw [<- h1.1] at e2;exact h2.2 _ c v e1 e2
def Mh(P:Program)(fs:List Field)(k n:Nat) {α:Type} (f:α->List D)(p:α->Prop):Prop:=
 ∀(H:Type) (enc:TypeId×Value->H) (w:World) (spare:Nat->Bool) (held:Bool) (fuel:Nat) (cs:List Value),cs.length=n->
  (∀fl∈fs,∃x:DataW H×List MemPlace,DataW.trod enc P w 0 spare held fuel fl.type ((cs.drop fl.offset).take (P.cellsOf fl.type))=some x)->∃a,p a/\CellsAt w (f a) (cs.drop k)
theorem jU :Mh P [] n n (fun _:Unit=> []) (fun _=>True):=by
 intro H enc w spare held fuel cs hn _;refine⟨(),trivial,?_,fun i c y h=>by simp at h⟩;rw [vE (by omega)];rfl
theorem bH {fl:Field} {fs:List Field} {k m:Nat} {β:Type} {f:α->D} {p:α->Prop} {g:β->List D} {q:β->Prop} (ho:fl.offset=k)(hc:P.cellsOf fl.type=m)(h1:Opens P fl.type f p)(h2:Mh P fs (k+m) n g q):
  Mh P (fl::fs) k n (fun ab:α×β=>(f ab.1).cells++g ab.2) (fun ab=>p ab.1/\q ab.2):=by
 intro H enc w spare held fuel cs hn hall;obtain⟨x,hx⟩:=hall fl (by simp);obtain⟨a,ha,hoa⟩:=h1 H enc w spare held fuel _ x hx;obtain⟨b,hb,hob⟩:=h2 H enc w spare held fuel cs hn (fun fl' h'=>hall fl' (by simp [h']));refine⟨(a,b),⟨ha,hb⟩,?_⟩;have e:cs.drop k=(cs.drop k).take m++cs.drop (k+m):=by
  rw [<- List.drop_drop];exact(fP m _).symm
 rw [e];rw [ho,hc] at hoa;exact hoa.1.append hob
theorem hU {f:α->List D} {p:α->Prop} (ht:P.underlying t=some (.struct fs))(h:Mh P fs.toList 0 (P.cellsOf t) f p):Opens P t (fun a=> .agg (f a)) p:=by
 intro H enc w spare held fuel cs x hx;obtain⟨xs,n,_,_,hl,hxl,hall⟩:=DataW.trod_struct ht hx;obtain⟨a,ha,hc⟩:=h H enc w spare held n cs hl (fun fl hfl=>by
  obtain⟨i,hi⟩:=eK hfl;rw [dA] at hi;have h1:=hall i fl hi;have hi2:i<xs.length:=by rw [hxl];exact(dH.1 hi).1
  rw [aS hi2] at h1;exact⟨_,h1⟩)
 rw [rS] at hc;exact⟨a,ha,hc,by simp⟩
theorem Opens.map {β:Type} {f:α->D} {p:α->Prop} {g:β->D} {q:β->Prop} (h:Opens P t f p)(φ:α->β)(hφ:∀a,f a=g (φ a))(hq:∀a,p a->q (φ a)):Opens P t g q:=by
 intro H enc w spare held fuel cs x hx;obtain⟨a,ha,ho⟩:=h H enc w spare held fuel cs x hx;exact⟨φ a,hq a ha,by rw [<- hφ];exact ho⟩
theorem Ed {r:Reach} {base:Nat} {v:Value} (ht:P.underlying t=some (.struct fs))(h:Value.okWide P w r base t v):∃cs,v= .agg cs:=by
 simp only [Value.okWide,ht] at h;obtain⟨cs,h1,_⟩:=h;exact⟨cs,h1⟩
theorem aAk {H:Type} {enc:TypeId×Value->H} {f:α->D} {p:α->Prop} {spare:Nat->Bool} {held:Bool} {cs:Array Value} {d:DataW H} {ps:List MemPlace} (h:Opens P t f p)(hf:∀a,∃ds,f a= .agg ds)(ht:DataW.Trod enc P w 0 spare held t (.agg cs) d ps):
  ∃a,p a/\R (tO w) [] (f a) (.agg cs)/\∀X h q,Own w (tO w) [] X h q (f a) (.agg cs):=by
 obtain⟨fuel,hx⟩:=ht;obtain⟨a,ha,ho⟩:=h H enc w spare held fuel _ _ hx;obtain⟨ds,hd⟩:=hf a;refine⟨a,ha,?_⟩;rw [hd] at ho |-;obtain⟨⟨hl,hc⟩,_⟩:=ho;have hl':cs.size=ds.length:=by simpa [D.cells,Value.cells] using hl.symm
 have hc':∀(i:Nat) (c:D) (y:Value),ds[i]?=some c->cs[i]?=some y->R (tO w) [] c y/\y.oneCell'=true/\c.flat=true:=fun i c y h1 h2=>hc i c y h1 (by simpa [Value.cells] using h2);refine⟨.agg ds cs hl' (fun i d x h1 h2=>(hc' i d x h1 h2).1) (fun i x h2=>?_),fun X h q=> .agg q ds cs fun i d x h1 h2=> .flat _ _ _ (hc' i d x h1 h2).2.2⟩;have hi:=(dH.1 h2).1;exact(hc' i _ x (aS (by omega)) h2).2.1
theorem aOe {N:FuncId} {ds:List D} {vs:Array Value} {W:World} (hct:Ct P N ds [] (fun r _=>r= .bool true))(hl:vs.size=ds.length)
  (ha:∀(i:Nat) (d:D) (v:Value),ds[i]?=some d->vs[i]?=some v->R (tO W) [] d v/\∀X h q,Own W (tO W) [] X h q d v):
  Calls P N vs W fun e W'=>e= .returned (.bool true)/\Below W.heap.size W W':=by
 refine(hct.2 W ⟨tO W,fun _=>none, [], []⟩ vs hl rfl ⟨fun b o c h=>h,fun b t h=>by simp at h,fun t=>?_,rfl,fun n b cs h=>by simp at h,rfl,fun n b cs h=>by simp at h⟩).mono ?_
 .show SlotOk W _ t (fB ds t) (cC vs t)
  cases hd:ds[t]? with
  | none=>
   simp only [fB,hd];exact⟨.any _,.flat _ _ _ rfl⟩
  | some d=>
   have hlt:t<vs.size:=by rw [hl];exact(aJ.1 hd).1
   have hv:vs[t]?=some vs[t]:=aZ hlt;have hvv:cC vs t=vs[t]:=by simp [cC,hlt]
   rw [sX hd,hvv];obtain⟨h1,h2⟩:=ha t d _ hd hv;exact⟨h1,h2 _ _ _⟩
 rintro e W' ⟨r,σ',x,g',rfl,rfl,_,hf,hok⟩;have hs:=hok.slot 0;have hs':R g'.M g'.bs (.bool true) x:=hs.1;exact⟨by rw [hs'.vEq],hf.os,hf.tape,hf.output,hf.size,fun k hk=>(hf.keep k hk rfl).1⟩
end
end Go.Vm
