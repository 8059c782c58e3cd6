import Derived.Test.YtbdjepeabjangaaGreatWkAu25
import Derived.Test.YtbdjepeabjangaaGreatVm22
import Derived.ProofKit
set_option linter.all false
set_option maxRecDepth 20000
set_option maxHeartbeats 8000000
open Go.Proofs.Tryz
namespace Go.Proofs.YtbdjepeabjangaaGreat
open Go Go.Vm
variable {l:List HE}
theorem aJ3(σ J:List (List D)):NewAt (σ++(Wx σ.length++J)) σ.length:=by rw [<- bN];exact(Dx σ).app J
theorem Uu  (σ:List (List D))  :Ct prog 5 [] σ (fun r σ'=>r= .v (.bool true)/\∃J,σ'=σ++J):=by
 refine zf func5 ?_;refine cL fun _ _ Z=>?_;simp(disch:=omega)[lQ,mX,fI,uE];apply Z;refine cL fun _ _ Z=>?_;refine zs 1 fun _ Y=>?_;simp(disch:=omega)[lQ,mX,fI,uE];apply Y;refine aD fun _ Y=>?_;simp(disch:=omega)[lQ,mX,fI,uE];refine eH (aJt _) ?_;apply Y;simp(disch:=omega)[lQ,mX,fI,uE];apply Z;apply aE;refine vJ ⟨[],[],[],[],[]⟩ fun all hall _ Z=>?_;have ga2:aY all 2=some 8:=hall 2;refine zs 3 fun _ Y=>?_;simp(disch:=omega)[lQ,mX,fI,uE,ga2];apply Y;refine zb 8 ?_ ?_<;>intro g1<;>try simp at g1
 refine zs 1 fun _ Y=>?_;simp(disch:=omega)[lQ,mX,fI,uE,ga2];apply Y;refine zg ga2 fun _ Y=>?_;simp(disch:=omega)[lQ,mX,fI,uE,ga2];refine eH (Qw (σ.length+10) (σ.length+9) (σ.length+3) (σ.length+8) (σ.length+1) σ.length (σ.length+2) _ ((Dx σ) 10 (by decide)) ((Dx σ) 9 (by decide)) ((Dx σ) 3 (by decide)) ((Dx σ) 1 (by decide)) ((Dx σ) 2 (by decide))) ?_;apply Y;simp(disch:=omega)[lQ,mX,fI,uE,ga2];apply Z;refine zI ?_ ?_<;>intro c2<;>try simp at c2
 apply zA;refine cL fun _ _ Z=>?_;refine zs 1 fun _ Y=>?_;simp(disch:=omega)[lQ,mX,fI,uE];apply Y;refine aD fun _ Y=>?_;simp(disch:=omega)[lQ,mX,fI,uE];refine eH (aBu σ.length _ (aJ3 σ [[],uV (σ.length+11) 18 (σ.length+11+3), [],jI])) ?_;apply Y;simp(disch:=omega)[lQ,mX,fI,uE];apply Z;refine zk [0,2] ?_;refine cL fun _ _ Z=>?_;refine zs 1 fun _ Y=>?_;simp(disch:=omega)[lQ,mX,fI,uE];apply Y;refine aD fun _ Y=>?_;simp(disch:=omega)[lQ,mX,fI,uE];refine eH (Sq _) ?_;apply Y;simp(disch:=omega)[lQ,mX,fI,uE];apply Z;refine zk [0,2,3] ?_;refine vJ ⟨[],[],[],[],[]⟩ fun all hall _ Z=>?_;have ga4:aY all 4=some 21:=hall 4;have ga10:aY all 10=some 27:=hall 10;have ga15:aY all 15=some 32:=hall 15;refine zs 5 fun _ Y=>?_;simp(disch:=omega)[lQ,mX,fI,uE,ga4,ga10,ga15];apply Y;refine zb 21 ?_ ?_<;>intro g3<;>try simp at g3
 refine zs 1 fun _ Y=>?_;simp(disch:=omega)[lQ,mX,fI,uE,ga4,ga10,ga15];apply Y;refine zg ga4 fun _ Y=>?_;simp(disch:=omega)[lQ,mX,fI,uE,ga4,ga10,ga15];refine eH (We _) ?_;apply Y;refine zs 4 fun _ Y=>?_;simp(disch:=omega)[lQ,mX,fI,uE,ga4,ga10,ga15];and_intros<;>(try omega);apply Y;refine zb 27 ?_ ?_<;>intro g4<;>try simp at g4
 refine zs 5 fun _ Y=>?_;simp(disch:=omega)[lQ,mX,fI,uE,ga4,ga10,ga15];and_intros<;>(try omega);apply Y;refine zb 32 ?_ ?_<;>intro g5<;>try simp at g5
 simp(disch:=omega)[lQ,mX,fI,uE,ga4,ga10,ga15];and_intros<;>(try omega);apply Z;apply aC;simp [aT]
theorem aA8(σ:List (List D)):Ct prog 5 [] σ (fun r σ'=>r= .v (.bool true)/\σ'=σ):=(Uu σ).trim fun r σ' ⟨hr,J,hs⟩=>⟨σ,J,hs,rfl,by rw [hr];exact Sc.v _,fun n cs h=> .inl h,hr,rfl⟩
theorem aMo {n:Nat} (hn:n<=1000)(hg:∀e∈l, -9223372036854775808<=e.group/\e.group<=9223372036854775807):Qo (mK l n):=
 Sa _ (dJ (vP l n) hn) fun e he=>by
  unfold mK at he;obtain⟨x,hx,rfl⟩:=bY.1 he;exact⟨hg x (qL hx),dJ (mE 20 x.key) (by decide)⟩
theorem aJ2(d:DRW)(t:TN)(v:VN)(l:List HE):mP { Dg d t v with hooks:=l } =mP { Dg d t v with hooks:= [] } ++hkF l:=by
 unfold mP pK pI hkF;simp [lG]
theorem aLk (h:lG l=false):hkF l= [⟨6,0⟩]:=by unfold hkF;simp [h]
theorem aJa (h:lG l=true):hkF l= []:=by unfold hkF;simp [h]
theorem aGa(X:List FND)(a:D):(List.map rZ X++ [a])[X.length]?=some a:=by simp
theorem Kn(v:VN):0<fB v:=by rw [kZ];omega
theorem Mb(d:DRW)(l:List HE)(σ:List (List D))(h:DOk d)(hl:l.length<=9223372036854775807)(hg:∀e∈l, -9223372036854775808<=e.group/\e.group<=9223372036854775807):Ct prog 4 [Ry d,.sl false (l.map lI)] σ (fun r σ'=>r= .bool true):=by
 refine zf func4 ?_;refine cL fun _ _ Z=>?_;simp(disch:=omega);apply Z;apply aE;refine cL fun _ _ Z=>?_;refine aD fun _ Y=>?_;simp(disch:=omega);refine eH (aA8 _) ?_;apply Y;simp(disch:=omega);apply Z;refine zI ?_ ?_<;>intro c1<;>try simp at c1
 apply zA;refine cL fun _ _ Z=>?_;refine zs 1 fun _ Y=>?_;simp(disch:=omega);apply Y;refine aD fun _ Y=>?_;simp(disch:=omega);refine Xl (aGq d _ h) ?_;rintro _ τ3 ⟨⟨t,v,htg,htc,hvg,hvc,hr3⟩,J3,hτ3⟩;subst hr3;subst hτ3;have hw0:=aH2 (d:=d) htg htc hvg hvc [] (by decide);have hw1:=aH2 (d:=d) htg htc hvg hvc (mK l 20) (dJ (vP _ _) (by decide));have hce:=aJ2 d t v (mK l 20);have hcl:=Vv hw0;have hol:=vP l 20;have hc0:=fun σ=>vW _ σ hw0 Pl;have hc1:=fun σ=>vW _ σ hw1 (aMo (by decide) hg);rw [hce] at hc1;generalize mP { Dg d t v with hooks:= [] } =X at hce hcl hc0 hc1;apply Y;simp(disch:=omega);apply Z;refine cL fun _ _ Z=>?_;refine zs 1 fun _ Y=>?_;simp(disch:=omega);apply Y;refine aD fun _ Y=>?_;simp(disch:=omega);refine eH (Lw l 20 _ hl (by decide)) ?_;apply Y;simp(disch:=omega);apply Z;refine zk [2,4,5,7,8] ?_;refine cL fun _ _ Z=>?_;simp(disch:=omega);apply Z;refine cL fun _ _ Z=>?_;refine zs 1 fun _ Y=>?_;simp(disch:=omega);apply Y;refine aD fun _ Y=>?_;simp(disch:=omega);refine eH (hc0 _) ?_;apply Y;simp(disch:=omega);apply Z;refine cL fun _ _ Z=>?_;simp(disch:=omega);apply Z;refine cL fun _ _ Z=>?_;refine zs 1 fun _ Y=>?_;simp(disch:=omega);apply Y;refine aD fun _ Y=>?_;simp(disch:=omega);refine eH (hc1 _) ?_;apply Y;simp(disch:=omega);apply Z;refine zk [2,4,8,9,10] ?_;refine cL fun _ _ Z=>?_;simp(disch:=omega);and_intros<;>(try omega);apply Z;apply aE;refine cL fun _ _ Z=>?_;refine zs 1 fun _ Y=>?_;simp(disch:=omega);apply Y;refine aD fun _ Y=>?_;simp(disch:=omega);refine eH (Mr (mK l 20) _ (by omega)) ?_;apply Y;simp(disch:=omega);apply Z;refine zI ?_ ?_<;>intro c2<;>try simp at c2
 .have hk9:=aLk c2;have hrg:=aGa X (D.agg [D.v (Value.int IntKind.i64 6),D.v (Value.int IntKind.i64 0)]);refine Dd fun _ _ Z=>?_;simp(disch:=omega)[hk9,hrg];and_intros<;>(try omega);apply Z;apply kI;refine zk [2,4,9,10,11] ?_;refine vJ ⟨[],[],[],[],[]⟩ fun all hall _ Z=>?_;have ga4:aY all 4=some 42:=hall 4;have ga9:aY all 9=some 47:=hall 9;have ga19:aY all 19=some 57:=hall 19;refine zs 5 fun _ Y=>?_;simp(disch:=omega)[ga4,ga9,ga19,hk9,hrg];and_intros<;>(try omega);apply Y;refine zb 42 ?_ ?_<;>intro g3<;>try simp at g3
  refine zs 5 fun _ Y=>?_;simp(disch:=omega)[ga4,ga9,ga19,hk9,hrg];and_intros<;>(try omega);apply Y;refine zb 47 ?_ ?_<;>intro g4<;>try simp at g4
  .exfalso;omega
  refine zs 8 fun _ Y=>?_;simp(disch:=omega)[ga4,ga9,ga19,hk9,hrg];and_intros<;>(try omega);apply Y;refine zs 2 fun _ Y=>?_;simp(disch:=omega)[ga4,ga9,ga19,hk9,hrg];apply Y;refine zb 57 ?_ ?_<;>intro g5<;>try simp at g5
  refine zs 2 fun _ Y=>?_;simp(disch:=omega)[ga4,ga9,ga19,hk9,hrg];apply Y;refine zg ga19 fun _ Y=>?_;simp(disch:=omega)[ga4,ga9,ga19,hk9,hrg];refine Xl (Ak d.view 8 _ (by decide) h.2.1.1 h.2.1.2) ?_;rintro _ τ6 ⟨⟨v8,hr6,hv8,hc8⟩,hs6⟩;subst hr6;subst hs6;have hp8:=Kn v8;apply Y;refine zg ga19 fun _ Y=>?_;simp(disch:=omega)[ga4,ga9,ga19,hk9,hrg];refine eH (Cw v8 (by omega) _) ?_;apply Y;simp(disch:=omega)[ga4,ga9,ga19,hk9,hrg];apply Z;apply aC;simp [aT]
  all_goals omega
 have hk9:=aJa c2;apply zA;refine zk [2,4,9,10,11] ?_;refine vJ ⟨[],[],[],[],[]⟩ fun all hall _ Z=>?_;have ga4:aY all 4=some 42:=hall 4;have ga9:aY all 9=some 47:=hall 9;have ga19:aY all 19=some 57:=hall 19;refine zs 5 fun _ Y=>?_;simp(disch:=omega)[ga4,ga9,ga19,hk9];and_intros<;>(try omega);apply Y;refine zb 42 ?_ ?_<;>intro g6<;>try simp at g6
 refine zs 5 fun _ Y=>?_;simp(disch:=omega)[ga4,ga9,ga19,hk9];and_intros<;>(try omega);apply Y;refine zb 47 ?_ ?_<;>intro g7<;>try simp at g7
 refine zs 8 fun _ Y=>?_;simp(disch:=omega)[ga4,ga9,ga19,hk9];apply Y;refine zs 2 fun _ Y=>?_;simp(disch:=omega)[ga4,ga9,ga19,hk9];apply Y;refine zs 2 fun _ Y=>?_;simp(disch:=omega)[ga4,ga9,ga19,hk9];apply Y;refine zg ga19 fun _ Y=>?_;simp(disch:=omega)[ga4,ga9,ga19,hk9];refine Xl (Ak d.view 8 _ (by decide) h.2.1.1 h.2.1.2) ?_;rintro _ τ6 ⟨⟨v8,hr6,hv8,hc8⟩,hs6⟩;subst hr6;subst hs6;have hp8:=Kn v8;apply Y;refine zg ga19 fun _ Y=>?_;simp(disch:=omega)[ga4,ga9,ga19,hk9];refine eH (Cw v8 (by omega) _) ?_;apply Y;simp(disch:=omega)[ga4,ga9,ga19,hk9];apply Z;apply aC;simp [aT]
 all_goals omega
end Go.Proofs.YtbdjepeabjangaaGreat
namespace Go.Vm
open Go Go.RowKit
variable {fs:Array Field}{n:Nat}{ps:List MemPlace}{spare:Nat->Bool}{w:World}{α:Type}
def qF(w:World):Mem:=fun b o=>w.cell? ⟨b,o,none⟩
def CellsAt(w:World)(ds:List D)(cs:List Value):Prop:=
 ds.length=cs.length/\∀(i:Nat) (c:D) (y:Value),ds[i]?=some c->cs[i]?=some y->R (qF w) [] c y/\y.oneCell'=true/\c.flat=true
def OpenAt(w:World)(d:D)(cs:List Value):Prop:=CellsAt w d.cells cs/\d≠ .any
def Opens(P:Program)(t:TypeId) {α:Type} (f:α->D)(p:α->Prop):Prop:=
 ∀(H:Type) (enc:TypeId×Value->H) (w:World) (spare:Nat->Bool) (held:Bool) (fuel:Nat) (cs:List Value) (x:DataW H×List MemPlace),DataW.trod enc P w 0 spare held fuel t cs=some x->∃a,p a/\OpenAt w (f a) cs
theorem OpenAt.one {d:D} {y:Value} (hd:d.cells= [d])(hr:R (qF w) [] d y)(h1:y.oneCell'=true)(hf:d.flat=true)(ha:d≠ .any):OpenAt w d [y]:=by
 refine⟨⟨by rw [hd];rfl,fun i c z h2 h3=>?_⟩,ha⟩;rw [hd] at h2
 match i with
 | 0=>simp at h2 h3;subst h2;subst h3;exact⟨hr,h1,hf⟩
 | i+1=>simp at h2
section
variable {P:Program} {t:TypeId}
theorem Pn(ht:P.underlying t=some .bool):Opens P t D.bool (fun _=>True):=by
 intro H enc w spare held fuel cs x h;obtain⟨b,rfl,_⟩:=DataW.trod_bool ht h;exact⟨b,trivial,.one rfl (.v _ rfl) rfl rfl (by simp)⟩
theorem Ul(ht:P.underlying t=some (.int .i64)):Opens P t D.int (fun n=> -9223372036854775808<=n/\n<=9223372036854775807):=by
 intro H enc w spare held fuel cs x h;obtain⟨n,rfl,_,hw⟩:=DataW.trod_int ht h;refine⟨n,?_,.one rfl (.v _ rfl) rfl rfl (by simp)⟩;have h1:IntKind.i64.min= -9223372036854775808:=rfl;have h2:IntKind.i64.max=9223372036854775807:=rfl;simp only [Lit.wf,fZ,jB] at hw;omega
theorem Ui(ht:P.underlying t=some .string):Opens P t D.str (fun s=>s.size<=maxLen):=by
 intro H enc w spare held fuel cs x h;obtain⟨s,rfl,_,hw⟩:=DataW.trod_string ht h;exact⟨s,hw,.one rfl (.v _ rfl) rfl rfl (by simp)⟩
theorem OpenAt.value {d:D} {cs:List Value} (h:OpenAt w d cs):∃x:Value,x.cells.toList=cs/\R (qF w) [] d x:=by
 have gen:d.cells= [d]->∃x:Value,x.cells.toList=cs/\R (qF w) [] d x:=by
  intro hd;have hl:=h.1.1;rw [hd] at hl;obtain⟨y,rfl⟩:=List.length_eq_one_iff.1 hl.symm;have:=h.1.2 0 d y (by rw [hd];rfl) rfl;exact⟨y,by rw [Value.cells_one this.2.1],this.1⟩
 cases d with
 | agg ds=>
  refine⟨.agg cs.toArray,by simp [Value.cells],.agg ds cs.toArray (by have:=h.1.1;simp [D.cells] at this;simp [this]) (fun i e y a1 a2=>(h.1.2 i e y a1 (by simpa using a2)).1) (fun i y a2=>?_)⟩;have a2':cs[i]?=some y:=by simpa using a2
  have hi:=(aH.1 a2').1;have hl:=h.1.1;have hi2:i<(D.cells (.agg ds)).length:=by omega
  exact(h.1.2 i _ y (aN hi2) a2').2.1
 | _=>exact gen rfl
theorem zM {Q:Nat->α->Prop} (h:∀i,i<n->∃a,Q i a):∃l:List α,l.length=n/\∀i a,l[i]?=some a->Q i a:=by
 induction n with
 | zero=>exact⟨[],rfl,by simp⟩
 | succ n ih =>
  obtain⟨l,hl,hq⟩:=ih (fun i hi=>h i (by omega));obtain⟨a,ha⟩:=h n (by omega);refine⟨l++ [a],by simp [hl],fun i b hb=>?_⟩;by_cases hi:i<l.length
  .rw [aU hi] at hb;exact hq i b hb
  rw [bI (by omega)] at hb;have h0:i - l.length=0:=by
   have:=(aH.1 hb).1;simp at this;omega
  rw [h0] at hb;simp at hb;subst hb;rw [show i=n by omega];exact ha
theorem Ox {d:D} :d.ncells=d.cells.length:=by cases d <;> rfl
theorem jP {e:TypeId} {f:α->D} {p:α->Prop} (ht:P.underlying t=some (.slice e))(h:Opens P e f p)(hk:0<P.cellsOf e):Opens P t (fun l:List α=> .sl false (l.map f)) (fun l=>l.length<=maxLen/\∀a∈l,p a):=by
 intro H enc w spare held fuel cs x hx;rcases DataW.trod_slice ht hx with ⟨rfl,_⟩ | ⟨a,len,cap,elems,rest,n,_,rfl,_,_,hlc,hcm,hlen,hel,_,_⟩
 .exact⟨[],⟨by simp,by simp⟩,.one rfl (.nil false) rfl rfl (by simp)⟩
 by_cases h0:len=0
 .subst h0;exact⟨[],⟨by simp,by simp⟩,.one rfl (.emp false a cap hcm) rfl rfl (by simp)⟩
 have each:∀i,i<len->∃b:α×List Value,p b.1/\OpenAt w (f b.1) b.2/\w.cells? 0 (a.add (i * P.cellsOf e)) (P.cellsOf e)=some b.2:=by
  intro i hi;have hi':i<elems.length:=by omega
  have:=hel i hi;rw [aN hi',jE] at this;obtain⟨ds,h1,h2⟩:=this;obtain⟨b,hb,ho⟩:=h H enc w spare held n ds _ h2;exact⟨(b,ds),hb,ho,h1⟩
 obtain⟨L,hL,hq⟩:=zM each;have each2:∀i,i<len->∃v:Value,∃b,L[i]?=some b/\v.cells.toList=b.2/\R (qF w) [] (f b.1) v:=by
  intro i hi;have hi':i<L.length:=by omega
  have hb:L[i]?=some L[i]:=aN hi';obtain⟨v,h1,h2⟩:=(hq i _ hb).2.1.value;exact⟨v,_,hb,h1,h2⟩
 obtain⟨V,hV,hv⟩:=zM each2;have hspot:a.spot=none:=by
  have hi':0<L.length:=by omega
  have h1:=(hq 0 _ (aN hi')).2.2;obtain⟨_,hl,hc⟩:=World.cells?_some h1;have h2:=hc 0 hk;rw [aN (by omega)] at h2;simpa [Addr.add] using World.cell?_spot h2
 obtain⟨b,off,spot⟩:=a;simp only at hspot;subst hspot;refine⟨L.map (·.1),⟨by rw [cC,hL];exact dJ hlc hcm,fun y hy=>?_⟩,.one rfl ?_ rfl rfl (by simp)⟩
 .obtain⟨z,hz,rfl⟩:=bY.1 hy;obtain⟨i,hi⟩:=dY hz;exact(hq i z hi).1
 refine .sl false _ b off len cap (P.cellsOf e) V (by simp [hV,hL]) (by simp [hL]) hk hlc hcm (fun i d x h1 h2=>?_) (fun i d h1=>?_) (fun i x h1=>?_)
 .obtain⟨z,hz,h3,h4⟩:=hv i x h2;simp only [bP,hz,eT,aP] at h1;subst h1;exact h4
 .simp only [bP,Option.map_map,cU] at h1;obtain⟨z,hz,rfl⟩:=h1;obtain⟨_,h5,h6⟩:=hq i z hz;show(f z.1).ncells=_
  rw [Ox,h5.1.1];exact(World.cells?_some h6).2.1
 obtain⟨z,hz,h3,h4⟩:=hv i x h1;obtain⟨_,h5,h6⟩:=hq i z hz;obtain⟨_,h7,h8⟩:=World.cells?_some h6;have hsz:x.cells.size=P.cellsOf e:=by rw [<- h7,<- h3,bF]
 refine⟨hsz,fun j c hj=>?_⟩;have hjl:j<P.cellsOf e:=by rw [<- hsz];exact(cZ.1 hj).1
 have hj2:z.2[j]?=some c:=by rw [<- h3];simpa using hj
 have hj3:j<(f z.1).cells.length:=by rw [h5.1.1];omega
 refine⟨(h5.1.2 j _ c (aN hj3) hj2).2.1,?_⟩;have:=h8 j hjl;rw [Addr.add_none,Addr.add_none,hj2] at this;show w.cell? _=_
 rw [show off+(i * P.cellsOf e+j)=off+i * P.cellsOf e+j by omega];exact this
theorem CellsAt.append {a b:List D} {x y:List Value} (h1:CellsAt w a x)(h2:CellsAt w b y):CellsAt w (a++b) (x++y):=by
 refine⟨by simp [h1.1,h2.1],fun i c v e1 e2=>?_⟩;by_cases hi:i<a.length
 .rw [aU hi] at e1;rw [aU (by have:=h1.1;omega)] at e2;exact h1.2 i c v e1 e2
 rw [bI (by omega)] at e1;rw [bI (by have:=h1.1;omega)] at e2;rw [<- h1.1] at e2;exact h2.2 _ c v e1 e2
def Il(P:Program)(fs:List Field)(k n:Nat) {α:Type} (f:α->List D)(p:α->Prop):Prop:=
 ∀(H:Type) (enc:TypeId×Value->H) (w:World) (spare:Nat->Bool) (held:Bool) (fuel:Nat) (cs:List Value),cs.length=n->
  (∀fl∈fs,∃x:DataW H×List MemPlace,DataW.trod enc P w 0 spare held fuel fl.type ((cs.drop fl.offset).take (P.cellsOf fl.type))=some x)->∃a,p a/\CellsAt w (f a) (cs.drop k)
theorem iT :Il P [] n n (fun _:Unit=> []) (fun _=>True):=by
 intro H enc w spare held fuel cs hn _;refine⟨(),trivial,?_,fun i c y h=>by simp at h⟩;rw [tE (by omega)];rfl
theorem bA {fl:Field} {fs:List Field} {k m:Nat} {β:Type} {f:α->D} {p:α->Prop} {g:β->List D} {q:β->Prop} (ho:fl.offset=k)(hc:P.cellsOf fl.type=m)(h1:Opens P fl.type f p)(h2:Il P fs (k+m) n g q):
  Il P (fl::fs) k n (fun ab:α×β=>(f ab.1).cells++g ab.2) (fun ab=>p ab.1/\q ab.2):=by
 intro H enc w spare held fuel cs hn hall;obtain⟨x,hx⟩:=hall fl (by simp);obtain⟨a,ha,hoa⟩:=h1 H enc w spare held fuel _ x hx;obtain⟨b,hb,hob⟩:=h2 H enc w spare held fuel cs hn (fun fl' h'=>hall fl' (by simp [h']));refine⟨(a,b),⟨ha,hb⟩,?_⟩;have e:cs.drop k=(cs.drop k).take m++cs.drop (k+m):=by
  rw [<- List.drop_drop];exact(gL m _).symm
 rw [e];rw [ho,hc] at hoa;exact hoa.1.append hob
theorem gO {f:α->List D} {p:α->Prop} (ht:P.underlying t=some (.struct fs))(h:Il P fs.toList 0 (P.cellsOf t) f p):Opens P t (fun a=> .agg (f a)) p:=by
 intro H enc w spare held fuel cs x hx;obtain⟨xs,n,_,_,hl,hxl,hall⟩:=DataW.trod_struct ht hx;obtain⟨a,ha,hc⟩:=h H enc w spare held n cs hl (fun fl hfl=>by
  obtain⟨i,hi⟩:=dY hfl;rw [cQ] at hi;have h1:=hall i fl hi;have hi2:i<xs.length:=by rw [hxl];exact(cZ.1 hi).1
  rw [aN hi2] at h1;exact⟨_,h1⟩)
 rw [pW] at hc;exact⟨a,ha,hc,by simp⟩
theorem Opens.map {β:Type} {f:α->D} {p:α->Prop} {g:β->D} {q:β->Prop} (h:Opens P t f p)(φ:α->β)(hφ:∀a,f a=g (φ a))(hq:∀a,p a->q (φ a)):Opens P t g q:=by
 intro H enc w spare held fuel cs x hx;obtain⟨a,ha,ho⟩:=h H enc w spare held fuel cs x hx;exact⟨φ a,hq a ha,by rw [<- hφ];exact ho⟩
theorem aAp {H:Type} {enc:TypeId×Value->H} {f:α->D} {p:α->Prop} {held:Bool} {v:Value} {d:DataW H} (h:Opens P t f p)(hf:∀a,(f a).cells= [f a])(hv:v.oneCell'=true)(ht:DataW.Trod enc P w 0 spare held t v d ps):
  ∃a,p a/\R (qF w) [] (f a) v/\∀X h q,Own w (qF w) [] X h q (f a) v:=by
 obtain⟨fuel,hx⟩:=ht;obtain⟨a,ha,ho⟩:=h H enc w spare held fuel _ _ hx;rw [Value.cells_one hv] at ho;have:=ho.1.2 0 (f a) v (by rw [hf];rfl) rfl;exact⟨a,ha,this.1,fun X h q=> .flat q _ _ this.2.2⟩
theorem Cj {r:Reach} {base:Nat} {v:Value} (ht:P.underlying t=some (.struct fs))(h:Value.okWide P w r base t v):∃cs,v= .agg cs:=by
 simp only [Value.okWide,ht] at h;obtain⟨cs,h1,_⟩:=h;exact⟨cs,h1⟩
theorem Wq {H:Type} {enc:TypeId×Value->H} {f:α->D} {p:α->Prop} {held:Bool} {cs:Array Value} {d:DataW H} (h:Opens P t f p)(hf:∀a,∃ds,f a= .agg ds)(ht:DataW.Trod enc P w 0 spare held t (.agg cs) d ps):
  ∃a,p a/\R (qF w) [] (f a) (.agg cs)/\∀X h q,Own w (qF w) [] X h q (f a) (.agg cs):=by
 obtain⟨fuel,hx⟩:=ht;obtain⟨a,ha,ho⟩:=h H enc w spare held fuel _ _ hx;obtain⟨ds,hd⟩:=hf a;refine⟨a,ha,?_⟩;rw [hd] at ho |-;obtain⟨⟨hl,hc⟩,_⟩:=ho;have hl':cs.size=ds.length:=by simpa [D.cells,Value.cells] using hl.symm
 have hc':∀(i:Nat) (c:D) (y:Value),ds[i]?=some c->cs[i]?=some y->R (qF w) [] c y/\y.oneCell'=true/\c.flat=true:=fun i c y h1 h2=>hc i c y h1 (by simpa [Value.cells] using h2);refine⟨.agg ds cs hl' (fun i d x h1 h2=>(hc' i d x h1 h2).1) (fun i x h2=>?_),fun X h q=> .agg q ds cs fun i d x h1 h2=> .flat _ _ _ (hc' i d x h1 h2).2.2⟩;have hi:=(cZ.1 h2).1;exact(hc' i _ x (aN (by omega)) h2).2.1
theorem aKe {N:FuncId} {ds:List D} {vs:Array Value} {W:World} (hct:Ct P N ds [] (fun r _=>r= .bool true))(hl:vs.size=ds.length)
  (ha:∀(i:Nat) (d:D) (v:Value),ds[i]?=some d->vs[i]?=some v->R (qF W) [] d v/\∀X h q,Own W (qF W) [] X h q d v):
  Calls P N vs W fun e W'=>e= .returned (.bool true)/\Below W.heap.size W W':=by
 refine(hct.2 W ⟨qF W,fun _=>none, [], []⟩ vs hl rfl ⟨fun b o c h=>h,fun b t h=>by simp at h,fun t=>?_,rfl,fun n b cs h=>by simp at h,rfl,fun n b cs h=>by simp at h⟩).mono ?_
 .show SlotOk W _ t (eP ds t) (bQ vs t)
  cases hd:ds[t]? with
  | none=>
   simp only [eP,hd];exact⟨.any _,.flat _ _ _ rfl⟩
  | some d=>
   have hlt:t<vs.size:=by rw [hl];exact(aH.1 hd).1
   have hv:vs[t]?=some vs[t]:=aV hlt;have hvv:bQ vs t=vs[t]:=by simp [bQ,hlt]
   rw [rB hd,hvv];obtain⟨h1,h2⟩:=ha t d _ hd hv;exact⟨h1,h2 _ _ _⟩
 rintro e W' ⟨r,σ',x,g',rfl,rfl,_,hf,hok⟩;have hs:=hok.slot 0;have hs':R g'.M g'.bs (.bool true) x:=hs.1;exact⟨by rw [hs'.vEq],hf.os,hf.tape,hf.output,hf.size,fun k hk=>(hf.keep k hk rfl).1⟩
end
end Go.Vm
