import Derived.WalkKit
import Derived.Maps.Own
import Derived.Maps.OwnOps
import Derived.StillTailTactics
import Derived.Deep.LoopGhost
import Derived.DeepKeys4
import Derived.Test.YtbdjepeabjangaaGreatWkAu13
import Derived.Test.YtbdjepeabjangaaGreatAuLen
set_option linter.all false
set_option maxRecDepth 100000
set_option maxHeartbeats 8000000
open Go.Proofs.Tryz
namespace Go.Proofs.YtbdjepeabjangaaGreat
open Go Go.Vm Go.Proofs Go.RowKit
variable {bs:List Nat}
theorem Md:(172:Nat)<prog.types.size:=by decide+kernel
theorem aIz:laidOutB prog=true:=by kernel_rfl
theorem aAn:WideMaps.KeyLaw prog 172:=deep_law_laid aIz (m:=2) (by omega) Md (by kernel_rfl) (by kernel_rfl)
theorem oC:Maps.Keyed prog 172:=Maps.Keyed.of_law aAn
theorem qG(g:Int)(s:ByteArray)(hg:(Lit.int .i64 g).wf=true)(hs:s.size<=maxLen):keyOf prog 172 (.agg #[.int .i64 g,.string s])=some (.string (keyBytes [.int .i64 g,.string s.data.toList])):=by
 have h1:prog.underlying 172=some (.struct (prog.fieldsOf 172)):=by kernel_rfl
 have h2:prog.keyType 172=true:=by kernel_rfl
 have h3:prog.cellsOf 172=2:=by kernel_rfl
 have h4 : (prog.fieldsOf 172).all (fun f => f.name != "_") = true := by kernel_rfl
 have h5:(prog.fieldsOf 172).toList.map (fun f=>(f.type,f.offset))= [(3,0),(9,1)]:=by kernel_rfl
 obtain⟨a,b,e,a1,a2,b1,b2⟩:∃a b,(prog.fieldsOf 172).toList= [a,b]/\a.type=3/\a.offset=0/\b.type=9/\b.offset=1:=by
  generalize (prog.fieldsOf 172).toList=L at h5;rcases L with _ | ⟨a,_ | ⟨b,_ | ⟨c,L⟩⟩⟩ <;> simp at h5
  exact⟨a,b,rfl,h5.1.1,h5.1.2,h5.2.1,h5.2.2⟩
 have c3:prog.cellsOf 3=1:=by kernel_rfl
 have c9:prog.cellsOf 9=1:=by kernel_rfl
 have u3:prog.underlying 3=some (.int .i64):=by kernel_rfl
 have u9:prog.underlying 9=some .string:=by kernel_rfl
 obtain⟨n,hn⟩:∃n,prog.types.size=n+1:=⟨prog.types.size - 1,by have:=Md;omega⟩;unfold keyOf;rw [h1];simp only [h2,Value.formed,h1,h3,Bool.true_and,Value.cells,hn];simp [Program.keyLits,h1,h3,h4,e,a1,a2,b1,b2,c3,c9,u3,u9,hg,(show s.size<=9223372036854775807 from hs)]
theorem Kf(s h:Int)(V:World):Calls prog 64 #[.int .i64 s,.int .i64 h] V fun e w'=>e= .returned (.int .i64 (oZ s h))/\w'=V:=by
 go_enter func64,ntmps64
 go_wp2 <;> (go_ret;exact⟨by congr 2;unfold oZ;(repeat' split) <;> first | rfl | omega,rfl⟩)
theorem yB(w:World)(a b:Array Value)(A B:TypeId)(j:Nat):((w.alloc (.cells a A)).alloc (.cells b B)).cell? ⟨w.heap.size+1,j,none⟩=b[j]?/\((w.alloc (.cells a A)).alloc (.cells b B)).cell? ⟨w.heap.size,j,none⟩=a[j]?:=by
 have h1:((w.alloc (.cells a A)).alloc (.cells b B)).heap[w.heap.size+1]?=some (.cells b B):=by
  have h:=(MapKept.heap_alloc (w.alloc (.cells a A)) (.cells b B)).1
  rwa [show(w.alloc (.cells a A)).heap.size=w.heap.size+1 from Array.size_push ..] at h
 have h2:((w.alloc (.cells a A)).alloc (.cells b B)).heap[w.heap.size]?=some (.cells a A):=by
  rw [<- (MapKept.heap_alloc w (.cells a A)).1];exact(MapKept.heap_alloc (w.alloc (.cells a A)) (.cells b B)).2 _ (by rw [show(w.alloc (.cells a A)).heap.size=w.heap.size+1 from Array.size_push ..];omega)
 exact⟨by unfold World.cell?;rw [h1];rfl,by unfold World.cell?;rw [h2];rfl⟩
abbrev Xa(g:Int)(s:ByteArray):Lit:= .string (keyBytes [.int .i64 g,.string s.data.toList])
theorem aFt {g g2:Int} {s s2:ByteArray} (h1:(Lit.int .i64 g).wf=true)(h2:s.size<=maxLen)(h3:(Lit.int .i64 g2).wf=true)(h4:s2.size<=maxLen)(h:¬(g2=g/\s2=s)):Xa g2 s2≠Xa g s:=fun e=>by
 have a:=qG g s h1 h2;have b:=qG g2 s2 h3 h4;rw [show Lit.string (keyBytes [.int .i64 g2,.string s2.data.toList])=Xa g s from e] at b;have:=oC.inj b a;simp at this;exact h this
theorem Rl:∀(m:List Int) (s:Int),s<0->m.foldl rP s<0
 | [],s,h=>h
 | a::m,s,h=>Rl m _ (by unfold rP;rw [aG (by omega)];exact h)
theorem Tg(l:List HE)(g:Int)(key:ByteArray)(i:Nat):vK l g key=vK (l.take i) g key++vK (l.drop i) g key:=by
 unfold vK;rw [<- dC,<- eW,gL]
theorem Mi {l:List HE} {i:Nat} (h:i<l.length)(hn:kX (vK (l.take (i+1)) l[i].group l[i].key)= -1):lG l=false:=by
 refine Ka h ?_;rw [Tg l l[i].group l[i].key (i+1)];unfold kX at *;rw [jD,hn];exact Rl _ _ (by omega)
theorem aA7 {l:List HE} {i:Nat} (h:i<l.length)(hn:0<=kX (vK (l.take i) l[i].group l[i].key)):kX (vK (l.take (i+1)) l[i].group l[i].key)=oZ (kX (vK (l.take i) l[i].group l[i].key)) l[i].hook:=by
 rw [Ro h rfl rfl,El];unfold rP;rw [aR hn]
theorem Qd {b o cap:Nat} {p:Option Addr} (l:List HE)(w:World)(hl:l.length<=1000)(hp:0<l.length->p=some ⟨b,o,none⟩)(hr:∀e∈l,(Lit.int .i64 e.group).wf=true/\e.key.size<=maxLen)
  (hc:∀(i:Nat) e,l[i]?=some e->w.cell? ⟨b,o+i * 4,none⟩=some (.int .i64 e.group)/\w.cell? ⟨b,o+i * 4+1,none⟩=some (.int .i64 e.node)/\w.cell? ⟨b,o+i * 4+2,none⟩=some (.int .i64 e.hook)/\w.cell? ⟨b,o+i * 4+3,none⟩=some (.string e.key)):
  Calls prog 23 #[.slice p l.length cap] w fun e w'=>e= .returned (.bool (lG l))/\Below w.heap.size w w':=by
 have hmm:=@run_makeMap prog
 go_enter func23,ntmps23
 go_wp2
 go_loopg [10] l.length (fun g s10 wr=>∃(i:Nat) (D:DataW Unit),i<=l.length/\g=l.length - i/\s10= .int .i64 i/\wr.ownsMap prog 172 (plainElem prog 3) w.heap.size i D/\Maps.IsMap D/\
  (∀gr ky,(Lit.int .i64 gr).wf=true->ky.size<=maxLen->D.atKey (Xa gr ky) (.lit (.int .i64 0))= .lit (.int .i64 (kX (vK (l.take i) gr ky))))/\(∀gr ky,0<=kX (vK (l.take i) gr ky))/\Below w.heap.size w wr)
 case atStart=>exact⟨0,.map [],cH _,rfl,rfl,World.ownsMap_made _ _ _ _,Maps.isMap_empty,fun gr ky _ _=>rfl,fun gr ky=>by simp [kX,vK],(Below.refl _ _).alloc (bD _) _⟩
 case round=>
  obtain⟨i,D,hi,rfl,rfl,hown,hD,hat,hnn,hbw⟩:=hrel;by_cases hlt:i<l.length
  .obtain⟨c0,c1,c2,c3⟩:=hc i l[i] (aN hlt);obtain rfl:=hp (by omega);have hbl:b<w.heap.size:=by
    rcases nY b w.heap.size with h' | h'
    .exact h'
    simp [World.cell?,yG h'] at c0
   have d0:=(hbw.cell (p:=⟨b,o+i * 4,none⟩) hbl).trans c0;have d1:=(hbw.cell (p:=⟨b,o+i * 4+1,none⟩) hbl).trans c1;have d2:=(hbw.cell (p:=⟨b,o+i * 4+2,none⟩) hbl).trans c2;have d3:=(hbw.cell (p:=⟨b,o+i * 4+3,none⟩) hbl).trans c3;obtain⟨r1,r2⟩:=hr l[i] (cR hlt);have hnx:=aA7 hlt (hnn l[i].group l[i].key);have hst:=fun h=>Mi hlt h;have hofn:=fun(g:Int) (ky:ByteArray) (h:¬(l[i].group=g/\l[i].key=ky))=>Of hlt h;generalize l[i]=e at *
   go_wp2
   have hW:∀(W:World) (i:Nat) (D:DataW Unit),W.ownsMap prog 172 (plainElem prog 3) w.heap.size i D->∃c,(Instr.lookup 170 (.map (some w.heap.size)) (.agg #[.int .i64 e.group,.string e.key]) false).run prog W= .ok (.int .i64 c) W/\D.atKey (Xa e.group e.key) (.lit (.int .i64 0))= .lit (.int .i64 c)/\(Lit.int .i64 c).wf=true:=fun W i D h=>
    h.lookup_int oC (by kernel_rfl) (by kernel_rfl) (by kernel_rfl) (qG _ _ r1 r2)
   have hown2:=(hown.alloc (.cells #[.int .i64 e.group,.int .i64 e.node,.int .i64 e.hook,.string e.key] 116)).alloc (.cells #[.int .i64 e.group,.string e.key] 172);have hbw2:Below w.heap.size w ((wr.alloc (.cells #[.int .i64 e.group,.int .i64 e.node,.int .i64 e.hook,.string e.key] 116)).alloc (.cells #[.int .i64 e.group,.string e.key] 172)):=(hbw.alloc hbw.size _).alloc (dJ hbw.size (by rw [World.alloc];simp)) _;have e0:((wr.alloc (.cells #[.int .i64 e.group,.int .i64 e.node,.int .i64 e.hook,.string e.key] 116)).alloc (.cells #[.int .i64 e.group,.string e.key] 172)).cell? ⟨wr.heap.size+1,0,none⟩=some (.int .i64 e.group):=(yB _ _ _ _ _ 0).1;have e1:((wr.alloc (.cells #[.int .i64 e.group,.int .i64 e.node,.int .i64 e.hook,.string e.key] 116)).alloc (.cells #[.int .i64 e.group,.string e.key] 172)).cell? ⟨wr.heap.size+1,1,none⟩=some (.string e.key):=(yB _ _ _ _ _ 1).1;have e2:((wr.alloc (.cells #[.int .i64 e.group,.int .i64 e.node,.int .i64 e.hook,.string e.key] 116)).alloc (.cells #[.int .i64 e.group,.string e.key] 172)).cell? ⟨wr.heap.size,2,none⟩=some (.int .i64 e.hook):=(yB _ _ _ _ _ 2).2;generalize (wr.alloc (.cells #[.int .i64 e.group,.int .i64 e.node,.int .i64 e.hook,.string e.key] 116)).alloc (.cells #[.int .i64 e.group,.string e.key] 172)=W2 at *;obtain⟨c,hrun,hc1,hcw⟩:=hW _ _ _ hown2.drew;refine wp_region_still_tail 8 (by kernel_rfl) (by kernel_rfl) ?_;simp only [tD,List.take_zero,xH,pW]
   repeat still_step
   still_call (Kf c e.hook _)
   refine wpStill_nil ?_;change wpList _ _ _ _ _ W2.drew;obtain rfl:c=kX (vK (l.take i) e.group e.key):=by
    have:=(hat e.group e.key r1 r2).symm.trans hc1;simp at this;exact this.symm
   have hnb:=Rz (kX (vK (l.take i) e.group e.key)) e.hook;have hnw:(Lit.int .i64 (oZ (kX (vK (l.take i) e.group e.key)) e.hook)).wf=true:=by
    simp [Lit.wf,IntKind.min,IntKind.max,IntKind.signed,IntKind.bits];omega
   generalize hN:oZ (kX (vK (l.take i) e.group e.key)) e.hook=N at *;have hbw3:=hbw2.drew;have e0':W2.drew.cell? ⟨wr.heap.size+1,0,none⟩=some (.int .i64 e.group):=e0;have e1':W2.drew.cell? ⟨wr.heap.size+1,1,none⟩=some (.string e.key):=e1;refine wpList_mapUpdate_own _ rfl _ _ _ 170 rfl 172 3 oC (by kernel_rfl) (plainElem prog 3) w.heap.size i D rfl hown2.drew (by show i<9223372036854775807;omega) _ _ (Xa e.group e.key) rfl rfl (qG _ _ r1 r2) (.lit (.int .i64 N)) [] (plainElem_int (by kernel_rfl) hnw) ?_;intro w1 hown3 hgr;have hbs:=hbw.size;have f0:=hgr.cell e0' (by simp;omega);have f1:=hgr.cell e1' (by simp;omega);have hbw4:Below w.heap.size w w1:=hbw3.grown hgr hbw3.size fun k hk=>by cases hk;exact bD _
   obtain⟨c2,hrun2,hc2,_⟩:=hW _ _ _ hown3;obtain rfl:N=c2:=by
    rw [Maps.atKey_put_same hD (oC.key (qG _ _ r1 r2))] at hc2;simp at hc2;exact hc2
   clear hrun hW;by_cases hm:N= -1
   .subst hm
    go_wp2
    go_ret
    exact⟨by rw [hst hnx];rfl,hbw4⟩
   have hm2:¬(N= -1):=hm
   go_wp2
   go_roundg (l.length - (i+1))
   case measure=>omega
   case rel=>
    refine⟨i+1,_,by omega,rfl,by go_num,hown3,hD.put _ _,fun gr ky h1 h2=>?_,fun gr ky=>?_,hbw4⟩
    .by_cases hk:e.group=gr/\e.key=ky
     .obtain⟨rfl,rfl⟩:=hk;rw [Maps.atKey_put_same hD (oC.key (qG _ _ r1 r2)),hnx]
     rw [Maps.atKey_put_other (aFt r1 r2 h1 h2 fun q=>hk ⟨q.1.symm,q.2.symm⟩),hat gr ky h1 h2,hofn gr ky hk]
    by_cases hk:e.group=gr/\e.key=ky
    .obtain⟨rfl,rfl⟩:=hk;rw [hnx];omega
    rw [hofn gr ky hk];exact hnn gr ky
  obtain rfl:i=l.length:=by omega
  go_wp2
  go_ret
  refine⟨?_,hbw⟩;have:lG l=true:=by
   unfold lG;rw [eJ];intro e he;have:=hnn e.group e.key;rw [gC] at this;simpa using this
  rw [this];rfl
theorem aJj {M:Mem} {o:Bool} {es:List D} {v:Value} (h:R M bs (.sl o es) v)(h0:es≠ []):
  ∃b off cap k,v= .slice (some ⟨b,off,none⟩) es.length cap/\∀(i:Nat) (d:D),es[i]?=some d->d.ncells=k/\∃x,R M bs d x/\∀(j:Nat) (c:Value),x.cells[j]?=some c->M b (off+(i * k+j))=some c:=by
 cases h with
 | nil o=>exact absurd rfl h0
 | emp o a cap hm=>exact absurd rfl h0
 | sl o es b off n cap k vs hl hn hk hc hm hr hs hx=>
  subst hn;refine⟨b,off,cap,k,rfl,fun i d hd=>⟨hs i d hd,?_⟩⟩;have hi:i<es.length:=(aH.1 hd).1;have hv:vs[i]?=some (vs[i]'(by omega)):=aN (by omega);exact⟨_,hr i d _ hd hv,fun j c hc'=>((hx i _ hv).2 j c hc').2⟩
theorem aCw {M:Mem} {e:HE} {x:Value} (h:R M bs (lI e) x):x.cells[0]?=some (.int .i64 e.group)/\x.cells[1]?=some (.int .i64 e.node)/\x.cells[2]?=some (.int .i64 e.hook)/\x.cells[3]?=some (.string e.key):=by
 cases h with
 | agg cs vs hl hr h1 =>
  have hs:vs.size=4:=hl;have get:∀(i:Nat) (y:Value),([D.v (.int .i64 e.group),D.v (.int .i64 e.node),D.v (.int .i64 e.hook),D.v (.string e.key)]:List D)[i]?=some (.v y)->vs[i]?=some y:=by
   intro i y hy;have hi:i<vs.size:=by
    rw [hs];have:=(aH.1 hy).1;simpa using this
   have hv:vs[i]?=some vs[i]:=aV hi;have:=hr i _ _ hy hv;cases this;exact hv
  exact⟨get 0 _ rfl,get 1 _ rfl,get 2 _ rfl,get 3 _ rfl⟩
theorem Sa(l:List HE)(hl:l.length<=1000)(hr:∀e∈l,(-9223372036854775808<=e.group/\e.group<=9223372036854775807)/\e.key.size<=1000):Qo l:=fun σ=>by
 refine⟨by kernel_rfl,fun w g vs hvs hb ho=>?_⟩;have s0:=(ho.slot 0).1;change R g.M g.bs (.sl false (l.map lI)) (bQ vs 0)at s0;have h1:vs=#[bQ vs 0]:=by
  apply Array.ext
  .simpa using hvs
  intro i h1 h2;obtain rfl:i=0:=by simp at h2;omega
  show vs[0]=vs.getD 0 undef
  rw [gJ,aV h1];rfl
 rw [h1];generalize bQ vs 0=x0 at s0;have key:∃(b o cap:Nat) (p:Option Addr),x0= .slice p l.length cap/\(0<l.length->p=some ⟨b,o,none⟩)/\∀(i:Nat) e,l[i]?=some e->w.cell? ⟨b,o+i * 4,none⟩=some (.int .i64 e.group)/\w.cell? ⟨b,o+i * 4+1,none⟩=some (.int .i64 e.node)/\w.cell? ⟨b,o+i * 4+2,none⟩=some (.int .i64 e.hook)/\w.cell? ⟨b,o+i * 4+3,none⟩=some (.string e.key):=by
  by_cases h0:l= []
  .subst h0;cases s0 with
   | nil=>exact⟨0,0,0,none,rfl,by simp,by simp⟩
   | emp o a cap hm=>exact⟨0,0,cap,some a,rfl,by simp,by simp⟩
   | sl _ _ b off n cap k vs' hl' hn hk hc hm hr hs' hx=>subst hn;exact⟨b,off,cap,_,rfl,by simp,by simp⟩
  obtain⟨b,off,cap,k,rfl,hcl⟩:=aJj s0 (by simpa using h0);refine⟨b,off,cap,_,by rw [cC],fun _=>rfl,fun i e hi=>?_⟩;obtain⟨hk,x,hx1,hx2⟩:=hcl i (lI e) (by rw [bP,hi];rfl);obtain rfl:4=k:=hk;obtain⟨y0,y1,y2,y3⟩:=aCw hx1;exact⟨ho.mem _ _ _ (hx2 0 _ y0),ho.mem _ _ _ (hx2 1 _ y1),ho.mem _ _ _ (hx2 2 _ y2),ho.mem _ _ _ (hx2 3 _ y3)⟩
 obtain⟨b,o,cap,p,rfl,hp,hc⟩:=key;refine(Qd l w hl hp (fun e he=>⟨by simp [Lit.wf,IntKind.min,IntKind.max,IntKind.signed,IntKind.bits];have:=(hr e he).1;omega,dJ (hr e he).2 (by decide)⟩) hc).mono ?_;rintro e w' ⟨rfl,hbel⟩;exact⟨_,σ,_,g,rfl,⟨rfl,rfl⟩,hb,Fr.below g hbel,(ho.below hbel).res hb _ _ (.v _ rfl) (.flat _ _ _ rfl)⟩
open Go Go.Vm
theorem aE1  (σ:List (List D))  :Ct prog 170 [.v (.int .u64 0)] σ (fun r σ'=>r=D.int 0/\σ'=σ):=by
 refine zf func170 ?_;refine cL fun _ _ Z=>?_;simp(disch:=omega);apply Z;apply aE;refine cJ (t:=false) (by simp) (fun h=>by cases h) (fun _=>?_);apply zA;refine cL fun _ _ Z=>?_;refine zs 1 fun _ Y=>?_;simp(disch:=omega);apply Y;refine aD fun _ Y=>?_;simp(disch:=omega);refine eH (aCg _) ?_;apply Y;simp(disch:=omega);apply Z;apply aC;simp [aT]
theorem Zn  (σ:List (List D))  :Ct prog 175 [.sl false [],D.int 0,D.int 0,.clo (.func 141) [] []] σ (fun r σ'=>r= .tup []/\σ'=σ):=by
 refine zf func175 ?_;refine cL fun _ _ Z=>?_;simp(disch:=omega);and_intros<;>(try omega);apply Z;apply aQ;refine zk [0,1,2,3,8] ?_;refine bK (fun(k:Nat)=> [(8,.d (D.int 1)),(9,.d (.any))]) [8,9,12,13,14,15,16,17,18,19,20,21,22,23,24,25,26,27,28,29,30,31,32,33,34,35,36,37,38,39,40,41,42,43,44,45,46,47,48,49,50,51,52] (fun(k:Nat)=>True) (fun(k:Nat)=>0) (0) (by simp <;> rfl) ?_ ?_ ?_
 .simp
 .trivial
 rintro k hp;simp only [aO,aK];apply aE;refine cL fun _ _ Z=>?_;simp(disch:=omega);apply Z;refine zI ?_ ?_<;>intro c1<;>try simp at c1
 apply Bk;apply Bb;apply Ch;apply yT;simp [aT]
theorem Ye  (σ:List (List D))  :Ct prog 169 [.sl false [],D.int 0,D.int 0,D.int 0,.clo (.func 141) [] []] σ (fun r σ'=>r= .tup []/\σ'=σ):=by
 refine zf func169 ?_;refine cL fun _ _ Z=>?_;simp(disch:=omega);apply Z;refine cL fun _ _ Z=>?_;simp(disch:=omega);apply Z;apply aQ;refine zk [0,1,2,3,4,10,11] ?_;refine bK (fun(k:Nat)=> [(12,.d (.any)),(1,.d (D.int 0)),(2,.d (D.int 0)),(3,.d (D.int 0)),(10,.d (.any)),(11,.d (.any))]) [1,2,3,10,11,12,13,14,15,16,17,18,19,20,21,22,23,24,25,26,27,28,29,30,31,32,33,34,35,36,37,38,39,40,41,42,43,44,45,46,47,48,49,50,51,52,53,54,55,56,57,58,59,60,61,62,63,64,65,66,67,68,69,70,71,72,73,74,75,76,77,78,79,80,81,82,83,84,85,86,87,88,89,90,91,92,93,94,95,96,97,98,99,100,101,102,103,104,105,106,107,108,109,110,111,112,113,114,115,116,117,118,119,120,121,122,123,124,125,126,127,128,129,130,131,132,133,134,135,136,137,138,139,140,141,142,143,144,145,146,147] (fun(k:Nat)=>True) (fun(k:Nat)=>0) (0) (by simp <;> rfl) ?_ ?_ ?_
 .simp
 .trivial
 rintro k hp;simp only [aO,aK];apply aQ;refine cL fun _ _ Z=>?_;simp(disch:=omega);and_intros<;>(try omega);apply Z;apply aE;refine zk [0,1,2,3,4,10,11,12] ?_;refine cL fun _ _ Z=>?_;simp(disch:=omega);apply Z;refine zI ?_ ?_<;>intro c1<;>try simp at c1
 refine cL fun _ _ Z=>?_;refine zs 4 fun _ Y=>?_;simp(disch:=omega);apply Y;refine aD fun _ Y=>?_;simp(disch:=omega);refine eH (Zn _) ?_;apply Y;simp only [fJ];apply Z;apply aC;simp [aT]
theorem aEe  (σ:List (List D))  :Ct prog 158 [.sl false [],.clo (.func 141) [] []] σ (fun r σ'=>r= .tup []/\σ'=σ):=by
 refine zf func158 ?_;refine cL fun _ _ Z=>?_;simp(disch:=omega)[cX];and_intros<;>(try omega);apply Z;refine Dd fun _ _ Z=>?_;refine zs 4 fun _ Y=>?_;simp(disch:=omega)[cX];and_intros<;>(try omega);apply Y;refine aD fun _ Y=>?_;simp(disch:=omega)[cX];refine eH (aE1 _) ?_;apply Y;refine zs 1 fun _ Y=>?_;simp(disch:=omega)[cX];apply Y;refine aD fun _ Y=>?_;simp(disch:=omega)[cX];refine eH (Ye _) ?_;apply Y;simp only [fJ];apply Z;simp [aT]
theorem Xd  (σ:List (List D))  :Ct prog 139 [.clo (.func 159) [] [.adr [.sl false []]],.clo (.func 141) [] []] σ (fun r σ'=>r= .sl false []/\σ'=σ):=by
 refine zf func139 ?_;refine zr ⟨[4,5,11],[],[],[],[]⟩ fun _ _ Z=>?_;simp(disch:=omega);apply Z;refine zr ⟨[4,5,11],[],[],[],[]⟩ fun _ _ Z=>?_;refine zs 1 fun _ Y=>?_;simp(disch:=omega);apply Y;refine aD fun _ Y=>?_;simp(disch:=omega);refine eH (Kx _) ?_;apply Y;simp(disch:=omega);apply Z;refine zr ⟨[4,5,11],[],[],[],[]⟩ fun _ _ Z=>?_;refine zs 2 fun _ Y=>?_;simp(disch:=omega);apply Y;refine aD fun _ Y=>?_;simp(disch:=omega);refine eH (aEe _) ?_;apply Y;simp only [fJ];apply Z;refine zr ⟨[4,5,11],[],[],[],[]⟩ fun _ _ Z=>?_;simp(disch:=omega);apply Z;apply aC;simp [aT]
theorem Wh  (σ:List (List D))  :Ct prog 140 [.sl false []] σ (fun r σ'=>r= .clo (.func 159) [] [.adr [.sl false []]]/\σ'=σ):=by
 refine zf func140 ?_;refine zr ⟨[],[1],[],[],[]⟩ fun _ _ Z=>?_;simp(disch:=omega);apply Z;refine zr ⟨[],[1],[],[],[]⟩ fun _ _ Z=>?_;simp(disch:=omega);and_intros<;>(try omega);apply Z;apply aC;simp [aT]
abbrev aKd:List D:= [D.int 9,D.int 5,D.int 0,D.int 0,D.int 0]
theorem mL:yV 9 1 4096=9:=by decide
theorem mO:yV 5 1 20=5:=by decide
theorem mS:yV 0 0 4096=0:=by decide
abbrev uE:VN:=⟨0,⟨#[]⟩,⟨#[]⟩,⟨#[]⟩, [], [], [],⟨0,0,0,0,false,false⟩, []⟩
theorem aKa  (σ:List (List D))  :Ct prog 37 [.agg aKd] σ (fun r σ'=>r= .agg aKd/\σ'=σ):=by
 refine zf func37 ?_;refine cL fun _ _ Z=>?_;simp(disch:=omega)[mL,mO,mS];apply Z;refine zd ⟨[],[],[],[],[]⟩ [.op {},.op {rL:=true},.pure,.op {},.op {rL:=true},.pure,.op {},.op {rL:=true,wL:=true},.op {},.op {rL:=true,wL:=true}] fun all hall _ Z=>?_;refine kY 2 fun _ Y=>?_;simp(disch:=omega)[mL,mO,mS];apply Y;refine bJ fun _ Y=>?_;simp(disch:=omega)[mL,mO,mS];refine rG (fun _=>(pD 9 1 4096 _)) ?_;apply Y;refine kY 2 fun _ Y=>?_;simp(disch:=omega)[mL,mO,mS];apply Y;refine bJ fun _ Y=>?_;simp(disch:=omega)[mL,mO,mS];refine rG (fun _=>(pD 5 1 20 _)) ?_;apply Y;simp(disch:=omega)[mL,mO,mS];apply Z;refine zd ⟨[],[],[],[],[]⟩ [.op {},.op {rL:=true},.pure,.op {},.op {rL:=true},.pure,.op {},.op {rL:=true,wL:=true},.op {},.op {rL:=true,wL:=true}] fun all hall _ Z=>?_;refine kY 2 fun _ Y=>?_;simp(disch:=omega)[mL,mO,mS];apply Y;refine bJ fun _ Y=>?_;simp(disch:=omega)[mL,mO,mS];refine rG (fun _=>(pD 0 0 4096 _)) ?_;apply Y;refine kY 2 fun _ Y=>?_;simp(disch:=omega)[mL,mO,mS];apply Y;refine bJ fun _ Y=>?_;simp(disch:=omega)[mL,mO,mS];refine rG (fun _=>(pD 0 0 4096 _)) ?_;apply Y;simp(disch:=omega)[mL,mO,mS];apply Z;refine zk [1,2] ?_;refine cL fun _ _ Z=>?_;simp(disch:=omega)[mL,mO,mS];apply Z;apply aC;simp [aT]
theorem aAb(h p:Nat)(n:Int)(m:D)(σ:List (List D))(hq:σ[h]?=some (Nh p n))(hp:σ[p]?=some [.sl false [],m]):Ct prog 117 [.ref h 0] σ (fun r σ'=>r= .sl false []/\σ'=σ):=by
 refine zf func117 ?_;refine zr ⟨[2],[],[],[],[]⟩ fun _ _ Z=>?_;simp(disch:=omega)[hq,hp,aI,aF,aB,aA];apply Z;refine zr ⟨[2],[],[],[],[]⟩ fun _ _ Z=>?_;refine zs 7 fun _ Y=>?_;simp(disch:=omega)[hq,hp,aI,aF,aB,aA];apply Y;refine aD fun _ Y=>?_;simp(disch:=omega)[hq,hp,aI,aF,aB,aA];refine eH (Wh _) ?_;apply Y;refine aD fun _ Y=>?_;simp(disch:=omega)[hq,hp,aI,aF,aB,aA];refine eH (Xd _) ?_;apply Y;simp(disch:=omega)[hq,hp,aI,aF,aB,aA];apply Z;apply aC;simp [aT]
theorem aG6(s w q:Nat)(n:Int)(σ:List (List D))(hs:σ[s]?=some (Pb w q n)):Ct prog 80 [.ref s 0] σ (fun r σ'=>r=D.int 0/\σ'=σ):=by
 refine zf func80 ?_;refine cL fun _ _ Z=>?_;simp(disch:=omega)[hs];apply Z;refine cL fun _ _ Z=>?_;simp(disch:=omega)[hs];apply Z;apply aC;simp [aT]
theorem Wn(Q:Nat)(n:Int)(σ:List (List D))(hQ:σ[Q]?=some (Aa n)):Ct prog 116 [.ref Q 0] σ (fun r σ'=>r= .sl false []/\σ'=σ):=(aCp Q n σ hQ).strip fun r σ' h=>⟨h.1.1,h.1.2,h.2⟩
abbrev vc0:List D:= [D.int 0,D.str ⟨#[]⟩,D.str ⟨#[]⟩,D.str ⟨#[]⟩,.sl false [],.sl false [],.sl false [],D.int 0,D.int 0,D.int 0,D.int 0,.v (.bool false),.v (.bool false),.sl false []]
abbrev Dj(L S:Nat):List D:= [D.int 9,D.int 5,D.int 0,D.int 0,D.int 0,.ref L 0,.ref S 0,.sl false [],.v (.pointer none),D.int 0,D.str ⟨#[]⟩,D.str ⟨#[]⟩,D.str ⟨#[]⟩,.sl false [],.sl false [],.sl false [],D.int 0,D.int 0,D.int 0,D.int 0,.v (.bool false),.v (.bool false),.sl false [],D.int 0]
abbrev Hg(w:Nat):List D:= [D.int 9,D.int 5,D.int 0,D.int 0,D.int 0,.ref w 0]
abbrev Wx(L:Nat):List (List D):= [[],uV L 18 (L+2),jI,aCf (L+1), [],aBx (L+4),Nh (L+5) 8192,Aa 8192,Pb (L+6) (L+7) 8192,Dj (L+3) (L+8),Hg (L+9)]
@[simp] abbrev q37_1:Cfg:=⟨[2,3,18,40,52],[],[],[],[]⟩
theorem aCk(s h p q:Nat)(n:Int)(m:D)(σ:List (List D))(hs:σ[s]?=some (Pb h q n))(hq:σ[q]?=some (Aa n))(hh:σ[h]?=some (Nh p n))(hpl:σ[p]?=some [.sl false [],m]):Ct prog 81 [.ref s 0] σ (fun r σ'=>r= .sl false []/\σ'=σ):=by
 refine zf func81 ?_;refine zr q37_1 fun _ _ Z=>?_;simp(disch:=omega)[hs,hq,hh,hpl];apply Z;refine zr q37_1 fun _ _ Z=>?_;simp(disch:=omega)[hs,hq,hh,hpl];apply Z;apply aE;refine zr q37_1 fun _ _ Z=>?_;refine zs 4 fun _ Y=>?_;simp(disch:=omega)[hs,hq,hh,hpl];apply Y;refine aD fun _ Y=>?_;simp(disch:=omega)[hs,hq,hh,hpl];refine eH (Wn q n _ hq) ?_;apply Y;simp(disch:=omega)[hs,hq,hh,hpl];and_intros<;>(try omega);apply Z;apply aQ;refine zk [0,2,3,12,13,14] ?_;refine bK (fun(k:Nat)=> [(14,.d (D.int 0)),(3,.d (.sl false [])),(5,.d (.any))]) [3,5,14,15,16,17,18,19,20,21,22,23,24,25,26,27,28,29] (fun(k:Nat)=>True) (fun(k:Nat)=>0) (0) (by simp <;> rfl) ?_ ?_ ?_
 .simp
 .trivial
 rintro k hp;simp only [aO,aK];refine zr q37_1 fun _ _ Z=>?_;simp(disch:=omega)[hs,hq,hh,hpl];apply Z;apply aE;refine zI ?_ ?_<;>intro c1<;>try simp at c1
 apply zE;apply aE;refine zr q37_1 fun _ _ Z=>?_;refine zs 4 fun _ Y=>?_;simp(disch:=omega)[hs,hq,hh,hpl];apply Y;refine aD fun _ Y=>?_;simp(disch:=omega)[hs,hq,hh,hpl];refine eH (aAb h p n m _ hh hpl) ?_;apply Y;simp(disch:=omega)[hs,hq,hh,hpl];and_intros<;>(try omega);apply Z;apply aQ;refine zk [2,3,34,35,36] ?_;refine bK (fun(k:Nat)=> [(36,.d (D.int 0)),(3,.d (.sl false [])),(7,.d (.any))]) [3,7,36,37,38,39,40,41,42,43,44,45,46,47,48,49,50,51] (fun(k:Nat)=>True) (fun(k:Nat)=>0) (0) (by simp <;> rfl) ?_ ?_ ?_
 .simp
 .trivial
 rintro k hp;simp only [aO,aK];refine zr q37_1 fun _ _ Z=>?_;simp(disch:=omega)[hs,hq,hh,hpl];apply Z;apply aE;refine zI ?_ ?_<;>intro c2<;>try simp at c2
 apply zE;refine zr q37_1 fun _ _ Z=>?_;simp(disch:=omega)[hs,hq,hh,hpl];apply Z;apply aC;simp [aT]
theorem aJt  (σ:List (List D))  :Ct prog 14 [.agg aKd] σ (fun r σ'=>r= .ref (σ.length+10) 0/\σ'=σ++Wx σ.length):=by
 refine zf func14 ?_;refine zr ⟨[],[],[14,18],[],[]⟩ fun _ _ Z=>?_;simp(disch:=omega)[aI,aF,aB,aA];apply Z;refine zr ⟨[],[],[14,18],[],[]⟩ fun _ _ Z=>?_;refine zs 1 fun _ Y=>?_;simp(disch:=omega)[aI,aF,aB,aA];apply Y;refine aD fun _ Y=>?_;simp(disch:=omega)[aI,aF,aB,aA];refine eH (aKa _) ?_;apply Y;simp(disch:=omega)[aI,aF,aB,aA];apply Z;refine zd ⟨[],[],[14,18],[],[]⟩ [.op {rL:=true},.op {},.op {rL:=true},.op {},.detA,.detA,.detA,.op {},.op {rO:=true,wO:=true},.op {}] fun all hall _ Z=>?_;refine kY 4 fun _ Y=>?_;simp(disch:=omega)[aI,aF,aB,aA];and_intros<;>(try omega);apply Y;refine bJ fun _ Y=>?_;simp(disch:=omega)[aI,aF,aB,aA];refine zda ([[],uV σ.length 18 (σ.length+2),jI]) (aF1 _) ?_;apply Y;refine bJ fun _ Y=>?_;simp(disch:=omega)[aI,aF,aB,aA];refine zda ([aCf (σ.length+1)]) (aLg _ _) ?_;apply Y;refine bJ fun _ Y=>?_;simp(disch:=omega)[aI,aF,aB,aA];refine zda ([[],aBx (σ.length+4),Nh (σ.length+5) 8192,Aa 8192,Pb (σ.length+6) (σ.length+7) 8192]) (aE0 _) ?_;apply Y;simp(disch:=omega)[aI,aF,aB,aA];and_intros<;>(try omega);apply Z;refine kC (σ.length+9) (Dj (σ.length+3) (σ.length+8)) (by simp [aI,aF,aB,aA];rfl) (by simp [Ss,D.s1]) ?_;simp only [aF,bZ,cN];refine zk [1,2,3] ?_;refine zr ⟨[],[],[14,18],[],[]⟩ fun _ _ Z=>?_;simp(disch:=omega)[aI,aF,aB,aA];and_intros<;>(try omega);apply Z;apply aC;simp [aT]
theorem aL0:gG uE=uE:=by rw [oN];rfl
theorem Zx:VG uE:= .mk _ ⟨cH _,cH _,cH _,cH _,cH _,cH _,fun s hs=>by simp at hs,fun p hp=>by simp at hp,fun p hp=>by simp at hp⟩ fun k hk=>by simp at hk
theorem Ms:fB uE<=25:=by rw [kZ];decide
theorem Qw(e w l s m M o:Nat)(σ:List (List D))(hE:σ[e]?=some (Hg w))(hW:σ[w]?=some (Dj l s))(hL:σ[l]?=some (aCf m))(hq:σ[m]?=some (uV M 18 o))(hr:σ[o]?=some jI):Ct prog 15 [.ref e 0] σ (fun r σ'=>r= .ref (σ.length+1) 0/\σ'=σ++ [[],uV σ.length 18 (σ.length+3), [],jI]):=by
 refine zf func15 ?_;refine cL fun _ _ Z=>?_;simp(disch:=omega)[hE,hW,hL];apply Z;refine cL fun _ _ Z=>?_;refine zs 8 fun _ Y=>?_;simp(disch:=omega)[hE,hW,hL];apply Y;refine zs 2 fun _ Y=>?_;simp(disch:=omega)[hE,hW,hL];apply Y;refine aD fun _ Y=>?_;simp(disch:=omega)[hE,hW,hL];refine eH (Ws m M o 18 _ hq hr) ?_;apply Y;simp(disch:=omega)[hE,hW,hL];apply Z;apply aC;simp [aT]
theorem Xe(e w l s:Nat)(σ:List (List D))(hE:σ[e]?=some (Hg w))(hW:σ[w]?=some (Dj l s)):Ct prog 42 [.ref e 0] σ (fun r σ'=>(r.plain=true/\r.strip=kM uE)/\σ'=σ):=by
 refine zf func42 ?_;refine cL fun _ _ Z=>?_;simp(disch:=omega)[hE,hW];apply Z;refine cL fun _ _ Z=>?_;refine zs 7 fun _ Y=>?_;simp(disch:=omega)[hE,hW];apply Y;refine aD fun _ Y=>?_;simp(disch:=omega)[hE,hW];rw [show D.agg vc0=kM uE from rfl];refine eH (Hy uE Zx (by have:=Ms;omega) _) ?_;apply Y;simp(disch:=omega)[hE,hW];apply Z;apply aC;simp [aT,aL0]
theorem aEn(e w l s:Nat)(σ:List (List D))(hE:σ[e]?=some (Hg w))(hW:σ[w]?=some (Dj l s)):Ct prog 43 [.ref e 0] σ (fun r σ'=>r= .v (.bool false)/\σ'=σ):=by
 refine zf func43 ?_;refine cL fun _ _ Z=>?_;simp(disch:=omega)[hE,hW];apply Z;refine cL fun _ _ Z=>?_;refine zs 8 fun _ Y=>?_;simp(disch:=omega)[hE,hW];apply Y;simp(disch:=omega)[hE,hW];apply Z;apply aC;simp [aT]
theorem aGl(e w l s h q:Nat)(n:Int)(σ:List (List D))(hE:σ[e]?=some (Hg w))(hW:σ[w]?=some (Dj l s))(hs:σ[s]?=some (Pb h q n)):Ct prog 44 [.ref e 0] σ (fun r σ'=>r=D.int 0/\σ'=σ):=by
 refine zf func44 ?_;refine cL fun _ _ Z=>?_;simp(disch:=omega)[hE,hW];apply Z;refine cL fun _ _ Z=>?_;refine zs 7 fun _ Y=>?_;simp(disch:=omega)[hE,hW];apply Y;refine aD fun _ Y=>?_;simp(disch:=omega)[hE,hW];refine eH (aG6 s h q n _ hs) ?_;apply Y;simp(disch:=omega)[hE,hW];apply Z;apply aC;simp [aT]
theorem Xq(e w l s h p q:Nat)(n:Int)(m:D)(σ:List (List D))(hE:σ[e]?=some (Hg w))(hW:σ[w]?=some (Dj l s))(hs:σ[s]?=some (Pb h q n))(hq:σ[q]?=some (Aa n))(hh:σ[h]?=some (Nh p n))(hpl:σ[p]?=some [.sl false [],m]):Ct prog 45 [.ref e 0] σ (fun r σ'=>r= .sl false []/\σ'=σ):=by
 refine zf func45 ?_;refine zr ⟨[2],[],[],[],[]⟩ fun _ _ Z=>?_;simp(disch:=omega)[hE,hW];apply Z;refine zr ⟨[2],[],[],[],[]⟩ fun _ _ Z=>?_;refine zs 7 fun _ Y=>?_;simp(disch:=omega)[hE,hW];apply Y;refine aD fun _ Y=>?_;simp(disch:=omega)[hE,hW];refine eH (aCk s h p q n m _ hs hq hh hpl) ?_;apply Y;simp(disch:=omega)[hE,hW];apply Z;apply aC;simp [aT]
theorem Oj(l:List HE)(σ:List (List D))(hl:l.length<=1000000):Ct prog 82 [.sl false (l.map lI)] σ (fun r σ'=>r= .sl true (l.map lI)/\σ'=σ):=by
 refine zf func82 ?_;refine zr ⟨[2],[],[],[],[]⟩ fun _ _ Z=>?_;simp(disch:=omega);apply Z;apply aE;refine zr ⟨[2],[],[],[],[]⟩ fun _ _ Z=>?_;refine zs 1 fun _ Y=>?_;simp(disch:=omega);apply Y;refine aD fun _ Y=>?_;simp(disch:=omega);refine⟨Y _ ?_,fun e1=>Y _ ?_⟩
 .simp only [fJ];apply Z;refine cJ (t:=false) (by simp) (fun h=>by cases h) (fun _=>?_);apply zA;refine zr ⟨[2],[],[],[],[]⟩ fun _ _ Z=>?_;simp(disch:=omega);and_intros<;>(try omega);apply Z;apply aC;simp [aT]
 simp only [fJ];apply Z;refine cJ (t:=true) (by simp) (fun _=>?_) (fun h=>by cases h);refine zr ⟨[2],[],[],[],[]⟩ fun _ _ Z=>?_;simp(disch:=omega);apply Z;apply aC;simp [aT,e1]
theorem aAe(e w l s:Nat)(σ:List (List D))(hE:σ[e]?=some (Hg w))(hW:σ[w]?=some (Dj l s)):Ct prog 46 [.ref e 0] σ (fun r σ'=>r= .sl true []/\σ'=σ):=by
 refine zf func46 ?_;refine zr ⟨[2],[],[],[],[]⟩ fun _ _ Z=>?_;simp(disch:=omega)[hE,hW];apply Z;refine zr ⟨[2],[],[],[],[]⟩ fun _ _ Z=>?_;refine zs 7 fun _ Y=>?_;simp(disch:=omega)[hE,hW];apply Y;refine aD fun _ Y=>?_;simp(disch:=omega)[hE,hW];refine eH (Oj [] _ (by decide)) ?_;apply Y;simp(disch:=omega)[hE,hW];apply Z;apply aC;simp [aT]
theorem Yu(e w l s:Nat)(i:Int)(σ:List (List D))(hE:σ[e]?=some (Hg w))(hW:σ[w]?=some (Dj l s)):Ct prog 49 [.ref e 0,D.int i] σ (fun r σ'=>r= .tup [.agg [D.int 0,D.int 0,D.int 0,D.int 0],.v (.bool false)]/\σ'=σ):=by
 refine zf func49 ?_;refine cL fun _ _ Z=>?_;simp(disch:=omega)[hE,hW];apply Z;apply aE;refine cL fun _ _ Z=>?_;simp(disch:=omega)[hE,hW];apply Z;refine zI ?_ ?_<;>intro c1<;>try simp at c1
 refine cL fun _ _ Z=>?_;simp(disch:=omega)[hE,hW];apply Z;apply aC;simp [aT]
def NewAt(σ:List (List D))(L:Nat):Prop:=∀i,i<11->σ[L+i]?=(Wx L)[i]?
theorem NewAt.app {σ:List (List D)} {L:Nat} (h:NewAt σ L)(J:List (List D)):NewAt (σ++J) L:=fun i hi=>by
 have h1:=h i hi;have h2:(Wx L)[i]?=some (Wx L)[i]:=aN hi;rw [h2] at h1 |-;exact cO h1 J
theorem Dx(σ:List (List D)):NewAt (σ++Wx σ.length) σ.length:=fun i hi=>by
 rw [bI (by omega),kB]
theorem lK:kM uE= .agg vc0:=rfl
theorem fV:iQ fI= .agg [D.int 0,D.int 2,D.str cT,D.str ⟨#[]⟩,.sl false [],.sl false [],.sl false [],.sl false []]:=by first | rfl | (rw [x_TN_eq];rfl)
def lQ:PIC:=⟨fI,uE,false,0, [], [], []⟩
def aJc:TN:=⟨0,0,⟨#[]⟩,⟨#[]⟩, [], [], [], []⟩
def mX:PIC:=⟨aJc,uE,true,0, [], [], []⟩
theorem Zb(e w l s:Nat)(σ:List (List D))(hE:σ[e]?=some (Hg w))(hW:σ[w]?=some (Dj l s)):Ct prog 42 [.ref e 0] σ (fun r σ'=>r=kM uE/\σ'=σ):=(Xe e w l s σ hE hW).strip fun r σ' h=>⟨h.1.1,h.1.2,h.2⟩
theorem aEk(L:Nat)(σ:List (List D))(h:NewAt σ L):Ct prog 16 [.ref (L+10) 0] σ (fun r σ'=>(r.plain=true/\r.strip=rN lQ)/\σ'=σ++ [[],uV σ.length 18 (σ.length+3), [],jI]):=by
 refine zf func16 ?_;refine cL fun _ _ Z=>?_;simp(disch:=omega)[lK,fV,dP,aI,aB];apply Z;refine cL fun _ _ Z=>?_;refine zs 1 fun _ Y=>?_;simp(disch:=omega)[lK,fV,dP,aI,aB];apply Y;refine aD fun _ Y=>?_;simp(disch:=omega)[lK,fV,dP,aI,aB];refine eH (Zb (L+10) (L+9) (L+3) (L+8) _ (h 10 (by decide)) (h 9 (by decide))) ?_;apply Y;refine zs 1 fun _ Y=>?_;simp(disch:=omega)[lK,fV,dP,aI,aB];apply Y;refine aD fun _ Y=>?_;simp(disch:=omega)[lK,fV,dP,aI,aB];refine eH (aEn (L+10) (L+9) (L+3) (L+8) _ (h 10 (by decide)) (h 9 (by decide))) ?_;apply Y;refine zs 1 fun _ Y=>?_;simp(disch:=omega)[lK,fV,dP,aI,aB];apply Y;refine aD fun _ Y=>?_;simp(disch:=omega)[lK,fV,dP,aI,aB];refine eH (aGl (L+10) (L+9) (L+3) (L+8) (L+6) (L+7) 8192 _ (h 10 (by decide)) (h 9 (by decide)) (h 8 (by decide))) ?_;apply Y;refine zs 1 fun _ Y=>?_;simp(disch:=omega)[lK,fV,dP,aI,aB];apply Y;refine aD fun _ Y=>?_;simp(disch:=omega)[lK,fV,dP,aI,aB];refine eH (Xq (L+10) (L+9) (L+3) (L+8) (L+6) (L+5) (L+7) 8192 (.mp (L+4) (.int .i64) 0 []) _ (h 10 (by decide)) (h 9 (by decide)) (h 8 (by decide)) (h 7 (by decide)) (h 6 (by decide)) (h 5 (by decide))) ?_;apply Y;refine zs 1 fun _ Y=>?_;simp(disch:=omega)[lK,fV,dP,aI,aB];apply Y;refine aD fun _ Y=>?_;simp(disch:=omega)[lK,fV,dP,aI,aB];refine eH (aAe (L+10) (L+9) (L+3) (L+8) _ (h 10 (by decide)) (h 9 (by decide))) ?_;apply Y;simp(disch:=omega)[lK,fV,dP,aI,aB];apply Z;refine zk [0,2,3] ?_;refine cL fun _ _ Z=>?_;refine zs 1 fun _ Y=>?_;simp(disch:=omega)[lK,fV,dP,aI,aB];apply Y;refine aD fun _ Y=>?_;simp(disch:=omega)[lK,fV,dP,aI,aB];refine eH (Qw (L+10) (L+9) (L+3) (L+8) (L+1) L (L+2) _ (h 10 (by decide)) (h 9 (by decide)) (h 3 (by decide)) (h 1 (by decide)) (h 2 (by decide))) ?_;apply Y;refine aD fun _ Y=>?_;simp(disch:=omega)[lK,fV,dP,aI,aB];refine eH (aGu (σ.length+1) σ.length (σ.length+3) 18 _ (by simp [aI,aB]) (by simp [aI,aB])) ?_;apply Y;simp(disch:=omega)[lK,fV,dP,aI,aB];apply Z;apply aE;refine cL fun _ _ Z=>?_;refine zs 2 fun _ Y=>?_;simp(disch:=omega)[lK,fV,dP,aI,aB];apply Y;refine aD fun _ Y=>?_;simp(disch:=omega)[lK,fV,dP,aI,aB];refine eH (aE3 fI _ aAj) ?_;apply Y;simp(disch:=omega)[lK,fV,dP,aI,aB];and_intros<;>(try omega);apply Z;apply aQ;refine zk [0,2,3,28,29,30] ?_;refine bK (fun(k:Nat)=> [(30,.d (.v (.int .i64 (k:Int)))),(5,.d (.any)),(6,.d (.any)),(7,.d (.any))]) [5,6,7,30,31,32,33,34,35,36,37,38,39,40,41,42,43,44,45,46,47,48,49] (fun(k:Nat)=>k<=1) (fun(k:Nat)=>1 - k) (0) (by simp <;> rfl) ?_ ?_ ?_
 .simp
 .exact cH _
 rintro k hk;simp only [aO,aK];refine cL fun _ _ Z=>?_;simp(disch:=omega)[lK,fV,dP,aI,aB];apply Z;apply aE;refine zI ?_ ?_<;>intro c1<;>try simp at c1
 .obtain rfl:k=0:=by omega
  apply mT;refine cL fun _ _ Z=>?_;simp(disch:=omega)[lK,fV,dP,aI,aB];and_intros<;>(try omega);apply Z;refine zk [0,2,3,5,6,7,28,29,30] ?_;refine cL fun _ _ Z=>?_;refine zs 2 fun _ Y=>?_;simp(disch:=omega)[lK,fV,dP,aI,aB];apply Y;refine aD fun _ Y=>?_;simp(disch:=omega)[lK,fV,dP,aI,aB];refine eH (Yu (L+10) (L+9) (L+3) (L+8) 0 _ ((h.app _) 10 (by decide)) ((h.app _) 9 (by decide))) ?_;apply Y;simp(disch:=omega)[lK,fV,dP,aI,aB];apply Z;refine zk [0,2,3,5,6,7,28,29,30] ?_;refine cL fun _ _ Z=>?_;simp(disch:=omega)[lK,fV,dP,aI,aB];apply Z;refine zI ?_ ?_<;>intro c2<;>try simp at c2
  apply rK;refine Dd fun _ _ Z=>?_;simp(disch:=omega)[lK,fV,dP,aI,aB];and_intros<;>(try omega);apply Z;refine zq (0+1) ?_ ?_ ?_
  .omega
  .omega
  simp(disch:=omega)[lK,fV,dP,aI,aB]
 apply zE;refine cL fun _ _ Z=>?_;simp(disch:=omega)[lK,fV,dP,aI,aB];apply Z;apply aC;simp [aT,lQ,fI]
theorem aBu(L:Nat)(σ:List (List D))(h:NewAt σ L):Ct prog 16 [.ref (L+10) 0] σ (fun r σ'=>r=rN lQ/\σ'=σ++ [[],uV σ.length 18 (σ.length+3), [],jI]):=(aEk L σ h).strip fun r σ' h=>⟨h.1.1,h.1.2,h.2⟩
theorem Pl:Qo []:=Sa [] (by decide) (fun e he=>by simp at he)
theorem aBc(t:TN)(hc:t.classes= [])(ha:t.attrs= [])(hs:t.styles= [])(hk:t.kids= []):TI t:= .mk _ ⟨⟨by rw [hc];exact cH _,by rw [ha];exact cH _,by rw [hs];exact cH _,by rw [hk];exact cH _⟩,by rw [ha];exact List.Pairwise.nil,by rw [hs];exact List.Pairwise.nil⟩ fun k h=>by rw [hk] at h;simp at h
theorem pw0:PW lQ:=⟨aBc _ rfl rfl rfl rfl,rfl,Zx,by have:=Ms;show fB uE<=100;omega,by decide,by decide,by decide⟩
theorem pw1:PW mX:=⟨aBc _ rfl rfl rfl rfl,rfl,Zx,by have:=Ms;show fB uE<=100;omega,by decide,by decide,by decide⟩
theorem aNd:mP lQ= []:=by decide+kernel
theorem aNq:mP mX= [⟨1,0⟩]:=by decide+kernel
theorem We(σ:List (List D)):Ct prog 8 [rN lQ] σ (fun r σ'=>r= .sl true []/\σ'=σ):=(vW lQ σ pw0 Pl).mono fun r σ' h=>by rw [aNd] at h;exact h
theorem Sq(σ:List (List D)):Ct prog 8 [rN mX] σ (fun r σ'=>r= .sl true ([(⟨1,0⟩:FND)].map rZ)/\σ'=σ):=(vW mX σ pw1 Pl).mono fun r σ' h=>by rw [aNq] at h;exact h
end Go.Proofs.YtbdjepeabjangaaGreat
