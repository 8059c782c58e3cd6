import Derived.Test.YtbgfljpnhhdkoaaGreatWkAr16
open Go.Proofs.Tryz
set_option maxHeartbeats 1000000
set_option linter.all false
namespace Go.Proofs.YtbgfljpnhhdkoaaGreat
open Go Go.Vm
variable {k m M:Nat} {d:DS} {rk:Int→Nat} {σ:List (List D)} {x:RD}
theorem Mp(a:Act)(h:IV k m M d rk σ)(hk:k≤800)(hs:a.name.size≤1000)(hb:10≤a.kind∧a.kind≤17):DetQ 142 [.ref m 0,mK a] σ d k m M (setX d.x (a.kind - 10) a.a a.name a.value a.c):=by
 by_cases q0:a.kind=10
 ·obtain⟨d',rk',σ',hc,hi,e,fr⟩:=Oy k m M d rk σ a.a a.name a.value a.c h hk hs;rw [show a.kind - 10=0 by omega];exact⟨d',rk',σ',iO m a _ σ' σ hb (fun _=>hc) (fun q=>by omega) (fun q=>by omega) (fun q=>by omega) (fun q=>by omega) (fun q=>by omega) (fun q=>by omega) (fun q=>by omega),hi,e,fr⟩
 by_cases q1:a.kind=11
 ·obtain⟨d',rk',σ',hc,hi,e,fr⟩:=Ol k m M d rk σ a.a a.name a.value a.c h hk;rw [show a.kind - 10=1 by omega];exact⟨d',rk',σ',iO m a _ σ' σ hb (fun q=>by omega) (fun _=>hc) (fun q=>by omega) (fun q=>by omega) (fun q=>by omega) (fun q=>by omega) (fun q=>by omega) (fun q=>by omega),hi,e,fr⟩
 by_cases q2:a.kind=12
 ·obtain⟨d',rk',σ',hc,hi,e,fr⟩:=aEg k m M d rk σ a.a a.name a.value a.c h hk hs;rw [show a.kind - 10=2 by omega];exact⟨d',rk',σ',iO m a _ σ' σ hb (fun q=>by omega) (fun q=>by omega) (fun _=>hc) (fun q=>by omega) (fun q=>by omega) (fun q=>by omega) (fun q=>by omega) (fun q=>by omega),hi,e,fr⟩
 by_cases q3:a.kind=13
 ·obtain⟨d',rk',σ',hc,hi,e,fr⟩:=aCv k m M d rk σ a.a a.name a.value a.c h hk hs;rw [show a.kind - 10=3 by omega];exact⟨d',rk',σ',iO m a _ σ' σ hb (fun q=>by omega) (fun q=>by omega) (fun q=>by omega) (fun _=>hc) (fun q=>by omega) (fun q=>by omega) (fun q=>by omega) (fun q=>by omega),hi,e,fr⟩
 by_cases q4:a.kind=14
 ·obtain⟨d',rk',σ',hc,hi,e,fr⟩:=aF0 k m M d rk σ a.a a.name a.value a.c h hk hs;rw [show a.kind - 10=4 by omega];exact⟨d',rk',σ',iO m a _ σ' σ hb (fun q=>by omega) (fun q=>by omega) (fun q=>by omega) (fun q=>by omega) (fun _=>hc) (fun q=>by omega) (fun q=>by omega) (fun q=>by omega),hi,e,fr⟩
 by_cases q5:a.kind=15
 ·obtain⟨d',rk',σ',hc,hi,e,fr⟩:=Ya k m M d rk σ a.a a.name a.value a.c h hk hs;rw [show a.kind - 10=5 by omega];exact⟨d',rk',σ',iO m a _ σ' σ hb (fun q=>by omega) (fun q=>by omega) (fun q=>by omega) (fun q=>by omega) (fun q=>by omega) (fun _=>hc) (fun q=>by omega) (fun q=>by omega),hi,e,fr⟩
 by_cases q6:a.kind=16
 ·obtain⟨d',rk',σ',hc,hi,e,fr⟩:=aAj k m M d rk σ a.a a.name a.value a.c h hk hs;rw [show a.kind - 10=6 by omega];exact⟨d',rk',σ',iO m a _ σ' σ hb (fun q=>by omega) (fun q=>by omega) (fun q=>by omega) (fun q=>by omega) (fun q=>by omega) (fun q=>by omega) (fun _=>hc) (fun q=>by omega),hi,e,fr⟩
 obtain⟨d',rk',σ',hc,hi,e,fr⟩:=aC4 k m M d rk σ a.a a.name a.value a.c (a.kind - 10) (by omega) h hk hs;exact⟨d',rk',σ',iO m a _ σ' σ hb (fun q=>by omega) (fun q=>by omega) (fun q=>by omega) (fun q=>by omega) (fun q=>by omega) (fun q=>by omega) (fun q=>by omega) (fun _=>hc),hi,e,fr⟩
theorem kP {α β:Type} {p:α×β} {c:β} (h:p.2=c):p=(p.1,c):=by rw [← h]
end Go.Proofs.YtbgfljpnhhdkoaaGreat
namespace Go.Proofs.YtbgfljpnhhdkoaaGreat
open Go Go.Vm
set_option maxRecDepth 20000
set_option maxHeartbeats 8000000
theorem aH9(l:List PI)(σ:List (List D))(hl:l.length≤10000):Ct prog 168 [.sl false (l.map cW),.sl false (l.map cW)] σ (fun r σ'=>r= .bool true∧σ'=σ):=by
 refine zf (rs:=[.tmp 4]) func168 ntmps168 results168 ?_;simp only [aO];refine aV fun _ _ Z=>?_;simp(disch:=omega);apply Z;apply aC;refine aV fun _ _ Z=>?_;simp(disch:=omega);and_intros<;>(try omega);apply Z;refine zi ?_;refine⟨fun c1=>?_,fun c1=>?_⟩
 ·simp at c1
 try simp at c1
 apply aE;apply aA;apply aC;refine aV fun _ _ Z=>?_;simp(disch:=omega);and_intros<;>(try omega);apply Z;apply aH;refine zk [0,1,4,12,13] ?_;refine bE (fun(k:Nat)=> [(13,.d (.v (.int .i64 (k:Int)))),(5,.d (.any))]) [4,5,13,14,15,16,17,18,19,20,21,22,23,24,25] (fun(k:Nat)=>k≤l.length) (fun(k:Nat)=>l.length - k) (0) (by simp <;> rfl) ?_ ?_ ?_
 ·simp
 ·simp
 rintro k hk;simp only [List.cons_append,List.nil_append];refine aV fun _ _ Z=>?_;simp(disch:=omega);apply Z;apply aC;refine zi ?_;refine⟨fun c2=>?_,fun c2=>?_⟩
 ·try simp at c2
  apply aE;apply aA;apply aC;apply aH;refine aV fun _ _ Z=>?_;simp(disch:=omega);apply Z;refine zd ⟨[],[],[],[],[]⟩ [.op {},.op {},.op {},.op {},.op {},.op {},.op {},.op {},.op {}] fun all hall _ Z=>?_;refine dJ 8 fun _ Y=>?_;simp(disch:=omega);and_intros<;>(try omega);apply Y;simp(disch:=omega);apply Z;refine zi ?_;refine⟨fun c3=>?_,fun c3=>?_⟩
  ·simp at c3
  try simp at c3
  apply aE;apply aL;apply aA;refine zk [0,1,5,12,13] ?_;refine rH fun _ _ Z=>?_;simp(disch:=omega);and_intros<;>(try omega);apply Z;refine zq (k+1) ?_ ?_ ?_
  ·omega
  ·try dsimp only
   omega
  simp(disch:=omega)
 try simp at c2
 apply bA;apply aZ;apply bB;apply aW;apply aA;refine aV fun _ _ Z=>?_;simp(disch:=omega);apply Z;apply aB;simp [aJ]
theorem Sp(n:ND)(σ:List (List D))(h1:n.kids.length≤10000)(h2:n.classes.length≤10000)(h3:n.attrs.length≤10000)(h4:n.styles.length≤10000):Ct prog 86 [rK n,rK n] σ (fun r σ'=>r= .bool true∧σ'=σ):=by
 refine zf (rs:=[.tmp 4]) func86 ntmps86 results86 ?_;simp only [aO];refine aV fun _ _ Z=>?_;simp(disch:=omega);apply Z;apply aC;refine kF ⟨[],[],[],[],[]⟩ fun all hall _ Z=>?_;have ga5:aN all 5=some 12:=hall 5;have ga12:aN all 12=some 19:=hall 12;have ga19:aN all 19=some 26:=hall 19;have ga26:aN all 26=some 33:=hall 26;have ga33:aN all 33=some 40:=hall 33;refine zs 6 fun _ Y=>?_;simp(disch:=omega)[ga5,ga12,ga19,ga26,ga33];apply Y;refine aR 12 (by simp <;> rfl) ?_;refine⟨fun g1=>?_,fun g1=>?_⟩
 ·simp at g1
 try simp at g1
 refine zs 7 fun _ Y=>?_;simp(disch:=omega)[ga5,ga12,ga19,ga26,ga33];apply Y;refine aR 19 (by simp <;> rfl) ?_;refine⟨fun g2=>?_,fun g2=>?_⟩
 ·simp at g2
 try simp at g2
 refine zs 7 fun _ Y=>?_;simp(disch:=omega)[ga5,ga12,ga19,ga26,ga33];apply Y;refine aR 26 (by simp <;> rfl) ?_;refine⟨fun g3=>?_,fun g3=>?_⟩
 ·simp at g3
 try simp at g3
 refine zs 7 fun _ Y=>?_;simp(disch:=omega)[ga5,ga12,ga19,ga26,ga33];apply Y;refine aR 33 (by simp <;> rfl) ?_;refine⟨fun g4=>?_,fun g4=>?_⟩
 ·simp at g4
 try simp at g4
 refine zs 7 fun _ Y=>?_;simp(disch:=omega)[ga5,ga12,ga19,ga26,ga33];apply Y;refine aR 40 (by simp <;> rfl) ?_;refine⟨fun g5=>?_,fun g5=>?_⟩
 ·simp at g5
 try simp at g5
 simp(disch:=omega)[ga5,ga12,ga19,ga26,ga33];and_intros<;>(try omega);apply Z;refine zi ?_;refine⟨fun c6=>?_,fun c6=>?_⟩
 ·simp at c6
 try simp at c6
 apply aE;apply aA;apply aC;refine zk [2,3,4] ?_;refine aV fun _ _ Z=>?_;simp(disch:=omega);and_intros<;>(try omega);apply Z;apply aH;refine zk [2,3,4,50,51,52] ?_;refine bE (fun(k:Nat)=> [(52,.d (.v (.int .i64 (k:Int)))),(5,.d (.any))]) [4,5,6,52,53,54,55,56,57,58,59,60,61,62,63,64,65,66,67,68,69,70,71,72,73,74,75,76,77] (fun(k:Nat)=>k≤n.attrs.length) (fun(k:Nat)=>n.attrs.length - k) (0) (by simp <;> rfl) ?_ ?_ ?_
 ·simp
 ·simp
 rintro k hk;simp only [List.cons_append,List.nil_append];refine aV fun _ _ Z=>?_;simp(disch:=omega);apply Z;apply aC;refine zi ?_;refine⟨fun c7=>?_,fun c7=>?_⟩
 ·try simp at c7
  apply aE;apply aA;apply aC;apply aH;refine aV fun _ _ Z=>?_;simp(disch:=omega);and_intros<;>(try omega);apply Z;refine zk [2,3,5,6,50,51,52] ?_;refine zd ⟨[],[],[],[],[]⟩ [.op {},.op {rL:=true},.op {},.op {},.op {},.op {},.op {},.op {rL:=true},.op {},.op {},.op {},.op {rL:=true},.op {},.op {},.op {},.op {},.op {},.op {rL:=true},.op {},.op {}] fun all hall _ Z=>?_;have ga9:aN all 9=some 66:=hall 9;refine dJ 8 fun _ Y=>?_;simp(disch:=omega)[ga9];and_intros<;>(try omega);apply Y;refine dJ 2 fun _ Y=>?_;simp(disch:=omega)[ga9];apply Y;refine bN 66 (by simp <;> rfl) ?_;refine⟨fun g8=>?_,fun g8=>?_⟩
  ·simp at g8
  try simp at g8
  refine dJ 8 fun _ Y=>?_;simp(disch:=omega)[ga9];and_intros<;>(try omega);apply Y;simp(disch:=omega)[ga9];apply Z;refine zi ?_;refine⟨fun c9=>?_,fun c9=>?_⟩
  ·simp at c9
  try simp at c9
  apply aE;apply aL;apply aA;refine zk [2,3,5,50,51,52] ?_;refine rH fun _ _ Z=>?_;simp(disch:=omega);and_intros<;>(try omega);apply Z;refine zq (k+1) ?_ ?_ ?_
  ·omega
  ·try dsimp only
   omega
  simp(disch:=omega)
 try simp at c7
 apply bA;apply aZ;apply bB;apply aW;apply aA;refine zk [2,3] ?_;refine kF ⟨[],[],[],[],[]⟩ fun all hall _ Z=>?_;have ga5:aN all 5=some 83:=hall 5;have ga12:aN all 12=some 90:=hall 12;refine zs 4 fun _ Y=>?_;simp(disch:=omega)[ga5,ga12];apply Y;refine aD fun _ Y=>?_;simp(disch:=omega)[ga5,ga12];refine cD (aFw n.classes n.classes _ (by omega) (by omega)) ?_;apply Y;refine zs 1 fun _ Y=>?_;simp(disch:=omega)[ga5,ga12];apply Y;refine aR 83 (by simp <;> rfl) ?_;refine⟨fun g10=>?_,fun g10=>?_⟩
 ·try simp at g10
  refine zs 4 fun _ Y=>?_;simp(disch:=omega)[ga5,ga12];apply Y;refine zg ga5 fun _ Y=>?_;simp(disch:=omega)[ga5,ga12];refine cD (aH9 n.styles _ h4) ?_;apply Y;refine zs 2 fun _ Y=>?_;simp(disch:=omega)[ga5,ga12];apply Y;refine aR 90 (by simp <;> rfl) ?_;refine⟨fun g11=>?_,fun g11=>?_⟩
  ·try simp at g11
   refine zs 4 fun _ Y=>?_;simp(disch:=omega)[ga5,ga12];apply Y;refine zg ga12 fun _ Y=>?_;simp(disch:=omega)[ga5,ga12];refine cD (zF n.kids n.kids _ (by omega) (by omega)) ?_;apply Y;simp(disch:=omega)[ga5,ga12];apply Z;apply aB;simp [aJ]
  simp at g11
 simp at g10
theorem rN(k m M:Nat)(d:DS)(rk:Int→Nat)(x:RD)(σ:List (List D))(hi:IX k m M d rk x σ)(hk:k≤800):Ct prog 25 [.ref m 0,dO x] σ (fun r σ'=>r= .bool true∧σ'=σ):=by
 refine zf (rs:=[.tmp 4]) func25 ntmps25 results25 ?_;simp only [aO];obtain⟨h,hxp⟩:=hi;have hnb:=h.ip.NB (by omega);have hll:=nT d;have htr:=h.wt.Tr (by have:=h.ip.len;rw [nT];omega);obtain⟨b1,b2,b3⟩:=h.bounds (by omega);have hxx:NB x.l:=hxp.nb hnb;have htx:Tr x.l (bL d.l rk) rk:=htr.perm hxp.fd;have hxl:x.l.length=d.es.length:=by rw [hxp.len];exact hll
 have hxm:x.most=d.most:=hxp.most;have hxn:x.next=d.next:=hxp.next;have hbl:=htr.len 0;have hro:=h.ip.room;refine aV fun _ _ Z=>?_;simp(disch:=omega);apply Z;apply aC;refine zd ⟨[],[],[],[],[]⟩ [.op {},.read,.op {},.op {rL:=true},.op {},.op {},.op {},.op {},.op {},.read,.op {},.op {rL:=true},.op {},.op {rL:=true},.op {},.op {},.op {},.op {},.op {},.op {},.op {},.read,.op {},.op {rL:=true},.op {},.op {},.op {},.op {},.read,.op {rL:=true},.pure,.pure,.op {},.op {}] fun all hall _ Z=>?_;have ga7:aN all 7=some 17:=hall 7;have ga19:aN all 19=some 29:=hall 19;have ga26:aN all 26=some 36:=hall 26;refine dJ 1 fun _ Y=>?_;simp(disch:=omega)[ga7,ga19,ga26];apply Y;refine cG fun _ Y=>?_;simp(disch:=omega)[ga7,ga19,ga26];refine sR (Dh m M d _ h.ho b1) ?_;apply Y;refine dJ 6 fun _ Y=>?_;simp(disch:=omega)[ga7,ga19,ga26];and_intros<;>(try omega);apply Y;refine bN 17 (by simp <;> rfl) ?_;refine⟨fun g1=>?_,fun g1=>?_⟩
 ·try simp at g1
  omega
 try simp at g1
 refine dJ 1 fun _ Y=>?_;simp(disch:=omega)[ga7,ga19,ga26];apply Y;refine oW ga7 fun _ Y=>?_;simp(disch:=omega)[ga7,ga19,ga26];refine sR (Ab m M d _ h.ho b1 b2) ?_;apply Y;refine dJ 8 fun _ Y=>?_;simp(disch:=omega)[ga7,ga19,ga26];and_intros<;>(try omega);apply Y;refine dJ 2 fun _ Y=>?_;simp(disch:=omega)[ga7,ga19,ga26];apply Y;refine bN 29 (by simp <;> rfl) ?_;refine⟨fun g2=>?_,fun g2=>?_⟩
 ·try simp at g2
  omega
 try simp at g2
 refine dJ 1 fun _ Y=>?_;simp(disch:=omega)[ga7,ga19,ga26];apply Y;refine oW ga19 fun _ Y=>?_;simp(disch:=omega)[ga7,ga19,ga26];refine sR (Yu m M d _ h.ho) ?_;apply Y;refine dJ 5 fun _ Y=>?_;simp(disch:=omega)[ga7,ga19,ga26];apply Y;refine bN 36 (by simp <;> rfl) ?_;refine⟨fun g3=>?_,fun g3=>?_⟩
 ·try simp at g3
  omega
 try simp at g3
 refine dJ 1 fun _ Y=>?_;simp(disch:=omega)[ga7,ga19,ga26];apply Y;refine oW ga26 fun _ Y=>?_;simp(disch:=omega)[ga7,ga19,ga26];refine sR (Xf m M d (bL d.l rk) rk _ h.ho (h.WD (by omega)) h.ip.root) ?_;apply Y;refine dJ 1 fun _ Y=>?_;simp(disch:=omega)[ga7,ga19,ga26];apply Y;refine oW ga26 fun _ Y=>?_;simp(disch:=omega)[ga7,ga19,ga26];refine Cr (fun _=>(tO x 0 (bL d.l rk) rk _ hxx htx)) ?_;apply Y;refine oW ga26 fun _ Y=>?_;simp(disch:=omega)[ga7,ga19,ga26];refine Cr (fun _=>(zF (bL d.l rk 0) (bL d.l rk 0) _ (by omega) (by omega))) ?_;apply Y;simp(disch:=omega)[ga7,ga19,ga26];apply Z;refine zi ?_;refine⟨fun c4=>?_,fun c4=>?_⟩
 ·simp at c4
 try simp at c4
 apply aE;apply aA;apply aC;refine zk [0,3,4] ?_;refine aV fun _ _ Z=>?_;simp(disch:=omega);apply Z;apply aH;refine zk [0,3,4,5] ?_;refine bE (fun(j:Nat)=> [(5,.d (.int ((j:Int) - 1)))]) [4,5,6,7,8,9,44,45,46,47,48,49,50,51,52,53,54,55,56,57,58,59,60,61,62,63,64,65,66,67,68,69,70,71,72,73,74,75,76,77,78,79,80,81,82] (fun(j:Nat)=>(j:Int)≤d.next+2) (fun(j:Nat)=>(d.next+2).toNat - j) (0) (by simp <;> rfl) ?_ ?_ ?_
 ·simp
 ·omega
 rintro j hj;simp only [List.cons_append,List.nil_append];apply aC;refine aV fun _ _ Z=>?_;simp(disch:=omega);apply Z;refine zi ?_;refine⟨fun c5=>?_,fun c5=>?_⟩
 ·try simp at c5
  apply aE;apply aA;apply aC;apply aH;refine aV fun _ _ Z=>?_;refine zs 2 fun _ Y=>?_;simp(disch:=omega);apply Y;refine aD fun _ Y=>?_;simp(disch:=omega);refine cD (sM m M d ((j:Int) - 1) _ h.ho hnb) ?_;apply Y;simp(disch:=omega);apply Z;refine zk [0,3,5,6,7] ?_;refine aV fun _ _ Z=>?_;refine zs 2 fun _ Y=>?_;simp(disch:=omega);apply Y;refine aD fun _ Y=>?_;simp(disch:=omega);refine cD (gA x ((j:Int) - 1) _ hxx) ?_;rw [hxp.fd,hxp.il];apply Y;simp(disch:=omega);apply Z;refine zk [0,3,5,6,7,8,9] ?_;refine zd ⟨[],[],[],[],[]⟩ [.op {},.op {},.op {},.op {},.op {},.op {},.op {rL:=true},.op {rL:=true},.pure,.op {},.op {},.op {},.op {},.op {},.op {},.read,.op {rL:=true},.op {},.pure,.op {},.op {}] fun all hall _ Z=>?_;have ga3:aN all 3=some 65:=hall 3;have ga5:aN all 5=some 67:=hall 5;have ga12:aN all 12=some 74:=hall 12;refine dJ 4 fun _ Y=>?_;simp(disch:=omega)[ga3,ga5,ga12];apply Y;refine bN 65 (by simp <;> rfl) ?_;refine⟨fun g6=>?_,fun g6=>?_⟩
  ·simp at g6
  try simp at g6
  refine dJ 2 fun _ Y=>?_;simp(disch:=omega)[ga3,ga5,ga12];apply Y;refine bN 67 (by simp <;> rfl) ?_;refine⟨fun g7=>?_,fun g7=>?_⟩
  ·try simp at g7
   refine dJ 2 fun _ Y=>?_;simp(disch:=omega)[ga3,ga5,ga12];apply Y;refine oW ga5 fun _ Y=>?_;simp(disch:=omega)[ga3,ga5,ga12];refine Cr (fun _=>(Sp (aF d.l ((j:Int) - 1)) _ (by have:=hnb.fk ((j:Int) - 1);omega) (by have:=hnb.fc ((j:Int) - 1);omega) (by have:=hnb.fa ((j:Int) - 1);omega) (by have:=hnb.fs ((j:Int) - 1);omega))) ?_;apply Y;refine dJ 4 fun _ Y=>?_;simp(disch:=omega)[ga3,ga5,ga12];apply Y;refine bN 74 (by simp <;> rfl) ?_;refine⟨fun g8=>?_,fun g8=>?_⟩
   ·simp at g8
   try simp at g8
   refine dJ 2 fun _ Y=>?_;simp(disch:=omega)[ga3,ga5,ga12];apply Y;refine oW ga12 fun _ Y=>?_;simp(disch:=omega)[ga3,ga5,ga12];refine sR (Bz m M d ((j:Int) - 1) _ h.ho hnb h.WP (fun e he=>h.fd he)) ?_;apply Y;refine dJ 2 fun _ Y=>?_;simp(disch:=omega)[ga3,ga5,ga12];apply Y;refine oW ga12 fun _ Y=>?_;simp(disch:=omega)[ga3,ga5,ga12];refine Cr (fun _=>(Dq x ((j:Int) - 1) _ hxx)) ?_;rw [hxp.ix];apply Y;simp(disch:=omega)[ga3,ga5,ga12];apply Z;refine zi ?_;refine⟨fun c9=>?_,fun c9=>?_⟩
   ·simp at c9
   try simp at c9
   apply aE;apply aL;apply aA;refine zk [0,3,5] ?_;refine rH fun _ _ Z=>?_;simp(disch:=omega);and_intros<;>(try omega);apply Z;refine zq (j+1) ?_ ?_ ?_
   ·omega
   ·try dsimp only
    omega
   first | (simp [Bj];done) | (simp [Bj];omega)
  try simp at g7
  refine dJ 7 fun _ Y=>?_;simp(disch:=omega)[ga3,ga5,ga12];apply Y;refine dJ 2 fun _ Y=>?_;simp(disch:=omega)[ga3,ga5,ga12];apply Y;refine oW ga12 fun _ Y=>?_;simp(disch:=omega)[ga3,ga5,ga12];refine sR (Bz m M d ((j:Int) - 1) _ h.ho hnb h.WP (fun e he=>h.fd he)) ?_;apply Y;refine dJ 2 fun _ Y=>?_;simp(disch:=omega)[ga3,ga5,ga12];apply Y;refine oW ga12 fun _ Y=>?_;simp(disch:=omega)[ga3,ga5,ga12];refine Cr (fun _=>(Dq x ((j:Int) - 1) _ hxx)) ?_;rw [hxp.ix];apply Y;simp(disch:=omega)[ga3,ga5,ga12];apply Z;refine zi ?_;refine⟨fun c10=>?_,fun c10=>?_⟩
  ·simp at c10
  try simp at c10
  apply aE;apply aL;apply aA;refine zk [0,3,5] ?_;refine rH fun _ _ Z=>?_;simp(disch:=omega);and_intros<;>(try omega);apply Z;refine zq (j+1) ?_ ?_ ?_
  ·omega
  ·try dsimp only
   omega
  first | (simp [Bj];done) | (simp [Bj];omega)
 try simp at c5
 apply bA;apply aZ;apply bB;apply aW;apply aA;refine aV fun _ _ Z=>?_;simp(disch:=omega);apply Z;apply aB;simp [aJ]
end Go.Proofs.YtbgfljpnhhdkoaaGreat
