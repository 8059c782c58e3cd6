import Derived.Test.YtbgfljpnhhdkoaaGreatVmA
import Derived.RangeFuncNested
import Derived.RangeFuncBound
import Derived.RangeFuncCalls
import Derived.RangeFuncLeaves
import Derived.Shelf.Abstract
import Derived.Shelf.RegionOpen
import Derived.WalkKit
import Derived.OwnWalkIn
import Derived.TacticsInMore
import Derived.LoopNIn
import Derived.LoopIn
import Derived.Maps.AppendAt
import Derived.Test.YtbgfljpnhhdkoaaGreatProg
import Derived.MapKept
set_option linter.all false
set_option maxRecDepth 100000
set_option maxHeartbeats 4000000
open Go.Proofs.Tryz
namespace Go.Proofs.YtbgfljpnhhdkoaaGreat
open Go Go.Proofs Go.RowKit Go.Shelf
attribute [local go_sem] Oper.semAt_some
variable {B C b k n₀:Nat}{F:Fence}{W w:World}{a:Addr}{os:List Nat}{oss:List (List Nat)}{v:Value}
abbrev zS(x:Nat):Value:= .pointer (some ⟨x,0,none⟩)
theorem aJo (hd:F.depth=none)(k:Nat):F.room k:=fun d h=>by rw [hd] at h;cases h
theorem aDo (hd:F.depth=none) {m m':Nat} {P:Program} {l:Nat} {f:FuncId} {tmps:Array Value} {assign body:Code} {R:Ending->World->Prop}
    (h:RoundIn F m P l f tmps assign body w R):RoundIn F m' P l f tmps assign body w R:=⟨h.1,fun c cs _=>h.2 c cs (aJo hd _)⟩
theorem aEp (hd:F.depth=none) {m:Nat} (m':Nat) {P:Program} {l:Nat} {args:Array Value} {R:Ending->World->Prop} (h:YieldAt F m P l args W R):YieldAt F m' P l args W R:=by
  obtain⟨fn,tmps,assign,body,hy,hR⟩:=h;exact⟨fn,tmps,assign,body,hy,aDo hd hR⟩
def PtrsAt(n₀:Nat)(W:World)(sv:Value)(ps:List Nat):Prop:=
  (∃a cap,sv= .slice a 0 cap/\ps= [])\/∃b off cap,sv= .slice (some ⟨b,off,none⟩) ps.length cap/\b<n₀/\∀j (h:j<ps.length),W.cell? ⟨b,off+j,none⟩=some (zS ps[j])
inductive IW(n₀:Nat)(W:World):Nat->List Nat->Prop
  | mk (b:Nat) (sv:Value) (ps:List Nat) (oss:List (List Nat)) (hb:b<n₀) (h26:W.cell? ⟨b,26,none⟩=some sv) (hs:PtrsAt n₀ W sv ps) (hlen:ps.length<1000000) (hl:oss.length=ps.length)
      (hk:∀(j:Nat) (h1:j<ps.length) (h2:j<oss.length),IW n₀ W ps[j] oss[j]):IW n₀ W b (b::oss.flatten)
theorem IW.lt (h:IW n₀ W b os):b<n₀:=by cases h;assumption
theorem PtrsAt.below {n₁:Nat} {A B:World} (hn:n₀<=n₁)(h:Below n₀ A B) {sv:Value} {ps:List Nat} :PtrsAt n₀ A sv ps->PtrsAt n₁ B sv ps
  | .inl e=> .inl e
  | .inr ⟨b,off,cap,e,hb,hc⟩=> .inr ⟨b,off,cap,e,by omega,fun j hj=>(h.cell (p:=⟨b,off+j,none⟩) hb).trans (hc j hj)⟩
theorem IW.bel {n₁:Nat} {A B:World} (hn:n₀<=n₁)(h:Below n₀ A B) (hi:IW n₀ A b os):IW n₁ B b os:=by
  induction hi with
  | mk b sv ps oss hb h26 hs hlen hl hk ih=>exact .mk b sv ps oss (by omega) ((h.cell (p:=⟨b,26,none⟩) hb).trans h26) (hs.below hn h) hlen hl ih
theorem aE8 (h:k<oss.length):(oss.take (k+1)).flatten=(oss.take k).flatten++oss[k]:=by
  rw [Fg h,List.flatten_append,rZ,List.flatten_nil,gO]
theorem Sn (h:k<oss.length) {q:List Nat} (hq:q<+:oss[k]):(oss.take k).flatten++q<+:oss.flatten:=by
  obtain⟨r,hr⟩:=hq;refine⟨r++(oss.drop (k+1)).flatten,?_⟩;have e:oss.flatten=(oss.take k).flatten++(oss[k]++(oss.drop (k+1)).flatten):=by
    conv=>lhs;rw [<- fB k oss,xM h]
    rw [List.flatten_append,rZ]
  rw [e,<- hr];simp
theorem kV (h:k<oss.length):(oss.take k).flatten.length+oss[k].length<=oss.flatten.length:=by
  have:=Sn h (Dr oss[k]);have:=this.length_le;simpa using this
theorem aGn (h:k<oss.length) {x:Nat} (hx:x∈oss[k]):x∈oss.flatten:=xL.2 ⟨_,cB h,hx⟩
theorem aO0 (F : Fence) (hd : F.depth = none) (hf : F.fn 185) (hro : F.round = none) (l n₀ N : Nat) (U : Nat -> Prop) (J Jx : List Nat -> World -> Prop)
    (hY:∀m pre x W,U x->J pre W->pre.length<N->YieldAt F m prog l #[zS x] W fun e W'=>
      (e= .returned (.bool true)/\J (pre++ [x]) W'/\Below n₀ W W')\/(e= .returned (.bool false)/\Jx (pre++ [x]) W')) (W0:World) (hI:IW n₀ W0 b os):
    ∀ (n : Nat) (pre : List Nat) (W : World), (∀ x ∈ os, U x) -> Below n₀ W0 W -> J pre W -> pre.length + os.length <= N ->
      CallsIn F n prog 185 #[zS b,.func (.yield l) #[] #[]] W fun e W'=>
        (e= .returned (.bool true)/\J (pre++os) W'/\Below n₀ W W')\/(e= .returned (.bool false)/\∃q,q<+:os/\Jx (pre++q) W'):=by
  induction hI with
  | mk b sv ps oss hb h26 hs hlen hl hk ih =>
    intro n pre W hU hBW hJ hN;have hdd:∀k:Nat,(F.depth.isSome=true->1<=k):=fun k h=>by rw [hd] at h;cases h
    simp only [bO] at hN;obtain⟨fn,tmps,assign,body,hy,hR⟩:=hY (n - 1) pre b W (hU b fA) hJ (by omega);rcases hs with ⟨a,cap,rfl,rfl⟩ | ⟨bb,off,cap,rfl,hbb,hc⟩
    . have hos : oss = [] := xH.1 (by simpa using hl)
      subst hos;refine callsIn_of_wp func185 rfl hf ?_ hro;simp only [ntmps185,dZ,bO,cU,Nat.reduceAdd,Nat.reduceSub,mV,mU,mS,mW,aP,aQ]
      gi_wp2
      try refine⟨hdd _,?_⟩
      refine hR.mono ?_;clear hR;rintro e W1 (⟨rfl,hJ1,hb1⟩ | ⟨rfl,hx1⟩)
      . have c26 := ((hBW.trans hb1).cell (p := ⟨b, 26, none⟩) hb).trans h26
        gi_wp2
        gi_loopw [16] (fun i wr=>i= .int .i64 0/\J (pre++ [b]) wr/\Below n₀ W wr) (fun _ _=>0)
        case atStart=>exact⟨rfl,hJ1,hb1⟩
        case round=>
          obtain⟨rfl,hJs,hbs⟩:=hrel
          gi_wp2
          go_ret
          exact .inl ⟨rfl,by simpa using hJs,hbs⟩
      gi_wp2
      go_ret
      exact .inr ⟨rfl, [b],by simp,hx1⟩
    refine callsIn_of_wp func185 rfl hf ?_ hro;simp only [ntmps185,dZ,bO,cU,Nat.reduceAdd,Nat.reduceSub,mV,mU,mS,mW,aP,aQ]
    gi_wp2
    try refine⟨hdd _,?_⟩
    refine hR.mono ?_;clear hR;rintro e W1 (⟨rfl,hJ1,hb1⟩ | ⟨rfl,hx1⟩)
    . have c26 := ((hBW.trans hb1).cell (p := ⟨b, 26, none⟩) hb).trans h26
      gi_wp2
      gi_loopw [16] (fun i wr=>∃k:Nat,k<=ps.length/\i= .int .i64 k/\J (pre++b::(oss.take k).flatten) wr/\Below n₀ W wr) (fun i _=>ps.length - (intOf i).toNat)
      case atStart=>exact⟨0,iE _,rfl,by simpa using hJ1,hb1⟩
      case round=>
        obtain⟨k,hk2,rfl,hJs,hbs⟩:=hrel;by_cases hlt:k<ps.length
        . have ec := ((hBW.trans hbs).cell (p := ⟨bb, off + k, none⟩) hbb).trans (hc k hlt)
          have hfl:=kV (oss:=oss) (k:=k) (by omega);have hkid:=ih k hlt (by omega) (n - 1) _ _ (fun x hx=>hU x (gK _ (aGn (by omega) hx))) (hBW.trans hbs) hJs (by rw [bA,bO];omega);clear ih
          gi_wp2_with ((try refine⟨hdd _,?_⟩);gi_at_call 185;refine hkid.mono ?_;clear hkid;rintro e W3 (⟨rfl,hJ3,hb3⟩ | ⟨rfl,q,hq,hx3⟩))
          . go_roundw
            case rel=>exact⟨k+1,by omega,by simp,by rw [aE8 (by omega)];simpa using hJ3,hbs.trans hb3⟩
            case measure=>simp [intOf];omega
          refine bodyPost_ret (results_tmp rfl _ _ _) rfl ?_;refine .inr ⟨rfl,b::((oss.take k).flatten++q),?_,by simpa using hx3⟩;obtain⟨r,hr⟩:=Sn (by omega) hq;exact⟨r,by rw [<- hr];simp⟩
        obtain rfl:k=ps.length:=by omega
        gi_wp2
        go_ret
        exact .inl ⟨rfl,by rw [<- hl,fJ] at hJs;exact hJs,hbs⟩
    gi_wp2
    go_ret
    exact .inr ⟨rfl, [b],by simp,hx1⟩
theorem aO6(F:Fence)(hd:F.depth=none)(n:Nat)(h1:F.fn 184)(h2:F.fn 185)(hro:F.round=none)(l Bt n₀ b:Nat)(os:List Nat)(U:Nat->Prop)(hU:∀x∈os,U x)(J Jx:List Nat->World->Prop)(W0:World)(hI:IW n₀ W0 b os)
    (hY:∀pre x W,U x->J pre W->pre.length<os.length->YieldAt F (n - 1) prog l #[zS x] W fun e W'=>
      (e= .returned (.bool true)/\J (pre++ [x]) W'/\Below n₀ W W')\/(e= .returned (.bool false)/\Jx (pre++ [x]) W'))
    (W:World) (hB:Below n₀ W0 W) (hBt:W.cell? ⟨Bt,0,none⟩=some (zS b)) (h0:J [] W):
    CallsIn F n prog 184 #[.func (.yield l) #[] #[],zS Bt] W fun e W'=>(∃v,e= .returned v)/\
      ((∃ys,ys=os/\J ys W')\/(∃pre,pre<+:os/\Jx pre W')):=by
  have hdd:∀k:Nat,(F.depth.isSome=true->1<=k):=fun k h=>by rw [hd] at h;cases h
  have hp:=aO0 F hd h2 hro l n₀ os.length U J Jx (fun m pre x W hu hj hl=>aEp hd m (hY pre x W hu hj hl)) W0 hI (n - 1) [] W hU hB h0 (by simp);refine callsIn_of_wp func184 rfl h1 ?_ hro;simp only [ntmps184,dZ,bO,cU,Nat.reduceAdd,Nat.reduceSub,mV,mU,mS,mW,aP,aQ]
  gi_wp2_with ((try refine⟨hdd _,?_⟩);gi_at_call 185;refine hp.mono ?_;clear hp;rintro e W1 (⟨rfl,hJ1,_⟩ | ⟨rfl,q,hq,hx⟩))
  . go_end0
    exact⟨⟨_,rfl⟩,.inl ⟨_,rfl,by simpa using hJ1⟩⟩
  go_end0
  exact⟨⟨_,rfl⟩,.inr ⟨q,hq,by simpa using hx⟩⟩
theorem aR1(F:Fence)(n:Nat)(h:F.fn 104)(hro:F.round=none)(b:Nat)(w:World):
    CallsIn F n prog 104 #[zS b] w fun e w'=>e= .returned (.func (.func 184) #[] #[zS w.heap.size])/\w'=w.alloc (.cells #[zS b] 84):=by
  refine callsIn_of_wp func104 rfl h ?_ hro;simp only [ntmps104,dZ,bO,cU,Nat.reduceAdd,Nat.reduceSub,mV,mU,mS,mW,aP,aQ]
  gi_wp2
  go_ret
  exact⟨rfl,rfl⟩
theorem aE2(F:Fence)(hd:F.depth=none)(n:Nat)(h1:F.fn 184)(h2:F.fn 185)(hro:F.round=none)(Bt n₀ b:Nat)(os:List Nat)(U:Nat->Prop)(hU:∀x∈os,U x)(w:World)(hBt:Bt<w.heap.size)(hn₀:n₀<=w.heap.size)
    (hc:w.cell? ⟨Bt,0,none⟩=some (zS b)) (hI:IW n₀ w b os):
    SeqStopsK F n prog 184 #[zS Bt] (fun x: { x:Nat // U x } =>#[zS x.1]) (Below n₀) (fun ys=>ys.map Subtype.val=os) (fun pre=>pre.map Subtype.val<+:os) os.length w:=fun l J Jx W hW _ _ hY h0=>
  (aO6 F hd n h1 h2 hro l Bt n₀ b os U hU (fun pre W=>∃q:List { x:Nat // U x },q.map Subtype.val=pre/\J q W) (fun pre W=>∃q:List { x:Nat // U x },q.map Subtype.val=pre/\Jx q W) w hI
    (fun pre x W hu ⟨q,hq,hj⟩ hl=>(hY q ⟨x,hu⟩ W hj (by rw [<- hq] at hl;simpa using hl)).mono fun e W' h=>h.elim (fun⟨he,hj2,hk⟩=> .inl ⟨he,⟨_,by simp [hq],hj2⟩,hk⟩) fun⟨he,hj2⟩=> .inr ⟨he,_,by simp [hq],hj2⟩)
    W (hW.mono hn₀) ((hW.cell (p:=⟨Bt,0,none⟩) hBt).trans hc) ⟨[],rfl,h0⟩).mono fun e W' ⟨hv,h⟩=>⟨hv,h.elim (fun⟨ys,hy,q,hq,hj⟩=> .inl ⟨q,hq.trans hy,hj⟩) fun⟨pre,hp,q,hq,hj⟩=> .inr ⟨q,by show q.map Subtype.val<+:os;rw [hq];exact hp,hj⟩⟩
attribute [local go_sem] Oper.semAt_some
theorem aOr(F:Fence)(n:Nat)(hf:F.fn 100)(hro:F.round=none)(b:Nat)(k mv:Int)(W:World)(h15:W.cell? ⟨b,15,none⟩=some (.int .i64 k))(h16:W.cell? ⟨b,16,none⟩=some (.int .i64 mv)):
    CallsIn F n prog 100 #[zS b] W fun e W'=>e= .returned (.bool (!(decide (k=0) && decide (mv=0))))/\Below W.heap.size W W':=by
  refine callsIn_of_wp func100 rfl hf ?_ hro;simp only [ntmps100,dZ,bO,cU,Nat.reduceAdd,Nat.reduceSub,mV,mU,mS,mW,aP,aQ]
  gi_wp2
  all_goals go_ret
  all_goals exact⟨by simp [*,bne,BEq.beq],Below.refl _ _⟩
theorem Yy(F:Fence)(n:Nat)(hf:F.fn 223)(hro:F.round=none)(k mv dx dy:Int)(W:World):
    CallsIn F n prog 223 #[.agg #[.int .i64 k,.int .i64 mv,.int .i64 dx,.int .i64 dy]] W fun e W'=>e= .returned (.bool (decide (k=5) || decide (k=6)))/\Below W.heap.size W W':=by
  refine callsIn_of_wp func223 rfl hf ?_ hro;simp only [ntmps223,dZ,bO,cU,Nat.reduceAdd,Nat.reduceSub,mV,mU,mS,mW,aP,aQ]
  gi_wp2
  all_goals go_ret
  all_goals exact⟨by simp [*,bne,BEq.beq],(Below.refl _ _).alloc (aX _) _⟩
def qY(k:Int):Bool:=decide (k=4) || (decide (k=5) || decide (k=6))
theorem aCd(F:Fence)(hd:F.depth=none)(n:Nat)(hf:F.fn 181)(hf2:F.fn 223)(hro:F.round=none)(k mv dx dy:Int)(W:World):
    CallsIn F n prog 181 #[.agg #[.int .i64 k,.int .i64 mv,.int .i64 dx,.int .i64 dy]] W fun e W'=>e= .returned (.bool (qY k))/\Below W.heap.size W W':=by
  have hdd:∀k:Nat,(F.depth.isSome=true->1<=k):=fun k h=>by rw [hd] at h;cases h
  refine callsIn_of_wp func181 rfl hf ?_ hro;simp only [ntmps181,dZ,bO,cU,Nat.reduceAdd,Nat.reduceSub,mV,mU,mS,mW,aP,aQ]
  gi_wp2_with ((try refine⟨hdd _,?_⟩);gi_at_call 223;refine(Yy F _ hf2 hro k mv dx dy _).mono ?_;rintro e W1 ⟨rfl,hb⟩)
  all_goals go_ret
  all_goals first | exact⟨by simp [*,qY,bne,BEq.beq],(Below.refl _ _).alloc (aX _) _⟩ | exact⟨by simp [*,qY,bne,BEq.beq],((Below.refl _ _).alloc (aX _) _).trans (hb.mono (by simp))⟩
theorem aJ7(F:Fence)(hd:F.depth=none)(n:Nat)(h0:F.fn 101)(hf:F.fn 181)(hf2:F.fn 223)(hro:F.round=none)(b:Nat)(k mv dx dy:Int)(W:World)(h15:W.cell? ⟨b,15,none⟩=some (.int .i64 k))(h16:W.cell? ⟨b,16,none⟩=some (.int .i64 mv))(h17:W.cell? ⟨b,17,none⟩=some (.int .i64 dx))(h18:W.cell? ⟨b,18,none⟩=some (.int .i64 dy)):
    CallsIn F n prog 101 #[zS b] W fun e W'=>e= .returned (.bool (qY k))/\Below W.heap.size W W':=by
  have hdd:∀k:Nat,(F.depth.isSome=true->1<=k):=fun k h=>by rw [hd] at h;cases h
  refine callsIn_of_wp func101 rfl h0 ?_ hro;simp only [ntmps101,dZ,bO,cU,Nat.reduceAdd,Nat.reduceSub,mV,mU,mS,mW,aP,aQ]
  gi_wp2_with ((try refine⟨hdd _,?_⟩);gi_at_call 181;refine(aCd F hd _ hf hf2 hro k mv dx dy _).mono ?_;rintro e W1 ⟨rfl,hb⟩)
  go_ret
  exact⟨rfl,hb⟩
theorem Cc {W':World} (h:Below W.heap.size W W'):KeepsOthers W W':=⟨h.size,fun k o hk _=>(h.block k (dI.1 hk).1).trans hk⟩
theorem Qi (h:W.cell? a=some v):a.block<W.heap.size:=by
  obtain⟨o,ho,_⟩:=cells_of_cell h;exact(dI.1 ho).1
theorem Kc (o:Obj)(h:W.cell? a=some v):(W.alloc o).cell? a=some v:=cell_kept h (World.grownBy_alloc W o none) (fun r e=>by cases e)
theorem aSm (o:Obj)(h:W.cell? a=some v)(hf:W.frozen? a=false):(W.alloc o).frozen? a=false:=(frozen_kept h (World.grownBy_alloc W o none) (fun r e=>by cases e)).trans hf
theorem aOv(W:World)(v:Value)(t:TypeId):(W.alloc (.cells #[v] t)).frozen? ⟨W.heap.size,0,none⟩=false:=by simp
theorem yF(W:World)(v:Value)(t:TypeId):(W.alloc (.cells #[v] t)).cell? ⟨W.heap.size,0,none⟩=some v:=by simp
structure Two(w:World)(B C:Nat)(u v:Value)(W:World):Prop where
  c1:W.cell? ⟨B,0,none⟩=some u
  c2:W.cell? ⟨C,0,none⟩=some v
  fz:W.frozen? ⟨C,0,none⟩=false
  bl:Below w.heap.size w W
theorem Two.own {β:Type} (u v:β->Value) {M:Nat} (hM:w.heap.size<=M):OwnFrom M (fun s W=>Two w B C (u s) (v s) W):=fun s X Y row hs hg hr=>
  ⟨cell_kept hs.c1 hg (fun r e=>(hr r e).2),cell_kept hs.c2 hg (fun r e=>(hr r e).2),(frozen_kept hs.c2 hg (fun r e=>(hr r e).2)).trans hs.fz,ownFrom_below (β:=Unit) (aX _) hM () X Y row hs.bl hg hr⟩
theorem Two.keep {u:Value} {W':World} (h:Two w B C u v W)(hb:Below W.heap.size W W')(hs:w.heap.size<=W.heap.size):Two w B C u v W':=
  ⟨(hb.cell (p:=⟨B,0,none⟩) (Qi h.c1)).trans h.c1,(hb.cell (p:=⟨C,0,none⟩) (Qi h.c2)).trans h.c2,(hb.frozen (p:=⟨C,0,none⟩) (Qi h.c2)).trans h.fz,h.bl.trans (hb.mono hs)⟩
theorem Two.set {u:Value} (h:Two w B C u v W)(hBC:B≠C)(hC:w.heap.size<=C)(v':Value):Two w B C u v' (W.setCell ⟨C,0,none⟩ v'):=
  ⟨(World.cell?_of_block (Below.heap_setCell _ ⟨C,0,none⟩ _ B hBC)).trans h.c1,World.cell?_setCell_same' _ _ _ (by rw [h.c2];rfl),by rw [World.frozen?_setCell];exact h.fz,h.bl.setCell (p:=⟨C,0,none⟩) hC _⟩
theorem aGh (F : Fence) (hd : F.depth = none) (n : Nat) (isf : Nat) (hfi : F.fn isf) (eg : ∀ args w, (callFunc isf args).run prog w = .ok (.enter isf args) w) (h99 : F.fn 99) (h104 : F.fn 104) (h184 : F.fn 184) (h185 : F.fn 185) (hro : F.round = none) (hn : 3 <= n)
    (b:Nat) (os:List Nat) (w:World) (p:Nat->Bool) (hI:IW w.heap.size w b os) (hN:os.length<1000000) (U:Nat->Prop) (hU:∀x∈os,U x) (his:∀x,U x->∀m W,Below w.heap.size w W->CallsIn F m prog isf #[zS x] W fun e W'=>e= .returned (.bool (p x))/\Below W.heap.size W W'):
    CallsIn F n prog 99 #[zS b,.func (.func isf) #[] #[]] w fun e W'=>e= .returned (.int .i64 (os.countP p:Nat))/\Below w.heap.size w W':=by
  have h1:1<=n:=by omega
  have hdd:∀k:Nat,(F.depth.isSome=true->1<=k):=fun k h=>by rw [hd] at h;cases h
  refine callsIn_of_wp_marks func99 rfl h99 ?_ hro;simp only [ntmps99,dZ,bO,cU,Nat.reduceAdd,Nat.reduceSub,mV,mU,mS,mW,aP,aQ]
  gi_wp2_with (gi_at_call 104;refine(aR1 F (n - 1) h104 hro _ _).mono ?_;rintro e w' ⟨rfl,rfl⟩)
  have hB0:Below w.heap.size w (((w.alloc (Obj.cells #[Value.func (Fn.func isf) #[] #[]] 197)).alloc (Obj.cells #[Value.int IntKind.i64 0] 3)).alloc (Obj.cells #[zS b] 84)):=((Below.alloc (Below.refl _ w) (aX _) _).alloc (by rw [World.size_alloc];omega) _).alloc (by rw [World.size_alloc,World.size_alloc];omega) _;have hcb:=yF ((w.alloc (Obj.cells #[Value.func (Fn.func isf) #[] #[]] 197)).alloc (Obj.cells #[Value.int IntKind.i64 0] 3)) (zS b) 84;simp only [World.size_alloc] at hcb;have h2:Two w w.heap.size (w.heap.size+1) (.func (.func isf) #[] #[]) (.int .i64 (([]:List { x:Nat // U x }).countP fun x=>p x.1:Nat)) (((w.alloc (Obj.cells #[Value.func (Fn.func isf) #[] #[]] 197)).alloc (Obj.cells #[Value.int IntKind.i64 0] 3)).alloc (Obj.cells #[zS b] 84)):=by
    refine⟨Kc _ (Kc _ (yF _ _ _)),Kc _ ?_,aSm _ (v:= .int .i64 0) ?_ ?_,hB0⟩
    . have := yF (w.alloc (Obj.cells #[Value.func (Fn.func isf) #[] #[]] 197)) (.int .i64 0) 3
      rwa [World.size_alloc] at this
    . have := yF (w.alloc (Obj.cells #[Value.func (Fn.func isf) #[] #[]] 197)) (.int .i64 0) 3
      rwa [World.size_alloc] at this
    have:=aOv (w.alloc (Obj.cells #[Value.func (Fn.func isf) #[] #[]] 197)) (.int .i64 0) 3
    rwa [World.size_alloc] at this
  refine wpIn_rangeFunc_ownH hro h1 (gf:=184) (lb:=#[zS (w.heap.size+1+1)]) rfl h184 (enters_of func184 (by kernel_rfl) rfl)
    (aE2 F hd (n - 1) h184 h185 hro (w.heap.size+1+1) w.heap.size b os U hU _ (by simp) hB0.size hcb (hI.bel (aX _) hB0)) belowK_t (belowK_b hB0.size) (Below.refl _ _) (fun _=>rfl)
    (fun pre W=>Two w w.heap.size (w.heap.size+1) (.func (.func isf) #[] #[]) (.int .i64 (pre.countP fun x=>p x.1:Nat)) W)
    (fun _ _ _=>False)
    (Two.own _ _ hB0.size)
    (fun _ _ _ _ _ hs _ _=>hs)
    h2
    (fun x a' W=>a'= { tmps:=#[zS b,.func (.func isf) #[] #[],undef,zS w.heap.size,.int .i64 0,zS (w.heap.size+1),zS x.1,zS b,.func (.func 184) #[] #[zS (w.heap.size+1+1)],zS x.1,undef,undef,undef,undef,undef,undef],defers:= [] })
    (fun x a' _ X Y row hs hg hr=>hs)
    ?assign ?body ?done ?stop
  case assign=>
    rintro l pre x W K hI2 hK
    gi_wp2
    exact hK _ _ ((KeepsOthers.refl _).from _) (Below.refl _ W) hI2 rfl
  case body=>
    rintro l pre x a' W hl ⟨r,hr⟩ h3 rfl hlt;have hc1:=h3.c1;have hsz:w.heap.size<=W.heap.size:=h3.bl.size;have hcall:=CallsIn.inRound l (his x.1 x.2 (n - 1 - 1 - 1) W h3.bl);have hcn:pre.countP (fun x=>p x.1)<=pre.length:=List.countP_le_length;have hw:wrap64 ((pre.countP (fun x=>p x.1):Nat)+1)=((pre.countP (fun x=>p x.1)+1:Nat):Int):=by unfold wrap64;omega
    gi_wp2
    try refine⟨hdd _,?_⟩
    refine hcall.mono ?_;clear hcall;rintro e w' ⟨rfl,hb⟩;have h4:=h3.keep hb hsz;have hc2:=h4.c2;have hf2:=h4.fz
    gi_wp2
    . rename_i hx
      exact⟨((Cc hb).trans (KeepsOthers.setCell _ _ _)).from _,(hb.mono hsz).setCell (p:=⟨w.heap.size+1,0,none⟩) (Nat.le_succ _) _,by
        have e:((pre++ [x]).countP (fun x=>p x.1))=pre.countP (fun x=>p x.1)+1:=by rw [List.countP_append,List.countP_singleton,aJ hx]
        show Two _ _ _ _ (.int .i64 (((pre++ [x]).countP (fun x=>p x.1):Nat):Int)) _
        rw [e];exact h4.set (by omega) (Nat.le_succ _) _⟩
    rename_i hx;exact⟨(Cc hb).from _,hb.mono hsz,by
      have e:((pre++ [x]).countP (fun x=>p x.1))=pre.countP (fun x=>p x.1):=by rw [List.countP_append,List.countP_singleton,aD (by simpa using hx)];rfl
      show Two _ _ _ _ (.int .i64 (((pre++ [x]).countP (fun x=>p x.1):Nat):Int)) _
      rw [e];exact h4⟩
  case done=>
    rintro D ys W hD hys h3 hK;have hc2:=h3.c2
    gi_wp2
    refine⟨by simp,.inl ⟨_,_,rfl,run_takeDeferred hK,?_⟩⟩;exact⟨_,results_tmp rfl _ _ _,by rw [<- hys,List.countP_map];rfl,h3.bl.trans (belowK_b (w:=w) (aX _) W D _ _ (by simp at hD;omega) hK rfl rfl)⟩
  case stop=>
    rintro D c pre W _ _ h _;exact h.elim
attribute [local go_sem] Oper.semAt_some
end Go.Proofs.YtbgfljpnhhdkoaaGreat
namespace Go.Vm
open Go
variable {bs bs' p:List Nat}{w:World}{x:Value}
inductive D where
  | any
  | v (x:Value)
  | sl (own:Bool) (es:List D)
  | agg (cs:List D)
  | tup (cs:List D)
  | adr (cs:List D)
  | ref (n off:Nat)
  | clo (f:Fn) (first caps:List D)
  | ifc (t:TypeId) (d:D)
  | xs (k:Nat) (es:List D)
  | xl (n:Nat)
  | slo (n a len cap:Nat)
  | mref (n:Nat)
  | mp (n:Nat) (kd:TypeDesc) (clock:Nat) (kvs:List (Value×Nat×D))
  | mit (n since:Nat) (seen:List Nat) (last:Nat)
  | mo (kd:TypeDesc) (clock:Nat) (kvs:List (Value×Nat×D))
  | mz
  deriving Inhabited
abbrev D.int(n:Int):D:= .v (.int .i64 n)
abbrev D.bool(b:Bool):D:= .v (.bool b)
abbrev D.str(s:ByteArray):D:= .v (.string s)
def D.ncells:D->Nat
  | .agg cs=>cs.length
  | _=>1
def D.cells:D->List D
  | .agg cs=>cs
  | d=> [d]
abbrev Mem:=Nat->Nat->Option Value
def Mem.le(M M':Mem):Prop:=∀b o c,M b o=some c->M' b o=some c
inductive R(M:Mem)(bs:List Nat):D->Value->Prop
  | any (x:Value):R M bs .any x
  | v (x:Value) (h:x.oneCell'=true):R M bs (.v x) x
  | nil (o:Bool):R M bs (.sl o []) (.slice none 0 0)
  | emp (o:Bool) (a:Addr) (cap:Nat) (hm:cap<=maxLen):R M bs (.sl o []) (.slice (some a) 0 cap)
  | sl (o:Bool) (es:List D) (b off n cap k:Nat) (vs:List Value) (hl:vs.length=es.length) (hn:n=es.length) (hk:0<k) (hc:n<=cap) (hm:cap<=maxLen)
      (hr:∀(i:Nat) (d:D) (x:Value),es[i]?=some d->vs[i]?=some x->R M bs d x)
      (hs:∀(i:Nat) (d:D),es[i]?=some d->d.ncells=k)
      (hx:∀(i:Nat) (x:Value),vs[i]?=some x->x.cells.size=k/\∀(j:Nat) (c:Value),x.cells[j]?=some c->c.oneCell'=true/\M b (off+(i * k+j))=some c):
      R M bs (.sl o es) (.slice (some ⟨b,off,none⟩) n cap)
  | agg (cs:List D) (vs:Array Value) (hl:vs.size=cs.length) (hr:∀(i:Nat) (d:D) (x:Value),cs[i]?=some d->vs[i]?=some x->R M bs d x)
      (h1:∀(i:Nat) (x:Value),vs[i]?=some x->x.oneCell'=true):R M bs (.agg cs) (.agg vs)
  | tup (cs:List D) (vs:Array Value) (hl:vs.size=cs.length) (hr:∀(i:Nat) (d:D) (x:Value),cs[i]?=some d->vs[i]?=some x->R M bs d x):R M bs (.tup cs) (.tuple vs)
  | adr (cs:List D) (b off:Nat) (vs:List Value) (hl:vs.length=cs.length) (hr:∀(i:Nat) (d:D) (x:Value),cs[i]?=some d->vs[i]?=some x->R M bs d x)
      (hx:∀(i:Nat) (x:Value),vs[i]?=some x->x.oneCell'=true/\M b (off+i)=some x):R M bs (.adr cs) (.pointer (some ⟨b,off,none⟩))
  | ref (n off b:Nat) (h:bs[n]?=some b):R M bs (.ref n off) (.pointer (some ⟨b,off,none⟩))
  | clo (f:Fn) (first caps:List D) (v1 v2:Array Value) (l1:v1.size=first.length) (l2:v2.size=caps.length)
      (h1:∀(i:Nat) (d:D) (x:Value),first[i]?=some d->v1[i]?=some x->R M bs d x)
      (h2:∀(i:Nat) (d:D) (x:Value),caps[i]?=some d->v2[i]?=some x->R M bs d x):R M bs (.clo f first caps) (.func f v1 v2)
  | ifc (t:TypeId) (d:D) (x:Value) (h:R M bs d x):R M bs (.ifc t d) (.iface t x)
  | xs (k:Nat) (es:List D) (a:Option Addr) (n cap:Nat) (hn:n=es.length) (hc:n<=cap) (hm:cap<=maxLen) (ha:a=none->n=0/\cap=0):R M bs (.xs k es) (.slice a n cap)
  | xl (a:Option Addr) (n cap:Nat) (hc:n<=cap) (hm:cap<=maxLen) (ha:a=none->n=0/\cap=0):R M bs (.xl n) (.slice a n cap)
  | slo (n a len cap:Nat) (x:Option Addr) (h:0<cap->∃b:Nat,bs[n]?=some b/\x=some ⟨b,a,none⟩) (hc:len<=cap) (hm:cap<=maxLen):R M bs (.slo n a len cap) (.slice x len cap)
  | mref (n b:Nat) (h:bs[n]?=some b):R M bs (.mref n) (.map (some b))
  | mp (n:Nat) (kd:TypeDesc) (clock b:Nat) (kvs:List (Value×Nat×D)) (h:bs[n]?=some b):R M bs (.mp n kd clock kvs) (.map (some b))
  | mit (n since:Nat) (seen:List Nat) (last b:Nat):R M bs (.mit n since seen last) (.pointer (some ⟨b,0,none⟩))
  | mo (kd:TypeDesc) (clock b:Nat) (kvs:List (Value×Nat×D)):R M bs (.mo kd clock kvs) (.map (some b))
  | mz (b:Nat):R M bs .mz (.map (some b))
theorem R.mono {M M':Mem} (hM:M.le M')(hb:∀(n b:Nat),bs[n]?=some b->bs'[n]?=some b) {d:D} (h:R M bs d x):R M' bs' d x:=by
  induction h with
  | any x=>exact .any x
  | v x h=>exact .v x h
  | nil o=>exact .nil o
  | emp o a cap hm=>exact .emp o a cap hm
  | sl o es b off n cap k vs hl hn hk hc hm hr hs hx ih=>exact .sl o es b off n cap k vs hl hn hk hc hm ih hs (fun i x h=>⟨(hx i x h).1,fun j c h'=>⟨((hx i x h).2 j c h').1,hM _ _ _ ((hx i x h).2 j c h').2⟩⟩)
  | agg cs vs hl hr h1 ih=>exact .agg cs vs hl ih h1
  | tup cs vs hl hr ih=>exact .tup cs vs hl ih
  | adr cs b off vs hl hr hx ih=>exact .adr cs b off vs hl ih (fun i x h=>⟨(hx i x h).1,hM _ _ _ (hx i x h).2⟩)
  | ref n off b h=>exact .ref n off b (hb n b h)
  | clo f first caps v1 v2 l1 l2 h1 h2 ih1 ih2=>exact .clo f first caps v1 v2 l1 l2 ih1 ih2
  | ifc t d x h ih=>exact .ifc t d x ih
  | xs k es a n cap hn hc hm ha=>exact .xs k es a n cap hn hc hm ha
  | xl a n cap hc hm ha=>exact .xl a n cap hc hm ha
  | slo n a len cap x h hc hm=>exact .slo n a len cap x (fun h0=>by obtain⟨b,h1,h2⟩:=h h0;exact⟨b,hb n b h1,h2⟩) hc hm
  | mref n b h=>exact .mref n b (hb n b h)
  | mp n kd clock b kvs h=>exact .mp n kd clock b kvs (hb n b h)
  | mit n since seen last b=>exact .mit n since seen last b
  | mo kd clock b kvs=>exact .mo kd clock b kvs
  | mz b=>exact .mz b
def D.s1:D->D
  | .sl _ es=> .sl false es
  | .xs _ es=> .xl es.length
  | .mp n _ _ _=> .mref n
  | .mit _ _ _ _=> .any
  | .mo _ _ _=> .mz
  | d=>d
def D.s2:D->D
  | .agg cs=> .agg (cs.map D.s1)
  | d=>d.s1
def D.strip:D->D
  | .tup cs=> .tup (cs.map D.s2)
  | d=>d.s2
inductive Holder where
  | slot (t:Nat)
  | loc (n:Nat)
  | obj (n:Nat)
  deriving DecidableEq
abbrev mF:=Holder×List Nat
def aAp (w : World) (M : Mem) (X : Nat -> Option mF) (t : mF) (es : List D) (v : Value) : Prop :=
  (∃a n,v= .slice a n 0)\/
  ∃ b n cap k cur E, v = .slice (some ⟨b, 0, none⟩) n cap /\ es ≠ [] /\ X b = some t /\ w.heap[b]? = some (.cells cur E (0, 0)) /\ 0 < k /\ cur.size = cap * k /\ n = es.length /\ n <= cap /\ cap <= maxLen /\
    (∀o,n * k<=o->M b o=none)/\(∀(i:Nat) (d:D),es[i]?=some d->d.ncells=k)
def D.flat:D->Bool
  | .sl own _=> !own
  | .agg _ | .tup _ | .xs _ _ | .mp _ _ _ _ | .mit _ _ _ _ | .mo _ _ _=>false
  | _=>true
def D.arr(d:D):Bool:=d.cells.all D.flat
def Zr (w : World) (M : Mem) (bs : List Nat) (X : Nat -> Option mF) (t : mF) (k : Nat) (es : List D) (v : Value) : Prop :=
  (es= []/\∃a,v= .slice a 0 0)\/
  ∃ b n cap cur E, v = .slice (some ⟨b, 0, none⟩) n cap /\ X b = some t /\ w.heap[b]? = some (.cells cur E (0, 0)) /\ 0 < k /\ cur.size = cap * k /\ n = es.length /\ n <= cap /\ cap <= maxLen /\
    (∀o,M b o=none)/\(∀(o:Nat) (c:Value),cur[o]?=some c->c.oneCell'=true)/\(∀(i:Nat) (d:D),es[i]?=some d->d.ncells=k/\d.arr=true)/\
    ∀(i:Nat) (d:D) (j:Nat) (e:D),es[i]?=some d->d.cells[j]?=some e->∃x,cur[i * k+j]?=some x/\R M bs e x
def aW2 (w : World) (M : Mem) (bs : List Nat) (X : Nat -> Option mF) (t : mF) (n : Nat) (kd : TypeDesc) (clock : Nat) (kvs : List (Value × Nat × D)) (v : Value) : Prop :=
  ∃ b es, v = .map (some b) /\ bs[n]? = some b /\ X b = some t /\ w.heap[b]? = some (.map es clock) /\ (∀ o, M b o = none) /\ es.size = kvs.length /\ (MapKept.Stamped es clock /\ ∀ x ∈ es.toList, MapKept.IsKey kd x.key) /\
    ∀(i:Nat) (k:Value) (s:Nat) (d:D) (e:MapEntry),kvs[i]?=some (k,s,d)->es[i]?=some e->e.key=k/\e.born=s/\R M bs d e.val/\d.arr=true
def aTo (w : World) (M : Mem) (bs : List Nat) (X : Nat -> Option mF) (t : mF) (kd : TypeDesc) (clock : Nat) (kvs : List (Value × Nat × D)) (v : Value) : Prop :=
  ∃ b es, v = .map (some b) /\ X b = some t /\ w.heap[b]? = some (.map es clock) /\ (∀ o, M b o = none) /\ es.size = kvs.length /\ (MapKept.Stamped es clock /\ ∀ x ∈ es.toList, MapKept.IsKey kd x.key) /\
    ∀(i:Nat) (k:Value) (s:Nat) (d:D) (e:MapEntry),kvs[i]?=some (k,s,d)->es[i]?=some e->e.key=k/\e.born=s/\R M bs d e.val/\d.arr=true
def aVw(w:World)(M:Mem)(bs:List Nat)(X:Nat->Option mF)(t:mF)(n since:Nat)(seen:List Nat)(last:Nat)(v:Value):Prop:=
  ∃b bm,v= .pointer (some ⟨b,0,none⟩)/\bs[n]?=some bm/\X b=some t/\w.heap[b]?=some (.mapIter (some bm) since seen.toArray last)/\(∀o,M b o=none)
inductive Own(w:World)(M:Mem)(bs:List Nat)(X:Nat->Option mF)(h:Holder):List Nat->D->Value->Prop
  | sl (p:List Nat) (es:List D) (v:Value) (ho:aAp w M X (h,p) es v):Own w M bs X h p (.sl true es) v
  | xs (p:List Nat) (k:Nat) (es:List D) (v:Value) (ho:Zr w M bs X (h,p) k es v):Own w M bs X h p (.xs k es) v
  | mp (p:List Nat) (n:Nat) (kd:TypeDesc) (clock:Nat) (kvs:List (Value×Nat×D)) (v:Value) (ho:aW2 w M bs X (h,p) n kd clock kvs v):Own w M bs X h p (.mp n kd clock kvs) v
  | mit (p:List Nat) (n since:Nat) (seen:List Nat) (last:Nat) (v:Value) (ho:aVw w M bs X (h,p) n since seen last v):Own w M bs X h p (.mit n since seen last) v
  | mo (p:List Nat) (kd:TypeDesc) (clock:Nat) (kvs:List (Value×Nat×D)) (v:Value) (ho:aTo w M bs X (h,p) kd clock kvs v):Own w M bs X h p (.mo kd clock kvs) v
  | agg (p:List Nat) (cs:List D) (vs:Array Value) (hr:∀(i:Nat) (d:D) (x:Value),cs[i]?=some d->vs[i]?=some x->Own w M bs X h (p++ [i]) d x):Own w M bs X h p (.agg cs) (.agg vs)
  | tup (p:List Nat) (cs:List D) (vs:Array Value) (hr:∀(i:Nat) (d:D) (x:Value),cs[i]?=some d->vs[i]?=some x->Own w M bs X h (p++ [i]) d x):Own w M bs X h p (.tup cs) (.tuple vs)
  | flat (p:List Nat) (d:D) (v:Value) (hf:d.flat=true):Own w M bs X h p d v
theorem Own.move {w':World} {M M':Mem} {X X':Nat->Option mF} {h h':Holder} {d:D} {v:Value} (ho:Own w M bs X h p d v)(hMM:M.le M')(hbb:∀(n b:Nat),bs[n]?=some b->bs'[n]?=some b):
    ∀(p':List Nat),(∀(b:Nat) (q:List Nat),X b=some (h,p++q)->w'.heap[b]?=w.heap[b]?/\(∀o,M b o=none->M' b o=none)/\X' b=some (h',p'++q))->Own w' M' bs' X' h' p' d v:=by
  induction ho with
  | sl p es v ho =>
    intro p' hb;refine .sl p' es v ?_;rcases ho with ⟨a,n,rfl⟩ | ⟨b,n,cap,k,cur,E,rfl,hes,hX,hh,hk,hc,hn,hn2,hm,hM,hs⟩
    . exact .inl ⟨a,n,rfl⟩
    obtain⟨h1,h2,h3⟩:=hb b [] (by simpa using hX);exact .inr ⟨b,n,cap,k,cur,E,rfl,hes,by simpa using h3,by rw [h1];exact hh,hk,hc,hn,hn2,hm,fun o ho=>h2 o (hM o ho),hs⟩
  | xs p k es v ho =>
    intro p' hb;refine .xs p' k es v ?_;rcases ho with ho | ⟨b,n,cap,cur,E,rfl,hX,hh,hk,hc,hn,hn2,hm,hM,h1c,hs,hr⟩
    . exact .inl ho
    obtain⟨h1,h2,h3⟩:=hb b [] (by simpa using hX);exact .inr ⟨b,n,cap,cur,E,rfl,by simpa using h3,by rw [h1];exact hh,hk,hc,hn,hn2,hm,fun o=>h2 o (hM o),h1c,hs,fun i d j e a1 a2=>by
      obtain⟨x,x1,x2⟩:=hr i d j e a1 a2;exact⟨x,x1,x2.mono hMM hbb⟩⟩
  | mp p n kd clock kvs v ho =>
    intro p' hb;obtain⟨b,es,rfl,hbn,hX,hh,hM,hsz,hst,hr⟩:=ho;obtain⟨h1,h2,h3⟩:=hb b [] (by simpa using hX);exact .mp p' n kd clock kvs _ ⟨b,es,rfl,hbb n b hbn,by simpa using h3,by rw [h1];exact hh,fun o=>h2 o (hM o),hsz,hst,fun i k s d e a1 a2=>by
      obtain⟨r1,r2,r3,r4⟩:=hr i k s d e a1 a2;exact⟨r1,r2,r3.mono hMM hbb,r4⟩⟩
  | mit p n since seen last v ho =>
    intro p' hb;obtain⟨b,bm,rfl,hbn,hX,hh,hM⟩:=ho;obtain⟨h1,h2,h3⟩:=hb b [] (by simpa using hX);exact .mit p' n since seen last _ ⟨b,bm,rfl,hbb n bm hbn,by simpa using h3,by rw [h1];exact hh,fun o=>h2 o (hM o)⟩
  | mo p kd clock kvs v ho =>
    intro p' hb;obtain⟨b,es,rfl,hX,hh,hM,hsz,hst,hr⟩:=ho;obtain⟨h1,h2,h3⟩:=hb b [] (by simpa using hX);exact .mo p' kd clock kvs _ ⟨b,es,rfl,by simpa using h3,by rw [h1];exact hh,fun o=>h2 o (hM o),hsz,hst,fun i k s d e a1 a2=>by
      obtain⟨r1,r2,r3,r4⟩:=hr i k s d e a1 a2;exact⟨r1,r2,r3.mono hMM hbb,r4⟩⟩
  | agg p cs vs hr ih =>
    intro p' hb;refine .agg p' cs vs fun i d x h1 h2=>ih i d x h1 h2 (p'++ [i]) fun b q hX=>?_;have:=hb b (i::q) (by simpa using hX);simpa using this
  | tup p cs vs hr ih =>
    intro p' hb;refine .tup p' cs vs fun i d x h1 h2=>ih i d x h1 h2 (p'++ [i]) fun b q hX=>?_;have:=hb b (i::q) (by simpa using hX);simpa using this
  | flat p d v hf=>exact fun p' _=> .flat p' d v hf
theorem Own.keep {w':World} {M M':Mem} {X X':Nat->Option mF} {h:Holder} {d:D} {v:Value} (ho:Own w M bs X h p d v)(hMM:M.le M')(hbb:∀(n b:Nat),bs[n]?=some b->bs'[n]?=some b)
    (hb:∀(b:Nat) (q:List Nat),X b=some (h,q)->w'.heap[b]?=w.heap[b]?/\(∀o,M b o=none->M' b o=none)/\X' b=some (h,q)):Own w' M' bs' X' h p d v:=
  ho.move hMM hbb p fun b q hX=>hb b (p++q) hX
theorem R.s1 {M:Mem} {d:D} (h:R M bs d x):R M bs d.s1 x:=by
  cases h with
  | nil o=>exact .nil _
  | emp o a cap hm=>exact .emp _ a cap hm
  | sl o es b off n cap k vs hl hn hk hc hm hr hs hx=>exact .sl _ es b off n cap k vs hl hn hk hc hm hr hs hx
  | any x=>exact .any x
  | v x h=>exact .v x h
  | agg cs vs hl hr h1=>exact .agg cs vs hl hr h1
  | tup cs vs hl hr=>exact .tup cs vs hl hr
  | adr cs b off vs hl hr hx=>exact .adr cs b off vs hl hr hx
  | ref n off b h=>exact .ref n off b h
  | clo f first caps v1 v2 l1 l2 h1 h2=>exact .clo f first caps v1 v2 l1 l2 h1 h2
  | ifc t d x h=>exact .ifc t d x h
  | xs k es a n cap hn hc hm ha=>subst hn;exact .xl a _ cap hc hm ha
  | xl a n cap hc hm ha=>exact .xl a n cap hc hm ha
  | slo n a len cap x h hc hm=>exact .slo n a len cap x h hc hm
  | mref n b h=>exact .mref n b h
  | mp n kd clock b kvs h=>exact .mref n b h
  | mit n since seen last b=>exact .any _
  | mo kd clock b kvs=>exact .mz _
  | mz b=>exact .mz _
theorem D.s2_of {d:D} (h:∀cs,d≠ .agg cs):d.s2=d.s1:=by
  cases d <;> first | rfl | exact absurd rfl (h _)
theorem D.strip_of {d:D} (h:∀cs,d≠ .tup cs):d.strip=d.s2:=by
  cases d <;> first | rfl | exact absurd rfl (h _)
theorem R.s2 {M:Mem} {d:D} (h:R M bs d x):R M bs d.s2 x:=by
  cases d with
  | agg cs =>
    cases h with
    | agg cs vs hl hr h1 =>
      refine .agg _ vs (by simpa using hl) (fun i d x h3 h4=>?_) h1;rw [cD,dK] at h3;obtain⟨d',h3,rfl⟩:=h3;exact(hr i d' x h3 h4).s1
  | _=>rw [D.s2_of (by intro cs h;cases h)];exact h.s1
theorem R.strip {M:Mem} {d:D} (h:R M bs d x):R M bs d.strip x:=by
  cases d with
  | tup cs =>
    cases h with
    | tup cs vs hl hr =>
      refine .tup _ vs (by simpa using hl) (fun i d x h3 h4=>?_);rw [cD,dK] at h3;obtain⟨d',h3,rfl⟩:=h3;exact(hr i d' x h3 h4).s2
  | _=>rw [D.strip_of (by intro cs h;cases h)];exact h.s2
theorem D.flat_s1 {d:D} (h1:∀cs,d≠ .agg cs)(h2:∀cs,d≠ .tup cs):d.s1.flat=true:=by
  cases d <;> first | rfl | exact absurd rfl (h1 _) | exact absurd rfl (h2 _)
theorem R.one {M:Mem} {d:D} (h:R M bs d x)(hx:x.oneCell'=true):(∀cs,d≠ .agg cs)/\(∀cs,d≠ .tup cs):=by
  cases h <;> simp_all [Value.oneCell']
theorem Rq {M M':Mem} {X:Nat->Option mF} {h:Holder} {d:D} (hr:R M bs d x)(hx:x.oneCell'=true):Own w M' bs' X h p d.s1 x:=
  .flat p _ x (D.flat_s1 (hr.one hx).1 (hr.one hx).2)
theorem Ab {M M':Mem} {X:Nat->Option mF} {h:Holder} {d:D} (hr:R M bs d x)(ht:∀cs,d≠ .tup cs):Own w M' bs' X h p d.s2 x:=by
  cases d with
  | agg cs =>
    cases hr with
    | agg cs vs hl hr h1 =>
      refine .agg p _ vs fun i d x h3 h4=>?_;rw [cD,dK] at h3;obtain⟨d',h3,rfl⟩:=h3;exact Rq (hr i d' x h3 h4) (h1 i x h4)
  | _=>rw [D.s2_of (by intro cs h;cases h)];exact .flat p _ x (D.flat_s1 (by intro cs h;cases h) ht)
theorem R.cells_len {M:Mem} {d:D} (h:R M bs d x)(ha:d≠ .any)(ht:∀cs,d≠ .tup cs):x.cells.size=d.ncells:=by
  cases h with
  | any x=>exact absurd rfl ha
  | v x h=>cases x <;> simp_all [Value.oneCell',Value.cells,D.ncells]
  | agg cs vs hl hr h1=>simpa [Value.cells,D.ncells] using hl
  | tup cs vs hl hr=>exact absurd rfl (ht _)
  | _=>simp [Value.cells,D.ncells]
theorem R.one_of {M:Mem} {d:D} (h:R M bs d x)(hn:d≠ .any)(ha:∀cs,d≠ .agg cs)(ht:∀cs,d≠ .tup cs):x.oneCell'=true:=by
  cases h <;> first | rfl | assumption | exact absurd rfl (ha _) | exact absurd rfl (ht _) | exact absurd rfl hn
theorem Value.cells_one (h:x.oneCell'=true):x.cells=#[x]:=by
  cases x <;> simp_all [Value.oneCell',Value.cells]
theorem R.each {M:Mem} {d:D} (h:R M bs d x)(ha:d≠ .any)(ht:∀cs,d≠ .tup cs):
    ∀(i:Nat) (e:D) (y:Value),d.cells[i]?=some e->x.cells[i]?=some y->R M bs e y/\y.oneCell'=true:=by
  intro i e y h1 h2;cases d with
  | agg cs =>
    cases h with
    | agg cs vs hl hr hy=>exact⟨hr i e y h1 (by simpa [Value.cells] using h2),hy i y (by simpa [Value.cells] using h2)⟩
  | _ =>
    have ho:=h.one_of ha (by intro cs h;cases h) ht;rw [Value.cells_one ho] at h2
    match i with
    | 0 =>
      simp [D.cells] at h1 h2;subst h1;subst h2;exact⟨h,ho⟩
    | i+1=>simp [D.cells] at h1
end Go.Vm
