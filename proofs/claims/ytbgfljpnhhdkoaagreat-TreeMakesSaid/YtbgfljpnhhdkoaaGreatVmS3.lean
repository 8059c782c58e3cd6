import Derived.RangeFuncNested
import Derived.RangeFuncBound
import Derived.RangeFuncCalls
import Derived.RangeFuncLeaves
import Derived.Shelf.Abstract
import Derived.Shelf.RegionOpen
import Derived.WalkKit
import Derived.OwnWalkIn
import Derived.TacticsInMore
import Derived.LoopNIn
import Derived.LoopIn
import Derived.Maps.AppendAt
import Derived.Test.YtbgfljpnhhdkoaaGreatProg
import Derived.Test.YtbgfljpnhhdkoaaGreatVm3
import Derived.Laws.AppendOwn
set_option linter.all false
set_option maxRecDepth 100000
set_option maxHeartbeats 4000000
namespace Go.Proofs.YtbgfljpnhhdkoaaGreat
open Go Go.Proofs Go.RowKit Go.Shelf
attribute [local go_sem] Oper.semAt_some
variable {B C b k n₀:Nat}{F:Fence}{R:Ending->World->Prop}{W w:World}{a:Addr}{os:List Nat}{oss:List (List Nat)}{u v:Value}
abbrev nY(x:Nat):Value:= .pointer (some ⟨x,0,none⟩)
theorem aLw (hd:F.depth=none)(k:Nat):F.room k:=fun d h=>by rw [hd] at h;cases h
theorem aEh (hd:F.depth=none) {m m':Nat} {P:Program} {l:Nat} {f:FuncId} {tmps:Array Value} {assign body:Code} 
    (h:RoundIn F m P l f tmps assign body w R):RoundIn F m' P l f tmps assign body w R:=⟨h.1,fun c cs _=>h.2 c cs (aLw hd _)⟩
theorem aEy (hd:F.depth=none) {m:Nat} (m':Nat) {P:Program} {l:Nat} {args:Array Value} (h:YieldAt F m P l args W R):YieldAt F m' P l args W R:=by
  obtain⟨fn,tmps,assign,body,hy,hR⟩:=h;exact⟨fn,tmps,assign,body,hy,aEh hd hR⟩
def PtrsAt(n₀:Nat)(W:World)(sv:Value)(ps:List Nat):Prop:=
  (∃a cap,sv= .slice a 0 cap/\ps= [])\/∃b off cap,sv= .slice (some ⟨b,off,none⟩) ps.length cap/\b<n₀/\∀j (h:j<ps.length),W.cell? ⟨b,off+j,none⟩=some (nY ps[j])
inductive IW(n₀:Nat)(W:World):Nat->List Nat->Prop
  | mk (b:Nat) (sv:Value) (ps:List Nat) (oss:List (List Nat)) (hb:b<n₀) (h26:W.cell? ⟨b,26,none⟩=some sv) (hs:PtrsAt n₀ W sv ps) (hlen:ps.length<1000000) (hl:oss.length=ps.length)
      (hk:∀(j:Nat) (h1:j<ps.length) (h2:j<oss.length),IW n₀ W ps[j] oss[j]):IW n₀ W b (b::oss.flatten)
theorem IW.lt (h:IW n₀ W b os):b<n₀:=by cases h;assumption
theorem PtrsAt.below {n₁:Nat} {A B:World} (hn:n₀<=n₁)(h:Below n₀ A B) {sv:Value} {ps:List Nat} :PtrsAt n₀ A sv ps->PtrsAt n₁ B sv ps
  | .inl e=> .inl e
  | .inr ⟨b,off,cap,e,hb,hc⟩=> .inr ⟨b,off,cap,e,by omega,fun j hj=>(h.cell (p:=⟨b,off+j,none⟩) hb).trans (hc j hj)⟩
theorem IW.bel {n₁:Nat} {A B:World} (hn:n₀<=n₁)(h:Below n₀ A B) (hi:IW n₀ A b os):IW n₁ B b os:=by
  induction hi with
  | mk b sv ps oss hb h26 hs hlen hl hk ih=>exact .mk b sv ps oss (by omega) ((h.cell (p:=⟨b,26,none⟩) hb).trans h26) (hs.below hn h) hlen hl ih
theorem aGl (h:k<oss.length):(oss.take (k+1)).flatten=(oss.take k).flatten++oss[k]:=by
  rw [Gx h,zX,nU,List.flatten_nil,gH]
theorem Uc (h:k<oss.length) {q:List Nat} (hq:q<+:oss[k]):(oss.take k).flatten++q<+:oss.flatten:=by
  obtain⟨r,hr⟩:=hq;refine⟨r++(oss.drop (k+1)).flatten,?_⟩;have e:oss.flatten=(oss.take k).flatten++(oss[k]++(oss.drop (k+1)).flatten):=by
    conv=>lhs;rw [<- eZ k oss,yB h]
    rw [zX,nU]
  rw [e,<- hr];simp
theorem lK (h:k<oss.length):(oss.take k).flatten.length+oss[k].length<=oss.flatten.length:=by
  have:=Uc h (Er oss[k]);have:=this.length_le;simpa using this
theorem aJ0 (h:k<oss.length) {x:Nat} (hx:x∈oss[k]):x∈oss.flatten:=oO.2 ⟨_,bS h,hx⟩
theorem aPb (F : Fence) (hd : F.depth = none) (hf : F.fn 185) (hro : F.round = none) (l n₀ N : Nat) (U : Nat -> Prop) (J Jx : List Nat -> World -> Prop)
    (hY:∀m pre x W,U x->J pre W->pre.length<N->YieldAt F m Tryz.prog l #[nY x] W fun e W'=>
      (e= .returned (.bool true)/\J (pre++ [x]) W'/\Below n₀ W W')\/(e= .returned (.bool false)/\Jx (pre++ [x]) W')) (W0:World) (hI:IW n₀ W0 b os):
    ∀ (n : Nat) (pre : List Nat) (W : World), (∀ x ∈ os, U x) -> Below n₀ W0 W -> J pre W -> pre.length + os.length <= N ->
      CallsIn F n Tryz.prog 185 #[nY b,.func (.yield l) #[] #[]] W fun e W'=>
        (e= .returned (.bool true)/\J (pre++os) W'/\Below n₀ W W')\/(e= .returned (.bool false)/\∃q,q<+:os/\Jx (pre++q) W'):=by
  induction hI with
  | mk b sv ps oss hb h26 hs hlen hl hk ih =>
    intro n pre W hU hBW hJ hN;have hdd:∀k:Nat,(F.depth.isSome=true->1<=k):=fun k h=>by rw [hd] at h;cases h
    simp only [bJ] at hN;obtain⟨fn,tmps,assign,body,hy,hR⟩:=hY (n - 1) pre b W (hU b dH) hJ (by omega);rcases hs with ⟨a,cap,rfl,rfl⟩ | ⟨bb,off,cap,rfl,hbb,hc⟩
    . have hos : oss = [] := sB.1 (by simpa using hl)
      subst hos;refine callsIn_of_wp Tryz.func185 rfl hf ?_ hro;simp only [Tryz.ntmps185,dX,bJ,cY,Nat.reduceAdd,Nat.reduceSub,lH,lR,lQ,lO,aO,aQ]
      gi_wp2
      try refine⟨hdd _,?_⟩
      refine hR.mono ?_;clear hR;rintro e W1 (⟨rfl,hJ1,hb1⟩ | ⟨rfl,hx1⟩)
      . have c26 := ((hBW.trans hb1).cell (p := ⟨b, 26, none⟩) hb).trans h26
        gi_wp2
        gi_loopw [16] (fun i wr=>i= .int .i64 0/\J (pre++ [b]) wr/\Below n₀ W wr) (fun _ _=>0)
        case atStart=>exact⟨rfl,hJ1,hb1⟩
        case round=>
          obtain⟨rfl,hJs,hbs⟩:=hrel
          gi_wp2
          go_ret
          exact .inl ⟨rfl,by simpa using hJs,hbs⟩
      gi_wp2
      go_ret
      exact .inr ⟨rfl, [b],by simp,hx1⟩
    refine callsIn_of_wp Tryz.func185 rfl hf ?_ hro;simp only [Tryz.ntmps185,dX,bJ,cY,Nat.reduceAdd,Nat.reduceSub,lH,lR,lQ,lO,aO,aQ]
    gi_wp2
    try refine⟨hdd _,?_⟩
    refine hR.mono ?_;clear hR;rintro e W1 (⟨rfl,hJ1,hb1⟩ | ⟨rfl,hx1⟩)
    . have c26 := ((hBW.trans hb1).cell (p := ⟨b, 26, none⟩) hb).trans h26
      gi_wp2
      gi_loopw [16] (fun i wr=>∃k:Nat,k<=ps.length/\i= .int .i64 k/\J (pre++b::(oss.take k).flatten) wr/\Below n₀ W wr) (fun i _=>ps.length - (intOf i).toNat)
      case atStart=>exact⟨0,iM _,rfl,by simpa using hJ1,hb1⟩
      case round=>
        obtain⟨k,hk2,rfl,hJs,hbs⟩:=hrel;by_cases hlt:k<ps.length
        . have ec := ((hBW.trans hbs).cell (p := ⟨bb, off + k, none⟩) hbb).trans (hc k hlt)
          have hfl:=lK (oss:=oss) (k:=k) (by omega);have hkid:=ih k hlt (by omega) (n - 1) _ _ (fun x hx=>hU x (eV _ (aJ0 (by omega) hx))) (hBW.trans hbs) hJs (by rw [aZ,bJ];omega);clear ih
          gi_wp2_with ((try refine⟨hdd _,?_⟩);gi_at_call 185;refine hkid.mono ?_;clear hkid;rintro e W3 (⟨rfl,hJ3,hb3⟩ | ⟨rfl,q,hq,hx3⟩))
          . go_roundw
            case rel=>exact⟨k+1,by omega,by simp,by rw [aGl (by omega)];simpa using hJ3,hbs.trans hb3⟩
            case measure=>simp [intOf];omega
          refine bodyPost_ret (results_tmp rfl _ _ _) rfl ?_;refine .inr ⟨rfl,b::((oss.take k).flatten++q),?_,by simpa using hx3⟩;obtain⟨r,hr⟩:=Uc (by omega) hq;exact⟨r,by rw [<- hr];simp⟩
        obtain rfl:k=ps.length:=by omega
        gi_wp2
        go_ret
        exact .inl ⟨rfl,by rw [<- hl,dY] at hJs;exact hJs,hbs⟩
    gi_wp2
    go_ret
    exact .inr ⟨rfl, [b],by simp,hx1⟩
theorem aRj(F:Fence)(hd:F.depth=none)(n:Nat)(h1:F.fn 184)(h2:F.fn 185)(hro:F.round=none)(l Bt n₀ b:Nat)(os:List Nat)(U:Nat->Prop)(hU:∀x∈os,U x)(J Jx:List Nat->World->Prop)(W0:World)(hI:IW n₀ W0 b os)
    (hY:∀pre x W,U x->J pre W->pre.length<os.length->YieldAt F (n - 1) Tryz.prog l #[nY x] W fun e W'=>
      (e= .returned (.bool true)/\J (pre++ [x]) W'/\Below n₀ W W')\/(e= .returned (.bool false)/\Jx (pre++ [x]) W'))
    (W:World) (hB:Below n₀ W0 W) (hBt:W.cell? ⟨Bt,0,none⟩=some (nY b)) (h0:J [] W):
    CallsIn F n Tryz.prog 184 #[.func (.yield l) #[] #[],nY Bt] W fun e W'=>(∃v,e= .returned v)/\
      ((∃ys,ys=os/\J ys W')\/(∃pre,pre<+:os/\Jx pre W')):=by
  have hdd:∀k:Nat,(F.depth.isSome=true->1<=k):=fun k h=>by rw [hd] at h;cases h
  have hp:=aPb F hd h2 hro l n₀ os.length U J Jx (fun m pre x W hu hj hl=>aEy hd m (hY pre x W hu hj hl)) W0 hI (n - 1) [] W hU hB h0 (by simp);refine callsIn_of_wp Tryz.func184 rfl h1 ?_ hro;simp only [Tryz.ntmps184,dX,bJ,cY,Nat.reduceAdd,Nat.reduceSub,lH,lR,lQ,lO,aO,aQ]
  gi_wp2_with ((try refine⟨hdd _,?_⟩);gi_at_call 185;refine hp.mono ?_;clear hp;rintro e W1 (⟨rfl,hJ1,_⟩ | ⟨rfl,q,hq,hx⟩))
  . go_end0
    exact⟨⟨_,rfl⟩,.inl ⟨_,rfl,by simpa using hJ1⟩⟩
  go_end0
  exact⟨⟨_,rfl⟩,.inr ⟨q,hq,by simpa using hx⟩⟩
theorem Zk(F:Fence)(n:Nat)(h:F.fn 104)(hro:F.round=none)(b:Nat)(w:World):
    CallsIn F n Tryz.prog 104 #[nY b] w fun e w'=>e= .returned (.func (.func 184) #[] #[nY w.heap.size])/\w'=w.alloc (.cells #[nY b] 84):=by
  refine callsIn_of_wp Tryz.func104 rfl h ?_ hro;simp only [Tryz.ntmps104,dX,bJ,cY,Nat.reduceAdd,Nat.reduceSub,lH,lR,lQ,lO,aO,aQ]
  gi_wp2
  go_ret
  exact⟨rfl,rfl⟩
theorem Et(F:Fence)(hd:F.depth=none)(n:Nat)(h1:F.fn 184)(h2:F.fn 185)(hro:F.round=none)(Bt n₀ b:Nat)(os:List Nat)(U:Nat->Prop)(hU:∀x∈os,U x)(w:World)(hBt:Bt<w.heap.size)(hn₀:n₀<=w.heap.size)
    (hc:w.cell? ⟨Bt,0,none⟩=some (nY b)) (hI:IW n₀ w b os):
    SeqStopsK F n Tryz.prog 184 #[nY Bt] (fun x: { x:Nat // U x } =>#[nY x.1]) (Below n₀) (fun ys=>ys.map Subtype.val=os) (fun pre=>pre.map Subtype.val<+:os) os.length w:=fun l J Jx W hW _ _ hY h0=>
  (aRj F hd n h1 h2 hro l Bt n₀ b os U hU (fun pre W=>∃q:List { x:Nat // U x },q.map Subtype.val=pre/\J q W) (fun pre W=>∃q:List { x:Nat // U x },q.map Subtype.val=pre/\Jx q W) w hI
    (fun pre x W hu ⟨q,hq,hj⟩ hl=>(hY q ⟨x,hu⟩ W hj (by rw [<- hq] at hl;simpa using hl)).mono fun e W' h=>h.elim (fun⟨he,hj2,hk⟩=> .inl ⟨he,⟨_,by simp [hq],hj2⟩,hk⟩) fun⟨he,hj2⟩=> .inr ⟨he,_,by simp [hq],hj2⟩)
    W (hW.mono hn₀) ((hW.cell (p:=⟨Bt,0,none⟩) hBt).trans hc) ⟨[],rfl,h0⟩).mono fun e W' ⟨hv,h⟩=>⟨hv,h.elim (fun⟨ys,hy,q,hq,hj⟩=> .inl ⟨q,hq.trans hy,hj⟩) fun⟨pre,hp,q,hq,hj⟩=> .inr ⟨q,by show q.map Subtype.val<+:os;rw [hq];exact hp,hj⟩⟩
attribute [local go_sem] Oper.semAt_some
theorem aQ2(F:Fence)(n:Nat)(hf:F.fn 100)(hro:F.round=none)(b:Nat)(k mv:Int)(W:World)(h15:W.cell? ⟨b,15,none⟩=some (.int .i64 k))(h16:W.cell? ⟨b,16,none⟩=some (.int .i64 mv)):
    CallsIn F n Tryz.prog 100 #[nY b] W fun e W'=>e= .returned (.bool (!(decide (k=0) && decide (mv=0))))/\Below W.heap.size W W':=by
  refine callsIn_of_wp Tryz.func100 rfl hf ?_ hro;simp only [Tryz.ntmps100,dX,bJ,cY,Nat.reduceAdd,Nat.reduceSub,lH,lR,lQ,lO,aO,aQ]
  gi_wp2
  all_goals go_ret
  all_goals exact⟨by simp [*,bne,BEq.beq],Below.refl _ _⟩
theorem Yi(F:Fence)(n:Nat)(hf:F.fn 223)(hro:F.round=none)(k mv dx dy:Int)(W:World):
    CallsIn F n Tryz.prog 223 #[.agg #[.int .i64 k,.int .i64 mv,.int .i64 dx,.int .i64 dy]] W fun e W'=>e= .returned (.bool (decide (k=5) || decide (k=6)))/\Below W.heap.size W W':=by
  refine callsIn_of_wp Tryz.func223 rfl hf ?_ hro;simp only [Tryz.ntmps223,dX,bJ,cY,Nat.reduceAdd,Nat.reduceSub,lH,lR,lQ,lO,aO,aQ]
  gi_wp2
  all_goals go_ret
  all_goals exact⟨by simp [*,bne,BEq.beq],(Below.refl _ _).alloc (aW _) _⟩
def ghK(k:Int):Bool:=decide (k=4) || (decide (k=5) || decide (k=6))
theorem aG3(F:Fence)(hd:F.depth=none)(n:Nat)(hf:F.fn 181)(hf2:F.fn 223)(hro:F.round=none)(k mv dx dy:Int)(W:World):
    CallsIn F n Tryz.prog 181 #[.agg #[.int .i64 k,.int .i64 mv,.int .i64 dx,.int .i64 dy]] W fun e W'=>e= .returned (.bool (ghK k))/\Below W.heap.size W W':=by
  have hdd:∀k:Nat,(F.depth.isSome=true->1<=k):=fun k h=>by rw [hd] at h;cases h
  refine callsIn_of_wp Tryz.func181 rfl hf ?_ hro;simp only [Tryz.ntmps181,dX,bJ,cY,Nat.reduceAdd,Nat.reduceSub,lH,lR,lQ,lO,aO,aQ]
  gi_wp2_with ((try refine⟨hdd _,?_⟩);gi_at_call 223;refine(Yi F _ hf2 hro k mv dx dy _).mono ?_;rintro e W1 ⟨rfl,hb⟩)
  all_goals go_ret
  all_goals first | exact⟨by simp [*,ghK,bne,BEq.beq],(Below.refl _ _).alloc (aW _) _⟩ | exact⟨by simp [*,ghK,bne,BEq.beq],((Below.refl _ _).alloc (aW _) _).trans (hb.mono (by simp))⟩
theorem aMg(F:Fence)(hd:F.depth=none)(n:Nat)(h0:F.fn 101)(hf:F.fn 181)(hf2:F.fn 223)(hro:F.round=none)(b:Nat)(k mv dx dy:Int)(W:World)(h15:W.cell? ⟨b,15,none⟩=some (.int .i64 k))(h16:W.cell? ⟨b,16,none⟩=some (.int .i64 mv))(h17:W.cell? ⟨b,17,none⟩=some (.int .i64 dx))(h18:W.cell? ⟨b,18,none⟩=some (.int .i64 dy)):
    CallsIn F n Tryz.prog 101 #[nY b] W fun e W'=>e= .returned (.bool (ghK k))/\Below W.heap.size W W':=by
  have hdd:∀k:Nat,(F.depth.isSome=true->1<=k):=fun k h=>by rw [hd] at h;cases h
  refine callsIn_of_wp Tryz.func101 rfl h0 ?_ hro;simp only [Tryz.ntmps101,dX,bJ,cY,Nat.reduceAdd,Nat.reduceSub,lH,lR,lQ,lO,aO,aQ]
  gi_wp2_with ((try refine⟨hdd _,?_⟩);gi_at_call 181;refine(aG3 F hd _ hf hf2 hro k mv dx dy _).mono ?_;rintro e W1 ⟨rfl,hb⟩)
  go_ret
  exact⟨rfl,hb⟩
theorem By {W':World} (h:Below W.heap.size W W'):KeepsOthers W W':=⟨h.size,fun k o hk _=>(h.block k (dL.1 hk).1).trans hk⟩
theorem Jg (h:W.cell? a=some v):a.block<W.heap.size:=by
  obtain⟨o,ho,_⟩:=cells_of_cell h;exact(dL.1 ho).1
theorem uO (o:Obj)(h:W.cell? a=some v):(W.alloc o).cell? a=some v:=cell_kept h (World.grownBy_alloc W o none) (fun r e=>by cases e)
theorem aJf (o:Obj)(h:W.cell? a=some v)(hf:W.frozen? a=false):(W.alloc o).frozen? a=false:=(frozen_kept h (World.grownBy_alloc W o none) (fun r e=>by cases e)).trans hf
theorem aBt(W:World)(v:Value)(t:TypeId):(W.alloc (.cells #[v] t)).frozen? ⟨W.heap.size,0,none⟩=false:=by simp
theorem nR(W:World)(v:Value)(t:TypeId):(W.alloc (.cells #[v] t)).cell? ⟨W.heap.size,0,none⟩=some v:=by simp
structure Two(w:World)(B C:Nat)(u v:Value)(W:World):Prop where
  c1:W.cell? ⟨B,0,none⟩=some u
  c2:W.cell? ⟨C,0,none⟩=some v
  fz:W.frozen? ⟨C,0,none⟩=false
  bl:Below w.heap.size w W
theorem Two.own {β:Type} (u v:β->Value) {M:Nat} (hM:w.heap.size<=M):OwnFrom M (fun s W=>Two w B C (u s) (v s) W):=fun s X Y row hs hg hr=>
  ⟨cell_kept hs.c1 hg (fun r e=>(hr r e).2),cell_kept hs.c2 hg (fun r e=>(hr r e).2),(frozen_kept hs.c2 hg (fun r e=>(hr r e).2)).trans hs.fz,ownFrom_below (β:=Unit) (aW _) hM () X Y row hs.bl hg hr⟩
theorem Two.keep {W':World} (h:Two w B C u v W)(hb:Below W.heap.size W W')(hs:w.heap.size<=W.heap.size):Two w B C u v W':=
  ⟨(hb.cell (p:=⟨B,0,none⟩) (Jg h.c1)).trans h.c1,(hb.cell (p:=⟨C,0,none⟩) (Jg h.c2)).trans h.c2,(hb.frozen (p:=⟨C,0,none⟩) (Jg h.c2)).trans h.fz,h.bl.trans (hb.mono hs)⟩
theorem Two.set (h:Two w B C u v W)(hBC:B≠C)(hC:w.heap.size<=C)(v':Value):Two w B C u v' (W.setCell ⟨C,0,none⟩ v'):=
  ⟨(World.cell?_of_block (Below.heap_setCell _ ⟨C,0,none⟩ _ B hBC)).trans h.c1,World.cell?_setCell_same' _ _ _ (by rw [h.c2];rfl),by rw [World.frozen?_setCell];exact h.fz,h.bl.setCell (p:=⟨C,0,none⟩) hC _⟩
theorem aI9 (F : Fence) (hd : F.depth = none) (n : Nat) (isf : Nat) (hfi : F.fn isf) (eg : ∀ args w, (callFunc isf args).run Tryz.prog w = .ok (.enter isf args) w) (h99 : F.fn 99) (h104 : F.fn 104) (h184 : F.fn 184) (h185 : F.fn 185) (hro : F.round = none) (hn : 3 <= n)
    (b:Nat) (os:List Nat) (w:World) (p:Nat->Bool) (hI:IW w.heap.size w b os) (hN:os.length<1000000) (U:Nat->Prop) (hU:∀x∈os,U x) (his:∀x,U x->∀m W,Below w.heap.size w W->CallsIn F m Tryz.prog isf #[nY x] W fun e W'=>e= .returned (.bool (p x))/\Below W.heap.size W W'):
    CallsIn F n Tryz.prog 99 #[nY b,.func (.func isf) #[] #[]] w fun e W'=>e= .returned (.int .i64 (os.countP p:Nat))/\Below w.heap.size w W':=by
  have h1:1<=n:=by omega
  have hdd:∀k:Nat,(F.depth.isSome=true->1<=k):=fun k h=>by rw [hd] at h;cases h
  refine callsIn_of_wp_marks Tryz.func99 rfl h99 ?_ hro;simp only [Tryz.ntmps99,dX,bJ,cY,Nat.reduceAdd,Nat.reduceSub,lH,lR,lQ,lO,aO,aQ]
  gi_wp2_with (gi_at_call 104;refine(Zk F (n - 1) h104 hro _ _).mono ?_;rintro e w' ⟨rfl,rfl⟩)
  have hB0:Below w.heap.size w (((w.alloc (Obj.cells #[Value.func (Fn.func isf) #[] #[]] 197)).alloc (Obj.cells #[Value.int IntKind.i64 0] 3)).alloc (Obj.cells #[nY b] 84)):=((Below.alloc (Below.refl _ w) (aW _) _).alloc (by rw [World.size_alloc];omega) _).alloc (by rw [World.size_alloc,World.size_alloc];omega) _;have hcb:=nR ((w.alloc (Obj.cells #[Value.func (Fn.func isf) #[] #[]] 197)).alloc (Obj.cells #[Value.int IntKind.i64 0] 3)) (nY b) 84;simp only [World.size_alloc] at hcb;have h2:Two w w.heap.size (w.heap.size+1) (.func (.func isf) #[] #[]) (.int .i64 (([]:List { x:Nat // U x }).countP fun x=>p x.1:Nat)) (((w.alloc (Obj.cells #[Value.func (Fn.func isf) #[] #[]] 197)).alloc (Obj.cells #[Value.int IntKind.i64 0] 3)).alloc (Obj.cells #[nY b] 84)):=by
    refine⟨uO _ (uO _ (nR _ _ _)),uO _ ?_,aJf _ (v:= .int .i64 0) ?_ ?_,hB0⟩
    . have := nR (w.alloc (Obj.cells #[Value.func (Fn.func isf) #[] #[]] 197)) (.int .i64 0) 3
      rwa [World.size_alloc] at this
    . have := nR (w.alloc (Obj.cells #[Value.func (Fn.func isf) #[] #[]] 197)) (.int .i64 0) 3
      rwa [World.size_alloc] at this
    have:=aBt (w.alloc (Obj.cells #[Value.func (Fn.func isf) #[] #[]] 197)) (.int .i64 0) 3
    rwa [World.size_alloc] at this
  refine wpIn_rangeFunc_ownH hro h1 (gf:=184) (lb:=#[nY (w.heap.size+1+1)]) rfl h184 (enters_of Tryz.func184 (by kernel_rfl) rfl)
    (Et F hd (n - 1) h184 h185 hro (w.heap.size+1+1) w.heap.size b os U hU _ (by simp) hB0.size hcb (hI.bel (aW _) hB0)) belowK_t (belowK_b hB0.size) (Below.refl _ _) (fun _=>rfl)
    (fun pre W=>Two w w.heap.size (w.heap.size+1) (.func (.func isf) #[] #[]) (.int .i64 (pre.countP fun x=>p x.1:Nat)) W)
    (fun _ _ _=>False)
    (Two.own _ _ hB0.size)
    (fun _ _ _ _ _ hs _ _=>hs)
    h2
    (fun x a' W=>a'= { tmps:=#[nY b,.func (.func isf) #[] #[],undef,nY w.heap.size,.int .i64 0,nY (w.heap.size+1),nY x.1,nY b,.func (.func 184) #[] #[nY (w.heap.size+1+1)],nY x.1,undef,undef,undef,undef,undef,undef],defers:= [] })
    (fun x a' _ X Y row hs hg hr=>hs)
    ?assign ?body ?done ?stop
  case assign=>
    rintro l pre x W K hI2 hK
    gi_wp2
    exact hK _ _ ((KeepsOthers.refl _).from _) (Below.refl _ W) hI2 rfl
  case body=>
    rintro l pre x a' W hl ⟨r,hr⟩ h3 rfl hlt;have hc1:=h3.c1;have hsz:w.heap.size<=W.heap.size:=h3.bl.size;have hcall:=CallsIn.inRound l (his x.1 x.2 (n - 1 - 1 - 1) W h3.bl);have hcn:pre.countP (fun x=>p x.1)<=pre.length:=List.countP_le_length;have hw:wrap64 ((pre.countP (fun x=>p x.1):Nat)+1)=((pre.countP (fun x=>p x.1)+1:Nat):Int):=by unfold wrap64;omega
    gi_wp2
    try refine⟨hdd _,?_⟩
    refine hcall.mono ?_;clear hcall;rintro e w' ⟨rfl,hb⟩;have h4:=h3.keep hb hsz;have hc2:=h4.c2;have hf2:=h4.fz
    gi_wp2
    . rename_i hx
      exact⟨((By hb).trans (KeepsOthers.setCell _ _ _)).from _,(hb.mono hsz).setCell (p:=⟨w.heap.size+1,0,none⟩) (zU _) _,by
        have e:((pre++ [x]).countP (fun x=>p x.1))=pre.countP (fun x=>p x.1)+1:=by rw [List.countP_append,List.countP_singleton,aK hx]
        show Two _ _ _ _ (.int .i64 (((pre++ [x]).countP (fun x=>p x.1):Nat):Int)) _
        rw [e];exact h4.set (by omega) (zU _) _⟩
    rename_i hx;exact⟨(By hb).from _,hb.mono hsz,by
      have e:((pre++ [x]).countP (fun x=>p x.1))=pre.countP (fun x=>p x.1):=by rw [List.countP_append,List.countP_singleton,aD (by simpa using hx)];rfl
      show Two _ _ _ _ (.int .i64 (((pre++ [x]).countP (fun x=>p x.1):Nat):Int)) _
      rw [e];exact h4⟩
  case done=>
    rintro D ys W hD hys h3 hK;have hc2:=h3.c2
    gi_wp2
    refine⟨by simp,.inl ⟨_,_,rfl,run_takeDeferred hK,?_⟩⟩;exact⟨_,results_tmp rfl _ _ _,by rw [<- hys,List.countP_map];rfl,h3.bl.trans (belowK_b (w:=w) (aW _) W D _ _ (by simp at hD;omega) hK rfl rfl)⟩
  case stop=>
    rintro D c pre W _ _ h _;exact h.elim
attribute [local go_sem] Oper.semAt_some
theorem aWa:(Tryz.prog.info? 84).map (fun i=>(i.zero,i.size,i.bytes))=some (some (.pointer none),1,8):=by kernel_rfl
theorem aFn(w:World)(v:Value)(t:TypeId):∀j u, [v][j]?=some u->(w.alloc (.cells #[v] t)).cell? ((⟨w.heap.size,0,none⟩:Addr).add j)=some u:=by
  intro j u hj
  match j,hj with
  | 0,hj=>simp at hj;subst hj;simp [Addr.add]
  | j+1,hj=>simp at hj
theorem aI1(F:Fence)(hd:F.depth=none)(n:Nat)(h46:F.fn 46)(h104:F.fn 104)(h184:F.fn 184)(h185:F.fn 185)(hro:F.round=none)(hn:3<=n)
    (b:Nat) (os:List Nat) (w:World) (hI:IW w.heap.size w b os) (hN:os.length<1000000):
    CallsIn F n Tryz.prog 46 #[nY b] w fun e W'=>∃v,e= .returned v/\W'.ownsRow w.heap.size 84 1 v os.length (os.map nY)/\(v= .slice none 0 0↔os= [])/\Below w.heap.size w W':=by
  have h1:1<=n:=by omega
  obtain⟨i0,hi,hz0,hz1,hz2⟩:=info_parts aWa;have hdd:∀k:Nat,(F.depth.isSome=true->1<=k):=fun k h=>by rw [hd] at h;cases h
  refine callsIn_of_wp_marks Tryz.func46 rfl h46 ?_ hro;simp only [Tryz.ntmps46,dX,bJ,cY,Nat.reduceAdd,Nat.reduceSub,lH,lR,lQ,lO,aO,aQ]
  gi_wp2_with (gi_at_call 104;refine(Zk F (n - 1) h104 hro _ _).mono ?_;rintro e w' ⟨rfl,rfl⟩)
  have bO:=(Boxed.new w 98 (.slice none 0 0)).alloc (Obj.cells #[nY b] 84);have hB0:Below w.heap.size w ((w.alloc (Obj.cells #[Value.slice none 0 0] 98)).alloc (Obj.cells #[nY b] 84)):=(Below.alloc (Below.refl _ w) (aW _) _).alloc (by rw [World.size_alloc];omega) _;have hcb:=nR (w.alloc (Obj.cells #[Value.slice none 0 0] 98)) (nY b) 84;rw [World.size_alloc] at hcb;refine wpIn_rangeFunc_ownH hro h1 (gf:=184) (lb:=#[nY (w.heap.size+1)]) rfl h184 (enters_of Tryz.func184 (by kernel_rfl) rfl)
    (Et F hd (n - 1) h184 h185 hro (w.heap.size+1) w.heap.size b os (fun _=>True) (fun _ _=>trivial) _ (by simp) hB0.size hcb (hI.bel (aW _) hB0)) belowK_t (belowK_b hB0.size) (Below.refl _ _) (fun _=>rfl)
    (fun pre W=>(∃v,Boxed W w.heap.size 98 v/\W.ownsRow w.heap.size 84 1 v pre.length (pre.map fun x=>nY x.1)/\(v= .slice none 0 0↔pre= []))/\Below w.heap.size w W)
    (fun _ _ _=>False)
    (OwnFrom.and (Own.from (holdsRow_own w.heap.size w.heap.size 98 84 1 (fun pre:List { x:Nat // True } =>pre.length) (fun pre=>pre.map fun x=>nY x.1) (fun pre v=>v= .slice none 0 0↔pre= [])) _) (ownFrom_below (aW _) hB0.size))
    (fun _ _ _ _ _ hs _ _=>hs)
    ⟨⟨_,bO,World.ownsRow_nil _ _ _ _,by simp⟩,hB0⟩
    (fun x a' W=>a'= { tmps:=#[nY b,undef,.slice none 0 0,nY w.heap.size,nY x.1,nY b,.func (.func 184) #[] #[nY (w.heap.size+1)],nY x.1,undef,undef,undef,undef,undef],defers:= [] })
    (fun x a' _ X Y row hs hg hr=>hs)
    ?assign ?body ?done ?stop
  case assign=>
    rintro l pre x W K hI2 hK
    gi_wp2
    exact hK _ _ ((KeepsOthers.refl _).from _) (Below.refl _ W) hI2 rfl
  case body=>
    rintro l pre x a' W hl ⟨r,hr⟩ ⟨⟨v,hv,hrow,hnil⟩,hB⟩ rfl hlt;have hcv:=hv.cell
    gi_wp2_with (gi_at_builtin;refine wpListIn_append_own _ rfl _ _ 98 rfl w.heap.size 84 i0 (.pointer none) 1 8 Tryz.underlying98 hi hz0 hz1 hz2 rfl (by decide) _ _ _ rfl (hrow.alloc _) ⟨W.heap.size,0,none⟩ 1 1 [nY x.1] rfl rfl (aFn _ _ _) (by simp [Value.oneCell']) (by simp [maxLen];omega) (by omega) (by have:=hB.size;simp;omega) ?_;intro v' w1 hown' hgrow _;obtain⟨g',cap',rfl⟩:=ownsRow_succ hown';obtain⟨hv1,hv2,hr2,hk2,hb2⟩:=hv.appended (by decide) hrow hB.size (aW _) hown' hgrow;have hc1:=hv1.cell;have hf1:=hv1.frozen)
    exact⟨hk2.from _,hb2,⟨_,hv2,by simpa using hr2,by simp⟩,hB.trans hb2⟩
  case done=>
    rintro D ys W hD hys ⟨⟨v,hv,hrow,hnil⟩,hB⟩ hK;have hcv:=hv.cell
    gi_wp2
    refine⟨by simp,.inl ⟨_,_,rfl,run_takeDeferred hK,?_⟩⟩;have e1:os.length=ys.length:=by rw [<- hys,bQ]
    have e2:os.map nY=ys.map fun x=>nY x.1:=by rw [<- hys,eA];rfl
    refine⟨_,results_tmp rfl _ _ _,v,rfl,?_,?_,hB.trans (belowK_b (w:=w) (aW _) W D _ _ (by simp at hD;omega) hK rfl rfl)⟩
    . rw [e1,e2];exact ownsRow_putObj hrow _ hK rfl
    rw [hnil,<- hys,List.map_eq_nil_iff]
  case stop=>
    rintro D c pre W _ _ h _;exact h.elim
theorem Two.drw (h:Two w B C u v W):Two w B C u v W.drew:=⟨h.c1,h.c2,h.fz,h.bl.drew⟩
def Ui(idf:Nat->Int)(id:Int)(os:List Nat):Value:=match os.find? (fun x=>decide (idf x=id))with
  | some x=>nY x
  | none=> .pointer none
theorem aP0 (F : Fence) (hd : F.depth = none) (n : Nat) (h47 : F.fn 47) (h104 : F.fn 104) (h184 : F.fn 184) (h185 : F.fn 185) (hro : F.round = none) (hn : 3 <= n)
    (b:Nat) (os:List Nat) (w:World) (idf:Nat->Int) (id:Int) (hI:IW w.heap.size w b os) (hU:∀x∈os,w.cell? ⟨x,0,none⟩=some (.int .i64 (idf x))):
    CallsIn F n Tryz.prog 47 #[nY b,.int .i64 id] w fun e W'=>e= .returned (Ui idf id os)/\Below w.heap.size w W':=by
  have h1:1<=n:=by omega
  have hdd:∀k:Nat,(F.depth.isSome=true->1<=k):=fun k h=>by rw [hd] at h;cases h
  refine callsIn_of_wp_marks Tryz.func47 rfl h47 ?_ hro;simp only [Tryz.ntmps47,dX,bJ,cY,Nat.reduceAdd,Nat.reduceSub,lH,lR,lQ,lO,aO,aQ]
  gi_wp2_with (gi_at_call 104;refine(Zk F (n - 1) h104 hro _ _).mono ?_;rintro e w' ⟨rfl,rfl⟩)
  have hB0:Below w.heap.size w (((w.alloc (Obj.cells #[Value.int IntKind.i64 id] 3)).alloc (Obj.cells #[Value.pointer none] 84)).alloc (Obj.cells #[nY b] 84)):=((Below.alloc (Below.refl _ w) (aW _) _).alloc (by rw [World.size_alloc];omega) _).alloc (by rw [World.size_alloc,World.size_alloc];omega) _;have hcb:=nR ((w.alloc (Obj.cells #[Value.int IntKind.i64 id] 3)).alloc (Obj.cells #[Value.pointer none] 84)) (nY b) 84;simp only [World.size_alloc] at hcb;have h2:Two w w.heap.size (w.heap.size+1) (.int .i64 id) (.pointer none) (((w.alloc (Obj.cells #[Value.int IntKind.i64 id] 3)).alloc (Obj.cells #[Value.pointer none] 84)).alloc (Obj.cells #[nY b] 84)):=by
    refine⟨uO _ (uO _ (nR _ _ _)),uO _ ?_,aJf _ (v:= .pointer none) ?_ ?_,hB0⟩
    . have := nR (w.alloc (Obj.cells #[Value.int IntKind.i64 id] 3)) (.pointer none) 84
      rwa [World.size_alloc] at this
    . have := nR (w.alloc (Obj.cells #[Value.int IntKind.i64 id] 3)) (.pointer none) 84
      rwa [World.size_alloc] at this
    have:=aBt (w.alloc (Obj.cells #[Value.int IntKind.i64 id] 3)) (.pointer none) 84
    rwa [World.size_alloc] at this
  refine wpIn_rangeFunc_ownH hro h1 (gf:=184) (lb:=#[nY (w.heap.size+1+1)]) rfl h184 (enters_of Tryz.func184 (by kernel_rfl) rfl)
    (Et F hd (n - 1) h184 h185 hro (w.heap.size+1+1) w.heap.size b os (fun x=>w.cell? ⟨x,0,none⟩=some (.int .i64 (idf x))) hU _ (by simp) hB0.size hcb (hI.bel (aW _) hB0)) belowK_t (belowK_b hB0.size) (Below.refl _ _) (fun _=>rfl)
    (fun pre W=>(∀y∈pre,idf y.1≠id)/\Two w w.heap.size (w.heap.size+1) (.int .i64 id) (.pointer none) W)
    (fun c pre W=>c= .ret/\∃q y,pre=q++ [y]/\(∀z∈q,idf z.1≠id)/\idf y.1=id/\Two w w.heap.size (w.heap.size+1) (.int .i64 id) (nY y.1) W)
    (fun s X Y row hs hg hr=>⟨hs.1,Two.own (β:=Unit) (fun _=> .int .i64 id) (fun _=> .pointer none) hB0.size () X Y row hs.2 hg hr⟩)
    (fun c s X Y row hs hg hr=>by
      obtain⟨hc,q,y,e,h1,h2,h3⟩:=hs;exact⟨hc,q,y,e,h1,h2,Two.own (β:=Unit) (fun _=> .int .i64 id) (fun _=>nY y.1) hB0.size () X Y row h3 hg hr⟩)
    ⟨by simp,h2⟩
    (fun x a' W=>a'= { tmps:=#[nY b,.int .i64 id,undef,nY w.heap.size,nY (w.heap.size+1),nY x.1,nY b,.func (.func 184) #[] #[nY (w.heap.size+1+1)],nY x.1,undef,undef,undef,undef,undef,undef,undef],defers:= [] })
    (fun x a' _ X Y row hs hg hr=>hs)
    ?assign ?body ?done ?stop
  case assign=>
    rintro l pre x W K hI2 hK
    gi_wp2
    exact hK _ _ ((KeepsOthers.refl _).from _) (Below.refl _ W) hI2 rfl
  case body=>
    rintro l pre x a' W hl ⟨r,hr⟩ ⟨hne,h3⟩ rfl hlt;have hc1:=h3.c1;have hc2:=h3.c2;have hf2:=h3.fz;have hxc:=(h3.bl.cell (p:=⟨x.1,0,none⟩) (Jg x.2)).trans x.2;have hd2:1<=n - 1 - 1:=by omega
    have hmx:Tryz.prog.follows .mixedOrders=true:=by kernel_rfl
    gi_wp2
    gi_region_with_o fail
    all_goals gi_wp2
    all_goals (try go_bits)
    all_goals first
      | (rename_i hx
         refine⟨((KeepsOthers.setCell _ _ _).trans (KeepsOthers.drew _)).from _,rfl,pre,x,rfl,hne,by simpa using hx,Two.drw ?_⟩;exact h3.set (by omega) (zU _) (nY x.1))
      | (rename_i hx
         refine⟨(KeepsOthers.drew _).from _,(Below.refl _ _).drew,fun y hy=>?_,h3.drw⟩;rcases bT.1 hy with hy | hy
         . exact hne y hy
         obtain rfl:=fS.1 hy;simpa using hx)
  case done=>
    rintro D ys W hD hys ⟨hne,h3⟩ hK;have hc2:=h3.c2;have hf2:=h3.fz
    gi_wp2
    have h4:=h3.set (by omega) (zU _) (.pointer none);have hDs:w.heap.size+1<D:=by simp at hD;omega
    have hK4:(W.setCell ⟨w.heap.size+1,0,none⟩ (.pointer none)).heap[D]?=some (.deferred (some [])):=(Below.heap_setCell W ⟨w.heap.size+1,0,none⟩ _ D (by show D≠w.heap.size+1;omega)).trans hK;refine⟨by simp,.inl ⟨_,_,rfl,run_takeDeferred hK4,?_⟩⟩;have hc5:((W.setCell ⟨w.heap.size+1,0,none⟩ (.pointer none)).putObj D (.deferred none)).cell? ⟨w.heap.size+1,0,none⟩=some (.pointer none):=(World.cell?_of_block (World.putObj_heap_other (k:=w.heap.size+1) (by omega))).trans h4.c2;refine⟨Ui idf id os,?_,rfl,h4.bl.trans (belowK_b (w:=w) (aW _) _ D _ _ (by omega) hK4 rfl rfl)⟩;have hfn:Ui idf id os= .pointer none:=by
      have:os.find? (fun x=>decide (idf x=id))=none:=by
        rw [nQ];intro x hx;rw [<- hys] at hx;obtain⟨y,hy,rfl⟩:=aV.1 hx;simpa using hne y hy
      unfold Ui;rw [this]
    rw [hfn];simp [results,Tryz.f47,go_sem,hc5]
  case stop=>
    rintro D c pre W hD hp ⟨rfl,q,y,hq,hz,hy,h3⟩ hK;have hc2:=h3.c2
    gi_wp2
    refine⟨by simp,.inl ⟨_,_,rfl,run_takeDeferred hK,?_⟩⟩;have hDs:w.heap.size+1<D:=by simp at hD;omega
    have hc5:(W.putObj D (.deferred none)).cell? ⟨w.heap.size+1,0,none⟩=some (nY y.1):=(World.cell?_of_block (World.putObj_heap_other (k:=w.heap.size+1) (by omega))).trans hc2;refine⟨Ui idf id os,?_,rfl,h3.bl.trans (belowK_b (w:=w) (aW _) _ D _ _ (by omega) hK rfl rfl)⟩;have hfn:Ui idf id os=nY y.1:=by
      have:os.find? (fun x=>decide (idf x=id))=some y.1:=by
        obtain⟨r,hr⟩:=hp;have e1:(q.map Subtype.val).find? (fun x=>decide (idf x=id))=none:=by
          rw [nQ];intro x hx;obtain⟨z,hz2,rfl⟩:=aV.1 hx;simpa using hz z hz2
        rw [<- hr,hq,cE,bW,List.find?_append,e1];simp [hy]
      unfold Ui;rw [this]
    rw [hfn];simp [results,Tryz.f47,go_sem,hc5]
end Go.Proofs.YtbgfljpnhhdkoaaGreat
namespace Go.Vm
open Go
variable {val:Nat->Value}{w:World}
theorem Ok.below {w':World} {g:Gh} {st:St} (h:Ok w g st val)(hb:RowKit.Below w.heap.size w w'):Ok w' g st val:=by
  have hk:∀(hd:Holder) (b:Nat) (q:List Nat),g.X b=some (hd,q)->w'.heap[b]?=w.heap[b]?/\(∀o,g.M b o=none->g.M b o=none)/\g.X b=some (hd,q):=fun hd b q hx=>⟨hb.block b (h.xlt b _ hx),fun _ h=>h,hx⟩;exact⟨fun b o c hc=>(hb.cell (p:=⟨b,o,none⟩) (h.mlt hc)).trans (h.mem b o c hc),fun b t hx=>sF (h.xlt b t hx) hb.size,
    fun t=>(h.slot t).keep (fun _ _ _ h=>h) (fun _ _ h=>h) (fun _ _ h=>h) (hk _),h.ll,fun n b cs h1 h2=>(h.loc n b cs h1 h2).keep (fun _ _ _ h=>h) (fun _ _ h=>h) (hk _),h.ol,
    fun n b cs h1 h2=>(h.obj n b cs h1 h2).keep (fun _ _ _ h=>h) (fun _ _ h=>h) (hk _)⟩
theorem Fr.below {w':World} (g:Gh)(hb:RowKit.Below w.heap.size w w'):Fr w g w' g:=
  ⟨hb.os,hb.tape,hb.output,hb.size,fun b hb' hx=>⟨hb.block b hb',hx,fun _=>rfl⟩,fun _ _ _ h=>h,fun _ _ h=>h⟩
theorem Ok.res {g:Gh} {st:St} (h:Ok w g st val)(hbl:g.bl= [])(r:D)(x:Value)(hr:R g.M g.bs r x)(ho:Own w g.M g.bs g.X (.slot 0) [] r x):Ok w g (St.ofRes r st.obj) (fun t=>if t=0 then x else undef):=by
  refine⟨h.mem,h.xlt,fun t=>?_,by simp [St.ofRes,hbl],fun n b cs hn=>by rw [hbl] at hn;simp at hn,h.ol,h.obj⟩;by_cases ht:t=0
  . subst ht
    exact⟨hr,ho⟩
  simp only [ht,bK,St.ofRes,fT];rw [iR (by simp;omega)];exact⟨.any _,.flat _ _ _ rfl⟩
theorem R.cellsOf {M:Mem} {bs:List Nat} {o:Bool} {es:List D} {v:Value} (h:R M bs (.sl o es) v)(h0:es≠ [])(h1:∀d∈es,d.ncells=1):
    ∃b off cap,v= .slice (some ⟨b,off,none⟩) es.length cap/\es.length<=cap/\cap<=maxLen/\∀(i:Nat) (d:D),es[i]?=some d->∃x,R M bs d x/\x.cells.size=1/\∀c,x.cells[0]?=some c->M b (off+i)=some c:=by
  cases h with
  | nil o=>exact absurd rfl h0
  | emp o a cap hm=>exact absurd rfl h0
  | sl o es b off n cap k vs hl hn hk hc hm hr hs hx =>
    subst hn;refine⟨b,off,cap,rfl,hc,hm,fun i d hd=>?_⟩;have hi:i<es.length:=(aP.1 hd).1;have hv:vs[i]?=some (vs[i]'(by omega)):=aS (by omega);obtain rfl:k=1:=by rw [<- hs i d hd];exact h1 d (bE hd)
    refine⟨_,hr i d _ hd hv,(hx i _ hv).1,fun c hc'=>?_⟩;have:=((hx i _ hv).2 0 c hc').2;simpa using this
end Go.Vm
