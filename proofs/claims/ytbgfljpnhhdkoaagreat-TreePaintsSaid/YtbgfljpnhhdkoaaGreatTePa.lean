import Derived.RangeFuncNested
import Derived.RangeFuncBound
import Derived.RangeFuncCalls
import Derived.RangeFuncLeaves
import Derived.Shelf.Abstract
import Derived.Shelf.RegionOpen
import Derived.WalkKit
import Derived.OwnWalkIn
import Derived.TacticsInMore
import Derived.LoopNIn
import Derived.LoopIn
import Derived.Maps.AppendAt
import Derived.Test.YtbgfljpnhhdkoaaGreatProg
import Derived.Test.YtbgfljpnhhdkoaaGreatVm3
import Derived.Laws.AppendOwn
import Derived.Test.YtbgfljpnhhdkoaaGreatTeSw
set_option linter.all false
set_option maxRecDepth 100000
set_option maxHeartbeats 4000000
open Go.Proofs.Tryz
namespace Go.Proofs.YtbgfljpnhhdkoaaGreat
open Go Go.Proofs Go.RowKit Go.Shelf
attribute [local go_sem] Oper.semAt_some
variable {B C b k n₀:Nat}{F:Fence}{R:Ending->World->Prop}{W w:World}{a:Addr}{os:List Nat}{oss:List (List Nat)}{v:Value}
abbrev Bh(x:Nat):Value:= .pointer (some ⟨x,0,none⟩)
theorem aNn (hd:F.depth=none)(k:Nat):F.room k:=fun d h=>by rw [hd] at h;cases h
theorem aGd (hd:F.depth=none) {m m':Nat} {P:Program} {l:Nat} {f:FuncId} {tmps:Array Value} {assign body:Code} 
    (h:RoundIn F m P l f tmps assign body w R):RoundIn F m' P l f tmps assign body w R:=⟨h.1,fun c cs _=>h.2 c cs (aNn hd _)⟩
theorem aEn (hd:F.depth=none) {m:Nat} (m':Nat) {P:Program} {l:Nat} {args:Array Value} (h:YieldAt F m P l args W R):YieldAt F m' P l args W R:=by
  obtain⟨fn,tmps,assign,body,hy,hR⟩:=h;exact⟨fn,tmps,assign,body,hy,aGd hd hR⟩
def PtrsAt(n₀:Nat)(W:World)(sv:Value)(ps:List Nat):Prop:=
  (∃a cap,sv= .slice a 0 cap/\ps= [])\/∃b off cap,sv= .slice (some ⟨b,off,none⟩) ps.length cap/\b<n₀/\∀j (h:j<ps.length),W.cell? ⟨b,off+j,none⟩=some (Bh ps[j])
inductive IW(n₀:Nat)(W:World):Nat->List Nat->Prop
  | mk (b:Nat) (sv:Value) (ps:List Nat) (oss:List (List Nat)) (hb:b<n₀) (h26:W.cell? ⟨b,26,none⟩=some sv) (hs:PtrsAt n₀ W sv ps) (hlen:ps.length<1000000) (hl:oss.length=ps.length)
      (hk:∀(j:Nat) (h1:j<ps.length) (h2:j<oss.length),IW n₀ W ps[j] oss[j]):IW n₀ W b (b::oss.flatten)
theorem IW.lt (h:IW n₀ W b os):b<n₀:=by cases h;assumption
theorem PtrsAt.below {n₁:Nat} {A B:World} (hn:n₀<=n₁)(h:Below n₀ A B) {sv:Value} {ps:List Nat} :PtrsAt n₀ A sv ps->PtrsAt n₁ B sv ps
  | .inl e=> .inl e
  | .inr ⟨b,off,cap,e,hb,hc⟩=> .inr ⟨b,off,cap,e,by omega,fun j hj=>(h.cell (p:=⟨b,off+j,none⟩) hb).trans (hc j hj)⟩
theorem IW.bel {n₁:Nat} {A B:World} (hn:n₀<=n₁)(h:Below n₀ A B) (hi:IW n₀ A b os):IW n₁ B b os:=by
  induction hi with
  | mk b sv ps oss hb h26 hs hlen hl hk ih=>exact .mk b sv ps oss (by omega) ((h.cell (p:=⟨b,26,none⟩) hb).trans h26) (hs.below hn h) hlen hl ih
theorem aEd (h:k<oss.length):(oss.take (k+1)).flatten=(oss.take k).flatten++oss[k]:=by
  rw [Fz h,List.flatten_append,yV,List.flatten_nil,gN]
theorem Va (h:k<oss.length) {q:List Nat} (hq:q<+:oss[k]):(oss.take k).flatten++q<+:oss.flatten:=by
  obtain⟨r,hr⟩:=hq;refine⟨r++(oss.drop (k+1)).flatten,?_⟩;have e:oss.flatten=(oss.take k).flatten++(oss[k]++(oss.drop (k+1)).flatten):=by
    conv=>lhs;rw [<- fH k oss,yP h]
    rw [List.flatten_append,yV]
  rw [e,<- hr];simp
theorem lI (h:k<oss.length):(oss.take k).flatten.length+oss[k].length<=oss.flatten.length:=by
  have:=Va h (Fm oss[k]);have:=this.length_le;simpa using this
theorem aMn (h:k<oss.length) {x:Nat} (hx:x∈oss[k]):x∈oss.flatten:=List.mem_flatten.2 ⟨_,cJ h,hx⟩
theorem aRn (F : Fence) (hd : F.depth = none) (hf : F.fn 185) (hro : F.round = none) (l n₀ N : Nat) (U : Nat -> Prop) (J Jx : List Nat -> World -> Prop)
    (hY:∀m pre x W,U x->J pre W->pre.length<N->YieldAt F m prog l #[Bh x] W fun e W'=>
      (e= .returned (.bool true)/\J (pre++ [x]) W'/\Below n₀ W W')\/(e= .returned (.bool false)/\Jx (pre++ [x]) W')) (W0:World) (hI:IW n₀ W0 b os):
    ∀ (n : Nat) (pre : List Nat) (W : World), (∀ x ∈ os, U x) -> Below n₀ W0 W -> J pre W -> pre.length + os.length <= N ->
      CallsIn F n prog 185 #[Bh b,.func (.yield l) #[] #[]] W fun e W'=>
        (e= .returned (.bool true)/\J (pre++os) W'/\Below n₀ W W')\/(e= .returned (.bool false)/\∃q,q<+:os/\Jx (pre++q) W'):=by
  induction hI with
  | mk b sv ps oss hb h26 hs hlen hl hk ih =>
    intro n pre W hU hBW hJ hN;have hdd:∀k:Nat,(F.depth.isSome=true->1<=k):=fun k h=>by rw [hd] at h;cases h
    simp only [bR] at hN;obtain⟨fn,tmps,assign,body,hy,hR⟩:=hY (n - 1) pre b W (hU b fE) hJ (by omega);rcases hs with ⟨a,cap,rfl,rfl⟩ | ⟨bb,off,cap,rfl,hbb,hc⟩
    . have hos : oss = [] := zL.1 (by simpa using hl)
      subst hos;refine callsIn_of_wp func185 rfl hf ?_ hro;simp only [ntmps185,eF,bR,dC,Nat.reduceAdd,Nat.reduceSub,nU,oF,nV,nY,aP,aQ]
      gi_wp2
      try refine⟨hdd _,?_⟩
      refine hR.mono ?_;clear hR;rintro e W1 (⟨rfl,hJ1,hb1⟩ | ⟨rfl,hx1⟩)
      . have c26 := ((hBW.trans hb1).cell (p := ⟨b, 26, none⟩) hb).trans h26
        gi_wp2
        gi_loopw [16] (fun i wr=>i= .int .i64 0/\J (pre++ [b]) wr/\Below n₀ W wr) (fun _ _=>0)
        case atStart=>exact⟨rfl,hJ1,hb1⟩
        case round=>
          obtain⟨rfl,hJs,hbs⟩:=hrel
          gi_wp2
          go_ret
          exact .inl ⟨rfl,by simpa using hJs,hbs⟩
      gi_wp2
      go_ret
      exact .inr ⟨rfl, [b],by simp,hx1⟩
    refine callsIn_of_wp func185 rfl hf ?_ hro;simp only [ntmps185,eF,bR,dC,Nat.reduceAdd,Nat.reduceSub,nU,oF,nV,nY,aP,aQ]
    gi_wp2
    try refine⟨hdd _,?_⟩
    refine hR.mono ?_;clear hR;rintro e W1 (⟨rfl,hJ1,hb1⟩ | ⟨rfl,hx1⟩)
    . have c26 := ((hBW.trans hb1).cell (p := ⟨b, 26, none⟩) hb).trans h26
      gi_wp2
      gi_loopw [16] (fun i wr=>∃k:Nat,k<=ps.length/\i= .int .i64 k/\J (pre++b::(oss.take k).flatten) wr/\Below n₀ W wr) (fun i _=>ps.length - (intOf i).toNat)
      case atStart=>exact⟨0,jA _,rfl,by simpa using hJ1,hb1⟩
      case round=>
        obtain⟨k,hk2,rfl,hJs,hbs⟩:=hrel;by_cases hlt:k<ps.length
        . have ec := ((hBW.trans hbs).cell (p := ⟨bb, off + k, none⟩) hbb).trans (hc k hlt)
          have hfl:=lI (oss:=oss) (k:=k) (by omega);have hkid:=ih k hlt (by omega) (n - 1) _ _ (fun x hx=>hU x (gL _ (aMn (by omega) hx))) (hBW.trans hbs) hJs (by rw [bB,bR];omega);clear ih
          gi_wp2_with ((try refine⟨hdd _,?_⟩);gi_at_call 185;refine hkid.mono ?_;clear hkid;rintro e W3 (⟨rfl,hJ3,hb3⟩ | ⟨rfl,q,hq,hx3⟩))
          . go_roundw
            case rel=>exact⟨k+1,by omega,by simp,by rw [aEd (by omega)];simpa using hJ3,hbs.trans hb3⟩
            case measure=>simp [intOf];omega
          refine bodyPost_ret (results_tmp rfl _ _ _) rfl ?_;refine .inr ⟨rfl,b::((oss.take k).flatten++q),?_,by simpa using hx3⟩;obtain⟨r,hr⟩:=Va (by omega) hq;exact⟨r,by rw [<- hr];simp⟩
        obtain rfl:k=ps.length:=by omega
        gi_wp2
        go_ret
        exact .inl ⟨rfl,by rw [<- hl,dX] at hJs;exact hJs,hbs⟩
    gi_wp2
    go_ret
    exact .inr ⟨rfl, [b],by simp,hx1⟩
theorem aRo(F:Fence)(hd:F.depth=none)(n:Nat)(h1:F.fn 184)(h2:F.fn 185)(hro:F.round=none)(l Bt n₀ b:Nat)(os:List Nat)(U:Nat->Prop)(hU:∀x∈os,U x)(J Jx:List Nat->World->Prop)(W0:World)(hI:IW n₀ W0 b os)
    (hY:∀pre x W,U x->J pre W->pre.length<os.length->YieldAt F (n - 1) prog l #[Bh x] W fun e W'=>
      (e= .returned (.bool true)/\J (pre++ [x]) W'/\Below n₀ W W')\/(e= .returned (.bool false)/\Jx (pre++ [x]) W'))
    (W:World) (hB:Below n₀ W0 W) (hBt:W.cell? ⟨Bt,0,none⟩=some (Bh b)) (h0:J [] W):
    CallsIn F n prog 184 #[.func (.yield l) #[] #[],Bh Bt] W fun e W'=>(∃v,e= .returned v)/\
      ((∃ys,ys=os/\J ys W')\/(∃pre,pre<+:os/\Jx pre W')):=by
  have hdd:∀k:Nat,(F.depth.isSome=true->1<=k):=fun k h=>by rw [hd] at h;cases h
  have hp:=aRn F hd h2 hro l n₀ os.length U J Jx (fun m pre x W hu hj hl=>aEn hd m (hY pre x W hu hj hl)) W0 hI (n - 1) [] W hU hB h0 (by simp);refine callsIn_of_wp func184 rfl h1 ?_ hro;simp only [ntmps184,eF,bR,dC,Nat.reduceAdd,Nat.reduceSub,nU,oF,nV,nY,aP,aQ]
  gi_wp2_with ((try refine⟨hdd _,?_⟩);gi_at_call 185;refine hp.mono ?_;clear hp;rintro e W1 (⟨rfl,hJ1,_⟩ | ⟨rfl,q,hq,hx⟩))
  . go_end0
    exact⟨⟨_,rfl⟩,.inl ⟨_,rfl,by simpa using hJ1⟩⟩
  go_end0
  exact⟨⟨_,rfl⟩,.inr ⟨q,hq,by simpa using hx⟩⟩
theorem aS8(F:Fence)(n:Nat)(h:F.fn 104)(hro:F.round=none)(b:Nat)(w:World):
    CallsIn F n prog 104 #[Bh b] w fun e w'=>e= .returned (.func (.func 184) #[] #[Bh w.heap.size])/\w'=w.alloc (.cells #[Bh b] 84):=by
  refine callsIn_of_wp func104 rfl h ?_ hro;simp only [ntmps104,eF,bR,dC,Nat.reduceAdd,Nat.reduceSub,nU,oF,nV,nY,aP,aQ]
  gi_wp2
  go_ret
  exact⟨rfl,rfl⟩
theorem aFv(F:Fence)(hd:F.depth=none)(n:Nat)(h1:F.fn 184)(h2:F.fn 185)(hro:F.round=none)(Bt n₀ b:Nat)(os:List Nat)(U:Nat->Prop)(hU:∀x∈os,U x)(w:World)(hBt:Bt<w.heap.size)(hn₀:n₀<=w.heap.size)
    (hc:w.cell? ⟨Bt,0,none⟩=some (Bh b)) (hI:IW n₀ w b os):
    SeqStopsK F n prog 184 #[Bh Bt] (fun x: { x:Nat // U x } =>#[Bh x.1]) (Below n₀) (fun ys=>ys.map Subtype.val=os) (fun pre=>pre.map Subtype.val<+:os) os.length w:=fun l J Jx W hW _ _ hY h0=>
  (aRo F hd n h1 h2 hro l Bt n₀ b os U hU (fun pre W=>∃q:List { x:Nat // U x },q.map Subtype.val=pre/\J q W) (fun pre W=>∃q:List { x:Nat // U x },q.map Subtype.val=pre/\Jx q W) w hI
    (fun pre x W hu ⟨q,hq,hj⟩ hl=>(hY q ⟨x,hu⟩ W hj (by rw [<- hq] at hl;simpa using hl)).mono fun e W' h=>h.elim (fun⟨he,hj2,hk⟩=> .inl ⟨he,⟨_,by simp [hq],hj2⟩,hk⟩) fun⟨he,hj2⟩=> .inr ⟨he,_,by simp [hq],hj2⟩)
    W (hW.mono hn₀) ((hW.cell (p:=⟨Bt,0,none⟩) hBt).trans hc) ⟨[],rfl,h0⟩).mono fun e W' ⟨hv,h⟩=>⟨hv,h.elim (fun⟨ys,hy,q,hq,hj⟩=> .inl ⟨q,hq.trans hy,hj⟩) fun⟨pre,hp,q,hq,hj⟩=> .inr ⟨q,by show q.map Subtype.val<+:os;rw [hq];exact hp,hj⟩⟩
attribute [local go_sem] Oper.semAt_some
theorem aO4(F:Fence)(n:Nat)(hf:F.fn 100)(hro:F.round=none)(b:Nat)(k mv:Int)(W:World)(h15:W.cell? ⟨b,15,none⟩=some (.int .i64 k))(h16:W.cell? ⟨b,16,none⟩=some (.int .i64 mv)):
    CallsIn F n prog 100 #[Bh b] W fun e W'=>e= .returned (.bool (!(decide (k=0) && decide (mv=0))))/\Below W.heap.size W W':=by
  refine callsIn_of_wp func100 rfl hf ?_ hro;simp only [ntmps100,eF,bR,dC,Nat.reduceAdd,Nat.reduceSub,nU,oF,nV,nY,aP,aQ]
  gi_wp2
  all_goals go_ret
  all_goals exact⟨by simp [*,bne,BEq.beq],Below.refl _ _⟩
theorem Ye(F:Fence)(n:Nat)(hf:F.fn 223)(hro:F.round=none)(k mv dx dy:Int)(W:World):
    CallsIn F n prog 223 #[.agg #[.int .i64 k,.int .i64 mv,.int .i64 dx,.int .i64 dy]] W fun e W'=>e= .returned (.bool (decide (k=5) || decide (k=6)))/\Below W.heap.size W W':=by
  refine callsIn_of_wp func223 rfl hf ?_ hro;simp only [ntmps223,eF,bR,dC,Nat.reduceAdd,Nat.reduceSub,nU,oF,nV,nY,aP,aQ]
  gi_wp2
  all_goals go_ret
  all_goals exact⟨by simp [*,bne,BEq.beq],(Below.refl _ _).alloc (aY _) _⟩
def ghK(k:Int):Bool:=decide (k=4) || (decide (k=5) || decide (k=6))
theorem aDq(F:Fence)(hd:F.depth=none)(n:Nat)(hf:F.fn 181)(hf2:F.fn 223)(hro:F.round=none)(k mv dx dy:Int)(W:World):
    CallsIn F n prog 181 #[.agg #[.int .i64 k,.int .i64 mv,.int .i64 dx,.int .i64 dy]] W fun e W'=>e= .returned (.bool (ghK k))/\Below W.heap.size W W':=by
  have hdd:∀k:Nat,(F.depth.isSome=true->1<=k):=fun k h=>by rw [hd] at h;cases h
  refine callsIn_of_wp func181 rfl hf ?_ hro;simp only [ntmps181,eF,bR,dC,Nat.reduceAdd,Nat.reduceSub,nU,oF,nV,nY,aP,aQ]
  gi_wp2_with ((try refine⟨hdd _,?_⟩);gi_at_call 223;refine(Ye F _ hf2 hro k mv dx dy _).mono ?_;rintro e W1 ⟨rfl,hb⟩)
  all_goals go_ret
  all_goals first | exact⟨by simp [*,ghK,bne,BEq.beq],(Below.refl _ _).alloc (aY _) _⟩ | exact⟨by simp [*,ghK,bne,BEq.beq],((Below.refl _ _).alloc (aY _) _).trans (hb.mono (by simp))⟩
theorem aN5(F:Fence)(hd:F.depth=none)(n:Nat)(h0:F.fn 101)(hf:F.fn 181)(hf2:F.fn 223)(hro:F.round=none)(b:Nat)(k mv dx dy:Int)(W:World)(h15:W.cell? ⟨b,15,none⟩=some (.int .i64 k))(h16:W.cell? ⟨b,16,none⟩=some (.int .i64 mv))(h17:W.cell? ⟨b,17,none⟩=some (.int .i64 dx))(h18:W.cell? ⟨b,18,none⟩=some (.int .i64 dy)):
    CallsIn F n prog 101 #[Bh b] W fun e W'=>e= .returned (.bool (ghK k))/\Below W.heap.size W W':=by
  have hdd:∀k:Nat,(F.depth.isSome=true->1<=k):=fun k h=>by rw [hd] at h;cases h
  refine callsIn_of_wp func101 rfl h0 ?_ hro;simp only [ntmps101,eF,bR,dC,Nat.reduceAdd,Nat.reduceSub,nU,oF,nV,nY,aP,aQ]
  gi_wp2_with ((try refine⟨hdd _,?_⟩);gi_at_call 181;refine(aDq F hd _ hf hf2 hro k mv dx dy _).mono ?_;rintro e W1 ⟨rfl,hb⟩)
  go_ret
  exact⟨rfl,hb⟩
theorem Er {W':World} (h:Below W.heap.size W W'):KeepsOthers W W':=⟨h.size,fun k o hk _=>(h.block k (dQ.1 hk).1).trans hk⟩
theorem Sg (h:W.cell? a=some v):a.block<W.heap.size:=by
  obtain⟨o,ho,_⟩:=cells_of_cell h;exact(dQ.1 ho).1
theorem Jg (o:Obj)(h:W.cell? a=some v):(W.alloc o).cell? a=some v:=cell_kept h (World.grownBy_alloc W o none) (fun r e=>by cases e)
theorem aUv (o:Obj)(h:W.cell? a=some v)(hf:W.frozen? a=false):(W.alloc o).frozen? a=false:=(frozen_kept h (World.grownBy_alloc W o none) (fun r e=>by cases e)).trans hf
theorem aPr(W:World)(v:Value)(t:TypeId):(W.alloc (.cells #[v] t)).frozen? ⟨W.heap.size,0,none⟩=false:=by simp
theorem zJ(W:World)(v:Value)(t:TypeId):(W.alloc (.cells #[v] t)).cell? ⟨W.heap.size,0,none⟩=some v:=by simp
structure Two(w:World)(B C:Nat)(u v:Value)(W:World):Prop where
  c1:W.cell? ⟨B,0,none⟩=some u
  c2:W.cell? ⟨C,0,none⟩=some v
  fz:W.frozen? ⟨C,0,none⟩=false
  bl:Below w.heap.size w W
theorem Two.own {β:Type} (u v:β->Value) {M:Nat} (hM:w.heap.size<=M):OwnFrom M (fun s W=>Two w B C (u s) (v s) W):=fun s X Y row hs hg hr=>
  ⟨cell_kept hs.c1 hg (fun r e=>(hr r e).2),cell_kept hs.c2 hg (fun r e=>(hr r e).2),(frozen_kept hs.c2 hg (fun r e=>(hr r e).2)).trans hs.fz,ownFrom_below (β:=Unit) (aY _) hM () X Y row hs.bl hg hr⟩
theorem Two.keep {u:Value} {W':World} (h:Two w B C u v W)(hb:Below W.heap.size W W')(hs:w.heap.size<=W.heap.size):Two w B C u v W':=
  ⟨(hb.cell (p:=⟨B,0,none⟩) (Sg h.c1)).trans h.c1,(hb.cell (p:=⟨C,0,none⟩) (Sg h.c2)).trans h.c2,(hb.frozen (p:=⟨C,0,none⟩) (Sg h.c2)).trans h.fz,h.bl.trans (hb.mono hs)⟩
theorem Two.set {u:Value} (h:Two w B C u v W)(hBC:B≠C)(hC:w.heap.size<=C)(v':Value):Two w B C u v' (W.setCell ⟨C,0,none⟩ v'):=
  ⟨(World.cell?_of_block (Below.heap_setCell _ ⟨C,0,none⟩ _ B hBC)).trans h.c1,World.cell?_setCell_same' _ _ _ (by rw [h.c2];rfl),by rw [World.frozen?_setCell];exact h.fz,h.bl.setCell (p:=⟨C,0,none⟩) hC _⟩
theorem aI0 (F : Fence) (hd : F.depth = none) (n : Nat) (isf : Nat) (hfi : F.fn isf) (eg : ∀ args w, (callFunc isf args).run prog w = .ok (.enter isf args) w) (h99 : F.fn 99) (h104 : F.fn 104) (h184 : F.fn 184) (h185 : F.fn 185) (hro : F.round = none) (hn : 3 <= n)
    (b:Nat) (os:List Nat) (w:World) (p:Nat->Bool) (hI:IW w.heap.size w b os) (hN:os.length<1000000) (U:Nat->Prop) (hU:∀x∈os,U x) (his:∀x,U x->∀m W,Below w.heap.size w W->CallsIn F m prog isf #[Bh x] W fun e W'=>e= .returned (.bool (p x))/\Below W.heap.size W W'):
    CallsIn F n prog 99 #[Bh b,.func (.func isf) #[] #[]] w fun e W'=>e= .returned (.int .i64 (os.countP p:Nat))/\Below w.heap.size w W':=by
  have h1:1<=n:=by omega
  have hdd:∀k:Nat,(F.depth.isSome=true->1<=k):=fun k h=>by rw [hd] at h;cases h
  refine callsIn_of_wp_marks func99 rfl h99 ?_ hro;simp only [ntmps99,eF,bR,dC,Nat.reduceAdd,Nat.reduceSub,nU,oF,nV,nY,aP,aQ]
  gi_wp2_with (gi_at_call 104;refine(aS8 F (n - 1) h104 hro _ _).mono ?_;rintro e w' ⟨rfl,rfl⟩)
  have hB0:Below w.heap.size w (((w.alloc (Obj.cells #[Value.func (Fn.func isf) #[] #[]] 197)).alloc (Obj.cells #[Value.int IntKind.i64 0] 3)).alloc (Obj.cells #[Bh b] 84)):=((Below.alloc (Below.refl _ w) (aY _) _).alloc (by rw [World.size_alloc];omega) _).alloc (by rw [World.size_alloc,World.size_alloc];omega) _;have hcb:=zJ ((w.alloc (Obj.cells #[Value.func (Fn.func isf) #[] #[]] 197)).alloc (Obj.cells #[Value.int IntKind.i64 0] 3)) (Bh b) 84;simp only [World.size_alloc] at hcb;have h2:Two w w.heap.size (w.heap.size+1) (.func (.func isf) #[] #[]) (.int .i64 (([]:List { x:Nat // U x }).countP fun x=>p x.1:Nat)) (((w.alloc (Obj.cells #[Value.func (Fn.func isf) #[] #[]] 197)).alloc (Obj.cells #[Value.int IntKind.i64 0] 3)).alloc (Obj.cells #[Bh b] 84)):=by
    refine⟨Jg _ (Jg _ (zJ _ _ _)),Jg _ ?_,aUv _ (v:= .int .i64 0) ?_ ?_,hB0⟩
    . have := zJ (w.alloc (Obj.cells #[Value.func (Fn.func isf) #[] #[]] 197)) (.int .i64 0) 3
      rwa [World.size_alloc] at this
    . have := zJ (w.alloc (Obj.cells #[Value.func (Fn.func isf) #[] #[]] 197)) (.int .i64 0) 3
      rwa [World.size_alloc] at this
    have:=aPr (w.alloc (Obj.cells #[Value.func (Fn.func isf) #[] #[]] 197)) (.int .i64 0) 3
    rwa [World.size_alloc] at this
  refine wpIn_rangeFunc_ownH hro h1 (gf:=184) (lb:=#[Bh (w.heap.size+1+1)]) rfl h184 (enters_of func184 (by kernel_rfl) rfl)
    (aFv F hd (n - 1) h184 h185 hro (w.heap.size+1+1) w.heap.size b os U hU _ (by simp) hB0.size hcb (hI.bel (aY _) hB0)) belowK_t (belowK_b hB0.size) (Below.refl _ _) (fun _=>rfl)
    (fun pre W=>Two w w.heap.size (w.heap.size+1) (.func (.func isf) #[] #[]) (.int .i64 (pre.countP fun x=>p x.1:Nat)) W)
    (fun _ _ _=>False)
    (Two.own _ _ hB0.size)
    (fun _ _ _ _ _ hs _ _=>hs)
    h2
    (fun x a' W=>a'= { tmps:=#[Bh b,.func (.func isf) #[] #[],undef,Bh w.heap.size,.int .i64 0,Bh (w.heap.size+1),Bh x.1,Bh b,.func (.func 184) #[] #[Bh (w.heap.size+1+1)],Bh x.1,undef,undef,undef,undef,undef,undef],defers:= [] })
    (fun x a' _ X Y row hs hg hr=>hs)
    ?assign ?body ?done ?stop
  case assign=>
    rintro l pre x W K hI2 hK
    gi_wp2
    exact hK _ _ ((KeepsOthers.refl _).from _) (Below.refl _ W) hI2 rfl
  case body=>
    rintro l pre x a' W hl ⟨r,hr⟩ h3 rfl hlt;have hc1:=h3.c1;have hsz:w.heap.size<=W.heap.size:=h3.bl.size;have hcall:=CallsIn.inRound l (his x.1 x.2 (n - 1 - 1 - 1) W h3.bl);have hcn:pre.countP (fun x=>p x.1)<=pre.length:=List.countP_le_length;have hw:wrap64 ((pre.countP (fun x=>p x.1):Nat)+1)=((pre.countP (fun x=>p x.1)+1:Nat):Int):=by unfold wrap64;omega
    gi_wp2
    try refine⟨hdd _,?_⟩
    refine hcall.mono ?_;clear hcall;rintro e w' ⟨rfl,hb⟩;have h4:=h3.keep hb hsz;have hc2:=h4.c2;have hf2:=h4.fz
    gi_wp2
    . rename_i hx
      exact⟨((Er hb).trans (KeepsOthers.setCell _ _ _)).from _,(hb.mono hsz).setCell (p:=⟨w.heap.size+1,0,none⟩) (Nat.le_succ _) _,by
        have e:((pre++ [x]).countP (fun x=>p x.1))=pre.countP (fun x=>p x.1)+1:=by rw [List.countP_append,zY,aI hx]
        show Two _ _ _ _ (.int .i64 (((pre++ [x]).countP (fun x=>p x.1):Nat):Int)) _
        rw [e];exact h4.set (by omega) (Nat.le_succ _) _⟩
    rename_i hx;exact⟨(Er hb).from _,hb.mono hsz,by
      have e:((pre++ [x]).countP (fun x=>p x.1))=pre.countP (fun x=>p x.1):=by rw [List.countP_append,zY,aA (by simpa using hx)];rfl
      show Two _ _ _ _ (.int .i64 (((pre++ [x]).countP (fun x=>p x.1):Nat):Int)) _
      rw [e];exact h4⟩
  case done=>
    rintro D ys W hD hys h3 hK;have hc2:=h3.c2
    gi_wp2
    refine⟨by simp,.inl ⟨_,_,rfl,run_takeDeferred hK,?_⟩⟩;exact⟨_,results_tmp rfl _ _ _,by rw [<- hys,List.countP_map];rfl,h3.bl.trans (belowK_b (w:=w) (aY _) W D _ _ (by simp at hD;omega) hK rfl rfl)⟩
  case stop=>
    rintro D c pre W _ _ h _;exact h.elim
attribute [local go_sem] Oper.semAt_some
end Go.Proofs.YtbgfljpnhhdkoaaGreat
namespace Go.Vm
open Go
variable {val:Nat->Value}{w:World}
theorem Ok.below {w':World} {g:Gh} {st:St} (h:Ok w g st val)(hb:RowKit.Below w.heap.size w w'):Ok w' g st val:=by
  have hk:∀(hd:Holder) (b:Nat) (q:List Nat),g.X b=some (hd,q)->w'.heap[b]?=w.heap[b]?/\(∀o,g.M b o=none->g.M b o=none)/\g.X b=some (hd,q):=fun hd b q hx=>⟨hb.block b (h.xlt b _ hx),fun _ h=>h,hx⟩;exact⟨fun b o c hc=>(hb.cell (p:=⟨b,o,none⟩) (h.mlt hc)).trans (h.mem b o c hc),fun b t hx=>qG (h.xlt b t hx) hb.size,
    fun t=>(h.slot t).keep (fun _ _ _ h=>h) (fun _ _ h=>h) (fun _ _ h=>h) (hk _),h.ll,fun n b cs h1 h2=>(h.loc n b cs h1 h2).keep (fun _ _ _ h=>h) (fun _ _ h=>h) (hk _),h.ol,
    fun n b cs h1 h2=>(h.obj n b cs h1 h2).keep (fun _ _ _ h=>h) (fun _ _ h=>h) (hk _)⟩
theorem Fr.below {w':World} (g:Gh)(hb:RowKit.Below w.heap.size w w'):Fr w g w' g:=
  ⟨hb.os,hb.tape,hb.output,hb.size,fun b hb' hx=>⟨hb.block b hb',hx,fun _=>rfl⟩,fun _ _ _ h=>h,fun _ _ h=>h⟩
theorem Ok.res {g:Gh} {st:St} (h:Ok w g st val)(hbl:g.bl= [])(r:D)(x:Value)(hr:R g.M g.bs r x)(ho:Own w g.M g.bs g.X (.slot 0) [] r x):Ok w g (St.ofRes r st.obj) (fun t=>if t=0 then x else undef):=by
  refine⟨h.mem,h.xlt,fun t=>?_,by simp [St.ofRes,hbl],fun n b cs hn=>by rw [hbl] at hn;simp at hn,h.ol,h.obj⟩;by_cases ht:t=0
  . subst ht
    exact⟨hr,ho⟩
  simp only [ht,bK,St.ofRes,fW];rw [jD (by simp;omega)];exact⟨.any _,.flat _ _ _ rfl⟩
theorem R.cellsOf {M:Mem} {bs:List Nat} {o:Bool} {es:List D} {v:Value} (h:R M bs (.sl o es) v)(h0:es≠ [])(h1:∀d∈es,d.ncells=1):
    ∃b off cap,v= .slice (some ⟨b,off,none⟩) es.length cap/\es.length<=cap/\cap<=maxLen/\∀(i:Nat) (d:D),es[i]?=some d->∃x,R M bs d x/\x.cells.size=1/\∀c,x.cells[0]?=some c->M b (off+i)=some c:=by
  cases h with
  | nil o=>exact absurd rfl h0
  | emp o a cap hm=>exact absurd rfl h0
  | sl o es b off n cap k vs hl hn hk hc hm hr hs hx =>
    subst hn;refine⟨b,off,cap,rfl,hc,hm,fun i d hd=>?_⟩;have hi:i<es.length:=(aO.1 hd).1;have hv:vs[i]?=some (vs[i]'(by omega)):=aU (by omega);obtain rfl:k=1:=by rw [<- hs i d hd];exact h1 d (bE hd)
    refine⟨_,hr i d _ hd hv,(hx i _ hv).1,fun c hc'=>?_⟩;have:=((hx i _ hv).2 0 c hc').2;simpa using this
end Go.Vm
namespace Go.Proofs.YtbgfljpnhhdkoaaGreat
open Go Go.Vm Go.Proofs Go.RowKit
variable {args:List D}{g:Gh}{os:List Nat}{q:Nat}{st:St}{v:VN}{val:Nat->Value}{vs:Array Value}{w:World}{σ:List (List D)}
inductive IQ(σ:List (List D)):Nat->List Nat->Prop
  | mk (q:Nat) (cs:List D) (qs:List Nat) (oss:List (List Nat)) (hq:σ[q]?=some cs) (h26:cs[26]?=some (.sl true (qs.map fun q=>D.ref q 0))) (hlen:qs.length<1000000) (hl:oss.length=qs.length)
      (hk:∀(j:Nat) (h1:j<qs.length) (h2:j<oss.length),IQ σ qs[j] oss[j]):IQ σ q (q::oss.flatten)
def bq(g:Gh)(q:Nat):Nat:=g.bs[q]?.getD 0
theorem aBj (ho:Ok w g st val) {i:Nat} {cs:List D} {d:D} (hq:st.obj[q]?=some cs)(hi:cs[i]?=some d):
    g.bs[q]?=some (bq g q)/\bq g q<w.heap.size/\∃x,w.cell? ⟨bq g q,i,none⟩=some x/\R g.M g.bs d x:=by
  have hlt:q<g.bs.length:=by rw [ho.ol];exact(aO.1 hq).1
  have hb:g.bs[q]?=some (bq g q):=by unfold bq;rw [aU hlt];rfl
  refine⟨hb,?_⟩;rcases ho.obj q _ cs hb hq with rfl | ⟨cur,E,hh,hs, -, -,hc⟩
  . simp at hi
  have hi2:i<cur.size:=by rw [hs];exact(aO.1 hi).1
  refine⟨(dQ.1 hh).1,cur[i],by simp [World.cell?,hh,hi2],(hc i d cur[i] hi (by simp [hi2])).1⟩
theorem Ot (ho:Ok w g st val) {i:Nat} {cs:List D} {k:Int} (hq:st.obj[q]?=some cs)(hi:cs[i]?=some (D.int k)):w.cell? ⟨bq g q,i,none⟩=some (.int .i64 k):=by
  obtain⟨-, -,x,h1,h2⟩:=aBj ho hq hi;cases h2 with
  | v _ _=>exact h1
theorem aR2 {M:Mem} {bs:List Nat} {x:Value} (h:R M bs (.ref q 0) x):x=Bh (bs[q]?.getD 0):=by
  cases h with
  | ref n o b hb=>rw [hb];rfl
theorem R.ptrs (ho:Ok w g st val) {o:Bool} {qs:List Nat} {x:Value} (h:R g.M g.bs (.sl o (qs.map fun q=>D.ref q 0)) x):PtrsAt w.heap.size w x (qs.map (bq g)):=by
  by_cases h0:qs= []
  . subst h0
    simp only [lO] at h |-;cases h with
    | nil=>exact .inl ⟨none,0,rfl,rfl⟩
    | emp _ a cap _=>exact .inl ⟨some a,cap,rfl,rfl⟩
    | sl _ _ b off n cap k vs hl hn hk hc hm hr hs hx=>subst hn;exact .inl ⟨_,cap,rfl,rfl⟩
  obtain⟨b,off,cap,rfl, -, -,hc⟩:=h.cellsOf (by simpa using h0) (by
    intro d hd;obtain⟨q, -,rfl⟩:=aX.1 hd;rfl)
  have get:∀j (hj:j<(qs.map (bq g)).length),w.cell? ⟨b,off+j,none⟩=some (Bh (qs.map (bq g))[j])/\b<w.heap.size:=fun j hj=>by
    have hj2:j<qs.length:=by simpa using hj
    obtain⟨y,hy,hs,hM⟩:=hc j (.ref qs[j] 0) (by simp [hj2]);have e:=aR2 hy;have hM2:=hM y (by rw [e];rfl);refine⟨by rw [ho.mem _ _ _ hM2,e];simp [bq],ho.mlt hM2⟩
  have hpos:0<(qs.map (bq g)).length:=by simpa using List.length_pos_iff.2 h0
  refine .inr ⟨b,off,cap,by simp,(get 0 hpos).2,fun j hj=>(get j hj).1⟩
theorem IQ.iw (ho:Ok w g st val) (h:IQ st.obj q os):IW w.heap.size w (bq g q) (os.map (bq g)):=by
  induction h with
  | mk q cs qs oss hq h26 hlen hl hk ih =>
    obtain⟨-,hlt,x,hx,hr⟩:=aBj ho hq h26;rw [cM,List.map_flatten];refine .mk _ x (qs.map (bq g)) (oss.map (List.map (bq g))) hlt hx (R.ptrs ho hr) (by simpa using hlen) (by simp [hl]) fun j h1 h2=>?_;simp only [bU] at h1 h2;simpa using ih j h1 h2
theorem aW7 {d:D} (ho:Ok w g (St.ofArgs args σ) (cL vs))(i:Nat)(hi:args[i]?=some d):R g.M g.bs d (cL vs i):=by
  have e:(St.ofArgs args σ).env i= .d d:=by
    simp [St.ofArgs,fW,hi]
  have hs:=ho.slot i;rw [e] at hs;exact hs.1
theorem aYj (ho:Ok w g (St.ofArgs args σ) (cL vs))(i:Nat)(hi:args[i]?=some (.ref q 0)):cL vs i=Bh (bq g q):=aR2 (aW7 ho i hi)
theorem aYo {f:Fn} (ho:Ok w g (St.ofArgs args σ) (cL vs))(i:Nat)(hi:args[i]?=some (.clo f [] [])):cL vs i= .func f #[] #[]:=by
  have h:=aW7 ho i hi;generalize cL vs i=x at h;cases h with
  | clo _ _ _ v1 v2 l1 l2 _ _=>
  obtain rfl:v1=#[]:=Om (by simpa using l1);obtain rfl:v2=#[]:=Om (by simpa using l2);rfl
theorem aYu {a b:Value} (hs:vs.size=2)(h0:cL vs 0=a)(h1:cL vs 1=b):vs=#[a,b]:=by
  apply Array.ext
  . simpa using hs
  intro i h2 h3;have:i=0\/i=1:=by simp at h3;omega
  rcases this with rfl | rfl
  . simpa [cL,h2] using h0
  simpa [cL,h2] using h1
theorem Xm (isf:Nat)(eg:∀args w,(callFunc isf args).run prog w= .ok (.enter isf args) w)(hI:IQ σ q os)(hN:os.length<1000000)(pq:Nat->Bool)
    (hw:∀(w:World) (g:Gh) (st:St) (val:Nat->Value),Ok w g st val->st.obj=σ->∃p:Nat->Bool,∀x∈os,p (bq g x)=pq x/\∀m W,Below w.heap.size w W->CallsIn Fence.wide m prog isf #[Bh (bq g x)] W fun e W'=>e= .returned (.bool (p (bq g x)))/\Below W.heap.size W W'):
    Ct prog 99 [.ref q 0,.clo (.func isf) [] []] σ (fun r σ'=>r=D.int (os.countP pq:Nat)/\σ'=σ):=by
  refine⟨by kernel_rfl,fun w g vs hs hb ho=>?_⟩;obtain rfl:=aYu hs (aYj ho 0 rfl) (aYo ho 1 rfl);obtain⟨p,hp⟩:=hw w g _ _ ho rfl;refine((callsIn_wide (n:=3)).1 (aI0 Fence.wide rfl 3 isf trivial eg trivial trivial trivial trivial rfl (by omega) _ _ w p (IQ.iw ho hI) (by simpa using hN) (fun b=>∃x∈os,bq g x=b) (fun b hb=>by simpa using hb)
    (fun b ⟨x,hx,e⟩ m W hW=>by subst e;exact(hp x hx).2 m W hW))).mono ?_
  rintro e w' ⟨rfl,hbel⟩;have ec:(os.map (bq g)).countP p=os.countP pq:=by
    rw [List.countP_map];exact List.countP_congr fun x hx=>by simp [(hp x hx).1]
  rw [ec];exact⟨D.int (os.countP pq:Nat),σ,_,g,rfl,⟨rfl,rfl⟩,hb,Fr.below g hbel,(ho.below hbel).res hb (D.int (os.countP pq:Nat)) _ (.v _ rfl) (.flat _ _ _ rfl)⟩
theorem aEi (hI:IQ σ q os)(hN:os.length<1000000)(k mv:Nat->Int)(hx:∀x∈os,∃cs,σ[x]?=some cs/\cs[15]?=some (D.int (k x))/\cs[16]?=some (D.int (mv x))):
    Ct prog 99 [.ref q 0,.clo (.func 100) [] []] σ (fun r σ'=>r=D.int (os.countP (fun x=> !(decide (k x=0) && decide (mv x=0))):Nat)/\σ'=σ):=
  Xm _ (enters_of func100 (by kernel_rfl) rfl) hI hN _ fun w g st val ho hs=>by
    refine⟨fun b=>match w.cell? ⟨b,15,none⟩,w.cell? ⟨b,16,none⟩with
      | some (.int _ k),some (.int _ m)=> !(decide (k=0) && decide (m=0))
      | _,_=>false,fun x hxm=>?_⟩
    obtain⟨cs,h1,h2,h3⟩:=hx x hxm;rw [<- hs] at h1;have c15:=Ot ho h1 h2;have c16:=Ot ho h1 h3;have hlt:=(aBj ho h1 h2).2.1;refine⟨by simp only [c15,c16],fun m W hW=>?_⟩;simp only [c15,c16];exact aO4 Fence.wide m trivial rfl _ _ _ W ((hW.cell (p:=⟨bq g x,15,none⟩) hlt).trans c15) ((hW.cell (p:=⟨bq g x,16,none⟩) hlt).trans c16)
theorem aD8 (hI:IQ σ q os)(hN:os.length<1000000)(k:Nat->Int)(hx:∀x∈os,∃cs mv dx dy,σ[x]?=some cs/\cs[15]?=some (D.int (k x))/\cs[16]?=some (D.int mv)/\cs[17]?=some (D.int dx)/\cs[18]?=some (D.int dy)):
    Ct prog 99 [.ref q 0,.clo (.func 101) [] []] σ (fun r σ'=>r=D.int (os.countP (fun x=>ghK (k x)):Nat)/\σ'=σ):=
  Xm _ (enters_of func101 (by kernel_rfl) rfl) hI hN _ fun w g st val ho hs=>by
    refine⟨fun b=>match w.cell? ⟨b,15,none⟩with
      | some (.int _ k)=>ghK k
      | _=>false,fun x hxm=>?_⟩
    obtain⟨cs,mv,dx,dy,h1,h2,h3,h4,h5⟩:=hx x hxm;rw [<- hs] at h1;have c15:=Ot ho h1 h2;have c16:=Ot ho h1 h3;have c17:=Ot ho h1 h4;have c18:=Ot ho h1 h5;have hlt:=(aBj ho h1 h2).2.1;refine⟨by simp only [c15],fun m W hW=>?_⟩;simp only [c15];exact aN5 Fence.wide rfl m trivial trivial trivial rfl _ _ mv dx dy W ((hW.cell (p:=⟨bq g x,15,none⟩) hlt).trans c15) ((hW.cell (p:=⟨bq g x,16,none⟩) hlt).trans c16) ((hW.cell (p:=⟨bq g x,17,none⟩) hlt).trans c17) ((hW.cell (p:=⟨bq g x,18,none⟩) hlt).trans c18)
open Go Go.Vm
def itS(i:Int)(v:VN)(x:LK)(par:D)(qs:List Nat):List D:= [D.int i,D.int v.kind,D.str v.tag,D.str v.key,D.str v.text,.sl false (v.classes.map D.str),.sl false (v.attrs.map cY),.sl false (v.styles.map cR),D.int v.opts.enter,D.int v.opts.leave,D.int v.opts.move,D.int v.opts.mode,D.bool v.opts.appear,D.bool v.opts.moves,.sl false [],
  D.int x.kind,D.int x.move,D.int x.DX,D.int x.DY,D.int 0,D.int 0,D.bool false,D.int 0,D.bool false,D.int 0,par,.sl true (qs.map fun q=>D.ref q 0)]
theorem aH2(x:LK):∀s∈fX x,dH s=true:=fun s hs=>by
  have h0:∀s∈mT x,dH s=true:=fun s hs=>by
    unfold mT at hs
    (repeat' split at hs) <;> simp only [bQ,gS,gW] at hs <;> first | (rcases hs with rfl | rfl <;> decide+kernel) | (subst hs;decide+kernel) | exact absurd hs (by simp)
  unfold fX at hs;split at hs
  . exact h0 s hs
  rcases bN.1 hs with hs | hs
  . exact h0 s hs
  obtain rfl:=fG.1 hs;decide+kernel
theorem aB0 (h:NV v)(he:¬v.kind=1)(x:LK):∀s∈eJ (jX x (iX v)),dH s=true:=fun s hs=>by
  have hn:=(h.e2 he).2.1;have hc:∀s∈v.classes,dH s=true:=fun s hm=>hn s (by unfold eJ iX;simp [hm]);have ha:∀p∈v.attrs,dH p.name=true:=fun p hm=>hn _ (by unfold eJ iX;simp only [bN,aX];exact .inl (.inr ⟨p,hm,rfl⟩));have hs2:∀p∈v.styles,dH p.name=true:=fun p hm=>hn _ (by unfold eJ iX;simp only [bN,aX];exact .inr ⟨p,hm,rfl⟩);unfold eJ at hs;simp only [bN,aX] at hs;rcases hs with (hs | ⟨p,hp,rfl⟩) | ⟨p,hp,rfl⟩
  . have hs := Ah.1 (show s ∈ bP ((iX v).classes ++ fX x) from hs)
    rcases bN.1 hs with hs | hs
    . exact hc s hs
    exact aH2 x s hs
  . change p ∈ wT x (iX v) at hp
    unfold wT at hp;split at hp
    . rcases oL nA hp with rfl | hp
      . decide+kernel
      exact ha p (oC hp)
    exact ha p (oC hp)
  change p∈wS x (iX v)at hp;unfold wS at hp;split at hp
  . rcases oL nP hp with rfl | hp
    . show dH mDy=true;decide+kernel
    rcases oL nP hp with rfl | hp
    . show dH mDx=true;decide+kernel
    exact hs2 p (oC hp)
  exact hs2 p (oC hp)
theorem aOq (h:NV v)(x:LK):(jX x (iX v)).classes.length<=8/\(jX x (iX v)).attrs.length<=8/\(jX x (iX v)).styles.length<=8:=by
  have h1:=h.c4;have h2:=h.a4;have h3:=h.s4;refine⟨?_,?_,?_⟩
  . have := lT ((iX v).classes ++ fX x)
    have h5:=vM x;rw [bB] at this;show(bP ((iX v).classes++fX x)).length<=8
    have h6:(iX v).classes.length=v.classes.length:=rfl;omega
  . show (wT x (iX v)).length <= 8
    unfold wT;have h5:=iC nA (iX v).attrs;have h6:(iX v).attrs.length=v.attrs.length:=rfl;split
    . have := rK nA (iB nA (iX v).attrs) ⟨gD, ⟨#[]⟩⟩
      omega
    omega
  show(wS x (iX v)).length<=8
  unfold wS;have h5:=iC nP (iX v).styles;have h6:(iX v).styles.length=v.styles.length:=rfl;split
  . have h7 := rK nP (iB nP (iX v).styles) ⟨mDx, x.DX⟩
    have h8:=rK nP (eO nP (iB nP (iX v).styles) ⟨mDx,x.DX⟩) ⟨mDy,x.DY⟩;omega
  omega
theorem aO5 (h:NV v)(he:¬v.kind=1)(x:LK)(hx:x.move=1->wU x.DX=x.DX/\wU x.DY=x.DY):OwOk (jX x (iX v)):=by
  refine⟨?_,?_,fun p hp=>?_⟩
  . show Sorted nA (wT x (iX v))
    unfold wT;split
    . exact jL nA (fJ nA _) _
    exact fJ nA _
  . show Sorted nP (wS x (iX v))
    unfold wS;split
    . exact jL nP (jL nP (fJ nP _) _) _
    exact fJ nP _
  change p∈wS x (iX v)at hp;unfold wS at hp;split at hp
  . rename_i hm
    rcases oL nP hp with rfl | hp
    . exact(hx hm).2
    rcases oL nP hp with rfl | hp
    . exact(hx hm).1
    exact(h.e2 he).2.2 p (oC hp)
  exact(h.e2 he).2.2 p (oC hp)
theorem aO0 (h:NV v)(x:LK):∀p∈(jX x (iX v)).attrs,p.value.size<=1000:=fun p hp=>by
  change p∈wT x (iX v)at hp;unfold wT at hp;split at hp
  . rcases oL nA hp with rfl | hp
    . decide
    have:=h.av p (oC hp);omega
  have:=h.av p (oC hp);omega
theorem aPn(x:LK)(o:OW):bP (jX x o).classes=(jX x o).classes:=Ie _
section
variable {m M l:Nat}{d:DS}{rk:Int->Nat}
theorem Ox(h:LX 0 m M l d rk (newX 9) [] σ) (hv:VG v)(gv:GV v)(hkid:v.kids= []):
    ∃q d1 rk1 o1 σ1,Ct prog 30 [.ref l 0,kJ v] σ (fun r τ=>r= .tup [.ref q 0,D.int 0]/\τ=σ1)/\LX 400 m M l d1 rk1 (uW (newX 9) (cC v)) o1 σ1/\Off m d1 q/\q≠l/\σ1[q]?=some (lD 1 (cC v) (.v (.pointer none)) []):=by
  have hnk:(cC v).kids= []:=by rw [kU];show gY ((v.kids.map cC).filter jT)= [];rw [hkid];rfl
  have hc1:dL v=1:=by rw [kA,hkid];rfl
  have hcn:dL (cC v)=1:=by rw [kA,hnk];rfl
  obtain⟨d1,rk1,o1,σ1,hm,lx1,it⟩:=Wb h (Up.new 9) hv gv (by omega) (by omega) (by rw [hcn];show(([nK].length:Nat):Int)+_<=max 1 (min 9 65536)+1;decide);obtain⟨qs,hq,hl⟩:=it.at_;rw [hnk] at hl;obtain rfl:qs= []:=zL.1 hl;obtain⟨-, -,hoq,hql⟩:=it.F_;exact⟨σ.length,d1,rk1,o1,σ1,hm,lx1,hoq,hql,hq⟩
theorem vS {d1:DS} {rk1:Int->Nat} {o1:List TOp} {σ1:List (List D)} (lx1:LX 400 m M l d1 rk1 (uW (newX 9) (cC v)) o1 σ1)(hoq:Off m d1 q)(hql:q≠l)(hq:σ1[q]?=some (lD 1 (cC v) (.v (.pointer none)) []))(hv:VG v)(gv:GV v)(hkid:v.kids= [])(x:LK)(hx:x.move=1->wU x.DX=x.DX/\wU x.DY=x.DY):
    ∃ o2 σ3 t1, Ct prog 32 [.ref q 0, .ref l 0] (σ1.set q (itS 1 (cC v) x (.v (.pointer none)) [])) (fun r τ => r = .tup [] /\ τ = σ3) /\ σ3[l]? = some (pC m o2) /\ σ3[q]? = some (itS 1 (cC v) x (.v (.pointer none)) []) /\ aCr m 1 t1 σ3 /\ TB t1 /\ t1.kids = [] /\
      (v.kind=1->t1.classes= []/\t1.attrs= []/\t1.styles= [])/\(¬v.kind=1->t1.classes=(jX x (iX (cC v))).classes/\t1.attrs=(jX x (iX (cC v))).attrs/\t1.styles=(jX x (iX (cC v))).styles):=by
  have nv:=wC hv gv;have hnk:(cC v).kids= []:=by rw [kU];show gY ((v.kids.map cC).filter jT)= [];rw [hkid];rfl
  have hnd:=(aWb lx1.ix).nd;have hnm:=((Up.new 9).grow nv).nm;obtain⟨X,hX⟩:∃X,uW (newX 9) (cC v)=X:=⟨_,rfl⟩;obtain⟨n1,hn1⟩:∃n,n=vK 1 (-1) (cC v) []:=⟨_,rfl⟩;have hXl:X.l= [nK]++ [n1]:=by
    rw [<- hX,hn1];show [nK]++jS 1 (-1) (cC v)=_
    rw [sY,hnk];rfl
  rw [hX] at lx1 hnd hnm;have hmem:n1∈X.l:=by rw [hXl];simp
  have hid:n1.ID=1:=by rw [hn1,lN]
  have hroot:aL X.l 1=n1:=by rw [<- hid];exact pJ hnd hmem
  have hL:fO X.l 1=true:=by rw [<- hid];exact aBe hnd hmem
  have hks:n1.kids= []:=by rw [hn1,Db]
  have hsz:=aSt nv.v 1 (-1) [];rw [<- hn1] at hsz;have lxp:=lx1.put_ hoq hql (itS 1 (cC v) x (.v (.pointer none)) []);have gp:=aN hq (itS 1 (cC v) x (.v (.pointer none)) []);by_cases he:v.kind=1
  . have he2 : (cC v).kind = 1 := by rw [tH]; exact he
    have r1:=lxp.rd (by omega) (f:=rk1 1) (i:=1) (aY _) hL;have e1:rF X.l (rk1 1) 1=tnN n1 1 []:=by
      cases rk1 1 with
      | zero=>simp only [rF];rw [hroot]
      | succ f=>simp only [rF];rw [hroot,hks];rfl
    rw [e1] at r1;refine⟨o1,_,tnN n1 1 [],Qf q l (cC v) x 1 _ _ _ _ _ _ _ _ _ _ gp he2,lxp.at_,gp,r1,.mk _ ⟨by show n1.classes.length<=_;omega,by show n1.attrs.length<=_;omega,by show n1.styles.length<=_;omega,by show([]:List TN).length<=_;simp⟩ (fun k hk=>by cases hk),rfl,fun _=>?_,fun e=>absurd he e⟩;show n1.classes= []/\n1.attrs= []/\n1.styles= []
    rw [hn1];unfold vK;rw [aI he2];exact⟨rfl,rfl,rfl⟩
  have he2:¬(cC v).kind=1:=by rw [tH];exact he
  obtain⟨z1,z2,z3⟩:=aOq nv.v x;have hkd:n1.kind=2:=by rw [hn1,aNa,aA he2]
  have hdl:=aG8 (n:=n1) (o:=jX x (iX (cC v))) hsz.2 z1 z2 z3;obtain⟨d2,rk2,o2,σ3,c2,lx3,oth⟩:=aC5 lxp 1 (jX x (iX (cC v))) (by rw [hroot];omega) z1 z2 z3 (fun s hs=>by have:=zC (aB0 nv.v he2 x s hs);omega) (aO0 nv.v x) (aO5 nv.v he2 x hx) hnm (by
    rw [hL,hroot];unfold Jq;rw [aA (by simp),aA (by decide),aA (by rw [hkd];simp),aA];rw [vE,nQ];intro s hs;rw [aB0 nv.v he2 x s hs];simp) (by rw [hroot];exact hsz.1)
  obtain⟨-,p4⟩:=oth.2 q (by simpa using pE hq) hoq hql;rw [hroot] at lx3;obtain⟨X2,hX2⟩:∃Y:RD,(⟨X.most,X.next,dJ X.l (Dj n1 (jX x (iX (cC v))))⟩:RD)=Y:=⟨_,rfl⟩;have hX2l:X2.l=dJ X.l (Dj n1 (jX x (iX (cC v)))):=by rw [<- hX2]
  rw [hX2] at lx3;have hroot2:aL X2.l 1=Dj n1 (jX x (iX (cC v))):=by
    rw [hX2l,qL hnd hmem (p':=Dj n1 (jX x (iX (cC v)))) rfl 1,hid,aI rfl]
  have hL2:fO X2.l 1=true:=by rw [hX2l,Dx];exact hL
  have r1:=lx3.rd (by omega) (f:=rk2 1) (i:=1) (aY _) hL2;have e1:rF X2.l (rk2 1) 1=tnN (Dj n1 (jX x (iX (cC v)))) 1 []:=by
    cases rk2 1 with
    | zero=>simp only [rF];rw [hroot2]
    | succ f=>simp only [rF];rw [hroot2,show(Dj n1 (jX x (iX (cC v)))).kids= [] from hks];rfl
  rw [e1] at r1;have c4:=nv.v.c4;have a4:=nv.v.a4;have s4:=nv.v.s4;have hcl:bP (jX x (iX (cC v))).classes=(jX x (iX (cC v))).classes:=aPn x _;refine⟨o2,σ3,_,Ob q l (cC v) x 1 _ _ _ _ _ _ _ _ _ σ3 _ gp (by omega) (by omega) (by omega) he2 c2,lx3.at_,p4.trans gp,r1,.mk _ ⟨?_,?_,?_,by show([]:List TN).length<=_;simp⟩ (fun k hk=>by cases hk),rfl,fun e=>absurd e he,fun _=>⟨?_,rfl,rfl⟩⟩
  . show (bP (jX x (iX (cC v))).classes).length <= _
    rw [hcl];omega
  . show(jX x (iX (cC v))).attrs.length<=_;omega
  . show(jX x (iX (cC v))).styles.length<=_;omega
  exact hcl
end
end Go.Proofs.YtbgfljpnhhdkoaaGreat
