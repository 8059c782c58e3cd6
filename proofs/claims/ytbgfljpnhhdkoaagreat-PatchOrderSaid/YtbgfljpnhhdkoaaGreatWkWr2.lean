import Derived.Test.YtbgfljpnhhdkoaaGreatWkWv4
set_option linter.all false
namespace Go.Proofs.YtbgfljpnhhdkoaaGreat.Lis
set_option maxHeartbeats 1000000
def up1(l:List Int):List Int:=l.map (· +1)
theorem Fk(l:List Int):(up1 l).length=l.length:=by simp [up1]
theorem wF {l:List Int} {i:Nat} (h:i<l.length):at0 (up1 l) i=at0 l i+1:=by
 rw [at0_eq (by rw [Fk];exact h),at0_eq h];simp [up1]
theorem Ql {l:List Int} {i:Nat} (hi:i<l.length)(L:List Nat):∀k,k≤i→rU (up1 l) L i k=rU l L i k
 | 0,_=>rfl
 | k+1,h=>by
  have ih:=Ql hi L k (by omega);have e:(at0 (up1 l) k<at0 (up1 l) i)↔(at0 l k<at0 l i):=by rw [wF (by omega),wF hi];omega
  simp only [rU,ih,e]
theorem Qd {l:List Int} :∀n,n≤l.length→kF (up1 l) n=kF l n
 | 0,_=>rfl
 | n+1,h=>by
  have ih:=Qd (l:=l) n (by omega);simp only [kF,ih,Ql (show n<l.length by omega) _ n (Nat.le_refl _)]
theorem Js {l:List Int} {i:Nat} (h:i<l.length):dK (up1 l) i=dK l i:=by
 unfold dK;rw [Qd _ (by omega)]
theorem Pp {l:List Int} (n behind:Nat)(hb:behind≤l.length):∀k,k≤l.length→fX (up1 l) n behind k=fX l n behind k
 | 0,_=>rfl
 | k + 1, h => by
  have ih:=Pp n behind hb k (by omega);have e2:(behind=(up1 l).length∨at0 (up1 l) k<at0 (up1 l) behind)↔(behind=l.length∨at0 l k<at0 l behind):=by
   rw [Fk];by_cases q:behind=l.length
   ·simp [q]
   rw [wF (by omega),wF (by omega)];constructor <;> rintro(h | h) <;> first | exact .inl h | exact .inr (by omega)
  have e3:(∀b∈fX l n behind k,at0 (up1 l) k<at0 (up1 l) b)↔(∀b∈fX l n behind k,at0 l k<at0 l b):=by
   refine forall_congr' fun b=>?_;refine imp_congr_right fun hb'=>?_;have:=((hU l n behind k).1 b hb').1;rw [wF (by omega),wF (by omega)];omega
  simp only [fX,ih,Js (show k<l.length by omega),e2,e3]
theorem aFx {l:List Int} {n behind k:Nat} :(fX l n behind k).getD 0≤k:=by
 cases h:fX l n behind k with
 | none=>exact Nat.zero_le _
 | some j=>exact Nat.le_of_lt ((hU l n behind k).1 j h).1
theorem Qp {l:List Int} :∀n behind,behind≤l.length→tQ (up1 l) n behind=tQ l n behind
 | 0,_,_=>rfl
 | n+1,behind,h=>by
  simp only [tQ,Pp (n+1) behind h behind h];rw [Qp n _ (Nat.le_trans aFx h)]
theorem Zn {l:List Int} :∀k,k≤l.length→iF (up1 l) k=iF l k
 | 0,_=>rfl
 | k+1,h=>by
  have ih:=Zn (l:=l) k (by omega);have e:=Js (l:=l) (i:=k) (by omega);simp only [iF,ih,e]
theorem ofR_up(l:List Int):ofR (up1 l)=ofR l:=by
 unfold ofR;rw [Fk,Zn _ (Nat.le_refl _),Qp _ _ (Nat.le_refl _)]
def wP(l:List Int):Nat→Nat
 | 0=>l.length
 | k+1=>(fX l (iF l l.length - k) (wP l k) (wP l k)).getD 0
def tC(l:List Int):Nat→List Nat
 | 0=> []
 | k+1=>wP l (k+1)::tC l k
theorem Jl(l:List Int):∀(d k:Nat),k+d=iF l l.length→(tQ l d (wP l k)).reverse++tC l k=tC l (k+d)
 | 0,k,_=>by simp [tQ]
 | d+1,k,h=>by
  have ih:=Jl l d (k+1) (by omega);rw [show k+(d+1)=k+1+d by omega,← ih];rw [tQ,show d+1=iF l l.length - k by omega];show(((fX l (iF l l.length - k) (wP l k) (wP l k)).getD 0)::tQ l d ((fX l (iF l l.length - k) (wP l k) (wP l k)).getD 0)).reverse++tC l k=_
  rw [List.reverse_cons,List.append_assoc];rfl
theorem Pz(l:List Int):ofR l=tC l (iF l l.length):=by
 have:=Jl l (iF l l.length) 0 (by omega);simpa [ofR,tC,wP] using this
theorem yS(l:List Int):∀k,k<iF l l.length→∃j,fX l (iF l l.length - k) (wP l k) (wP l k)=some j∧dK l j=iF l l.length - k∧j<l.length
 | 0, h => by
  cases hq:fX l (iF l l.length - 0) (wP l 0) (wP l 0)with
  | some j=>
   have:=(hU l _ _ _).1 j hq;exact⟨j,rfl,this.2.1,this.1⟩
  | none=>
   have hn:=(hU l _ _ _).2 hq;rcases(uL l l.length).2 with e | ⟨j,h1,h2⟩
   ·omega
   exact absurd ⟨by omega,.inl rfl⟩ (hn j h1)
 | k + 1, h => by
  obtain⟨i,i1,i2,i3⟩:=yS l k (by omega);have hb:wP l (k+1)=i:=by show(fX l _ _ _).getD 0=i;rw [i1];rfl
  rw [hb];cases hq:fX l (iF l l.length - (k+1)) i i with
  | some j=>
   have:=(hU l _ _ _).1 j hq;exact⟨j,rfl,this.2.1,by omega⟩
  | none=>
   have hn:=(hU l _ _ _).2 hq;obtain⟨j,j1,j2,j3⟩:=aEu l i (by omega);exact absurd ⟨by omega,.inr j2⟩ (hn j j1)
theorem aJe {l:List Int} {k:Nat} (h:k<iF l l.length):wP l (k+1)<l.length:=by
 obtain⟨j,j1,j2,j3⟩:=yS l k h;show(fX l _ _ _).getD 0<_
 rw [j1];exact j3
theorem aFp {l:List Int} :∀k,k≤iF l l.length→(wP l k=l.length↔k=0)
 | 0,_=>by simp [wP]
 | k+1,h=>by have:=aJe (l:=l) (k:=k) (by omega);omega
end Go.Proofs.YtbgfljpnhhdkoaaGreat.Lis
namespace Go.Proofs.YtbgfljpnhhdkoaaGreat
open Go Go.Vm
def lL(a b:List Int):List Int:=(fF a b).map fun x=>qB x a
theorem aCw(a b:List Int):fI a b=Lis.up1 (lL a b):=by
 unfold fI lL Lis.up1;rw [List.map_map];refine List.map_congr_left fun x hx=>?_;show at_ a x=qB x a+1
 have:x∈a:=by
  unfold fF at hx;simpa using(List.mem_filter.1 hx).2
 unfold at_ xK;rw [if_pos this]
theorem Sl {a b:List Int} (hb:b.Nodup):Lis.ofP (fI a b)=Lis.ofR (lL a b):=by
 rw [Lis.ofP_ofR _ (Dz hb),aCw,Lis.ofR_up]
theorem Dl(a b:List Int):(lL a b).length=(fF a b).length:=by simp [lL]
theorem Wf {l:List Int} {x:Int} :qB x l<0↔x∉l:=by
 constructor
 ·intro h hx;obtain⟨k,hk,h1,_⟩:=jF hx;omega
 intro h;rw [Zc h];omega
set_option maxRecDepth 20000
set_option maxHeartbeats 8000000
set_option maxRecDepth 20000
set_option maxHeartbeats 8000000
end Go.Proofs.YtbgfljpnhhdkoaaGreat
