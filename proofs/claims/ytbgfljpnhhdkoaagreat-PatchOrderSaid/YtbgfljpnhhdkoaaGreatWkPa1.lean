import Derived.Test.YtbgfljpnhhdkoaaGreatWkWr2
import Derived.Test.YtbgfljpnhhdkoaaGreatWkWv4
import Derived.Test.YtbgfljpnhhdkoaaGreatWkWv0
open Go.Proofs.Tryz
set_option linter.all false
namespace Go.Proofs.YtbgfljpnhhdkoaaGreat
open Go Go.Vm
set_option maxRecDepth 20000
set_option maxHeartbeats 8000000
theorem aG4(a:List Int) {b:List Int} (hb:b.Nodup):eC a b=(Lis.ofR (lL a b)).map fun i=>((fF a b)[i]?.getD 0):=by unfold eC;rw [Sl hb]
set_option maxRecDepth 20000
set_option maxHeartbeats 8000000
theorem Ej(acts:List Act)(G:Nat→RD→Prop)(hG0:G 0 (newX 20))(hGs:∀(k:Nat) (hk:k<acts.length) (x y:RD),G k x→DoS acts[k] x y→G (k+1) y)(σ:List (List D))(hl:acts.length≤9223372036854775807)(ha:∀a∈acts,a.name.size≤9223372036854775807∧a.value.size≤9223372036854775807):Ct prog 13 [.sl false (acts.map nQ)] σ (fun r σ'=>∃k m M l d rk x,k≤30∧k≤acts.length∧(k<acts.length→k=30)∧r= .tup [.ref l 0,eN x]∧LX k m M l d rk x [] σ'∧G k x):=by
 refine zf (rs:=[.tmp 2,.cell 3 30]) func13 ntmps13 results13 ?_;simp only [aN];refine aY fun _ _ Z=>?_;simp(disch:=omega);apply Z;refine aY fun _ _ Z=>?_;refine aD fun _ Y=>?_;simp(disch:=omega);refine Uj (aF6 20 _) ?_;rintro _ τ0 ⟨hr9,hs9⟩;subst hr9;obtain⟨m,M,dd,rk0,hm0,hx0,hi0⟩:=aHg _ _ _ hs9;rw [hm0];clear hs9 hm0;apply Y;refine aD fun _ Y=>?_;simp(disch:=omega);refine cH (aEy 20 _) ?_;apply Y;simp(disch:=omega);apply Z;apply aC;refine aY fun _ _ Z=>?_;simp(disch:=omega);apply Z;refine zi ?_;refine⟨fun c1=>?_,fun c1=>?_⟩
 ·simp at c1
 try simp at c1
 apply aE;apply aA;apply aC;refine aY fun _ _ Z=>?_;simp(disch:=omega);apply Z;apply aG;refine zk [0,2,3,4,5,6] ?_;refine jR (fun(p:Nat×DS×(Int→Nat)×RD×List (List D))=> [(6,.d (.v (.int .i64 p.1)))]) (fun(p:Nat×DS×(Int→Nat)×RD×List (List D))=> [[D.int 0,D.int 0,.sl true []], [.v (.int .i64 p.2.2.2.1.most),.v (.int .i64 p.2.2.2.1.next),.sl false (p.2.2.2.1.l.map vE)]]) (fun(p:Nat×DS×(Int→Nat)×RD×List (List D))=>p.2.2.2.2) [6,12,13,14,15,16,17,18,19,20,21,22,23,24,25,26,27,28,29,30,31] (fun(p:Nat×DS×(Int→Nat)×RD×List (List D))=>p.1≤acts.length∧p.1≤30∧IX p.1 m M p.2.1 p.2.2.1 p.2.2.2.1 p.2.2.2.2∧G p.1 p.2.2.2.1) (fun(p:Nat×DS×(Int→Nat)×RD×List (List D))=>acts.length - p.1) ((0,dd,rk0,newX 20,τ0)) (by simp <;> rfl) ?_ (by simp) (by simp) ?_ ?_
 ·simp
 ·exact⟨Nat.zero_le _,Nat.zero_le _,hi0,hG0⟩
 rintro⟨k,d,rk,x,τ⟩ ⟨hk,hk3,hx,hg⟩;simp only [List.cons_append,List.nil_append];simp only at hk hk3 hx hg;apply aC;refine mY ⟨[],[],[],[],[]⟩ fun all hall _ Z=>?_;have ga4:aR all 4=some 16:=hall 4;refine zs 5 fun _ Y=>?_;simp(disch:=omega)[ga4];and_intros<;>(try omega);apply Y;refine aU 16 (by simp <;> rfl) ?_;refine⟨fun g2=>?_,fun g2=>?_⟩
 ·try simp at g2
  simp(disch:=omega)[ga4];apply Z;refine zi ?_;refine⟨fun c3=>?_,fun c3=>?_⟩
  ·try simp at c3
   apply aE;apply aA;apply aC;apply aG;refine zk [0,2,3,4,5,6] ?_;refine ze ⟨[],[],[],[],[]⟩ [.op {},.op {rL:=true},.op {},.op {},.op {},.op {},.det,.op {},.op {},.op {},.op {rL:=true,wL:=true}] fun all hall _ Z=>?_;refine jD 6 fun _ Y=>?_;simp(disch:=omega);and_intros<;>(try omega);apply Y;refine dR fun _ Y=>?_;simp(disch:=omega);obtain⟨d2,rk2,σ2,y2,hc2,hx2,hn2,fr2,hds⟩:=aGi acts[k] hx (by omega) (Xf ha (by omega)).1 (Xf ha (by omega)).2;refine zdd (hc2) ?_;apply Y;simp(disch:=omega);apply Z;apply aK;apply aA;refine zk [0,2,3,4,5,6] ?_;refine yL fun _ _ Z=>?_;simp(disch:=omega);and_intros<;>(try omega);apply Z;refine zq ((k+1,d2,rk2,y2,σ2)) ?_ ?_ ?_
   ·exact⟨by simp only;omega,by simp only;omega,hx2,hGs k (by omega) _ _ hg hds⟩
   ·try dsimp only
    omega
   simp(disch:=omega)
  try simp at c3
  apply bC;apply bB;apply bD;apply aX;apply aA;refine zk [2,3,4,5] ?_;refine zd ⟨[],[],[],[],[]⟩ [.op {},.det,.op {rL:=true},.op {},.op {rL:=true,wL:=true}] fun all hall _ Z=>?_;refine jD 1 fun _ Y=>?_;simp(disch:=omega);apply Y;refine dR fun _ Y=>?_;simp(disch:=omega);refine zdd (Zb m _) ?_;apply Y;simp(disch:=omega);apply Z;apply aB;simp [aL];exact⟨k,by omega,by omega,by omega,m,M,_,d,rk,x,⟨rfl,rfl,rfl,rfl⟩,LX.on hx,hg⟩
 try simp at g2
 simp(disch:=omega)[ga4];apply Z;refine bM (t:=false) (by simp) (fun h=>by cases h) (fun _=>?_);apply bC;apply bB;apply bD;apply aX;apply aA;refine zk [2,3,4,5] ?_;refine zd ⟨[],[],[],[],[]⟩ [.op {},.det,.op {rL:=true},.op {},.op {rL:=true,wL:=true}] fun all hall _ Z=>?_;refine jD 1 fun _ Y=>?_;simp(disch:=omega);apply Y;refine dR fun _ Y=>?_;simp(disch:=omega);refine zdd (Zb m _) ?_;apply Y;simp(disch:=omega);apply Z;apply aB;simp [aL];exact⟨k,by omega,by omega,by omega,m,M,_,d,rk,x,⟨rfl,rfl,rfl,rfl⟩,LX.on hx,hg⟩
end Go.Proofs.YtbgfljpnhhdkoaaGreat
