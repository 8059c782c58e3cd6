import Derived.Test.YtbgfljpnhhdkoaaGreatWkAr16
set_option maxHeartbeats 1000000
set_option linter.all false
namespace Go.Proofs.YtbgfljpnhhdkoaaGreat
open Go Go.Vm
variable {k m M:Nat} {d:DS} {rk:Int→Nat} {σ:List (List D)} {x:RD}
theorem Mi(a:Act)(h:IV k m M d rk σ)(hk:k≤800)(hs:a.name.size≤1000)(hb:10≤a.kind∧a.kind≤17):DetQ 142 [.ref m 0,nQ a] σ d k m M (setX d.x (a.kind - 10) a.a a.name a.value a.c):=by
 by_cases q0:a.kind=10
 ·obtain⟨d',rk',σ',hc,hi,e,fr⟩:=Qa k m M d rk σ a.a a.name a.value a.c h hk hs;rw [show a.kind - 10=0 by omega];exact⟨d',rk',σ',iP m a _ σ' σ hb (fun _=>hc) (fun q=>by omega) (fun q=>by omega) (fun q=>by omega) (fun q=>by omega) (fun q=>by omega) (fun q=>by omega) (fun q=>by omega),hi,e,fr⟩
 by_cases q1:a.kind=11
 ·obtain⟨d',rk',σ',hc,hi,e,fr⟩:=aFr k m M d rk σ a.a a.name a.value a.c h hk;rw [show a.kind - 10=1 by omega];exact⟨d',rk',σ',iP m a _ σ' σ hb (fun q=>by omega) (fun _=>hc) (fun q=>by omega) (fun q=>by omega) (fun q=>by omega) (fun q=>by omega) (fun q=>by omega) (fun q=>by omega),hi,e,fr⟩
 by_cases q2:a.kind=12
 ·obtain⟨d',rk',σ',hc,hi,e,fr⟩:=aDq k m M d rk σ a.a a.name a.value a.c h hk hs;rw [show a.kind - 10=2 by omega];exact⟨d',rk',σ',iP m a _ σ' σ hb (fun q=>by omega) (fun q=>by omega) (fun _=>hc) (fun q=>by omega) (fun q=>by omega) (fun q=>by omega) (fun q=>by omega) (fun q=>by omega),hi,e,fr⟩
 by_cases q3:a.kind=13
 ·obtain⟨d',rk',σ',hc,hi,e,fr⟩:=Xi k m M d rk σ a.a a.name a.value a.c h hk hs;rw [show a.kind - 10=3 by omega];exact⟨d',rk',σ',iP m a _ σ' σ hb (fun q=>by omega) (fun q=>by omega) (fun q=>by omega) (fun _=>hc) (fun q=>by omega) (fun q=>by omega) (fun q=>by omega) (fun q=>by omega),hi,e,fr⟩
 by_cases q4:a.kind=14
 ·obtain⟨d',rk',σ',hc,hi,e,fr⟩:=aFg k m M d rk σ a.a a.name a.value a.c h hk hs;rw [show a.kind - 10=4 by omega];exact⟨d',rk',σ',iP m a _ σ' σ hb (fun q=>by omega) (fun q=>by omega) (fun q=>by omega) (fun q=>by omega) (fun _=>hc) (fun q=>by omega) (fun q=>by omega) (fun q=>by omega),hi,e,fr⟩
 by_cases q5:a.kind=15
 ·obtain⟨d',rk',σ',hc,hi,e,fr⟩:=aBx k m M d rk σ a.a a.name a.value a.c h hk hs;rw [show a.kind - 10=5 by omega];exact⟨d',rk',σ',iP m a _ σ' σ hb (fun q=>by omega) (fun q=>by omega) (fun q=>by omega) (fun q=>by omega) (fun q=>by omega) (fun _=>hc) (fun q=>by omega) (fun q=>by omega),hi,e,fr⟩
 by_cases q6:a.kind=16
 ·obtain⟨d',rk',σ',hc,hi,e,fr⟩:=Wn k m M d rk σ a.a a.name a.value a.c h hk hs;rw [show a.kind - 10=6 by omega];exact⟨d',rk',σ',iP m a _ σ' σ hb (fun q=>by omega) (fun q=>by omega) (fun q=>by omega) (fun q=>by omega) (fun q=>by omega) (fun q=>by omega) (fun _=>hc) (fun q=>by omega),hi,e,fr⟩
 obtain⟨d',rk',σ',hc,hi,e,fr⟩:=aA6 k m M d rk σ a.a a.name a.value a.c (a.kind - 10) (by omega) h hk hs;exact⟨d',rk',σ',iP m a _ σ' σ hb (fun q=>by omega) (fun q=>by omega) (fun q=>by omega) (fun q=>by omega) (fun q=>by omega) (fun q=>by omega) (fun q=>by omega) (fun _=>hc),hi,e,fr⟩
theorem lT {α β:Type} {p:α×β} {c:β} (h:p.2=c):p=(p.1,c):=by rw [← h]
end Go.Proofs.YtbgfljpnhhdkoaaGreat
namespace Go.Proofs.YtbgfljpnhhdkoaaGreat
open Go Go.Vm
set_option maxRecDepth 20000
set_option maxHeartbeats 8000000
end Go.Proofs.YtbgfljpnhhdkoaaGreat
