import Derived.Test.YtpfmpeaekgdgnaaGreatWkAr18
namespace Go.Proofs.YtpfmpeaekgdgnaaGreat
open Go Go.Vm
set_option maxRecDepth 20000
set_option linter.all false
set_option maxHeartbeats 8000000
structure TOp where
 kind : Int
 a : Int
 b : Int
 c : Int
 name : ByteArray
 value : ByteArray
 deriving DecidableEq
@[simp] abbrev hD (s : TOp) : D := .agg [.v (.int .i64 s.kind), .v (.int .i64 s.a), .v (.int .i64 s.b), .v (.int .i64 s.c), .v (.string s.name), .v (.string s.value)]
abbrev eN (m : Nat) (ops : List TOp) : List D := [.ref m 0, .sl true ((ops).map hD)]
def nt (l m : Nat) (ops : List TOp) (c : Int) (o : TOp) (σ : List (List D)) : List (List D) := if c = 0 then σ.set l (eN m (ops ++ [o])) else σ
def Pt (ops : List TOp) (c : Int) (o : TOp) : List TOp := if c = 0 then ops ++ [o] else ops
theorem aBq {l m : Nat} {ops : List TOp} {c : Int} {o : TOp} {σ : List (List D)} (h : σ[l]? = some (eN m ops)) : (nt l m ops c o σ)[l]? = some (eN m (Pt ops c o)) := by
 unfold nt Pt; split
 ·exact aI h _
 ·exact h
theorem Zu (ops : List TOp) (c : Int) (o : TOp) : (Pt ops c o).length ≤ ops.length + 1 := by
 unfold Pt; split <;> simp
theorem fK (l m : Nat) (ops : List TOp) (c : Int) (o : TOp) (σ : List (List D)) (hq : σ[l]? = some (eN m ops)) (hl : ops.length ≤ 100000) : Ct Tryz.prog 110 [.ref l 0, D.int c, hD o] σ (fun r σ' => r = D.int c ∧ σ' = nt l m ops c o σ) := by
 refine zf (rs:=[.tmp 6]) Tryz.func110 Tryz.ntmps110 Tryz.results110 ?_;simp only [aN];refine zr ⟨[13],[5],[],[],[]⟩ fun _ _ Z=>?_;simp[hq,aI hq];and_intros<;>(try omega);apply Z;apply aE;refine zr ⟨[13],[5],[],[],[]⟩ fun _ _ Z=>?_;simp[hq,aI hq];and_intros<;>(try omega);apply Z;refine zi ?_;refine ⟨fun c1=>?_,fun c1=>?_⟩
 ·try simp at c1
  refine ze ⟨[13],[5],[],[],[]⟩ [.op {},.op {},.op {},.op {},.op {rO:=true,wO:=true},.op {},.op {},.op {},.op {},.op {},.op {rO:=true,wO:=true}] fun all hall _ Z=>?_;refine aP 8 (by simp) fun _ Y=>?_;simp[hq,aI hq];and_intros<;>(try omega);apply Y;simp only [List.drop];simp[hq,aI hq];and_intros<;>(try omega);apply Z;apply aB;refine zk [1,6] ?_;refine zr ⟨[13],[5],[],[],[]⟩ fun _ _ Z=>?_;simp[hq,aI hq];and_intros<;>(try omega);apply Z;apply aC;simp [aK, nt, c1, eN]
 ·try simp at c1
  apply aG;apply aB;refine zr ⟨[13],[5],[],[],[]⟩ fun _ _ Z=>?_;simp[hq,aI hq];and_intros<;>(try omega);apply Z;apply aC;simp [aK, nt, c1, eN]
theorem tT (l m : Nat) (ops : List TOp) (s : ByteArray) (n c : Int) (σ2 : List (List D)) (σ : List (List D)) (hg : σ[l]? = some (eN m ops)) (hc : Ct Tryz.prog 40 [.ref m 0, D.str s] σ (fun r τ => r = .tup [D.int n, D.int c] ∧ τ = σ2)) (h2 : σ2[l]? = some (eN m ops)) (hl : ops.length ≤ 100000) : Ct Tryz.prog 60 [.ref l 0, D.str s] σ (fun r σ' => r = .tup [D.int n, D.int c] ∧ σ' = nt l m ops c ⟨1, n, 0, 0, s, ⟨#[]⟩⟩ σ2) := by
 refine zf (rs:=[.tmp 4,.tmp 5]) Tryz.func60 Tryz.ntmps60 Tryz.results60 ?_;simp only [aN];refine aY fun _ _ Z=>?_;simp[hg];and_intros<;>(try omega);apply Z;refine aY fun _ _ Z=>?_;refine aA 5 fun _ Y=>?_;simp[hg];and_intros<;>(try omega);apply Y;simp only [List.drop];refine aD fun _ Y=>?_;simp[hg];refine bY (hc) ?_;apply Y;simp[hg];and_intros<;>(try omega);apply Z;refine zk [0,1,4,5,6,7] ?_;refine aY fun _ _ Z=>?_;refine aA 6 fun _ Y=>?_;simp[hg];and_intros<;>(try omega);apply Y;simp only [List.drop];refine aD fun _ Y=>?_;simp[hg];refine bY (fK l m ops c ⟨1, n, 0, 0, s, ⟨#[]⟩⟩ _ h2 hl) ?_;apply Y;simp[hg];and_intros<;>(try omega);apply Z;apply aC;simp [aK]
theorem Ro (l m : Nat) (ops : List TOp) (s : ByteArray) (n c : Int) (σ2 : List (List D)) (σ : List (List D)) (hg : σ[l]? = some (eN m ops)) (hc : Ct Tryz.prog 44 [.ref m 0, D.str s] σ (fun r τ => r = .tup [D.int n, D.int c] ∧ τ = σ2)) (h2 : σ2[l]? = some (eN m ops)) (hl : ops.length ≤ 100000) : Ct Tryz.prog 63 [.ref l 0, D.str s] σ (fun r σ' => r = .tup [D.int n, D.int c] ∧ σ' = nt l m ops c ⟨2, n, 0, 0, ⟨#[]⟩, s⟩ σ2) := by
 refine zf (rs:=[.tmp 4,.tmp 5]) Tryz.func63 Tryz.ntmps63 Tryz.results63 ?_;simp only [aN];refine aY fun _ _ Z=>?_;simp[hg];and_intros<;>(try omega);apply Z;refine aY fun _ _ Z=>?_;refine aA 5 fun _ Y=>?_;simp[hg];and_intros<;>(try omega);apply Y;simp only [List.drop];refine aD fun _ Y=>?_;simp[hg];refine bY (hc) ?_;apply Y;simp[hg];and_intros<;>(try omega);apply Z;refine zk [0,1,4,5,6,7] ?_;refine aY fun _ _ Z=>?_;refine aA 6 fun _ Y=>?_;simp[hg];and_intros<;>(try omega);apply Y;simp only [List.drop];refine aD fun _ Y=>?_;simp[hg];refine bY (fK l m ops c ⟨2, n, 0, 0, ⟨#[]⟩, s⟩ _ h2 hl) ?_;apply Y;simp[hg];and_intros<;>(try omega);apply Z;apply aC;simp [aK]
theorem wT (l m : Nat) (ops : List TOp) (p at_ id : Int) (c : Int) (σ2 : List (List D)) (σ : List (List D)) (hg : σ[l]? = some (eN m ops)) (hc : Ct Tryz.prog 41 [.ref m 0, D.int p, D.int at_, D.int id] σ (fun r τ => r = D.int c ∧ τ = σ2)) (h2 : σ2[l]? = some (eN m ops)) (hl : ops.length ≤ 100000) : Ct Tryz.prog 61 [.ref l 0, D.int p, D.int at_, D.int id] σ (fun r σ' => r = D.int c ∧ σ' = nt l m ops c ⟨3, p, at_, id, ⟨#[]⟩, ⟨#[]⟩⟩ σ2) := by
 refine zf (rs:=[.tmp 8]) Tryz.func61 Tryz.ntmps61 Tryz.results61 ?_;simp only [aN];refine aY fun _ _ Z=>?_;simp[hg];and_intros<;>(try omega);apply Z;refine aY fun _ _ Z=>?_;refine aA 8 fun _ Y=>?_;simp[hg];and_intros<;>(try omega);apply Y;simp only [List.drop];refine aD fun _ Y=>?_;simp[hg];refine bY (hc) ?_;apply Y;refine aA 4 fun _ Y=>?_;simp[hg];and_intros<;>(try omega);apply Y;simp only [List.drop];refine aD fun _ Y=>?_;simp[hg];refine bY (fK l m ops c ⟨3, p, at_, id, ⟨#[]⟩, ⟨#[]⟩⟩ _ h2 hl) ?_;apply Y;simp[hg];and_intros<;>(try omega);apply Z;apply aC;simp [aK]
theorem Vn (l m : Nat) (ops : List TOp) (id at_ : Int) (c : Int) (σ2 : List (List D)) (σ : List (List D)) (hg : σ[l]? = some (eN m ops)) (hc : Ct Tryz.prog 46 [.ref m 0, D.int id, D.int at_] σ (fun r τ => r = D.int c ∧ τ = σ2)) (h2 : σ2[l]? = some (eN m ops)) (hl : ops.length ≤ 100000) : Ct Tryz.prog 64 [.ref l 0, D.int id, D.int at_] σ (fun r σ' => r = D.int c ∧ σ' = nt l m ops c ⟨4, id, at_, 0, ⟨#[]⟩, ⟨#[]⟩⟩ σ2) := by
 refine zf (rs:=[.tmp 6]) Tryz.func64 Tryz.ntmps64 Tryz.results64 ?_;simp only [aN];refine aY fun _ _ Z=>?_;simp[hg];and_intros<;>(try omega);apply Z;refine aY fun _ _ Z=>?_;refine aA 7 fun _ Y=>?_;simp[hg];and_intros<;>(try omega);apply Y;simp only [List.drop];refine aD fun _ Y=>?_;simp[hg];refine bY (hc) ?_;apply Y;refine aA 3 fun _ Y=>?_;simp[hg];and_intros<;>(try omega);apply Y;simp only [List.drop];refine aD fun _ Y=>?_;simp[hg];refine bY (fK l m ops c ⟨4, id, at_, 0, ⟨#[]⟩, ⟨#[]⟩⟩ _ h2 hl) ?_;apply Y;simp[hg];and_intros<;>(try omega);apply Z;apply aC;simp [aK]
theorem Ie (l m : Nat) (ops : List TOp) (id : Int) (c : Int) (σ2 : List (List D)) (σ : List (List D)) (hg : σ[l]? = some (eN m ops)) (hc : Ct Tryz.prog 48 [.ref m 0, D.int id] σ (fun r τ => r = D.int c ∧ τ = σ2)) (h2 : σ2[l]? = some (eN m ops)) (hl : ops.length ≤ 100000) : Ct Tryz.prog 65 [.ref l 0, D.int id] σ (fun r σ' => r = D.int c ∧ σ' = nt l m ops c ⟨5, id, 0, 0, ⟨#[]⟩, ⟨#[]⟩⟩ σ2) := by
 refine zf (rs:=[.tmp 4]) Tryz.func65 Tryz.ntmps65 Tryz.results65 ?_;simp only [aN];refine aY fun _ _ Z=>?_;simp[hg];and_intros<;>(try omega);apply Z;refine aY fun _ _ Z=>?_;refine aA 6 fun _ Y=>?_;simp[hg];and_intros<;>(try omega);apply Y;simp only [List.drop];refine aD fun _ Y=>?_;simp[hg];refine bY (hc) ?_;apply Y;refine aA 2 fun _ Y=>?_;simp[hg];and_intros<;>(try omega);apply Y;simp only [List.drop];refine aD fun _ Y=>?_;simp[hg];refine bY (fK l m ops c ⟨5, id, 0, 0, ⟨#[]⟩, ⟨#[]⟩⟩ _ h2 hl) ?_;apply Y;simp[hg];and_intros<;>(try omega);apply Z;apply aC;simp [aK]
theorem Gm (l m : Nat) (ops : List TOp) (id : Int) (s : ByteArray) (c : Int) (σ2 : List (List D)) (σ : List (List D)) (hg : σ[l]? = some (eN m ops)) (hc : Ct Tryz.prog 89 [.ref m 0, D.int id, D.str s] σ (fun r τ => r = D.int c ∧ τ = σ2)) (h2 : σ2[l]? = some (eN m ops)) (hl : ops.length ≤ 100000) : Ct Tryz.prog 66 [.ref l 0, D.int id, D.str s] σ (fun r σ' => r = D.int c ∧ σ' = nt l m ops c ⟨6, id, 0, 0, s, ⟨#[]⟩⟩ σ2) := by
 refine zf (rs:=[.tmp 6]) Tryz.func66 Tryz.ntmps66 Tryz.results66 ?_;simp only [aN];refine aY fun _ _ Z=>?_;simp[hg];and_intros<;>(try omega);apply Z;refine aY fun _ _ Z=>?_;refine aA 7 fun _ Y=>?_;simp[hg];and_intros<;>(try omega);apply Y;simp only [List.drop];refine aD fun _ Y=>?_;simp[hg];refine bY (hc) ?_;apply Y;refine aA 3 fun _ Y=>?_;simp[hg];and_intros<;>(try omega);apply Y;simp only [List.drop];refine aD fun _ Y=>?_;simp[hg];refine bY (fK l m ops c ⟨6, id, 0, 0, s, ⟨#[]⟩⟩ _ h2 hl) ?_;apply Y;simp[hg];and_intros<;>(try omega);apply Z;apply aC;simp [aK]
theorem Dw (l m : Nat) (ops : List TOp) (id : Int) (s : ByteArray) (c : Int) (σ2 : List (List D)) (σ : List (List D)) (hg : σ[l]? = some (eN m ops)) (hc : Ct Tryz.prog 90 [.ref m 0, D.int id, D.str s] σ (fun r τ => r = D.int c ∧ τ = σ2)) (h2 : σ2[l]? = some (eN m ops)) (hl : ops.length ≤ 100000) : Ct Tryz.prog 67 [.ref l 0, D.int id, D.str s] σ (fun r σ' => r = D.int c ∧ σ' = nt l m ops c ⟨7, id, 0, 0, ⟨#[]⟩, s⟩ σ2) := by
 refine zf (rs:=[.tmp 6]) Tryz.func67 Tryz.ntmps67 Tryz.results67 ?_;simp only [aN];refine aY fun _ _ Z=>?_;simp[hg];and_intros<;>(try omega);apply Z;refine aY fun _ _ Z=>?_;refine aA 7 fun _ Y=>?_;simp[hg];and_intros<;>(try omega);apply Y;simp only [List.drop];refine aD fun _ Y=>?_;simp[hg];refine bY (hc) ?_;apply Y;refine aA 3 fun _ Y=>?_;simp[hg];and_intros<;>(try omega);apply Y;simp only [List.drop];refine aD fun _ Y=>?_;simp[hg];refine bY (fK l m ops c ⟨7, id, 0, 0, ⟨#[]⟩, s⟩ _ h2 hl) ?_;apply Y;simp[hg];and_intros<;>(try omega);apply Z;apply aC;simp [aK]
theorem Da (l m : Nat) (ops : List TOp) (id : Int) (s v : ByteArray) (c : Int) (σ2 : List (List D)) (σ : List (List D)) (hg : σ[l]? = some (eN m ops)) (hc : Ct Tryz.prog 91 [.ref m 0, D.int id, D.str s, D.str v] σ (fun r τ => r = D.int c ∧ τ = σ2)) (h2 : σ2[l]? = some (eN m ops)) (hl : ops.length ≤ 100000) : Ct Tryz.prog 68 [.ref l 0, D.int id, D.str s, D.str v] σ (fun r σ' => r = D.int c ∧ σ' = nt l m ops c ⟨8, id, 0, 0, s, v⟩ σ2) := by
 refine zf (rs:=[.tmp 8]) Tryz.func68 Tryz.ntmps68 Tryz.results68 ?_;simp only [aN];refine aY fun _ _ Z=>?_;simp[hg];and_intros<;>(try omega);apply Z;refine aY fun _ _ Z=>?_;refine aA 8 fun _ Y=>?_;simp[hg];and_intros<;>(try omega);apply Y;simp only [List.drop];refine aD fun _ Y=>?_;simp[hg];refine bY (hc) ?_;apply Y;refine aA 4 fun _ Y=>?_;simp[hg];and_intros<;>(try omega);apply Y;simp only [List.drop];refine aD fun _ Y=>?_;simp[hg];refine bY (fK l m ops c ⟨8, id, 0, 0, s, v⟩ _ h2 hl) ?_;apply Y;simp[hg];and_intros<;>(try omega);apply Z;apply aC;simp [aK]
theorem Au (l m : Nat) (ops : List TOp) (id : Int) (s : ByteArray) (c : Int) (σ2 : List (List D)) (σ : List (List D)) (hg : σ[l]? = some (eN m ops)) (hc : Ct Tryz.prog 92 [.ref m 0, D.int id, D.str s] σ (fun r τ => r = D.int c ∧ τ = σ2)) (h2 : σ2[l]? = some (eN m ops)) (hl : ops.length ≤ 100000) : Ct Tryz.prog 69 [.ref l 0, D.int id, D.str s] σ (fun r σ' => r = D.int c ∧ σ' = nt l m ops c ⟨9, id, 0, 0, s, ⟨#[]⟩⟩ σ2) := by
 refine zf (rs:=[.tmp 6]) Tryz.func69 Tryz.ntmps69 Tryz.results69 ?_;simp only [aN];refine aY fun _ _ Z=>?_;simp[hg];and_intros<;>(try omega);apply Z;refine aY fun _ _ Z=>?_;refine aA 7 fun _ Y=>?_;simp[hg];and_intros<;>(try omega);apply Y;simp only [List.drop];refine aD fun _ Y=>?_;simp[hg];refine bY (hc) ?_;apply Y;refine aA 3 fun _ Y=>?_;simp[hg];and_intros<;>(try omega);apply Y;simp only [List.drop];refine aD fun _ Y=>?_;simp[hg];refine bY (fK l m ops c ⟨9, id, 0, 0, s, ⟨#[]⟩⟩ _ h2 hl) ?_;apply Y;simp[hg];and_intros<;>(try omega);apply Z;apply aC;simp [aK]
theorem Bf (l m : Nat) (ops : List TOp) (id : Int) (s : ByteArray) (v : Int) (c : Int) (σ2 : List (List D)) (σ : List (List D)) (hg : σ[l]? = some (eN m ops)) (hc : Ct Tryz.prog 93 [.ref m 0, D.int id, D.str s, D.int v] σ (fun r τ => r = D.int c ∧ τ = σ2)) (h2 : σ2[l]? = some (eN m ops)) (hl : ops.length ≤ 100000) : Ct Tryz.prog 70 [.ref l 0, D.int id, D.str s, D.int v] σ (fun r σ' => r = D.int c ∧ σ' = nt l m ops c ⟨10, id, 0, v, s, ⟨#[]⟩⟩ σ2) := by
 refine zf (rs:=[.tmp 8]) Tryz.func70 Tryz.ntmps70 Tryz.results70 ?_;simp only [aN];refine aY fun _ _ Z=>?_;simp[hg];and_intros<;>(try omega);apply Z;refine aY fun _ _ Z=>?_;refine aA 8 fun _ Y=>?_;simp[hg];and_intros<;>(try omega);apply Y;simp only [List.drop];refine aD fun _ Y=>?_;simp[hg];refine bY (hc) ?_;apply Y;refine aA 4 fun _ Y=>?_;simp[hg];and_intros<;>(try omega);apply Y;simp only [List.drop];refine aD fun _ Y=>?_;simp[hg];refine bY (fK l m ops c ⟨10, id, 0, v, s, ⟨#[]⟩⟩ _ h2 hl) ?_;apply Y;simp[hg];and_intros<;>(try omega);apply Z;apply aC;simp [aK]
theorem yB (l m : Nat) (ops : List TOp) (id : Int) (s : ByteArray) (c : Int) (σ2 : List (List D)) (σ : List (List D)) (hg : σ[l]? = some (eN m ops)) (hc : Ct Tryz.prog 94 [.ref m 0, D.int id, D.str s] σ (fun r τ => r = D.int c ∧ τ = σ2)) (h2 : σ2[l]? = some (eN m ops)) (hl : ops.length ≤ 100000) : Ct Tryz.prog 71 [.ref l 0, D.int id, D.str s] σ (fun r σ' => r = D.int c ∧ σ' = nt l m ops c ⟨11, id, 0, 0, s, ⟨#[]⟩⟩ σ2) := by
 refine zf (rs:=[.tmp 6]) Tryz.func71 Tryz.ntmps71 Tryz.results71 ?_;simp only [aN];refine aY fun _ _ Z=>?_;simp[hg];and_intros<;>(try omega);apply Z;refine aY fun _ _ Z=>?_;refine aA 7 fun _ Y=>?_;simp[hg];and_intros<;>(try omega);apply Y;simp only [List.drop];refine aD fun _ Y=>?_;simp[hg];refine bY (hc) ?_;apply Y;refine aA 3 fun _ Y=>?_;simp[hg];and_intros<;>(try omega);apply Y;simp only [List.drop];refine aD fun _ Y=>?_;simp[hg];refine bY (fK l m ops c ⟨11, id, 0, 0, s, ⟨#[]⟩⟩ _ h2 hl) ?_;apply Y;simp[hg];and_intros<;>(try omega);apply Z;apply aC;simp [aK]
theorem At (l m : Nat) (ops : List TOp) (id : Int) (s : ByteArray) (c : Int) (σ2 : List (List D)) (σ : List (List D)) (hg : σ[l]? = some (eN m ops)) (hc : Ct Tryz.prog 95 [.ref m 0, D.int id, D.str s] σ (fun r τ => r = D.int c ∧ τ = σ2)) (h2 : σ2[l]? = some (eN m ops)) (hl : ops.length ≤ 100000) : Ct Tryz.prog 72 [.ref l 0, D.int id, D.str s] σ (fun r σ' => r = D.int c ∧ σ' = nt l m ops c ⟨12, id, 0, 0, s, ⟨#[]⟩⟩ σ2) := by
 refine zf (rs:=[.tmp 6]) Tryz.func72 Tryz.ntmps72 Tryz.results72 ?_;simp only [aN];refine aY fun _ _ Z=>?_;simp[hg];and_intros<;>(try omega);apply Z;refine aY fun _ _ Z=>?_;refine aA 7 fun _ Y=>?_;simp[hg];and_intros<;>(try omega);apply Y;simp only [List.drop];refine aD fun _ Y=>?_;simp[hg];refine bY (hc) ?_;apply Y;refine aA 3 fun _ Y=>?_;simp[hg];and_intros<;>(try omega);apply Y;simp only [List.drop];refine aD fun _ Y=>?_;simp[hg];refine bY (fK l m ops c ⟨12, id, 0, 0, s, ⟨#[]⟩⟩ _ h2 hl) ?_;apply Y;simp[hg];and_intros<;>(try omega);apply Z;apply aC;simp [aK]
theorem xZ (l m : Nat) (ops : List TOp) (id : Int) (s : ByteArray) (c : Int) (σ2 : List (List D)) (σ : List (List D)) (hg : σ[l]? = some (eN m ops)) (hc : Ct Tryz.prog 96 [.ref m 0, D.int id, D.str s] σ (fun r τ => r = D.int c ∧ τ = σ2)) (h2 : σ2[l]? = some (eN m ops)) (hl : ops.length ≤ 100000) : Ct Tryz.prog 73 [.ref l 0, D.int id, D.str s] σ (fun r σ' => r = D.int c ∧ σ' = nt l m ops c ⟨13, id, 0, 0, s, ⟨#[]⟩⟩ σ2) := by
 refine zf (rs:=[.tmp 6]) Tryz.func73 Tryz.ntmps73 Tryz.results73 ?_;simp only [aN];refine aY fun _ _ Z=>?_;simp[hg];and_intros<;>(try omega);apply Z;refine aY fun _ _ Z=>?_;refine aA 7 fun _ Y=>?_;simp[hg];and_intros<;>(try omega);apply Y;simp only [List.drop];refine aD fun _ Y=>?_;simp[hg];refine bY (hc) ?_;apply Y;refine aA 3 fun _ Y=>?_;simp[hg];and_intros<;>(try omega);apply Y;simp only [List.drop];refine aD fun _ Y=>?_;simp[hg];refine bY (fK l m ops c ⟨13, id, 0, 0, s, ⟨#[]⟩⟩ _ h2 hl) ?_;apply Y;simp[hg];and_intros<;>(try omega);apply Z;apply aC;simp [aK]
theorem Nu (ops : List TOp) (σ : List (List D)) (hl : ops.length ≤ 100000) : Ct Tryz.prog 74 [.sl false (ops.map hD)] σ (fun r σ' => r = .sl true (ops.map hD) ∧ σ' = σ) := by
 refine zf (rs:=[.tmp 2]) Tryz.func74 Tryz.ntmps74 Tryz.results74 ?_;simp only [aN];refine zr ⟨[2],[],[],[],[]⟩ fun _ _ Z=>?_;simp;and_intros<;>(try omega);apply Z;apply aE;refine zr ⟨[2],[],[],[],[]⟩ fun _ _ Z=>?_;refine aA 1 fun _ Y=>?_;simp;and_intros<;>(try omega);apply Y;simp only [List.drop];refine aD fun _ Y=>?_;simp;refine ⟨Y _ ?_, fun e1 => Y _ ?_⟩
 ·skip
  simp only [dE];apply Z;refine bQ (t := false) (by simp) (fun h => by cases h) (fun _ => ?_);apply aG;apply aB;refine zr ⟨[2],[],[],[],[]⟩ fun _ _ Z=>?_;simp;and_intros<;>(try omega);apply Z;apply aC;simp [aK]
 ·skip
  simp only [dE];apply Z;refine bQ (t := true) (by simp) (fun _ => ?_) (fun h => by cases h);refine zr ⟨[2],[],[],[],[]⟩ fun _ _ Z=>?_;simp;and_intros<;>(try omega);apply Z;apply aC;apply aH;simp [aK, e1]
theorem Sq (l m : Nat) (ops : List TOp) (σ : List (List D)) (hl : ops.length ≤ 100000) (hg : σ[l]? = some (eN m ops)) : Ct Tryz.prog 33 [.ref l 0] σ (fun r σ' => r = .sl true (ops.map hD) ∧ σ' = σ) := by
 refine zf (rs:=[.tmp 2]) Tryz.func33 Tryz.ntmps33 Tryz.results33 ?_;simp only [aN];refine zr ⟨[2],[],[],[],[]⟩ fun _ _ Z=>?_;simp[hg];and_intros<;>(try omega);apply Z;refine zr ⟨[2],[],[],[],[]⟩ fun _ _ Z=>?_;refine aA 4 fun _ Y=>?_;simp[hg];and_intros<;>(try omega);apply Y;simp only [List.drop];refine aD fun _ Y=>?_;simp[hg];refine bY (Nu ops _ hl) ?_;apply Y;simp[hg];and_intros<;>(try omega);apply Z;apply aC;simp [aK]
theorem Ay (l m : Nat) (ops : List TOp) (σ : List (List D)) (hl : ops.length ≤ 100000) (hg : σ[l]? = some (eN m ops)) : Ct Tryz.prog 33 [.ref l 0] σ (fun r σ' => r = .sl false (ops.map hD) ∧ σ' = σ) :=
 (Sq l m ops σ hl hg).strip fun r σ' ⟨hr, hs⟩ => ⟨by rw [hr]; rfl, by rw [hr]; rfl, hs⟩
theorem Mx (l m : Nat) (ops : List TOp) (σ : List (List D)) (hg : σ[l]? = some (eN m ops)) : Ct Tryz.prog 31 [.ref l 0] σ (fun r σ' => r = .tup [] ∧ σ' = σ.set l (eN m [])) := by
 refine zf (rs:=[]) Tryz.func31 Tryz.ntmps31 Tryz.results31 ?_;simp only [aN];refine uP fun _ _ Z=>?_;simp[hg];and_intros<;>(try omega);apply Z;simp [aK, eN]
theorem Sj (m : Nat) (σ : List (List D))  : Ct Tryz.prog 26 [.ref m 0] σ (fun r σ' => r = .ref σ.length 0 ∧ σ' = σ ++ [eN m []]) := by
 refine zf (rs:=[.tmp 2]) Tryz.func26 Tryz.ntmps26 Tryz.results26 ?_;simp only [aN];refine zr ⟨[],[],[5],[],[]⟩ fun _ _ Z=>?_;simp[aS,aO,aJ,aF];and_intros<;>(try omega);apply Z;refine zr ⟨[],[],[5],[],[]⟩ fun _ _ Z=>?_;simp[aS,aO,aJ,aF];and_intros<;>(try omega);apply Z;apply aC;simp [aK]
theorem Dj (a : Act) (σ : List (List D))  : Ct Tryz.prog 28 [nI a] σ (fun r σ' => r = .bool (decide ((0 ≤ a.kind ∧ a.kind ≤ 4) ∨ (10 ≤ a.kind ∧ a.kind ≤ 17))) ∧ σ' = σ) := by
 refine zf (rs:=[.tmp 2]) Tryz.func28 Tryz.ntmps28 Tryz.results28 ?_;simp only [aN];refine zr ⟨[],[1],[],[],[]⟩ fun _ _ Z=>?_;simp;and_intros<;>(try omega);apply Z;refine oE ⟨[],[1],[],[],[]⟩ fun all hall _ Z=>?_;have ga3 : aT all 3 = some 6 := hall 3;have ga8 : aT all 8 = some 11 := hall 8;have ga12 : aT all 12 = some 15 := hall 12;refine aA 4 fun _ Y=>?_;simp[ga3,ga8,ga12];and_intros<;>(try omega);apply Y;simp only [List.drop];refine aX 6 (by simp <;> rfl) ?_;refine ⟨fun g1 => ?_, fun g1 => ?_⟩
 ·try simp at g1
  refine aA 5 fun _ Y=>?_;simp[ga3,ga8,ga12];and_intros<;>(try omega);apply Y;simp only [List.drop];refine aX 11 (by simp <;> rfl) ?_;refine ⟨fun g2 => ?_, fun g2 => ?_⟩
  ·try simp at g2
   refine aA 8 fun _ Y=>?_;simp[ga3,ga8,ga12];and_intros<;>(try omega);apply Y;simp only [List.drop];simp[ga3,ga8,ga12];and_intros<;>(try omega);apply Z;apply aC;simp [aK];first | done | omega | (rw [Bool.eq_iff_iff]; simp; omega) | (constructor <;> intros <;> omega)
  ·try simp at g2
   refine aA 4 fun _ Y=>?_;simp[ga3,ga8,ga12];and_intros<;>(try omega);apply Y;simp only [List.drop];refine aX 15 (by simp <;> rfl) ?_;refine ⟨fun g3 => ?_, fun g3 => ?_⟩
   ·try simp at g3
    simp[ga3,ga8,ga12];and_intros<;>(try omega);apply Z;apply aC;simp [aK];first | done | omega | (rw [Bool.eq_iff_iff]; simp; omega) | (constructor <;> intros <;> omega)
   ·try simp at g3
    simp[ga3,ga8,ga12];and_intros<;>(try omega);apply Z;apply aC;simp [aK];first | done | omega | (rw [Bool.eq_iff_iff]; simp; omega) | (constructor <;> intros <;> omega)
 ·try simp at g1
  refine aA 5 fun _ Y=>?_;simp[ga3,ga8,ga12];and_intros<;>(try omega);apply Y;simp only [List.drop];refine aA 4 fun _ Y=>?_;simp[ga3,ga8,ga12];and_intros<;>(try omega);apply Y;simp only [List.drop];refine aX 15 (by simp <;> rfl) ?_;refine ⟨fun g4 => ?_, fun g4 => ?_⟩
  ·try simp at g4
   omega
  ·try simp at g4
   simp[ga3,ga8,ga12];and_intros<;>(try omega);apply Z;apply aC;simp [aK];first | done | omega | (rw [Bool.eq_iff_iff]; simp; omega) | (constructor <;> intros <;> omega)
end Go.Proofs.YtpfmpeaekgdgnaaGreat
namespace Go.Proofs.YtpfmpeaekgdgnaaGreat
open Go Go.Vm
set_option maxRecDepth 20000
set_option linter.all false
set_option maxHeartbeats 8000000
def jC (a : Act) (n : Int) : TOp :=
 if a.kind = 0 then ⟨1, n, 0, 0, a.name, ⟨#[]⟩⟩ else if a.kind = 1 then ⟨2, n, 0, 0, ⟨#[]⟩, a.value⟩ else if a.kind = 2 then ⟨3, a.a, a.b, a.c, ⟨#[]⟩, ⟨#[]⟩⟩ else if a.kind = 3 then ⟨4, a.a, a.b, 0, ⟨#[]⟩, ⟨#[]⟩⟩ else if a.kind = 4 then ⟨5, a.a, 0, 0, ⟨#[]⟩, ⟨#[]⟩⟩ else if a.kind = 10 then ⟨6, a.a, 0, 0, a.name, ⟨#[]⟩⟩ else if a.kind = 11 then ⟨7, a.a, 0, 0, ⟨#[]⟩, a.value⟩ else if a.kind = 12 then ⟨8, a.a, 0, 0, a.name, a.value⟩ else if a.kind = 13 then ⟨9, a.a, 0, 0, a.name, ⟨#[]⟩⟩ else if a.kind = 14 then ⟨10, a.a, 0, a.c, a.name, ⟨#[]⟩⟩ else if a.kind = 15 then ⟨11, a.a, 0, 0, a.name, ⟨#[]⟩⟩ else if a.kind = 16 then ⟨12, a.a, 0, 0, a.name, ⟨#[]⟩⟩ else ⟨13, a.a, 0, 0, a.name, ⟨#[]⟩⟩
theorem fI (l : Nat) (a : Act) (n c : Int) (σ2 : List (List D)) (σ : List (List D)) (e0 : a.kind = 0 → Ct Tryz.prog 60 [.ref l 0, D.str a.name] σ (fun r τ => r = .tup [D.int n, D.int c] ∧ τ = σ2)) (e1 : a.kind = 1 → Ct Tryz.prog 63 [.ref l 0, D.str a.value] σ (fun r τ => r = .tup [D.int n, D.int c] ∧ τ = σ2)) (e2 : a.kind = 2 → Ct Tryz.prog 61 [.ref l 0, D.int a.a, D.int a.b, D.int a.c] σ (fun r τ => r = D.int c ∧ τ = σ2)) (e3 : a.kind = 3 → Ct Tryz.prog 64 [.ref l 0, D.int a.a, D.int a.b] σ (fun r τ => r = D.int c ∧ τ = σ2)) (e4 : a.kind = 4 → Ct Tryz.prog 65 [.ref l 0, D.int a.a] σ (fun r τ => r = D.int c ∧ τ = σ2)) (e5 : a.kind = 10 → Ct Tryz.prog 66 [.ref l 0, D.int a.a, D.str a.name] σ (fun r τ => r = D.int c ∧ τ = σ2)) (e6 : a.kind = 11 → Ct Tryz.prog 67 [.ref l 0, D.int a.a, D.str a.value] σ (fun r τ => r = D.int c ∧ τ = σ2)) (e7 : a.kind = 12 → Ct Tryz.prog 68 [.ref l 0, D.int a.a, D.str a.name, D.str a.value] σ (fun r τ => r = D.int c ∧ τ = σ2)) (e8 : a.kind = 13 → Ct Tryz.prog 69 [.ref l 0, D.int a.a, D.str a.name] σ (fun r τ => r = D.int c ∧ τ = σ2)) (e9 : a.kind = 14 → Ct Tryz.prog 70 [.ref l 0, D.int a.a, D.str a.name, D.int a.c] σ (fun r τ => r = D.int c ∧ τ = σ2)) (e10 : a.kind = 15 → Ct Tryz.prog 71 [.ref l 0, D.int a.a, D.str a.name] σ (fun r τ => r = D.int c ∧ τ = σ2)) (e11 : a.kind = 16 → Ct Tryz.prog 72 [.ref l 0, D.int a.a, D.str a.name] σ (fun r τ => r = D.int c ∧ τ = σ2)) (e12 : ¬ a.kind = 0 ∧ ¬ a.kind = 1 ∧ ¬ a.kind = 2 ∧ ¬ a.kind = 3 ∧ ¬ a.kind = 4 ∧ ¬ a.kind = 10 ∧ ¬ a.kind = 11 ∧ ¬ a.kind = 12 ∧ ¬ a.kind = 13 ∧ ¬ a.kind = 14 ∧ ¬ a.kind = 15 ∧ ¬ a.kind = 16 → Ct Tryz.prog 73 [.ref l 0, D.int a.a, D.str a.name] σ (fun r τ => r = D.int c ∧ τ = σ2)) : Ct Tryz.prog 29 [.ref l 0, nI a] σ (fun r σ' => r = .tup [hD (jC a n), D.int c] ∧ σ' = σ2) := by
 refine zf (rs:=[.cell 4 65,.tmp 5]) Tryz.func29 Tryz.ntmps29 Tryz.results29 ?_;simp only [aN];refine zr ⟨[],[3],[],[],[]⟩ fun _ _ Z=>?_;simp;apply Z;apply aE;refine zr ⟨[],[3],[],[],[]⟩ fun _ _ Z=>?_;simp;apply Z;apply aM;refine zr ⟨[],[3],[],[],[]⟩ fun _ _ Z=>?_;simp;apply Z;refine zi ?_;refine ⟨fun c1=>?_,fun c1=>?_⟩
 ·try simp at c1
  refine zr ⟨[],[3],[],[],[]⟩ fun _ _ Z=>?_;refine aA 3 fun _ Y=>?_;simp;apply Y;simp only [List.drop];refine aD fun _ Y=>?_;simp;refine bY (e0 c1) ?_;apply Y;simp;apply Z;refine zk [0,3,4,5,6,7] ?_;refine zr ⟨[],[3],[],[],[]⟩ fun _ _ Z=>?_;simp;apply Z;apply aC;apply aR;apply aH;simp [aK, jC, c1]
 ·try simp at c1
  refine zr ⟨[],[3],[],[],[]⟩ fun _ _ Z=>?_;simp;apply Z;refine zi ?_;refine ⟨fun c2=>?_,fun c2=>?_⟩
  ·try simp at c2
   refine zr ⟨[],[3],[],[],[]⟩ fun _ _ Z=>?_;refine aA 3 fun _ Y=>?_;simp;apply Y;simp only [List.drop];refine aD fun _ Y=>?_;simp;refine bY (e1 c2) ?_;apply Y;simp;apply Z;refine zk [0,3,4,5,8,9] ?_;refine zr ⟨[],[3],[],[],[]⟩ fun _ _ Z=>?_;simp;apply Z;apply aC;apply aR;apply aH;simp [aK, jC, c1, c2]
  ·try simp at c2
   refine zr ⟨[],[3],[],[],[]⟩ fun _ _ Z=>?_;simp;apply Z;refine zi ?_;refine ⟨fun c3=>?_,fun c3=>?_⟩
   ·try simp at c3
    refine zk [0,3,4,5] ?_;refine zd ⟨[],[3],[],[],[]⟩ [.op {},.op {},.op {},.op {},.op {},.op {},.op {},.op {},.op {},.op {},.op {},.op {},.op {},.op {},.det,.op {rL:=true,wL:=true},.op {}] fun all hall _ Z=>?_;refine aP 8 (by simp) fun _ Y=>?_;simp;apply Y;simp only [List.drop];refine aP 6 (by simp) fun _ Y=>?_;simp;apply Y;simp only [List.drop];refine cO fun _ Y=>?_;simp;refine Rn (e2 c3) ?_;apply Y;simp;apply Z;apply aC;apply aR;apply aH;simp [aK, jC, c1, c2, c3]
   ·try simp at c3
    refine zr ⟨[],[3],[],[],[]⟩ fun _ _ Z=>?_;simp;apply Z;refine zi ?_;refine ⟨fun c4=>?_,fun c4=>?_⟩
    ·try simp at c4
     refine zk [0,3,4,5] ?_;refine zd ⟨[],[3],[],[],[]⟩ [.op {},.op {},.op {},.op {},.op {},.op {},.op {},.op {},.op {},.op {},.det,.op {rL:=true,wL:=true},.op {}] fun all hall _ Z=>?_;refine aP 8 (by simp) fun _ Y=>?_;simp;apply Y;simp only [List.drop];refine aP 2 (by simp) fun _ Y=>?_;simp;apply Y;simp only [List.drop];refine cO fun _ Y=>?_;simp;refine Rn (e3 c4) ?_;apply Y;simp;apply Z;apply aC;apply aR;apply aH;simp [aK, jC, c1, c2, c3, c4]
    ·try simp at c4
     refine zk [0,3,4,5,11] ?_;refine zr ⟨[],[3],[],[],[]⟩ fun _ _ Z=>?_;simp;apply Z;refine zi ?_;refine ⟨fun c5=>?_,fun c5=>?_⟩
     ·try simp at c5
      refine zd ⟨[],[3],[],[],[]⟩ [.op {},.op {},.op {},.op {},.op {},.op {},.det,.op {rL:=true,wL:=true},.op {}] fun all hall _ Z=>?_;refine aP 6 (by simp) fun _ Y=>?_;simp;apply Y;simp only [List.drop];refine cO fun _ Y=>?_;simp;refine Rn (e4 c5) ?_;apply Y;simp;apply Z;apply aC;apply aR;apply aH;simp [aK, jC, c1, c2, c3, c4, c5]
     ·try simp at c5
      refine zr ⟨[],[3],[],[],[]⟩ fun _ _ Z=>?_;simp;apply Z;refine zi ?_;refine ⟨fun c6=>?_,fun c6=>?_⟩
      ·try simp at c6
       refine zk [0,3,4,5] ?_;refine zd ⟨[],[3],[],[],[]⟩ [.op {},.op {},.op {},.op {},.op {},.op {},.op {},.op {},.op {},.op {},.det,.op {rL:=true,wL:=true},.op {}] fun all hall _ Z=>?_;refine aP 8 (by simp) fun _ Y=>?_;simp;apply Y;simp only [List.drop];refine aP 2 (by simp) fun _ Y=>?_;simp;apply Y;simp only [List.drop];refine cO fun _ Y=>?_;simp;refine Rn (e5 c6) ?_;apply Y;simp;apply Z;apply aC;apply aR;apply aH;simp [aK, jC, c1, c2, c3, c4, c5, c6]
      ·try simp at c6
       refine zr ⟨[],[3],[],[],[]⟩ fun _ _ Z=>?_;simp;apply Z;refine zi ?_;refine ⟨fun c7=>?_,fun c7=>?_⟩
       ·try simp at c7
        refine zk [0,3,4,5] ?_;refine zd ⟨[],[3],[],[],[]⟩ [.op {},.op {},.op {},.op {},.op {},.op {},.op {},.op {},.op {},.op {},.det,.op {rL:=true,wL:=true},.op {}] fun all hall _ Z=>?_;refine aP 8 (by simp) fun _ Y=>?_;simp;apply Y;simp only [List.drop];refine aP 2 (by simp) fun _ Y=>?_;simp;apply Y;simp only [List.drop];refine cO fun _ Y=>?_;simp;refine Rn (e6 c7) ?_;apply Y;simp;apply Z;apply aC;apply aR;apply aH;simp [aK, jC, c1, c2, c3, c4, c5, c6, c7]
       ·try simp at c7
        refine zr ⟨[],[3],[],[],[]⟩ fun _ _ Z=>?_;simp;apply Z;refine zi ?_;refine ⟨fun c8=>?_,fun c8=>?_⟩
        ·try simp at c8
         refine zk [0,3,4,5] ?_;refine zd ⟨[],[3],[],[],[]⟩ [.op {},.op {},.op {},.op {},.op {},.op {},.op {},.op {},.op {},.op {},.op {},.op {},.op {},.op {},.det,.op {rL:=true,wL:=true},.op {}] fun all hall _ Z=>?_;refine aP 8 (by simp) fun _ Y=>?_;simp;apply Y;simp only [List.drop];refine aP 6 (by simp) fun _ Y=>?_;simp;apply Y;simp only [List.drop];refine cO fun _ Y=>?_;simp;refine Rn (e7 c8) ?_;apply Y;simp;apply Z;apply aC;apply aR;apply aH;simp [aK, jC, c1, c2, c3, c4, c5, c6, c7, c8]
        ·try simp at c8
         refine zk [0,3,4,5,11] ?_;refine zr ⟨[],[3],[],[],[]⟩ fun _ _ Z=>?_;simp;apply Z;refine zi ?_;refine ⟨fun c9=>?_,fun c9=>?_⟩
         ·try simp at c9
          refine zk [0,3,4,5] ?_;refine zd ⟨[],[3],[],[],[]⟩ [.op {},.op {},.op {},.op {},.op {},.op {},.op {},.op {},.op {},.op {},.det,.op {rL:=true,wL:=true},.op {}] fun all hall _ Z=>?_;refine aP 8 (by simp) fun _ Y=>?_;simp;apply Y;simp only [List.drop];refine aP 2 (by simp) fun _ Y=>?_;simp;apply Y;simp only [List.drop];refine cO fun _ Y=>?_;simp;refine Rn (e8 c9) ?_;apply Y;simp;apply Z;apply aC;apply aR;apply aH;simp [aK, jC, c1, c2, c3, c4, c5, c6, c7, c8, c9]
         ·try simp at c9
          refine zr ⟨[],[3],[],[],[]⟩ fun _ _ Z=>?_;simp;apply Z;refine zi ?_;refine ⟨fun c10=>?_,fun c10=>?_⟩
          ·try simp at c10
           refine zk [0,3,4,5] ?_;refine zd ⟨[],[3],[],[],[]⟩ [.op {},.op {},.op {},.op {},.op {},.op {},.op {},.op {},.op {},.op {},.op {},.op {},.op {},.op {},.det,.op {rL:=true,wL:=true},.op {}] fun all hall _ Z=>?_;refine aP 8 (by simp) fun _ Y=>?_;simp;apply Y;simp only [List.drop];refine aP 6 (by simp) fun _ Y=>?_;simp;apply Y;simp only [List.drop];refine cO fun _ Y=>?_;simp;refine Rn (e9 c10) ?_;apply Y;simp;apply Z;apply aC;apply aR;apply aH;simp [aK, jC, c1, c2, c3, c4, c5, c6, c7, c8, c9, c10]
          ·try simp at c10
           refine zr ⟨[],[3],[],[],[]⟩ fun _ _ Z=>?_;simp;apply Z;refine zi ?_;refine ⟨fun c11=>?_,fun c11=>?_⟩
           ·try simp at c11
            refine zk [0,3,4,5] ?_;refine zd ⟨[],[3],[],[],[]⟩ [.op {},.op {},.op {},.op {},.op {},.op {},.op {},.op {},.op {},.op {},.det,.op {rL:=true,wL:=true},.op {}] fun all hall _ Z=>?_;refine aP 8 (by simp) fun _ Y=>?_;simp;apply Y;simp only [List.drop];refine aP 2 (by simp) fun _ Y=>?_;simp;apply Y;simp only [List.drop];refine cO fun _ Y=>?_;simp;refine Rn (e10 c11) ?_;apply Y;simp;apply Z;apply aC;apply aR;apply aH;simp [aK, jC, c1, c2, c3, c4, c5, c6, c7, c8, c9, c10, c11]
           ·try simp at c11
            refine zr ⟨[],[3],[],[],[]⟩ fun _ _ Z=>?_;simp;apply Z;refine zi ?_;refine ⟨fun c12=>?_,fun c12=>?_⟩
            ·try simp at c12
             refine zk [0,3,4,5] ?_;refine zd ⟨[],[3],[],[],[]⟩ [.op {},.op {},.op {},.op {},.op {},.op {},.op {},.op {},.op {},.op {},.det,.op {rL:=true,wL:=true},.op {}] fun all hall _ Z=>?_;refine aP 8 (by simp) fun _ Y=>?_;simp;apply Y;simp only [List.drop];refine aP 2 (by simp) fun _ Y=>?_;simp;apply Y;simp only [List.drop];refine cO fun _ Y=>?_;simp;refine Rn (e11 c12) ?_;apply Y;simp;apply Z;apply aC;apply aR;apply aH;simp [aK, jC, c1, c2, c3, c4, c5, c6, c7, c8, c9, c10, c11, c12]
            ·try simp at c12
             apply aG;apply aQ;apply aB;refine zk [0,3,4,5] ?_;refine zd ⟨[],[3],[],[],[]⟩ [.op {},.op {},.op {},.op {},.op {},.op {},.op {},.op {},.op {},.op {},.det,.op {rL:=true,wL:=true},.op {}] fun all hall _ Z=>?_;refine aP 8 (by simp) fun _ Y=>?_;simp;apply Y;simp only [List.drop];refine aP 2 (by simp) fun _ Y=>?_;simp;apply Y;simp only [List.drop];refine cO fun _ Y=>?_;simp;refine Rn (e12 ⟨c1, c2, c3, c4, c5, c6, c7, c8, c9, c10, c11, c12⟩) ?_;apply Y;simp;apply Z;apply aC;simp [aK, jC, c1, c2, c3, c4, c5, c6, c7, c8, c9, c10, c11, c12]
theorem Zg (x y : RD) (o : TOp) (n c : Int) (bel bel2 : Int → List Int) (rk : Int → Nat) (σ : List (List D)) (hx : NB x.l) (hnx : 0 ≤ x.next ∧ x.next ≤ 1000000) (htr : Tr x.l bel rk) (htr2 : Tr (remP x.l o.a) bel2 rk) (hkl : ∀ i, (aL x.l i).kids.length ≤ 900) (hkn : ∀ i, (aL x.l i).kids.Nodup) (hsa : ∀ i, cJ nA (aL x.l i).attrs) (hss : ∀ i, cJ nP (aL x.l i).styles) (s1 : o.name.size ≤ 1000) (s2 : o.value.size ≤ 1000) (q1 : (o.kind = 1 ∨ o.kind = 2) → ¬ x.next = o.a → y = x ∧ c = 1) (q2 : o.kind = 1 → x.next = o.a → addX x 2 o.name = (y, n, c)) (q3 : o.kind = 2 → x.next = o.a → addX x 1 o.value = (y, n, c)) (q4 : o.kind = 3 → insX x bel o.a o.b o.c = (y, c)) (q5 : o.kind = 4 → movX x o.a o.b = (y, c)) (q6 : o.kind = 5 → remX x bel2 o.a = (y, c)) (q7 : o.kind < 1 ∨ 13 < o.kind → y = x ∧ c = 14) (q8 : 6 ≤ o.kind → o.kind ≤ 13 → setX x (o.kind - 6) o.a o.name o.value o.c = (y, c)) : Ct Tryz.prog 30 [fQ x, hD o] σ (fun r σ' => r = .tup [fQ y, D.int c] ∧ σ' = σ) := by
 refine zf (rs:=[.cell 4 28,.tmp 5]) Tryz.func30 Tryz.ntmps30 Tryz.results30 ?_;simp only [aN];refine zr ⟨[],[2,3],[],[],[]⟩ fun _ _ Z=>?_;simp;and_intros<;>(try omega);apply Z;apply aE;refine zr ⟨[],[2,3],[],[],[]⟩ fun _ _ Z=>?_;simp;and_intros<;>(try omega);apply Z;apply aM;apply aE;refine zr ⟨[],[2,3],[],[],[]⟩ fun _ _ Z=>?_;simp;and_intros<;>(try omega);apply Z;refine zi ?_;refine ⟨fun c1=>?_,fun c1=>?_⟩
 ·try simp at c1
  apply aG;apply aB;refine bQ (t := true) (by simp) (fun _ => ?_) (fun h => by cases h);apply aE;refine zr ⟨[],[2,3],[],[],[]⟩ fun _ _ Z=>?_;simp;and_intros<;>(try omega);apply Z;refine zi ?_;refine ⟨fun c2=>?_,fun c2=>?_⟩
  ·try simp at c2
   refine zk [2,3,4,5] ?_;refine zr ⟨[],[2,3],[],[],[]⟩ fun _ _ Z=>?_;simp;and_intros<;>(try omega);apply Z;apply aC;apply aH;apply aR;apply aH;obtain ⟨r1, r2⟩ := q1 (by omega) (by omega);subst r1; subst r2;simp [aK]
  ·try simp at c2
   apply aG;apply aB;refine zk [2,3,4,5] ?_;refine zr ⟨[],[2,3],[],[],[]⟩ fun _ _ Z=>?_;simp;and_intros<;>(try omega);apply Z;apply aE;refine zr ⟨[],[2,3],[],[],[]⟩ fun _ _ Z=>?_;simp;and_intros<;>(try omega);apply Z;refine zi ?_;refine ⟨fun c3=>?_,fun c3=>?_⟩
   ·try simp at c3
    omega
   ·try simp at c3
    apply aG;apply aB;refine zk [2,3,4,5,6] ?_;refine zr ⟨[],[2,3],[],[],[]⟩ fun _ _ Z=>?_;refine aA 5 fun _ Y=>?_;simp;and_intros<;>(try omega);apply Y;simp only [List.drop];refine aD fun _ Y=>?_;simp;refine bY (Kv x (3 - o.kind) o.name _ hx hnx s1) ?_;rw [show (3 - o.kind : Int) = 2 by omega, q2 (by omega) (by omega)];apply Y;simp;and_intros<;>(try omega);apply Z;refine zk [2,3,4,5,7,9] ?_;refine zr ⟨[],[2,3],[],[],[]⟩ fun _ _ Z=>?_;simp;and_intros<;>(try omega);apply Z;apply aC;apply aR;apply aH;simp [aK]
 ·try simp at c1
  refine zt ⟨[],[2,3],[],[],[]⟩ fun _ _ Z=>?_;simp;and_intros<;>(try omega);apply Z;apply aB;refine zi ?_;refine ⟨fun c4=>?_,fun c4=>?_⟩
  ·try simp at c4
   apply aE;refine zr ⟨[],[2,3],[],[],[]⟩ fun _ _ Z=>?_;simp;and_intros<;>(try omega);apply Z;refine zi ?_;refine ⟨fun c5=>?_,fun c5=>?_⟩
   ·try simp at c5
    refine zk [2,3,4,5] ?_;refine zr ⟨[],[2,3],[],[],[]⟩ fun _ _ Z=>?_;simp;and_intros<;>(try omega);apply Z;apply aC;apply aH;apply aR;apply aH;obtain ⟨r1, r2⟩ := q1 (by omega) (by omega);subst r1; subst r2;simp [aK]
   ·try simp at c5
    apply aG;apply aB;refine zk [2,3,4,5] ?_;refine zr ⟨[],[2,3],[],[],[]⟩ fun _ _ Z=>?_;simp;and_intros<;>(try omega);apply Z;apply aE;refine zr ⟨[],[2,3],[],[],[]⟩ fun _ _ Z=>?_;simp;and_intros<;>(try omega);apply Z;refine zi ?_;refine ⟨fun c6=>?_,fun c6=>?_⟩
    ·try simp at c6
     refine zt ⟨[],[2,3],[],[],[]⟩ fun _ _ Z=>?_;simp;and_intros<;>(try omega);apply Z;apply aB;refine zk [2,3,4,5,6] ?_;refine zr ⟨[],[2,3],[],[],[]⟩ fun _ _ Z=>?_;refine aA 5 fun _ Y=>?_;simp;and_intros<;>(try omega);apply Y;simp only [List.drop];refine aD fun _ Y=>?_;simp;refine bY (Kv x (3 - o.kind) o.value _ hx hnx s2) ?_;rw [show (3 - o.kind : Int) = 1 by omega, q3 (by omega) (by omega)];apply Y;simp;and_intros<;>(try omega);apply Z;refine zk [2,3,4,5,7,9] ?_;refine zr ⟨[],[2,3],[],[],[]⟩ fun _ _ Z=>?_;simp;and_intros<;>(try omega);apply Z;apply aC;apply aR;apply aH;simp [aK]
    ·try simp at c6
     omega
  ·try simp at c4
   refine zr ⟨[],[2,3],[],[],[]⟩ fun _ _ Z=>?_;simp;and_intros<;>(try omega);apply Z;refine zi ?_;refine ⟨fun c7=>?_,fun c7=>?_⟩
   ·try simp at c7
    refine zk [2,3,4,5] ?_;refine zr ⟨[],[2,3],[],[],[]⟩ fun _ _ Z=>?_;refine aA 7 fun _ Y=>?_;simp;and_intros<;>(try omega);apply Y;simp only [List.drop];refine aD fun _ Y=>?_;simp;refine bY (aAb x o.a o.b o.c bel rk _ hx htr (hkl _)) ?_;rw [q4 (by omega)];apply Y;simp;and_intros<;>(try omega);apply Z;apply aC;apply aR;apply aH;simp [aK]
   ·try simp at c7
    refine zk [2,3,4,5,11] ?_;refine zr ⟨[],[2,3],[],[],[]⟩ fun _ _ Z=>?_;simp;and_intros<;>(try omega);apply Z;refine zi ?_;refine ⟨fun c8=>?_,fun c8=>?_⟩
    ·try simp at c8
     refine zr ⟨[],[2,3],[],[],[]⟩ fun _ _ Z=>?_;refine aA 5 fun _ Y=>?_;simp;and_intros<;>(try omega);apply Y;simp only [List.drop];refine aD fun _ Y=>?_;simp;refine bY (aAj x o.a o.b _ hx (hkn _)) ?_;rw [q5 (by omega)];apply Y;simp;and_intros<;>(try omega);apply Z;apply aC;apply aR;apply aH;simp [aK]
    ·try simp at c8
     refine zr ⟨[],[2,3],[],[],[]⟩ fun _ _ Z=>?_;simp;and_intros<;>(try omega);apply Z;refine zi ?_;refine ⟨fun c9=>?_,fun c9=>?_⟩
     ·try simp at c9
      refine zr ⟨[],[2,3],[],[],[]⟩ fun _ _ Z=>?_;refine aA 3 fun _ Y=>?_;simp;and_intros<;>(try omega);apply Y;simp only [List.drop];refine aD fun _ Y=>?_;simp;refine bY (Zm x o.a bel2 rk _ hx htr2) ?_;rw [q6 (by omega)];apply Y;simp;and_intros<;>(try omega);apply Z;apply aC;apply aR;apply aH;simp [aK]
     ·try simp at c9
      apply aG;apply aQ;apply aB;apply aE;refine oE ⟨[],[2,3],[],[],[]⟩ fun all hall _ Z=>?_;have ga3 : aT all 3 = some 73 := hall 3;refine aA 4 fun _ Y=>?_;simp[ga3];and_intros<;>(try omega);apply Y;simp only [List.drop];refine aX 73 (by simp <;> rfl) ?_;refine ⟨fun g10 => ?_, fun g10 => ?_⟩
      ·try simp at g10
       simp[ga3];and_intros<;>(try omega);apply Z;refine bQ (t := true) (by simp) (fun _ => ?_) (fun h => by cases h);refine zk [2,3,4,5] ?_;refine zr ⟨[],[2,3],[],[],[]⟩ fun _ _ Z=>?_;simp;and_intros<;>(try omega);apply Z;apply aC;apply aH;obtain ⟨r1, r2⟩ := q7 (by omega);subst r1; subst r2;simp [aK]
      ·try simp at g10
       simp[ga3];and_intros<;>(try omega);apply Z;refine zi ?_;refine ⟨fun c11=>?_,fun c11=>?_⟩
       ·try simp at c11
        refine zk [2,3,4,5] ?_;refine zr ⟨[],[2,3],[],[],[]⟩ fun _ _ Z=>?_;simp;and_intros<;>(try omega);apply Z;apply aC;apply aH;obtain ⟨r1, r2⟩ := q7 (by omega);subst r1; subst r2;simp [aK]
       ·try simp at c11
        apply aG;apply aB;refine zk [2,3,4,5] ?_;refine zr ⟨[],[2,3],[],[],[]⟩ fun _ _ Z=>?_;refine aA 8 fun _ Y=>?_;simp;and_intros<;>(try omega);apply Y;simp only [List.drop];refine aA 4 fun _ Y=>?_;simp;and_intros<;>(try omega);apply Y;simp only [List.drop];refine aD fun _ Y=>?_;simp;refine bY (Zb x (o.kind - 6) o.a o.name o.value o.c _ hx s1 (hsa _) (hss _)) ?_;rw [q8 (by omega) (by omega)];apply Y;simp;and_intros<;>(try omega);apply Z;apply aC;simp [aK]
end Go.Proofs.YtpfmpeaekgdgnaaGreat

