import Derived.Test.YtpfmpeaekgdgnaaGreatArTree
namespace Go.Proofs.YtpfmpeaekgdgnaaGreat
open Go Go.Vm
set_option maxRecDepth 20000
set_option linter.all false
set_option maxHeartbeats 8000000
def pD : Option EN → D
 | some e => .ref e.o 0
 | none => .v (.pointer none)
theorem fW (e : EN) : pD (some e) = .ref e.o 0 := rfl
theorem gI : pD none = .v (.pointer none) := rfl
@[simp] theorem fC (s : Option EN) : (pD s).plain = true := by cases s <;> rfl
@[simp] theorem fB (s : Option EN) : (pD s).strip = pD s := by cases s <;> rfl
@[simp] theorem aHp (s : Option EN) : (pD s).s2 = pD s := by cases s <;> rfl
@[simp] theorem aHw (s : Option EN) : (pD s).s1 = pD s := by cases s <;> rfl
def nx (d : DS) (id : Int) : Option EN := d.es.find? fun e => decide (e.n.ID = id)
theorem Ki {d : DS} {id : Int} {p : EN} (h : nx d id = some p) : p ∈ d.es ∧ p.n.ID = id := by
 unfold nx at h;exact ⟨List.mem_of_find?_eq_some h, by simpa using List.find?_some h⟩
theorem Kd {d : DS} {id : Int} (h : nx d id = none) : ∀ n ∈ d.l, n.ID ≠ id := by
 intro n hn e;obtain ⟨x, hx, rfl⟩ := List.mem_map.1 hn;unfold nx at h;rw [List.find?_eq_none] at h;exact h x hx (by simpa using e)
theorem Sg (d : DS) (id : Int) : Sn (d.es.map rZ) (.int .i64 id) (D.v (.pointer none)) (pD (nx d id)) false ∨ Sn (d.es.map rZ) (.int .i64 id) (D.v (.pointer none)) (pD (nx d id)) true := by
 cases h : nx d id with
 | none =>
  left;refine lK ?_ _;cases hl : dT (d.es.map EN.n) id with
  | false => rfl
  | true => obtain ⟨n, h1, h2⟩ := gK.1 hl; exact absurd h2 (Kd h n h1)
 | some p =>
  right;obtain ⟨h1, h2⟩ := Ki h;rw [← h2]; exact eI h1 _
theorem dK {d : DS} {e : EN} (he : e ∈ d.es) : e.n ∈ d.l := List.mem_map.2 ⟨e, he, rfl⟩
theorem Zv {d : DS} {rk : Int → Nat} (h : WT d.l rk) {e : EN} (he : e ∈ d.es) {b : Int} (hne : ¬ e.n.ID = b) : (∀ p, nx d e.n.parent = some p → p ∈ d.es ∧ (e.n.ID ∈ bW d.l rk b ↔ p.n.ID ∈ bW d.l rk b) ∧ rk e.n.ID < rk p.n.ID) ∧ (nx d e.n.parent = none → e.n.ID ∉ bW d.l rk b) := by
 constructor
 ·intro p hp;obtain ⟨h1, h2⟩ := Ki hp;have hpn := h.nn _ (dK h1);rcases h.par _ (dK he) with h3 | ⟨q, q1, q2, q3⟩
  ·omega
  ·have hqp : q = p.n := fP h.nd q1 (dK h1) (by rw [q2, h2]);subst hqp;refine ⟨h1, ⟨fun hb => ?_, fun hb => xO h q1 q3 hb⟩, h.dec _ q1 _ q3⟩;rcases nX h (dK he) hb with e1 | ⟨p', p1, p2, p3, p4⟩
   ·exact absurd e1 hne
   ·have := fP h.nd p1 q1 (by rw [p2, q2]);rw [← this]; exact p4
 ·intro hn hb;rcases nX h (dK he) hb with e1 | ⟨p', p1, p2, p3, p4⟩
  ·exact hne e1
  ·exact Kd hn p' p1 p2
def wiM (R : Nat) (rk : Int → Nat) : Option EN → Nat
 | none => 0
 | some e => R + 1 - rk e.n.ID
theorem Ku {d : DS} {rk : Int → Nat} {R : Nat} {id b : Int} (h : WT d.l rk) (hR : ∀ e ∈ d.es, rk e.n.ID ≤ R) {e : EN} (he : e ∈ d.es) (hne : ¬ e.n.ID = b) (hi : id ∈ bW d.l rk b ↔ e.n.ID ∈ bW d.l rk b) :
  ((∀ p, nx d e.n.parent = some p → p ∈ d.es ∧ (id ∈ bW d.l rk b ↔ p.n.ID ∈ bW d.l rk b)) ∧ (nx d e.n.parent = none → id ∉ bW d.l rk b)) ∧ wiM R rk (nx d e.n.parent) < wiM R rk (some e) := by
 obtain ⟨h1, h2⟩ := Zv h he hne;refine ⟨⟨fun p hp => ?_, fun hn hb => h2 hn (hi.1 hb)⟩, ?_⟩
 ·obtain ⟨a, b, c⟩ := h1 p hp; exact ⟨a, hi.trans b⟩
 ·have := hR e he;cases hp : nx d e.n.parent with
  | none => simp only [wiM]; omega
  | some p =>
   obtain ⟨a, b, c⟩ := h1 p hp;have := hR p a;simp only [wiM]; omega
theorem uT (l : List Int) (i : Int) : (l.any fun k => decide (k = i)) = decide (i ∈ l) := by
 rw [Bool.eq_iff_iff, List.any_eq_true, decide_eq_true_eq];exact ⟨fun ⟨x, h1, h2⟩ => by rw [← of_decide_eq_true h2]; exact h1, fun h => ⟨i, h, by simp⟩⟩
theorem aB3 (m M R : Nat) (d : DS) (rk : Int → Nat) (e0 f : EN) (σ : List (List D)) (ho : DO m M d σ) (hwt : WT d.l rk) (hR : ∀ e ∈ d.es, rk e.n.ID ≤ R) (he0 : e0 ∈ d.es) (hf : f ∈ d.es) : Ct Tryz.prog 15 [.ref m 0, D.int e0.n.ID, D.int f.n.ID] σ (fun r σ' => r = .bool (decide (e0.n.ID ∈ bW d.l rk f.n.ID)) ∧ σ' = σ) := by
 refine zf (rs:=[.tmp 6]) Tryz.func15 Tryz.ntmps15 Tryz.results15 ?_;simp only [aN];have hq := ho.hm;have hnn := ho.hn;refine aY fun _ _ Z=>?_;simp (disch:=omega)[hq,fW,gI,fC,fB,hnn];and_intros<;>(try omega)
 all_goals first | (generalize nx d e.n.parent = s9; cases s9 <;> rfl) | skip
 apply Z;apply aE;refine aY fun _ _ Z=>?_;refine aA 6 fun _ Y=>?_;simp (disch:=omega)[hq,fW,gI,fC,fB,hnn];refine ⟨m, 2, d.ck, _, .ref f.o 0, ⟨⟨_, hq, rfl⟩, gU _, .inr (eI hf _)⟩, ?_⟩;and_intros<;>(try omega)
 all_goals first | (generalize nx d e.n.parent = s9; cases s9 <;> rfl) | skip
 apply Y;simp only [List.drop];simp (disch:=omega)[hq,fW,gI,fC,fB,hnn];and_intros<;>(try omega)
 all_goals first | (generalize nx d e.n.parent = s9; cases s9 <;> rfl) | skip
 apply Z;refine zi ?_;refine ⟨fun c1=>?_,fun c1=>?_⟩
 ·simp at c1
 ·try simp at c1
  apply aG;apply aB;apply aE;refine aY fun _ _ Z=>?_;refine aA 6 fun _ Y=>?_;simp (disch:=omega)[hq,fW,gI,fC,fB,hnn];refine ⟨m, 2, d.ck, _, .ref e0.o 0, ⟨⟨_, hq, rfl⟩, gU _, .inr (eI he0 _)⟩, ?_⟩;and_intros<;>(try omega)
  all_goals first | (generalize nx d e.n.parent = s9; cases s9 <;> rfl) | skip
  apply Y;simp only [List.drop];simp (disch:=omega)[hq,fW,gI,fC,fB,hnn];and_intros<;>(try omega)
  all_goals first | (generalize nx d e.n.parent = s9; cases s9 <;> rfl) | skip
  apply Z;apply aM;refine zk [0,2,6,7] ?_;refine bV (fun (s : Option EN) => [(7, .d (pD s))]) [6, 7, 21, 22, 23, 24, 25, 26, 27, 28, 29, 30, 31, 32, 33, 34, 35, 36, 37] (fun (s : Option EN) => (∀ e, s = some e → e ∈ d.es ∧ (e0.n.ID ∈ bW d.l rk f.n.ID ↔ e.n.ID ∈ bW d.l rk f.n.ID)) ∧ (s = none → e0.n.ID ∉ bW d.l rk f.n.ID)) (fun (s : Option EN) => wiM R rk s) (some e0) (by simp <;> rfl) ?_ ?_ ?_
  ·simp [fW]
  ·exact ⟨fun e h => by cases h; exact ⟨he0, Iff.rfl⟩, fun h => by cases h⟩
  rintro s ⟨hs1, hs2⟩;simp only [List.cons_append, List.nil_append];obtain ⟨e, rfl⟩ | rfl : (∃ e, s = some e) ∨ s = none := by cases s <;> simp
  ·try simp only []
   obtain ⟨he, hi⟩ := hs1 e rfl;apply aE;refine aY fun _ _ Z=>?_;simp (disch:=omega)[hq,fW,gI,fC,fB,hnn];and_intros<;>(try omega)
   all_goals first | (generalize nx d e.n.parent = s9; cases s9 <;> rfl) | skip
   apply Z;refine bQ (t := true) (by simp) (fun _ => ?_) (fun h => by cases h);apply aG;apply aB;apply aE;apply aM;refine aY fun _ _ Z=>?_;simp (disch:=omega)[hq,fW,gI,fC,fB,hnn];and_intros<;>(try omega)
   all_goals first | (generalize nx d e.n.parent = s9; cases s9 <;> rfl) | skip
   apply Z;refine zi ?_;refine ⟨fun c2=>?_,fun c2=>?_⟩
   ·try simp at c2
    refine aY fun _ _ Z=>?_;simp (disch:=omega)[hq,fW,gI,fC,fB,hnn];and_intros<;>(try omega)
    all_goals first | (generalize nx d e.n.parent = s9; cases s9 <;> rfl) | skip
    apply Z;apply aC;apply aR;apply aH;apply eM;apply aR;apply aH;simp [aK];rw [hi, c2]; exact jN hwt.Dec _
   ·try simp at c2
    apply aG;apply aQ;apply aB;refine ze ⟨[],[],[],[],[]⟩ [.op {},.op {},.op {},.op {rO:=true},.op {},.op {},.op {},.op {rO:=true},.op {rO:=true},.op {}] fun all hall _ Z=>?_;refine aP 8 (by simp) fun _ Y=>?_;simp (disch:=omega)[hq,fW,gI,fC,fB,hnn];and_intros<;>(try omega)
    all_goals first | (generalize nx d e.n.parent = s9; cases s9 <;> rfl) | skip
    apply Y;simp only [List.drop];refine aP 1 (by simp) fun _ Y=>?_;simp (disch:=omega)[hq,fW,gI,fC,fB,hnn];refine ⟨m, 2, d.ck, _, pD (nx d e.n.parent), ⟨⟨_, hq, rfl⟩, gU _, Sg d _⟩, ?_⟩;and_intros<;>(try omega)
    all_goals first | (generalize nx d e.n.parent = s9; cases s9 <;> rfl) | skip
    apply Y;simp only [List.drop];simp (disch:=omega)[hq,fW,gI,fC,fB,hnn];and_intros<;>(try omega)
    all_goals first | (generalize nx d e.n.parent = s9; cases s9 <;> rfl) | skip
    apply Z;refine bB (nx d e.n.parent) ?_ ?_ (aV rfl ?_ (by simp) (by simp))
    ·exact (Ku hwt hR he c2 hi).1
    ·exact (Ku hwt hR he c2 hi).2
    ·simp (disch:=omega)[hq,fW,gI,fC,fB,hnn]
  ·try simp only []
   have hno := hs2 rfl;apply aE;refine aY fun _ _ Z=>?_;simp (disch:=omega)[hq,fW,gI,fC,fB,hnn];and_intros<;>(try omega)
   all_goals first | (generalize nx d e.n.parent = s9; cases s9 <;> rfl) | skip
   apply Z;refine bQ (t := false) (by simp) (fun h => by cases h) (fun _ => ?_);apply bO;apply bM;apply bN;apply bG;apply aB;refine aY fun _ _ Z=>?_;simp (disch:=omega)[hq,fW,gI,fC,fB,hnn];and_intros<;>(try omega)
   all_goals first | (generalize nx d e.n.parent = s9; cases s9 <;> rfl) | skip
   apply Z;apply aC;simp [aK];exact hno
theorem aBu (m M : Nat) (d : DS) (id f : Int) (σ : List (List D)) (ho : DO m M d σ) (hno : dT d.l f = false) : Ct Tryz.prog 15 [.ref m 0, D.int id, D.int f] σ (fun r σ' => r = .bool false ∧ σ' = σ) := by
 refine zf (rs:=[.tmp 6]) Tryz.func15 Tryz.ntmps15 Tryz.results15 ?_;simp only [aN];have hq := ho.hm;refine aY fun _ _ Z=>?_;simp[hq];and_intros<;>(try omega);apply Z;apply aE;refine aY fun _ _ Z=>?_;refine aA 6 fun _ Y=>?_;simp[hq];refine ⟨m, 2, d.ck, _, .v (.pointer none), ⟨⟨_, hq, rfl⟩, gU _, .inl (lK hno _)⟩, ?_⟩;and_intros<;>(try omega);apply Y;simp only [List.drop];simp[hq];and_intros<;>(try omega);apply Z;refine zi ?_;refine ⟨fun c1=>?_,fun c1=>?_⟩
 ·try simp at c1
  refine aY fun _ _ Z=>?_;simp[hq];and_intros<;>(try omega);apply Z;apply aC;apply aH;simp [aK]
 ·simp at c1
theorem aB2 (m M : Nat) (d : DS) (id : Int) (f : EN) (σ : List (List D)) (ho : DO m M d σ) (hf : f ∈ d.es) (hno : dT d.l id = false) : Ct Tryz.prog 15 [.ref m 0, D.int id, D.int f.n.ID] σ (fun r σ' => r = .bool false ∧ σ' = σ) := by
 refine zf (rs:=[.tmp 6]) Tryz.func15 Tryz.ntmps15 Tryz.results15 ?_;simp only [aN];have hq := ho.hm;refine aY fun _ _ Z=>?_;simp[hq];and_intros<;>(try omega);apply Z;apply aE;refine aY fun _ _ Z=>?_;refine aA 6 fun _ Y=>?_;simp[hq];refine ⟨m, 2, d.ck, _, .ref f.o 0, ⟨⟨_, hq, rfl⟩, gU _, .inr (eI hf _)⟩, ?_⟩;and_intros<;>(try omega);apply Y;simp only [List.drop];simp[hq];and_intros<;>(try omega);apply Z;refine zi ?_;refine ⟨fun c1=>?_,fun c1=>?_⟩
 ·simp at c1
 ·try simp at c1
  apply aG;apply aB;apply aE;refine aY fun _ _ Z=>?_;refine aA 6 fun _ Y=>?_;simp[hq];refine ⟨m, 2, d.ck, _, .v (.pointer none), ⟨⟨_, hq, rfl⟩, gU _, .inl (lK hno _)⟩, ?_⟩;and_intros<;>(try omega);apply Y;simp only [List.drop];simp[hq];and_intros<;>(try omega);apply Z;apply aM;refine zk [0,2,6,7] ?_;refine bV (fun (s : Unit) => [(7, .d (.v (.pointer none)))]) [6, 7, 21, 22, 23, 24, 25, 26, 27, 28, 29, 30, 31, 32, 33, 34, 35, 36, 37] (fun (s : Unit) => True) (fun (s : Unit) => 0) (()) (by simp <;> rfl) ?_ ?_ ?_
  ·simp
  ·trivial
  rintro s _;simp only [List.cons_append, List.nil_append];apply aE;refine aY fun _ _ Z=>?_;simp[hq];and_intros<;>(try omega);apply Z;refine zi ?_;refine ⟨fun c2=>?_,fun c2=>?_⟩
  ·simp at c2
  ·try simp at c2
   apply bO;apply bM;apply bN;apply bG;apply aB;refine aY fun _ _ Z=>?_;simp[hq];and_intros<;>(try omega);apply Z;apply aC;simp [aK]
theorem Wr (l : List ND) (rk : Int → Nat) : ∃ R, ∀ n ∈ l, rk n.ID ≤ R := by
 induction l with
 | nil => exact ⟨0, fun n h => by cases h⟩
 | cons a l ih =>
  obtain ⟨R, hR⟩ := ih;refine ⟨max R (rk a.ID), fun n h => ?_⟩;rcases List.mem_cons.1 h with rfl | h
  ·omega
  ·have := hR n h; omega
theorem Nw (m M : Nat) (d : DS) (rk : Int → Nat) (id f : Int) (σ : List (List D)) (ho : DO m M d σ) (hwt : WT d.l rk) : Ct Tryz.prog 15 [.ref m 0, D.int id, D.int f] σ (fun r σ' => r = .bool (jB d.l (bW d.l rk) id f) ∧ σ' = σ) := by
 unfold jB;cases hf : dT d.l f with
 | false => simp only [Bool.and_false, Bool.false_and]; exact aBu m M d id f σ ho hf
 | true =>
  obtain ⟨ef, hef, rfl, _⟩ := jL hf;cases hi : dT d.l id with
  | false => simp only [Bool.false_and]; exact aB2 m M d id ef σ ho hef hi
  | true =>
   obtain ⟨ei, hei, rfl, _⟩ := jL hi;obtain ⟨R, hR⟩ := Wr d.l rk;rw [uT];simp only [Bool.true_and];exact aB3 m M R d rk ei ef σ ho hwt (fun e he => hR _ (dK he)) hei hef
end Go.Proofs.YtpfmpeaekgdgnaaGreat

