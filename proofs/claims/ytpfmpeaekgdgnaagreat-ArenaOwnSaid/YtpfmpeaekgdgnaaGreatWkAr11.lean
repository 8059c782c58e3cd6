import Derived.Test.YtpfmpeaekgdgnaaGreatArTree
namespace Go.Proofs.YtpfmpeaekgdgnaaGreat
open Go Go.Vm
set_option maxRecDepth 20000
set_option linter.all false
set_option maxHeartbeats 8000000
def pD : Option EN → D
 | some e => .ref e.o 0
 | none => .v (.pointer none)
theorem fS (e : EN) : pD (some e) = .ref e.o 0 := rfl
theorem gH : pD none = .v (.pointer none) := rfl
@[simp] theorem eZ (s : Option EN) : (pD s).plain = true := by cases s <;> rfl
@[simp] theorem eY (s : Option EN) : (pD s).strip = pD s := by cases s <;> rfl
@[simp] theorem aF1 (s : Option EN) : (pD s).s2 = pD s := by cases s <;> rfl
@[simp] theorem aGs (s : Option EN) : (pD s).s1 = pD s := by cases s <;> rfl
def nx (d : DS) (id : Int) : Option EN := d.es.find? fun e => decide (e.n.ID = id)
theorem Iw {d : DS} {id : Int} {p : EN} (h : nx d id = some p) : p ∈ d.es ∧ p.n.ID = id := by
 unfold nx at h;exact ⟨List.mem_of_find?_eq_some h, by simpa using List.find?_some h⟩
theorem Jo {d : DS} {id : Int} (h : nx d id = none) : ∀ n ∈ d.l, n.ID ≠ id := by
 intro n hn e;obtain ⟨x, hx, rfl⟩ := List.mem_map.1 hn;unfold nx at h;rw [List.find?_eq_none] at h;exact h x hx (by simpa using e)
theorem Sn (d : DS) (id : Int) : Rf (d.es.map Bg) (.int .i64 id) (D.v (.pointer none)) (pD (nx d id)) false ∨ Rf (d.es.map Bg) (.int .i64 id) (D.v (.pointer none)) (pD (nx d id)) true := by
 cases h : nx d id with
 | none =>
  left;refine kP ?_ _;cases hl : dQ (d.es.map EN.n) id with
  | false => rfl
  | true => obtain ⟨n, h1, h2⟩ := gJ.1 hl; exact absurd h2 (Jo h n h1)
 | some p =>
  right;obtain ⟨h1, h2⟩ := Iw h;rw [← h2]; exact dP h1 _
theorem dJ {d : DS} {e : EN} (he : e ∈ d.es) : e.n ∈ d.l := List.mem_map.2 ⟨e, he, rfl⟩
theorem Xv {d : DS} {rk : Int → Nat} (h : WT d.l rk) {e : EN} (he : e ∈ d.es) {b : Int} (hne : ¬ e.n.ID = b) : (∀ p, nx d e.n.parent = some p → p ∈ d.es ∧ (e.n.ID ∈ bY d.l rk b ↔ p.n.ID ∈ bY d.l rk b) ∧ rk e.n.ID < rk p.n.ID) ∧ (nx d e.n.parent = none → e.n.ID ∉ bY d.l rk b) := by
 constructor
 ·intro p hp;obtain ⟨h1, h2⟩ := Iw hp;have hpn := h.nn _ (dJ h1);rcases h.par _ (dJ he) with h3 | ⟨q, q1, q2, q3⟩
  ·omega
  ·have hqp : q = p.n := fN h.nd q1 (dJ h1) (by rw [q2, h2]);subst hqp;refine ⟨h1, ⟨fun hb => ?_, fun hb => uP h q1 q3 hb⟩, h.dec _ q1 _ q3⟩;rcases mY h (dJ he) hb with e1 | ⟨p', p1, p2, p3, p4⟩
   ·exact absurd e1 hne
   ·have := fN h.nd p1 q1 (by rw [p2, q2]);rw [← this]; exact p4
 ·intro hn hb;rcases mY h (dJ he) hb with e1 | ⟨p', p1, p2, p3, p4⟩
  ·exact hne e1
  ·exact Jo hn p' p1 p2
def wiM (R : Nat) (rk : Int → Nat) : Option EN → Nat
 | none => 0
 | some e => R + 1 - rk e.n.ID
theorem Ig {d : DS} {rk : Int → Nat} {R : Nat} {id b : Int} (h : WT d.l rk) (hR : ∀ e ∈ d.es, rk e.n.ID ≤ R) {e : EN} (he : e ∈ d.es) (hne : ¬ e.n.ID = b) (hi : id ∈ bY d.l rk b ↔ e.n.ID ∈ bY d.l rk b) :
  ((∀ p, nx d e.n.parent = some p → p ∈ d.es ∧ (id ∈ bY d.l rk b ↔ p.n.ID ∈ bY d.l rk b)) ∧ (nx d e.n.parent = none → id ∉ bY d.l rk b)) ∧ wiM R rk (nx d e.n.parent) < wiM R rk (some e) := by
 obtain ⟨h1, h2⟩ := Xv h he hne;refine ⟨⟨fun p hp => ?_, fun hn hb => h2 hn (hi.1 hb)⟩, ?_⟩
 ·obtain ⟨a, b, c⟩ := h1 p hp; exact ⟨a, hi.trans b⟩
 ·have := hR e he;cases hp : nx d e.n.parent with
  | none => simp only [wiM]; omega
  | some p =>
   obtain ⟨a, b, c⟩ := h1 p hp;have := hR p a;simp only [wiM]; omega
theorem tZ (l : List Int) (i : Int) : (l.any fun k => decide (k = i)) = decide (i ∈ l) := by
 rw [Bool.eq_iff_iff, List.any_eq_true, decide_eq_true_eq];exact ⟨fun ⟨x, h1, h2⟩ => by rw [← of_decide_eq_true h2]; exact h1, fun h => ⟨i, h, by simp⟩⟩
theorem aBn (m M R : Nat) (d : DS) (rk : Int → Nat) (e0 f : EN) (σ : List (List D)) (ho : DO m M d σ) (hwt : WT d.l rk) (hR : ∀ e ∈ d.es, rk e.n.ID ≤ R) (he0 : e0 ∈ d.es) (hf : f ∈ d.es) : Ct Tryz.prog 15 [.ref m 0, D.int e0.n.ID, D.int f.n.ID] σ (fun r σ' => r = .bool (decide (e0.n.ID ∈ bY d.l rk f.n.ID)) ∧ σ' = σ) := by
 refine zf (rs:=[.tmp 6]) Tryz.func15 Tryz.ntmps15 Tryz.results15 ?_;simp only [aQ];have hq := ho.hm;have hnn := ho.hn;refine bC fun _ _ Z=>?_;simp (disch:=omega)[hq,fS,gH,eZ,eY,hnn];and_intros<;>(try omega)
 all_goals first | (generalize nx d e.n.parent = s9; cases s9 <;> rfl) | skip
 apply Z;apply aD;refine bC fun _ _ Z=>?_;refine aA 6 fun _ Y=>?_;simp (disch:=omega)[hq,fS,gH,eZ,eY,hnn];refine ⟨m, 2, d.ck, _, .ref f.o 0, ⟨⟨_, hq, rfl⟩, fZ _, .inr (dP hf _)⟩, ?_⟩;and_intros<;>(try omega)
 all_goals first | (generalize nx d e.n.parent = s9; cases s9 <;> rfl) | skip
 apply Y;simp only [List.drop];simp (disch:=omega)[hq,fS,gH,eZ,eY,hnn];and_intros<;>(try omega)
 all_goals first | (generalize nx d e.n.parent = s9; cases s9 <;> rfl) | skip
 apply Z;refine zi ?_;refine ⟨fun c1=>?_,fun c1=>?_⟩
 ·simp at c1
 ·try simp at c1
  apply aH;apply aB;apply aD;refine bC fun _ _ Z=>?_;refine aA 6 fun _ Y=>?_;simp (disch:=omega)[hq,fS,gH,eZ,eY,hnn];refine ⟨m, 2, d.ck, _, .ref e0.o 0, ⟨⟨_, hq, rfl⟩, fZ _, .inr (dP he0 _)⟩, ?_⟩;and_intros<;>(try omega)
  all_goals first | (generalize nx d e.n.parent = s9; cases s9 <;> rfl) | skip
  apply Y;simp only [List.drop];simp (disch:=omega)[hq,fS,gH,eZ,eY,hnn];and_intros<;>(try omega)
  all_goals first | (generalize nx d e.n.parent = s9; cases s9 <;> rfl) | skip
  apply Z;apply aK;refine zk [0,2,6,7] ?_;refine bQ (fun (s : Option EN) => [(7, .d (pD s))]) [6, 7, 21, 22, 23, 24, 25, 26, 27, 28, 29, 30, 31, 32, 33, 34, 35, 36, 37] (fun (s : Option EN) => (∀ e, s = some e → e ∈ d.es ∧ (e0.n.ID ∈ bY d.l rk f.n.ID ↔ e.n.ID ∈ bY d.l rk f.n.ID)) ∧ (s = none → e0.n.ID ∉ bY d.l rk f.n.ID)) (fun (s : Option EN) => wiM R rk s) (some e0) (by simp <;> rfl) ?_ ?_ ?_
  ·simp [fS]
  ·exact ⟨fun e h => by cases h; exact ⟨he0, Iff.rfl⟩, fun h => by cases h⟩
  rintro s ⟨hs1, hs2⟩;simp only [List.cons_append, List.nil_append];obtain ⟨e, rfl⟩ | rfl : (∃ e, s = some e) ∨ s = none := by cases s <;> simp
  ·try simp only []
   obtain ⟨he, hi⟩ := hs1 e rfl;apply aD;refine bC fun _ _ Z=>?_;simp (disch:=omega)[hq,fS,gH,eZ,eY,hnn];and_intros<;>(try omega)
   all_goals first | (generalize nx d e.n.parent = s9; cases s9 <;> rfl) | skip
   apply Z;refine bR (t := true) (by simp) (fun _ => ?_) (fun h => by cases h);apply aH;apply aB;apply aD;apply aK;refine bC fun _ _ Z=>?_;simp (disch:=omega)[hq,fS,gH,eZ,eY,hnn];and_intros<;>(try omega)
   all_goals first | (generalize nx d e.n.parent = s9; cases s9 <;> rfl) | skip
   apply Z;refine zi ?_;refine ⟨fun c2=>?_,fun c2=>?_⟩
   ·try simp at c2
    refine bC fun _ _ Z=>?_;simp (disch:=omega)[hq,fS,gH,eZ,eY,hnn];and_intros<;>(try omega)
    all_goals first | (generalize nx d e.n.parent = s9; cases s9 <;> rfl) | skip
    apply Z;apply aE;apply aV;apply aL;apply eE;apply aV;apply aL;simp [aN];rw [hi, c2]; exact jE hwt.Dec _
   ·try simp at c2
    apply aH;apply aP;apply aB;refine ze ⟨[],[],[],[],[]⟩ [.op {},.op {},.op {},.op {rO:=true},.op {},.op {},.op {},.op {rO:=true},.op {rO:=true},.op {}] fun all hall _ Z=>?_;refine aR 8 (by simp) fun _ Y=>?_;simp (disch:=omega)[hq,fS,gH,eZ,eY,hnn];and_intros<;>(try omega)
    all_goals first | (generalize nx d e.n.parent = s9; cases s9 <;> rfl) | skip
    apply Y;simp only [List.drop];refine aR 1 (by simp) fun _ Y=>?_;simp (disch:=omega)[hq,fS,gH,eZ,eY,hnn];refine ⟨m, 2, d.ck, _, pD (nx d e.n.parent), ⟨⟨_, hq, rfl⟩, fZ _, Sn d _⟩, ?_⟩;and_intros<;>(try omega)
    all_goals first | (generalize nx d e.n.parent = s9; cases s9 <;> rfl) | skip
    apply Y;simp only [List.drop];simp (disch:=omega)[hq,fS,gH,eZ,eY,hnn];and_intros<;>(try omega)
    all_goals first | (generalize nx d e.n.parent = s9; cases s9 <;> rfl) | skip
    apply Z;refine bA (nx d e.n.parent) ?_ ?_ (aW rfl ?_ (by simp) (by simp))
    ·exact (Ig hwt hR he c2 hi).1
    ·exact (Ig hwt hR he c2 hi).2
    ·simp (disch:=omega)[hq,fS,gH,eZ,eY,hnn]
  ·try simp only []
   have hno := hs2 rfl;apply aD;refine bC fun _ _ Z=>?_;simp (disch:=omega)[hq,fS,gH,eZ,eY,hnn];and_intros<;>(try omega)
   all_goals first | (generalize nx d e.n.parent = s9; cases s9 <;> rfl) | skip
   apply Z;refine bR (t := false) (by simp) (fun h => by cases h) (fun _ => ?_);apply bK;apply bJ;apply bL;apply aY;apply aB;refine bC fun _ _ Z=>?_;simp (disch:=omega)[hq,fS,gH,eZ,eY,hnn];and_intros<;>(try omega)
   all_goals first | (generalize nx d e.n.parent = s9; cases s9 <;> rfl) | skip
   apply Z;apply aE;simp [aN];exact hno
theorem aAw (m M : Nat) (d : DS) (id f : Int) (σ : List (List D)) (ho : DO m M d σ) (hno : dQ d.l f = false) : Ct Tryz.prog 15 [.ref m 0, D.int id, D.int f] σ (fun r σ' => r = .bool false ∧ σ' = σ) := by
 refine zf (rs:=[.tmp 6]) Tryz.func15 Tryz.ntmps15 Tryz.results15 ?_;simp only [aQ];have hq := ho.hm;refine bC fun _ _ Z=>?_;simp[hq];and_intros<;>(try omega);apply Z;apply aD;refine bC fun _ _ Z=>?_;refine aA 6 fun _ Y=>?_;simp[hq];refine ⟨m, 2, d.ck, _, .v (.pointer none), ⟨⟨_, hq, rfl⟩, fZ _, .inl (kP hno _)⟩, ?_⟩;and_intros<;>(try omega);apply Y;simp only [List.drop];simp[hq];and_intros<;>(try omega);apply Z;refine zi ?_;refine ⟨fun c1=>?_,fun c1=>?_⟩
 ·try simp at c1
  refine bC fun _ _ Z=>?_;simp[hq];and_intros<;>(try omega);apply Z;apply aE;apply aL;simp [aN]
 ·simp at c1
theorem aBg (m M : Nat) (d : DS) (id : Int) (f : EN) (σ : List (List D)) (ho : DO m M d σ) (hf : f ∈ d.es) (hno : dQ d.l id = false) : Ct Tryz.prog 15 [.ref m 0, D.int id, D.int f.n.ID] σ (fun r σ' => r = .bool false ∧ σ' = σ) := by
 refine zf (rs:=[.tmp 6]) Tryz.func15 Tryz.ntmps15 Tryz.results15 ?_;simp only [aQ];have hq := ho.hm;refine bC fun _ _ Z=>?_;simp[hq];and_intros<;>(try omega);apply Z;apply aD;refine bC fun _ _ Z=>?_;refine aA 6 fun _ Y=>?_;simp[hq];refine ⟨m, 2, d.ck, _, .ref f.o 0, ⟨⟨_, hq, rfl⟩, fZ _, .inr (dP hf _)⟩, ?_⟩;and_intros<;>(try omega);apply Y;simp only [List.drop];simp[hq];and_intros<;>(try omega);apply Z;refine zi ?_;refine ⟨fun c1=>?_,fun c1=>?_⟩
 ·simp at c1
 ·try simp at c1
  apply aH;apply aB;apply aD;refine bC fun _ _ Z=>?_;refine aA 6 fun _ Y=>?_;simp[hq];refine ⟨m, 2, d.ck, _, .v (.pointer none), ⟨⟨_, hq, rfl⟩, fZ _, .inl (kP hno _)⟩, ?_⟩;and_intros<;>(try omega);apply Y;simp only [List.drop];simp[hq];and_intros<;>(try omega);apply Z;apply aK;refine zk [0,2,6,7] ?_;refine bQ (fun (s : Unit) => [(7, .d (.v (.pointer none)))]) [6, 7, 21, 22, 23, 24, 25, 26, 27, 28, 29, 30, 31, 32, 33, 34, 35, 36, 37] (fun (s : Unit) => True) (fun (s : Unit) => 0) (()) (by simp <;> rfl) ?_ ?_ ?_
  ·simp
  ·trivial
  rintro s _;simp only [List.cons_append, List.nil_append];apply aD;refine bC fun _ _ Z=>?_;simp[hq];and_intros<;>(try omega);apply Z;refine zi ?_;refine ⟨fun c2=>?_,fun c2=>?_⟩
  ·simp at c2
  ·try simp at c2
   apply bK;apply bJ;apply bL;apply aY;apply aB;refine bC fun _ _ Z=>?_;simp[hq];and_intros<;>(try omega);apply Z;apply aE;simp [aN]
theorem Sg (l : List ND) (rk : Int → Nat) : ∃ R, ∀ n ∈ l, rk n.ID ≤ R := by
 induction l with
 | nil => exact ⟨0, fun n h => by cases h⟩
 | cons a l ih =>
  obtain ⟨R, hR⟩ := ih;refine ⟨max R (rk a.ID), fun n h => ?_⟩;rcases List.mem_cons.1 h with rfl | h
  ·omega
  ·have := hR n h; omega
theorem Ky (m M : Nat) (d : DS) (rk : Int → Nat) (id f : Int) (σ : List (List D)) (ho : DO m M d σ) (hwt : WT d.l rk) : Ct Tryz.prog 15 [.ref m 0, D.int id, D.int f] σ (fun r σ' => r = .bool (iU d.l (bY d.l rk) id f) ∧ σ' = σ) := by
 unfold iU;cases hf : dQ d.l f with
 | false => simp only [Bool.and_false, Bool.false_and]; exact aAw m M d id f σ ho hf
 | true =>
  obtain ⟨ef, hef, rfl, _⟩ := hP hf;cases hi : dQ d.l id with
  | false => simp only [Bool.false_and]; exact aBg m M d id ef σ ho hef hi
  | true =>
   obtain ⟨ei, hei, rfl, _⟩ := hP hi;obtain ⟨R, hR⟩ := Sg d.l rk;rw [tZ];simp only [Bool.true_and];exact aBn m M R d rk ei ef σ ho hwt (fun e he => hR _ (dJ he)) hei hef
end Go.Proofs.YtpfmpeaekgdgnaaGreat

