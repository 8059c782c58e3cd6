import Derived.Test.YtpfmpeaekgdgnaaGreatWkAr11
namespace Go.Proofs.YtpfmpeaekgdgnaaGreat
open Go Go.Vm
set_option maxRecDepth 20000
set_option linter.all false
set_option maxHeartbeats 8000000
def newN (id kind : Int) (tag text : ByteArray) : ND := ⟨id, kind, tag, text, [], [], [], -1, []⟩
def addD (d : DS) (n : ND) (o : Nat) : DS := ⟨d.most, d.next + 1, d.ck + 1, d.es ++ [⟨n, o, d.ck⟩]⟩
theorem kvE_add {d : DS} {id : Int} (h : isL d.l id = false) (x : D) : mSet (d.es.map kvE) d.ck (.int .i64 id) x (d.es.map kvE ++ [(.int .i64 id, d.ck, x)]) (d.ck + 1) := by
 refine .inr ⟨fun kv hkv => ?_, rfl, rfl⟩
 obtain ⟨e, he, rfl⟩ := List.mem_map.1 hkv
 intro h2
 simp only [kvE, Value.int.injEq, true_and] at h2
 exact isL_false h e.n (mem_l he) h2
theorem dadd0_fn (m M : Nat) (d : DS) (kind : Int) (tag text : ByteArray) (σ : List (List D)) (ho : DO m M d σ) (hl : d.es.length ≤ 100000) (hmo : 0 ≤ d.most ∧ d.most ≤ 100000) (hr : d.most ≤ (d.es.length : Int) - 1) : Ct Tryz.prog 81 [.ref m 0, .agg [D.int 0, D.int kind, D.str tag, D.str text, .sl true [], .sl true [], .sl true [], D.int 0, .sl true []]] σ (fun r σ' => r = .tup [D.int 0, D.int 8] ∧ ∃ J, σ' = σ ++ J) := by
 refine zf (rs:=[.tmp 4,.tmp 5]) Tryz.func81 Tryz.ntmps81 Tryz.results81 ?_
 simp only [argEnv]
 have hq := ho.hm
 refine zr ⟨[],[],[3],[],[]⟩ fun _ _ Z=>?_
 simp[hq,og_get hq,og_app hq,og_app0 hq,og_set hq,og_set0 hq,og_last,og_setlast,og_last0,og_setlast0,og_last1,og_setlast1,og_last2,og_setlast2]
 and_intros<;>try omega
 apply Z
 apply awp_seq
 refine zr ⟨[],[],[3],[],[]⟩ fun _ _ Z=>?_
 refine vcL_split 1 fun _ Y=>?_
 simp[hq,og_get hq,og_app hq,og_app0 hq,og_set hq,og_set0 hq,og_last,og_setlast,og_last0,og_setlast0,og_last1,og_setlast1,og_last2,og_setlast2]
 and_intros<;>try omega
 apply Y
 simp only [List.drop]
 refine vcL_step fun _ Y=>?_
 simp[hq,og_get hq,og_app hq,og_app0 hq,og_set hq,og_set0 hq,og_last,og_setlast,og_last0,og_setlast0,og_last1,og_setlast1,og_last2,og_setlast2]
 refine zce (droom_fn m M d _ (ho.app _) hl hmo) ?_
 apply Y
 simp[hq,og_get hq,og_app hq,og_app0 hq,og_set hq,og_set0 hq,og_last,og_setlast,og_last0,og_setlast0,og_last1,og_setlast1,og_last2,og_setlast2]
 and_intros<;>try omega
 apply Z
 refine zi ?_
 refine ⟨fun c1=>?_,fun c1=>?_⟩
 ·try simp at c1
  refine zr ⟨[],[],[3],[],[]⟩ fun _ _ Z=>?_
  simp[hq,og_get hq,og_app hq,og_app0 hq,og_set hq,og_set0 hq,og_last,og_setlast,og_last0,og_setlast0,og_last1,og_setlast1,og_last2,og_setlast2]
  and_intros<;>try omega
  apply Z
  apply awp_ret
  apply q_then_r
  simp [endQ]
 ·try simp at c1
  omega
theorem dadd1_fn (m M : Nat) (d : DS) (kind : Int) (tag text : ByteArray) (σ : List (List D)) (ho : DO m M d σ) (hl : d.es.length ≤ 100000) (hmo : 0 ≤ d.most ∧ d.most ≤ 100000) (hr : (d.es.length : Int) - 1 < d.most) (hn : 0 ≤ d.next ∧ d.next ≤ 1000000) (hno : isL d.l d.next = false) : Ct Tryz.prog 81 [.ref m 0, .agg [D.int 0, D.int kind, D.str tag, D.str text, .sl true [], .sl true [], .sl true [], D.int 0, .sl true []]] σ (fun r σ' => r = .tup [D.int d.next, D.int 0] ∧ σ' = σ.set m (dcel M (addD d (newN d.next kind tag text) σ.length)) ++ [ncel (newN d.next kind tag text)]) := by
 refine zf (rs:=[.tmp 4,.tmp 5]) Tryz.func81 Tryz.ntmps81 Tryz.results81 ?_
 simp only [argEnv]
 have hq := ho.hm
 refine zr ⟨[],[],[3],[],[]⟩ fun _ _ Z=>?_
 simp[hq,og_get hq,og_app hq,og_app0 hq,og_set hq,og_set0 hq,og_last,og_setlast,og_last0,og_setlast0,og_last1,og_setlast1,og_last2,og_setlast2]
 and_intros<;>try omega
 apply Z
 apply awp_seq
 refine zr ⟨[],[],[3],[],[]⟩ fun _ _ Z=>?_
 refine vcL_split 1 fun _ Y=>?_
 simp[hq,og_get hq,og_app hq,og_app0 hq,og_set hq,og_set0 hq,og_last,og_setlast,og_last0,og_setlast0,og_last1,og_setlast1,og_last2,og_setlast2]
 and_intros<;>try omega
 apply Y
 simp only [List.drop]
 refine vcL_step fun _ Y=>?_
 simp[hq,og_get hq,og_app hq,og_app0 hq,og_set hq,og_set0 hq,og_last,og_setlast,og_last0,og_setlast0,og_last1,og_setlast1,og_last2,og_setlast2]
 refine zce (droom_fn m M d _ (ho.app _) hl hmo) ?_
 apply Y
 simp[hq,og_get hq,og_app hq,og_app0 hq,og_set hq,og_set0 hq,og_last,og_setlast,og_last0,og_setlast0,og_last1,og_setlast1,og_last2,og_setlast2]
 and_intros<;>try omega
 apply Z
 refine zi ?_
 refine ⟨fun c1=>?_,fun c1=>?_⟩
 ·try simp at c1
  omega
 ·try simp at c1
  apply awp_skip
  apply q_then_n
  refine zr ⟨[],[],[3],[],[]⟩ fun _ _ Z=>?_
  simp[hq,og_get hq,og_app hq,og_app0 hq,og_set hq,og_set0 hq,og_last,og_setlast,og_last0,og_setlast0,og_last1,og_setlast1,og_last2,og_setlast2]
  and_intros<;>try omega
  apply Z
  refine zk [0,3,4,5] ?_
  refine zd ⟨[],[],[3],[],[]⟩ [.op {},.op {},.op {},.op {rO:=true},.op {},.op {rO:=true},.op {rO:=true,wO:=true}] fun all hall _ Z=>?_
  simp[hq,og_get hq,og_app hq,og_app0 hq,og_set hq,og_set0 hq,og_last,og_setlast,og_last0,og_setlast0,og_last1,og_setlast1,og_last2,og_setlast2]
  refine ⟨m, 2, d.ck, _, d.ck + 1, _, ⟨⟨_, og_app0 hq _, rfl⟩, keyI _, rfl, kvE_add hno _⟩, ?_⟩
  rw [putM_eq (og_app0 hq _)]
  and_intros<;>try omega
  apply Z
  refine zr ⟨[],[],[3],[],[]⟩ fun _ _ Z=>?_
  simp[hq,og_get hq,og_app hq,og_app0 hq,og_set hq,og_set0 hq,og_last,og_setlast,og_last0,og_setlast0,og_last1,og_setlast1,og_last2,og_setlast2]
  and_intros<;>try omega
  apply Z
  refine awp_toXO σ.length 8 1 (by simp [og_last, og_last0]; rfl) rfl ?_
  simp only [og_setlast, og_setlast0, List.set_cons_zero, List.set_cons_succ]
  refine awp_weakO σ.length (ncel (newN d.next kind tag text)) (by simp [og_last, og_last0]; rfl) (by simp [leC, newN, D.s1]) ?_
  simp only [og_setlast, og_setlast0]
  refine zk [3,4,5] ?_
  refine zr ⟨[],[],[3],[],[]⟩ fun _ _ Z=>?_
  simp[hq,og_get hq,og_app hq,og_app0 hq,og_set hq,og_set0 hq,og_last,og_setlast,og_last0,og_setlast0,og_last1,og_setlast1,og_last2,og_setlast2]
  and_intros<;>try omega
  apply Z
  apply awp_ret
  simp [endQ, kvE, addD, newN, dcel]
theorem daddF_fn (m M : Nat) (d : DS) (kind : Int) (tag text : ByteArray) (σ : List (List D)) (ho : DO m M d σ) (hl : d.es.length ≤ 100000) (hmo : 0 ≤ d.most ∧ d.most ≤ 100000) (hr : d.most ≤ (d.es.length : Int) - 1) : Ct Tryz.prog 81 [.ref m 0, .agg [D.int 0, D.int kind, D.str tag, D.str text, .sl true [], .sl true [], .sl true [], D.int 0, .sl true []]] σ (fun r σ' => r = .tup [D.int 0, D.int 8] ∧ σ' = σ) :=
 tripT (dadd0_fn m M d kind tag text σ ho hl hmo hr) fun r hr => by rw [hr]; exact sc_tup2 (Sc.v _) (Sc.v _)
theorem elem0_fn (m : Nat) (s : ByteArray) (σ : List (List D)) (hs : s.size ≤ 1000) (hnm : nameB s = false) : Ct Tryz.prog 40 [.ref m 0, D.str s] σ (fun r σ' => r = .tup [D.int 0, D.int 2] ∧ σ' = σ) := by
 refine zf (rs:=[.tmp 4,.tmp 5]) Tryz.func40 Tryz.ntmps40 Tryz.results40 ?_
 simp only [argEnv]
 refine zr ⟨[9,10],[],[],[],[]⟩ fun _ _ Z=>?_
 simp
 and_intros<;>try omega
 apply Z
 apply awp_seq
 refine zr ⟨[9,10],[],[],[],[]⟩ fun _ _ Z=>?_
 refine vcL_split 1 fun _ Y=>?_
 simp
 and_intros<;>try omega
 apply Y
 simp only [List.drop]
 refine vcL_step fun _ Y=>?_
 simp
 refine zce (wname_fn s _ (by omega)) ?_
 rw [hnm]
 apply Y
 simp
 and_intros<;>try omega
 apply Z
 refine zi ?_
 refine ⟨fun c1=>?_,fun c1=>?_⟩
 ·try simp at c1
  refine zr ⟨[9,10],[],[],[],[]⟩ fun _ _ Z=>?_
  simp
  and_intros<;>try omega
  apply Z
  apply awp_ret
  apply q_then_r
  simp [endQ]
 ·simp at c1
theorem elem1_fn (m M : Nat) (d : DS) (s : ByteArray) (σ : List (List D)) (ho : DO m M d σ) (hl : d.es.length ≤ 100000) (hmo : 0 ≤ d.most ∧ d.most ≤ 100000) (hr : d.most ≤ (d.es.length : Int) - 1) (hs : s.size ≤ 1000) (hnm : nameB s = true) : Ct Tryz.prog 40 [.ref m 0, D.str s] σ (fun r σ' => r = .tup [D.int 0, D.int 8] ∧ σ' = σ) := by
 refine zf (rs:=[.tmp 4,.tmp 5]) Tryz.func40 Tryz.ntmps40 Tryz.results40 ?_
 simp only [argEnv]
 refine zr ⟨[9,10,12],[],[],[],[]⟩ fun _ _ Z=>?_
 simp
 and_intros<;>try omega
 apply Z
 apply awp_seq
 refine zr ⟨[9,10,12],[],[],[],[]⟩ fun _ _ Z=>?_
 refine vcL_split 1 fun _ Y=>?_
 simp
 and_intros<;>try omega
 apply Y
 simp only [List.drop]
 refine vcL_step fun _ Y=>?_
 simp
 refine zce (wname_fn s _ (by omega)) ?_
 rw [hnm]
 apply Y
 simp
 and_intros<;>try omega
 apply Z
 refine zi ?_
 refine ⟨fun c1=>?_,fun c1=>?_⟩
 ·simp at c1
 ·try simp at c1
  apply awp_skip
  apply q_then_n
  refine zr ⟨[9,10,12],[],[],[],[]⟩ fun _ _ Z=>?_
  refine vcL_split 3 fun _ Y=>?_
  simp
  and_intros<;>try omega
  apply Y
  simp only [List.drop]
  refine vcL_step fun _ Y=>?_
  simp
  refine zce (daddF_fn m M d 2 s ⟨#[]⟩ _ ho hl hmo hr) ?_
  apply Y
  simp
  and_intros<;>try omega
  apply Z
  apply awp_ret
  simp [endQ]
theorem elem2_fn (m M : Nat) (d : DS) (s : ByteArray) (σ : List (List D)) (ho : DO m M d σ) (hl : d.es.length ≤ 100000) (hmo : 0 ≤ d.most ∧ d.most ≤ 100000) (hr : (d.es.length : Int) - 1 < d.most) (hn : 0 ≤ d.next ∧ d.next ≤ 1000000) (hno : isL d.l d.next = false) (hs : s.size ≤ 1000) (hnm : nameB s = true) : Ct Tryz.prog 40 [.ref m 0, D.str s] σ (fun r σ' => r = .tup [D.int d.next, D.int 0] ∧ σ' = σ.set m (dcel M (addD d (newN d.next 2 s ⟨#[]⟩) σ.length)) ++ [ncel (newN d.next 2 s ⟨#[]⟩)]) := by
 refine zf (rs:=[.tmp 4,.tmp 5]) Tryz.func40 Tryz.ntmps40 Tryz.results40 ?_
 simp only [argEnv]
 refine zr ⟨[9,10,12],[],[],[],[]⟩ fun _ _ Z=>?_
 simp
 and_intros<;>try omega
 apply Z
 apply awp_seq
 refine zr ⟨[9,10,12],[],[],[],[]⟩ fun _ _ Z=>?_
 refine vcL_split 1 fun _ Y=>?_
 simp
 and_intros<;>try omega
 apply Y
 simp only [List.drop]
 refine vcL_step fun _ Y=>?_
 simp
 refine zce (wname_fn s _ (by omega)) ?_
 rw [hnm]
 apply Y
 simp
 and_intros<;>try omega
 apply Z
 refine zi ?_
 refine ⟨fun c1=>?_,fun c1=>?_⟩
 ·simp at c1
 ·try simp at c1
  apply awp_skip
  apply q_then_n
  refine zr ⟨[9,10,12],[],[],[],[]⟩ fun _ _ Z=>?_
  refine vcL_split 3 fun _ Y=>?_
  simp
  and_intros<;>try omega
  apply Y
  simp only [List.drop]
  refine vcL_step fun _ Y=>?_
  simp
  refine zce (dadd1_fn m M d 2 s ⟨#[]⟩ _ ho hl hmo hr hn hno) ?_
  apply Y
  simp
  and_intros<;>try omega
  apply Z
  apply awp_ret
  simp [endQ]
theorem text1_fn (m M : Nat) (d : DS) (s : ByteArray) (σ : List (List D)) (ho : DO m M d σ) (hl : d.es.length ≤ 100000) (hmo : 0 ≤ d.most ∧ d.most ≤ 100000) (hr : d.most ≤ (d.es.length : Int) - 1) : Ct Tryz.prog 44 [.ref m 0, D.str s] σ (fun r σ' => r = .tup [D.int 0, D.int 8] ∧ σ' = σ) := by
 refine zf (rs:=[.tmp 4,.tmp 5]) Tryz.func44 Tryz.ntmps44 Tryz.results44 ?_
 simp only [argEnv]
 refine zr ⟨[6,7,9],[],[],[],[]⟩ fun _ _ Z=>?_
 simp
 and_intros<;>try omega
 apply Z
 refine zr ⟨[6,7,9],[],[],[],[]⟩ fun _ _ Z=>?_
 refine vcL_split 3 fun _ Y=>?_
 simp
 and_intros<;>try omega
 apply Y
 simp only [List.drop]
 refine vcL_step fun _ Y=>?_
 simp
 refine zce (daddF_fn m M d 1 ⟨#[]⟩ s _ ho hl hmo hr) ?_
 apply Y
 simp
 and_intros<;>try omega
 apply Z
 apply awp_ret
 simp [endQ]
theorem text2_fn (m M : Nat) (d : DS) (s : ByteArray) (σ : List (List D)) (ho : DO m M d σ) (hl : d.es.length ≤ 100000) (hmo : 0 ≤ d.most ∧ d.most ≤ 100000) (hr : (d.es.length : Int) - 1 < d.most) (hn : 0 ≤ d.next ∧ d.next ≤ 1000000) (hno : isL d.l d.next = false) : Ct Tryz.prog 44 [.ref m 0, D.str s] σ (fun r σ' => r = .tup [D.int d.next, D.int 0] ∧ σ' = σ.set m (dcel M (addD d (newN d.next 1 ⟨#[]⟩ s) σ.length)) ++ [ncel (newN d.next 1 ⟨#[]⟩ s)]) := by
 refine zf (rs:=[.tmp 4,.tmp 5]) Tryz.func44 Tryz.ntmps44 Tryz.results44 ?_
 simp only [argEnv]
 refine zr ⟨[6,7,9],[],[],[],[]⟩ fun _ _ Z=>?_
 simp
 and_intros<;>try omega
 apply Z
 refine zr ⟨[6,7,9],[],[],[],[]⟩ fun _ _ Z=>?_
 refine vcL_split 3 fun _ Y=>?_
 simp
 and_intros<;>try omega
 apply Y
 simp only [List.drop]
 refine vcL_step fun _ Y=>?_
 simp
 refine zce (dadd1_fn m M d 1 ⟨#[]⟩ s _ ho hl hmo hr hn hno) ?_
 apply Y
 simp
 and_intros<;>try omega
 apply Z
 apply awp_ret
 simp [endQ]
def insBad (d : DS) (rk : Int → Nat) (p n : EN) (at_ : Int) : Prop := n.n.ID = 0 ∨ ¬ n.n.parent = -1 ∨ withB d.l (belR d.l rk) p.n.ID n.n.ID = true ∨ at_ < 0 ∨ (p.n.kids.length : Int) < at_
def setP (n : ND) (p : Int) : ND := { n with parent := p }
theorem withB_self {l : List ND} {rk : Int → Nat} (h : WT l rk) {id : Int} (hi : isL l id = true) : withB l (belR l rk) id id = true := by
 unfold withB; rw [hi, any_mem]; simpa using bel_self h.Dec id
theorem dins11a_fn (m M : Nat) (d : DS) (id at_ pid : Int) (σ : List (List D)) (ho : DO m M d σ) (hno : isL d.l pid = false) : Ct Tryz.prog 41 [.ref m 0, D.int pid, D.int at_, D.int id] σ (fun r σ' => r = .int 11 ∧ σ' = σ) := by
 refine zf (rs:=[.tmp 8]) Tryz.func41 Tryz.ntmps41 Tryz.results41 ?_
 simp only [argEnv]
 have hq := ho.hm
 refine zr ⟨[71],[],[],[],[]⟩ fun _ _ Z=>?_
 simp[hq]
 and_intros<;>try omega
 all_goals first | (generalize nx d id = s9; cases s9 <;> rfl) | skip
 apply Z
 refine zd ⟨[71],[],[],[],[]⟩ [.op {},.op {},.op {},.op {rO:=true},.op {},.op {rO:=true},.op {},.op {},.op {},.op {rO:=true},.op {},.op {rO:=true},.op {},.op {}] fun all hall _ Z=>?_
 refine vcDL_split 6 (by simp) fun _ Y=>?_
 simp[hq]
 refine ⟨m, 2, d.ck, _, .v (.pointer none), ⟨⟨_, hq, rfl⟩, keyI _, .inl (kvE_no hno _)⟩, ?_⟩
 and_intros<;>try omega
 all_goals first | (generalize nx d id = s9; cases s9 <;> rfl) | skip
 apply Y
 simp only [List.drop]
 refine vcDL_split 6 (by simp) fun _ Y=>?_
 simp[hq]
 refine ⟨m, 2, d.ck, _, pD (nx d id), ⟨⟨_, hq, rfl⟩, keyI _, kvE_nx d _⟩, ?_⟩
 and_intros<;>try omega
 all_goals first | (generalize nx d id = s9; cases s9 <;> rfl) | skip
 apply Y
 simp only [List.drop]
 simp[hq]
 and_intros<;>try omega
 all_goals first | (generalize nx d id = s9; cases s9 <;> rfl) | skip
 apply Z
 apply awp_seq
 apply awp_block
 refine zk [0,1,2,3,8,9,10] ?_
 refine zrg ⟨[71],[],[],[],[]⟩ fun all hall _ Z=>?_
 have ga2 : guardOf all 2 = some 26 := hall 2
 refine vcL_split 3 fun _ Y=>?_
 simp[hq,ga2]
 and_intros<;>try omega
 all_goals first | (generalize nx d id = s9; cases s9 <;> rfl) | skip
 apply Y
 simp only [List.drop]
 refine vcL_bool 26 (by simp <;> rfl) ?_
 refine ⟨fun g1 => ?_, fun g1 => ?_⟩
 ·try simp at g1
  simp[hq,ga2]
  and_intros<;>try omega
  all_goals first | (generalize nx d id = s9; cases s9 <;> rfl) | skip
  apply Z
  refine awp_cond (t := true) (by simp) (fun _ => ?_) (fun h => by cases h)
  refine zk [1,2,3,8,9,10] ?_
  refine zr ⟨[71],[],[],[],[]⟩ fun _ _ Z=>?_
  simp[hq]
  and_intros<;>try omega
  all_goals first | (generalize nx d id = s9; cases s9 <;> rfl) | skip
  apply Z
  apply awp_ret
  apply q_block_r
  apply q_then_r
  simp [endQ]
 ·simp at g1
theorem dins11b_fn (m M : Nat) (d : DS) (p : EN) (at_ id : Int) (σ : List (List D)) (ho : DO m M d σ) (hp : p ∈ d.es) (hno : isL d.l id = false) : Ct Tryz.prog 41 [.ref m 0, D.int p.n.ID, D.int at_, D.int id] σ (fun r σ' => r = .int 11 ∧ σ' = σ) := by
 refine zf (rs:=[.tmp 8]) Tryz.func41 Tryz.ntmps41 Tryz.results41 ?_
 simp only [argEnv]
 have hq := ho.hm
 refine zr ⟨[71],[],[],[],[]⟩ fun _ _ Z=>?_
 simp[hq]
 and_intros<;>try omega
 apply Z
 refine zd ⟨[71],[],[],[],[]⟩ [.op {},.op {},.op {},.op {rO:=true},.op {},.op {rO:=true},.op {},.op {},.op {},.op {rO:=true},.op {},.op {rO:=true},.op {},.op {}] fun all hall _ Z=>?_
 refine vcDL_split 6 (by simp) fun _ Y=>?_
 simp[hq]
 refine ⟨m, 2, d.ck, _, .ref p.o 0, ⟨⟨_, hq, rfl⟩, keyI _, .inr (kvE_get hp _)⟩, ?_⟩
 and_intros<;>try omega
 apply Y
 simp only [List.drop]
 refine vcDL_split 6 (by simp) fun _ Y=>?_
 simp[hq]
 refine ⟨m, 2, d.ck, _, .v (.pointer none), ⟨⟨_, hq, rfl⟩, keyI _, .inl (kvE_no hno _)⟩, ?_⟩
 and_intros<;>try omega
 apply Y
 simp only [List.drop]
 simp[hq]
 and_intros<;>try omega
 apply Z
 apply awp_seq
 apply awp_block
 refine zk [0,1,2,3,8,9,10] ?_
 refine zrg ⟨[71],[],[],[],[]⟩ fun all hall _ Z=>?_
 have ga2 : guardOf all 2 = some 26 := hall 2
 refine vcL_split 3 fun _ Y=>?_
 simp[hq,ga2]
 and_intros<;>try omega
 apply Y
 simp only [List.drop]
 refine vcL_bool 26 (by simp <;> rfl) ?_
 refine ⟨fun g1 => ?_, fun g1 => ?_⟩
 ·simp at g1
 ·try simp at g1
  simp[hq,ga2]
  and_intros<;>try omega
  apply Z
  refine zi ?_
  refine ⟨fun c2=>?_,fun c2=>?_⟩
  ·try simp at c2
   refine zk [1,2,3,8,9,10] ?_
   refine zr ⟨[71],[],[],[],[]⟩ fun _ _ Z=>?_
   simp[hq]
   and_intros<;>try omega
   apply Z
   apply awp_ret
   apply q_block_r
   apply q_then_r
   simp [endQ]
  ·simp at c2
theorem dins14_fn (m M : Nat) (d : DS) (p n : EN) (at_ : Int) (σ : List (List D)) (ho : DO m M d σ) (hp : p ∈ d.es) (hn : n ∈ d.es) (hk : ¬ p.n.kind = 2) : Ct Tryz.prog 41 [.ref m 0, D.int p.n.ID, D.int at_, D.int n.n.ID] σ (fun r σ' => r = .int 14 ∧ σ' = σ) := by
 refine zf (rs:=[.tmp 8]) Tryz.func41 Tryz.ntmps41 Tryz.results41 ?_
 simp only [argEnv]
 have hq := ho.hm
 have hnn := ho.hn
 refine zr ⟨[71],[],[],[],[]⟩ fun _ _ Z=>?_
 simp (disch:=omega)[hq,hnn,hk]
 and_intros<;>try omega
 apply Z
 refine zd ⟨[71],[],[],[],[]⟩ [.op {},.op {},.op {},.op {rO:=true},.op {},.op {rO:=true},.op {},.op {},.op {},.op {rO:=true},.op {},.op {rO:=true},.op {},.op {}] fun all hall _ Z=>?_
 refine vcDL_split 6 (by simp) fun _ Y=>?_
 simp (disch:=omega)[hq,hnn,hk]
 refine ⟨m, 2, d.ck, _, .ref p.o 0, ⟨⟨_, hq, rfl⟩, keyI _, .inr (kvE_get hp _)⟩, ?_⟩
 and_intros<;>try omega
 apply Y
 simp only [List.drop]
 refine vcDL_split 6 (by simp) fun _ Y=>?_
 simp (disch:=omega)[hq,hnn,hk]
 refine ⟨m, 2, d.ck, _, .ref n.o 0, ⟨⟨_, hq, rfl⟩, keyI _, .inr (kvE_get hn _)⟩, ?_⟩
 and_intros<;>try omega
 apply Y
 simp only [List.drop]
 simp (disch:=omega)[hq,hnn,hk]
 and_intros<;>try omega
 apply Z
 apply awp_seq
 apply awp_block
 refine zk [0,1,2,3,8,9,10] ?_
 refine zrg ⟨[71],[],[],[],[]⟩ fun all hall _ Z=>?_
 have ga2 : guardOf all 2 = some 26 := hall 2
 refine vcL_split 3 fun _ Y=>?_
 simp (disch:=omega)[hq,hnn,hk,ga2]
 and_intros<;>try omega
 apply Y
 simp only [List.drop]
 refine vcL_bool 26 (by simp <;> rfl) ?_
 refine ⟨fun g1 => ?_, fun g1 => ?_⟩
 ·simp at g1
 ·try simp at g1
  simp (disch:=omega)[hq,hnn,hk,ga2]
  and_intros<;>try omega
  apply Z
  refine zi ?_
  refine ⟨fun c2=>?_,fun c2=>?_⟩
  ·simp at c2
  ·try simp at c2
   refine zk [0,1,2,3,8,9,10] ?_
   refine zr ⟨[71],[],[],[],[]⟩ fun _ _ Z=>?_
   simp (disch:=omega)[hq,hnn,hk]
   and_intros<;>try omega
   apply Z
   refine zi ?_
   refine ⟨fun c3=>?_,fun c3=>?_⟩
   ·try simp at c3
    refine zk [1,2,3,8,9,10] ?_
    refine zr ⟨[71],[],[],[],[]⟩ fun _ _ Z=>?_
    simp (disch:=omega)[hq,hnn,hk]
    and_intros<;>try omega
    apply Z
    apply awp_ret
    apply q_block_r
    apply q_then_r
    simp [endQ]
   ·simp at c3
theorem dins_fn (m M : Nat) (d : DS) (rk : Int → Nat) (p n : EN) (at_ : Int) (σ : List (List D)) (ho : DO m M d σ) (hp : p ∈ d.es) (hn : n ∈ d.es) (hk : p.n.kind = 2) (hwt : WT d.l rk) (hlen : p.n.kids.length ≤ 1000) : Ct Tryz.prog 41 [.ref m 0, D.int p.n.ID, D.int at_, D.int n.n.ID] σ (fun r σ' => (r = D.int 1 ∧ insBad d rk p n at_ ∧ σ' = σ) ∨ (r = D.int 0 ∧ ¬ insBad d rk p n at_ ∧ ∃ i : Nat, at_ = i ∧ σ' = (σ.set p.o (ncel (setK p.n (insL p.n.kids i n.n.ID)))).set n.o (ncel (setP n.n p.n.ID)))) := by
 refine zf (rs:=[.tmp 8]) Tryz.func41 Tryz.ntmps41 Tryz.results41 ?_
 simp only [argEnv]
 have hq := ho.hm
 have hpo := ho.hn p hp
 have hno := ho.hn n hn
 have hn2 : n.o ≠ p.o → ∀ a, (σ.set p.o a)[n.o]? = some (ncel n.n) := fun h a => by rw [List.getElem?_set_ne (Ne.symm h)]; exact hno
 refine zr ⟨[70,71,74],[],[],[62],[]⟩ fun _ _ Z=>?_
 simp (disch:=omega)[hq,hpo,hno,hk,hn2,og_get hpo,List.set_set]
 and_intros<;>try omega
 apply Z
 refine zd ⟨[70,71,74],[],[],[62],[]⟩ [.op {},.op {},.op {},.op {rO:=true},.op {},.op {rO:=true},.op {},.op {},.op {},.op {rO:=true},.op {},.op {rO:=true},.op {},.op {}] fun all hall _ Z=>?_
 refine vcDL_split 6 (by simp) fun _ Y=>?_
 simp (disch:=omega)[hq,hpo,hno,hk,hn2,og_get hpo,List.set_set]
 refine ⟨m, 2, d.ck, _, .ref p.o 0, ⟨⟨_, hq, rfl⟩, keyI _, .inr (kvE_get hp _)⟩, ?_⟩
 and_intros<;>try omega
 apply Y
 simp only [List.drop]
 refine vcDL_split 6 (by simp) fun _ Y=>?_
 simp (disch:=omega)[hq,hpo,hno,hk,hn2,og_get hpo,List.set_set]
 refine ⟨m, 2, d.ck, _, .ref n.o 0, ⟨⟨_, hq, rfl⟩, keyI _, .inr (kvE_get hn _)⟩, ?_⟩
 and_intros<;>try omega
 apply Y
 simp only [List.drop]
 simp (disch:=omega)[hq,hpo,hno,hk,hn2,og_get hpo,List.set_set]
 and_intros<;>try omega
 apply Z
 apply awp_seq
 apply awp_block
 refine zk [0,1,2,3,8,9,10] ?_
 refine zrg ⟨[70,71,74],[],[],[62],[]⟩ fun all hall _ Z=>?_
 have ga2 : guardOf all 2 = some 26 := hall 2
 refine vcL_split 3 fun _ Y=>?_
 simp (disch:=omega)[hq,hpo,hno,hk,hn2,og_get hpo,List.set_set,ga2]
 and_intros<;>try omega
 apply Y
 simp only [List.drop]
 refine vcL_bool 26 (by simp <;> rfl) ?_
 refine ⟨fun g1 => ?_, fun g1 => ?_⟩
 ·simp at g1
 ·try simp at g1
  simp (disch:=omega)[hq,hpo,hno,hk,hn2,og_get hpo,List.set_set,ga2]
  and_intros<;>try omega
  apply Z
  refine zi ?_
  refine ⟨fun c2=>?_,fun c2=>?_⟩
  ·simp at c2
  ·try simp at c2
   refine zk [0,1,2,3,8,9,10] ?_
   refine zr ⟨[70,71,74],[],[],[62],[]⟩ fun _ _ Z=>?_
   simp (disch:=omega)[hq,hpo,hno,hk,hn2,og_get hpo,List.set_set]
   and_intros<;>try omega
   apply Z
   refine zi ?_
   refine ⟨fun c3=>?_,fun c3=>?_⟩
   ·simp at c3
   ·try simp at c3
    refine zk [0,1,2,3,8,9,10] ?_
    refine zrg ⟨[70,71,74],[],[],[62],[]⟩ fun all hall _ Z=>?_
    have ga2 : guardOf all 2 = some 39 := hall 2
    have ga9 : guardOf all 9 = some 46 := hall 9
    have ga15 : guardOf all 15 = some 52 := hall 15
    have ga19 : guardOf all 19 = some 56 := hall 19
    refine vcL_split 3 fun _ Y=>?_
    simp (disch:=omega)[hq,hpo,hno,hk,hn2,og_get hpo,List.set_set,ga2,ga9,ga15,ga19]
    and_intros<;>try omega
    apply Y
    simp only [List.drop]
    refine vcL_bool 39 (by simp <;> rfl) ?_
    refine ⟨fun g4 => ?_, fun g4 => ?_⟩
    ·try simp at g4
     refine vcL_split 7 fun _ Y=>?_
     simp (disch:=omega)[hq,hpo,hno,hk,hn2,og_get hpo,List.set_set,ga2,ga9,ga15,ga19]
     and_intros<;>try omega
     apply Y
     simp only [List.drop]
     refine vcL_split 6 fun _ Y=>?_
     simp (disch:=omega)[hq,hpo,hno,hk,hn2,og_get hpo,List.set_set,ga2,ga9,ga15,ga19]
     and_intros<;>try omega
     apply Y
     simp only [List.drop]
     refine vcL_split 4 fun _ Y=>?_
     simp (disch:=omega)[hq,hpo,hno,hk,hn2,og_get hpo,List.set_set,ga2,ga9,ga15,ga19]
     and_intros<;>try omega
     apply Y
     simp only [List.drop]
     refine vcL_split 8 fun _ Y=>?_
     simp (disch:=omega)[hq,hpo,hno,hk,hn2,og_get hpo,List.set_set,ga2,ga9,ga15,ga19]
     and_intros<;>try omega
     apply Y
     simp only [List.drop]
     simp (disch:=omega)[hq,hpo,hno,hk,hn2,og_get hpo,List.set_set,ga2,ga9,ga15,ga19]
     and_intros<;>try omega
     apply Z
     refine awp_cond (t := true) (by simp) (fun _ => ?_) (fun h => by cases h)
     refine zk [1,2,3,8,9,10] ?_
     refine zr ⟨[70,71,74],[],[],[62],[]⟩ fun _ _ Z=>?_
     simp (disch:=omega)[hq,hpo,hno,hk,hn2,og_get hpo,List.set_set]
     and_intros<;>try omega
     apply Z
     apply awp_ret
     apply q_block_r
     apply q_then_r
     simp [endQ]
     exact .inl g4
    ·try simp at g4
     refine vcL_split 7 fun _ Y=>?_
     simp (disch:=omega)[hq,hpo,hno,hk,hn2,og_get hpo,List.set_set,ga2,ga9,ga15,ga19]
     and_intros<;>try omega
     apply Y
     simp only [List.drop]
     refine vcL_bool 46 (by simp <;> rfl) ?_
     refine ⟨fun g5 => ?_, fun g5 => ?_⟩
     ·try simp at g5
      refine vcL_split 6 fun _ Y=>?_
      simp (disch:=omega)[hq,hpo,hno,hk,hn2,og_get hpo,List.set_set,ga2,ga9,ga15,ga19]
      and_intros<;>try omega
      apply Y
      simp only [List.drop]
      refine vcL_split 4 fun _ Y=>?_
      simp (disch:=omega)[hq,hpo,hno,hk,hn2,og_get hpo,List.set_set,ga2,ga9,ga15,ga19]
      and_intros<;>try omega
      apply Y
      simp only [List.drop]
      refine vcL_split 8 fun _ Y=>?_
      simp (disch:=omega)[hq,hpo,hno,hk,hn2,og_get hpo,List.set_set,ga2,ga9,ga15,ga19]
      and_intros<;>try omega
      apply Y
      simp only [List.drop]
      simp (disch:=omega)[hq,hpo,hno,hk,hn2,og_get hpo,List.set_set,ga2,ga9,ga15,ga19]
      and_intros<;>try omega
      apply Z
      refine awp_cond (t := true) (by simp) (fun _ => ?_) (fun h => by cases h)
      refine zk [1,2,3,8,9,10] ?_
      refine zr ⟨[70,71,74],[],[],[62],[]⟩ fun _ _ Z=>?_
      simp (disch:=omega)[hq,hpo,hno,hk,hn2,og_get hpo,List.set_set]
      and_intros<;>try omega
      apply Z
      apply awp_ret
      apply q_block_r
      apply q_then_r
      simp [endQ]
      exact .inr (.inl g5)
     ·try simp at g5
      refine vcL_split 3 fun _ Y=>?_
      simp (disch:=omega)[hq,hpo,hno,hk,hn2,og_get hpo,List.set_set,ga2,ga9,ga15,ga19]
      and_intros<;>try omega
      apply Y
      simp only [List.drop]
      refine zg ga9 fun _ Y=>?_
      simp (disch:=omega)[hq,hpo,hno,hk,hn2,og_get hpo,List.set_set,ga2,ga9,ga15,ga19]
      refine zce (within_fn m M d rk p.n.ID n.n.ID _ ho hwt) ?_
      apply Y
      refine vcL_split 2 fun _ Y=>?_
      simp (disch:=omega)[hq,hpo,hno,hk,hn2,og_get hpo,List.set_set,ga2,ga9,ga15,ga19]
      and_intros<;>try omega
      apply Y
      simp only [List.drop]
      refine vcL_bool 52 (by simp <;> rfl) ?_
      refine ⟨fun g6 => ?_, fun g6 => ?_⟩
      ·try simp at g6
       refine vcL_split 4 fun _ Y=>?_
       simp (disch:=omega)[hq,hpo,hno,hk,hn2,og_get hpo,List.set_set,ga2,ga9,ga15,ga19]
       and_intros<;>try omega
       apply Y
       simp only [List.drop]
       refine vcL_split 8 fun _ Y=>?_
       simp (disch:=omega)[hq,hpo,hno,hk,hn2,og_get hpo,List.set_set,ga2,ga9,ga15,ga19]
       and_intros<;>try omega
       apply Y
       simp only [List.drop]
       simp (disch:=omega)[hq,hpo,hno,hk,hn2,og_get hpo,List.set_set,ga2,ga9,ga15,ga19]
       and_intros<;>try omega
       apply Z
       refine awp_cond (t := true) (by simp) (fun _ => ?_) (fun h => by cases h)
       refine zk [1,2,3,8,9,10] ?_
       refine zr ⟨[70,71,74],[],[],[62],[]⟩ fun _ _ Z=>?_
       simp (disch:=omega)[hq,hpo,hno,hk,hn2,og_get hpo,List.set_set]
       and_intros<;>try omega
       apply Z
       apply awp_ret
       apply q_block_r
       apply q_then_r
       simp [endQ]
       exact .inr (.inr (.inl g6))
      ·try simp at g6
       refine vcL_split 4 fun _ Y=>?_
       simp (disch:=omega)[hq,hpo,hno,hk,hn2,og_get hpo,List.set_set,ga2,ga9,ga15,ga19]
       and_intros<;>try omega
       apply Y
       simp only [List.drop]
       refine vcL_bool 56 (by simp <;> rfl) ?_
       refine ⟨fun g7 => ?_, fun g7 => ?_⟩
       ·try simp at g7
        refine vcL_split 8 fun _ Y=>?_
        simp (disch:=omega)[hq,hpo,hno,hk,hn2,og_get hpo,List.set_set,ga2,ga9,ga15,ga19]
        and_intros<;>try omega
        apply Y
        simp only [List.drop]
        simp (disch:=omega)[hq,hpo,hno,hk,hn2,og_get hpo,List.set_set,ga2,ga9,ga15,ga19]
        and_intros<;>try omega
        apply Z
        refine awp_cond (t := true) (by simp) (fun _ => ?_) (fun h => by cases h)
        refine zk [1,2,3,8,9,10] ?_
        refine zr ⟨[70,71,74],[],[],[62],[]⟩ fun _ _ Z=>?_
        simp (disch:=omega)[hq,hpo,hno,hk,hn2,og_get hpo,List.set_set]
        and_intros<;>try omega
        apply Z
        apply awp_ret
        apply q_block_r
        apply q_then_r
        simp [endQ]
        exact .inr (.inr (.inr (.inl (by omega))))
       ·try simp at g7
        refine vcL_split 8 fun _ Y=>?_
        simp (disch:=omega)[hq,hpo,hno,hk,hn2,og_get hpo,List.set_set,ga2,ga9,ga15,ga19]
        and_intros<;>try omega
        apply Y
        simp only [List.drop]
        simp (disch:=omega)[hq,hpo,hno,hk,hn2,og_get hpo,List.set_set,ga2,ga9,ga15,ga19]
        and_intros<;>try omega
        apply Z
        refine zi ?_
        refine ⟨fun c8=>?_,fun c8=>?_⟩
        ·try simp at c8
         refine zk [1,2,3,8,9,10] ?_
         refine zr ⟨[70,71,74],[],[],[62],[]⟩ fun _ _ Z=>?_
         simp (disch:=omega)[hq,hpo,hno,hk,hn2,og_get hpo,List.set_set]
         and_intros<;>try omega
         apply Z
         apply awp_ret
         apply q_block_r
         apply q_then_r
         simp [endQ]
         exact .inr (.inr (.inr (.inr (by omega))))
        ·try simp at c8
         have hoo : n.o ≠ p.o := fun e => by
           have := inj_o ho.nd hn hp e
           subst this
           rw [withB_self hwt (isL_of hn)] at g6; cases g6
         obtain ⟨i, rfl⟩ : ∃ i : Nat, at_ = i := ⟨at_.toNat, by omega⟩
         apply awp_skip
         apply q_block_n
         apply q_then_n
         refine zk [1,2,3,8,9,10] ?_
         refine zr ⟨[70,71,74],[],[],[62],[]⟩ fun _ _ Z=>?_
         refine vcL_split 8 fun _ Y=>?_
         simp (disch:=omega)[hq,hpo,hno,hk,hn2,og_get hpo,List.set_set]
         and_intros<;>try omega
         apply Y
         simp only [List.drop]
         refine vcL_split 1 fun _ Y=>?_
         simp (disch:=omega)[hq,hpo,hno,hk,hn2,og_get hpo,List.set_set]
         and_intros<;>try omega
         apply Y
         simp only [List.drop]
         refine vcL_step fun _ Y=>?_
         simp (disch:=omega)[hq,hpo,hno,hk,hn2,og_get hpo,List.set_set]
         refine zce (iins_fn p.n.kids n.n.ID i _ (by omega) (by omega)) ?_
         apply Y
         simp (disch:=omega)[hq,hpo,hno,hk,hn2,og_get hpo,List.set_set]
         and_intros<;>try omega
         apply Z
         refine zk [8] ?_
         refine zr ⟨[70,71,74],[],[],[62],[]⟩ fun _ _ Z=>?_
         simp (disch:=omega)[hq,hpo,hno,hk,hn2,og_get hpo,List.set_set]
         and_intros<;>try omega
         apply Z
         apply awp_ret
         simp [endQ, setK, setP]
         unfold insBad; rw [g6]; simp
         exact ⟨⟨g4, g5, by omega⟩, i, rfl, by simp only [hk]⟩
end Go.Proofs.YtpfmpeaekgdgnaaGreat

