import Derived.Test.YtighdhfgcdjmeaaGreatDoorVmX13
import Derived.Test.YtighdhfgcdjmeaaGreatDoorVmX14
namespace Go.Vm
open Go
set_option linter.all false
section
variable {P : Program}
def hP (P : Program) (dst : Option Tmp) (b : Builtin) (args : List Operand) (ts : List TypeId) (st : St) (K : St → Prop) : Prop :=
 match b, args, ts with
 | .len, [x], [t] => sR P dst t x st K
 | .append, [s, x], [t, t2] => iR P dst t t2 s x st K
 | .min, [x, y], _ => kT false dst x y st K
 | .max, [x, y], _ => kT true dst x y st K
 | _, _, _ => False
def fQ (P : Program) (c : Cfg) (dst : Option Tmp) (call : Call) (st : St) (K : St → Prop) : Prop :=
 match call.callee with
 | .builtin b => hP P dst b call.args.toList call.argTypes.toList st K
 | .value (.func f) => match dst with
  | some d => if c.take.contains d then fX P dst f call.args.toList st K else eC P dst (.func f) call.args.toList st K
  | none => eC P dst (.func f) call.args.toList st K
 | .value f => eC P dst f call.args.toList st K
 | .invoke r m => iZ P dst r m call.args.toList st K
def bN (P : Program) (c : Cfg) (dst : Option Tmp) (op : Op) (st : St) (K : St → Prop) : Prop :=
 match op with
 | .move x => dV c dst x st K
 | .assign x => dV c dst x st K
 | .binOp b t x y _ => if lY y = true then rR P dst b t x st K else kF P b t (st.rdS x) (st.rdS y) fun d => K (st.put dst (.d d))
 | .unOp u _ x => qX u (st.rd x) fun d => K (st.put dst (.d d))
 | .load t x => eH P c dst t x st K
 | .fieldAddr s x f => eW P dst s x f st K
 | .field s x f => jZ P dst s x f st K
 | .indexAddr t x i => eS P dst t x i st K
 | .index t x i => kB P dst t x i st K
 | .slice t x lo hi mx => jT P dst t x lo hi mx st K
 | .pick a x y => mI dst a x y st K
 | .extract x i => gM c dst x i st K
 | .makeFunc f first caps => wH dst f first.toList caps.toList st K
 | .nilCheck x => jW dst x st K
 | .convert s d x => gN P dst s d x st K
 | .alloc e => iS P c dst e st K
 | .box _ x => qQ c dst x st K
 | .store t a v => lI P dst t a v st K
 | .build t parts => jP P dst t parts.toList st K
 | .buildSlice t len parts => eB P dst t len parts.toList st K
 | .call call => fQ P c dst call st K
 | .range t x => jU P dst t x st K
 | .next x false => mP dst x st K
 | .entry x => kE dst x st K
 | _ => False
def pX : Op → Bool
 | .range _ _ | .next _ _ | .entry _ => true
 | _ => false
def Qo (dst : Option Tmp) (op : Op) : Nat := match dst, op with
 | some d, _ => d
 | none, .call ⟨_, args, _⟩ => match args.toList with
  | .tmp t :: _ => t
  | _ => 0
 | none, _ => 0
def xP (c : Cfg) (dst : Option Tmp) (op : Op) : Bool := c.xs.contains (Qo dst op)
def Ys : Op → Bool
 | .lookup _ _ _ _ => true
 | .mapUpdate _ _ _ _ => true
 | .insert _ _ _ _ => true
 | .makeMap _ _ => true
 | .mapEntry _ _ _ => true
 | .entryStore _ _ _ _ => true
 | .makeInterface _ _ => true
 | .typeAssert _ _ _ _ => true
 | .call ⟨.builtin .delete, _, _⟩ => true
 | _ => false
def qC (c : Cfg) (dst : Option Tmp) (op : Op) : Bool := Ys op || c.ys.contains (Qo dst op)
def xS (c : Cfg) (dst : Option Tmp) (op : Op) : Bool := c.ys.contains (Qo dst op + 1000000)
def cZ (P : Program) (c : Cfg) (dst : Option Tmp) (op : Op) (st : St) (K : St → Prop) : Prop := if qC c dst op = true then Xy P (xS c dst op) dst op st K else if xP c dst op = true then Ff P dst op st K else bN P c dst op st K
def Pb (P : Program) (c : Cfg) (o : Oper) (st : St) (K : St → Prop) : Prop := bL o st ∧ cZ P c o.dst o.op st K
theorem Vx {α : Type} {a : Array α} {x : α} (h : a.toList = [x]) : a = #[x] := Array.toList_inj.1 h
theorem Pv {α : Type} {a : Array α} {x y : α} (h : a.toList = [x, y]) : a = #[x, y] := Array.toList_inj.1 h
theorem wI {c : Cfg} {o : Oper} {st : St} {K : St → Prop} (h : Pb P c o st K) : Does P o st K := by
 obtain ⟨hd, h⟩ := h;unfold cZ at h;split at h
 ·exact Ly hd h
 split at h
 ·exact Uk hd h
 unfold bN at h;split at h
 ·rename_i x ho; exact uS c x hd (.inl ho) h
 ·rename_i x ho; exact uS c x hd (.inr ho) h
 ·rename_i op t x y yt ho;split at h
  ·rename_i hy; exact Ae op t x y yt hd ho hy h
  ·exact Lz op t x y yt hd ho h
 ·rename_i op t x ho; exact Rg op t x hd ho h
 ·rename_i t x ho; exact uN c t x hd ho h
 ·rename_i s x f ho; exact sA s x f hd ho h
 ·rename_i s x f ho; exact Bn s x f hd ho h
 ·rename_i t x i ho; exact sY t x i hd ho h
 ·rename_i t x i ho; exact De t x i hd ho h
 ·rename_i t x lo hi mx ho; exact Bi t x lo hi mx hd ho h
 ·rename_i a x y ho; exact Fd a x y hd ho h
 ·rename_i x i ho; exact wQ c x i hd ho h
 ·rename_i f first caps ho; exact Fg f first caps hd ho h
 ·rename_i x ho; exact uI x hd ho h
 ·rename_i s d x ho; exact xG s d x hd ho h
 ·rename_i e ho; exact Cx c e hd ho h
 ·rename_i e x ho; exact Kl c e x hd ho h
 ·rename_i t a v ho; exact Cw t a v hd ho h
 ·rename_i t parts ho; exact Di t parts hd ho h
 ·rename_i t len parts ho; exact rB t len parts hd ho h
 ·rename_i call ho;obtain ⟨callee, args, ts⟩ := call;unfold fQ at h;simp only at h;split at h
  ·rename_i b;unfold hP at h;split at h
   ·rename_i x t h1 h2;rw [Vx h1, Vx h2] at ho;exact Lx t x hd ho h
   ·rename_i s x t t2 h1 h2;rw [Pv h1, Pv h2] at ho;exact yM t t2 s x hd ho h
   ·rename_i x y h1;rw [Pv h1] at ho;exact yT false x y ts hd ho h
   ·rename_i x y h1;rw [Pv h1] at ho;exact yT true x y ts hd ho h
   ·exact h.elim
  ·rename_i f;split at h
   ·split at h
    ·exact mJ f args ts hd ho h
    ·exact eM _ args ts hd ho h
   ·exact eM _ args ts hd ho h
  ·exact eM _ args ts hd ho h
  ·exact At _ _ args ts hd ho h
 ·rename_i t x ho; exact Bo t x hd ho h
 ·rename_i x ho; exact Hz x hd ho h
 ·rename_i x ho; exact Cm x hd ho h
 ·exact h.elim
theorem zN {o : Oper} {a : Act} {w : World} {K : Act → World → Prop} {Q Q' : Exit → Act → World → Prop} (h : o.wp P a w K Q) (hq : ∀ e a w, Q e a w → Q' e a w) : o.wp P a w K Q' := by
 unfold Oper.wp at *;generalize (execOp a.eval o).run P w = r at *;cases r with
 | ok n w' =>
  cases n <;> simp only [Oper.upon] at * <;> try exact h
  refine h.mono fun e w'' he => ?_;cases e with
  | returned v => exact he
  | panicked ch => exact hq _ _ _ he
  | outgrown => obtain ⟨a0, w0, hh⟩ := he; exact ⟨a0, w0, hq _ _ _ hh⟩
 | halt x w' =>
  cases x <;> simp only [Oper.upon] at * <;> try exact h
  exact hq _ _ _ h
theorem zE {c : Code} {Q : Exit → Act → World → Prop} (I : Nat → Act → World → Prop) : ∀ (k : Nat) {a : Act} {w : World}, I k a w → (∀ k a w, I k a w → c.wp P (Exit.then (fun a' w' => ∃ k', k' < k ∧ I k' a' w') Q) a w) → (Code.loop c).wp P Q a w := by
 intro k0 a w h0 round;intro b kk cs;have key : ∀ n a w, I n a w → ∃ e a' w', Q e a' w' ∧ Arrives P (lone (b.at a (.code c :: .inLoop c :: kk)) cs w) b kk cs e a' w' := by
  intro n;induction n using Nat.strongRecOn with
  | _ n ih =>
   intro a w hI;obtain ⟨e, a₁, w₁, hq, harr⟩ := round n a w hI b (.inLoop c :: kk) cs;cases e with
   | normal =>
    obtain ⟨k', hlt, hI₁⟩ := hq;obtain ⟨e₂, a₂, w₂, hq₂, harr₂⟩ := ih k' hlt a₁ w₁ hI₁;exact ⟨e₂, a₂, w₂, hq₂, .of_steps (Steps.trans harr (.one step_inLoop)) harr₂⟩
   | exit id => exact ⟨_, a₁, w₁, hq, .pass (x := .inLoop c) rfl (fun _ _ => .inl (by simp)) harr⟩
   | goto l => exact ⟨_, a₁, w₁, hq, .pass (x := .inLoop c) rfl (fun _ _ => .inl (by simp)) harr⟩
   | ret => exact ⟨_, a₁, w₁, hq, .pass (x := .inLoop c) rfl (fun _ _ => .inl (by simp)) harr⟩
   | panic ch => exact ⟨_, a₁, w₁, hq, .pass (x := .inLoop c) rfl (fun _ _ => .inl (by simp)) harr⟩
   | outgrown => exact ⟨_, a₁, w₁, hq, .pass (x := .inLoop c) rfl (fun _ _ => .inl (by simp)) harr⟩
 obtain ⟨e, a', w', hq, harr⟩ := key k0 a w h0;exact ⟨e, a', w', hq, .of_steps (.one step_loop) harr⟩
def bA (all : List Oper) (j : Nat) : Option Tmp := (all[j]?).bind (·.dst)
abbrev Slot.und : Slot := .d (.tup [])
def qL (s : Slot) (want : Bool) : Option Bool := match s with
 | .d (.v (.bool b)) => some b
 | .d (.tup []) => some (!want)
 | _ => none
def iL (P : Program) (c : Cfg) (all : List Oper) : List Oper → St → (St → Prop) → Prop
 | [], st, K => K st
 | o :: r, st, K => match o.guard with
  | none => Pb P c o st fun st' => iL P c all r st' K
  | some (j, want) => match bA all j with
   | some t => match qL (st.env t) want with
    | some b => (b = want → Pb P c o st fun st' => iL P c all r st' K) ∧ (b = !want → bL o st ∧ iL P c all r (st.put o.dst .und) K)
    | none => False
   | none => False
def rQ (w0 : World) (g0 : Gh) (Q : Exit → St → Prop) : Exit → Act → World → Prop := fun e a w' =>
 a.defers = [] ∧ ∃ st' g', Q e st' ∧ Fr w0 g0 w' g' ∧ Ok w' g' st' (aU a.tmps) ∧ a.tmps.size = st'.n
def fH (P : Program) (c : Code) (Q : Exit → St → Prop) (st : St) : Prop :=
 ∀ (w0 : World) (g0 : Gh) (w : World) (g : Gh) (tmps : Array Value), Fr w0 g0 w g → Ok w g st (aU tmps) → tmps.size = st.n → c.wp P (rQ w0 g0 Q) ⟨tmps, []⟩ w
theorem Bx {all : List Oper} {j t : Nat} {b : Bool} {w : World} {g : Gh} {st : St} {tmps : Array Value} (hok : Ok w g st (aU tmps)) (hg : bA all j = some t) (hs : st.env t = .d (.v (.bool b))) : yielded all.toArray tmps j = some b := by
 have hsl := hok.slot t;rw [hs] at hsl;have hv : aU tmps t = .bool b := hsl.1.vEq;unfold bA at hg;unfold yielded;simp only [List.getElem?_toArray];rw [hg];simp only [Option.bind_some];unfold aU at hv;rw [Array.getD_eq_getD_getElem?] at hv;cases ht : tmps[t]? with
 | none => rw [ht] at hv; simp [undef] at hv
 | some v => rw [ht] at hv; simp at hv; rw [hv]
theorem pC {all : List Oper} {j t : Nat} {b want : Bool} {w : World} {g : Gh} {st : St} {tmps : Array Value} (hok : Ok w g st (aU tmps)) (hg : bA all j = some t) (hs : qL (st.env t) want = some b) : (yielded all.toArray tmps j == some want) = (b == want) := by
 unfold qL at hs;split at hs
 ·rename_i b' he;simp only [Option.some.injEq] at hs;subst hs;rw [Bx hok hg he]; rfl
 ·rename_i he;simp only [Option.some.injEq] at hs;subst hs;have hsl := hok.slot t;rw [he] at hsl;obtain ⟨hr, _⟩ := hsl;have hv : aU tmps t = .tuple #[] := by
   generalize aU tmps t = v at hr;cases hr with
   | tup cs vs hl hr => simp at hl; rw [hl]
  have : yielded all.toArray tmps j = none := by
   unfold bA at hg;unfold yielded;simp only [List.getElem?_toArray];rw [hg];simp only [Option.bind_some];unfold aU at hv;rw [Array.getD_eq_getD_getElem?] at hv;cases ht : tmps[t]? with
   | none => rfl
   | some v => rw [ht] at hv; simp at hv; rw [hv]
  rw [this];cases want <;> rfl
 ·cases hs
theorem Kx {w : World} {g : Gh} (t : Nat) : SlotOk w g t .und undef :=
 ⟨.tup [] #[] rfl (fun i d x h _ => by simp at h), .tup [] [] #[] (fun i d x h _ => by simp at h)⟩
theorem pO {c : Cfg} {all : List Oper} {w0 : World} {g0 : Gh} {Q : Exit → St → Prop} : ∀ (r : List Oper) (k : Nat) (st : St) (w : World) (g : Gh) (tmps : Array Value), (∀ j, r[j]? = all[k + j]?) → iL P c all r st (Q .normal) → Fr w0 g0 w g → Ok w g st (aU tmps) → tmps.size = st.n →
  wpOps P all.toArray (rQ w0 g0 Q) ((List.range r.length).map (k + ·)) ⟨tmps, []⟩ w
 | [], k, st, w, g, tmps, _, h, hf, hok, hn => ⟨rfl, st, g, h, hf, hok, hn⟩
 | o :: r, k, st, w, g, tmps, hr, h, hf, hok, hn => by
  have ho : all.toArray[k]? = some o := by
   have := hr 0;simpa using this.symm
  have hr' : ∀ j, r[j]? = all[k + 1 + j]? := fun j => by
   have := hr (j + 1);simpa [Nat.add_assoc, Nat.add_comm 1] using this
  have hl : (List.range (o :: r).length).map (k + ·) = k :: (List.range r.length).map (k + 1 + ·) := by
   simp only [List.length_cons, List.range_succ_eq_map, List.map_cons, List.map_map, Nat.add_zero];congr 1;apply List.map_congr_left;intro x _;simp; omega
  rw [hl];simp only [wpOps, ho];have run : Pb P c o st (fun st' => iL P c all r st' (Q .normal)) → o.wp P ⟨tmps, []⟩ w (wpOps P all.toArray (rQ w0 g0 Q) ((List.range r.length).map (k + 1 + ·))) (rQ w0 g0 Q) := by
   intro h;have hd := wI h w g tmps hok hn;refine zN (Oper.wp_mono (fun a w' => ?_) hd) fun e a w' hF => hF.elim;rintro ⟨hdf, st', g', hK, hf', hok', hn', _⟩;obtain ⟨tmps', ds⟩ := a;simp only at hdf;subst hdf;exact pO r (k + 1) st' w' g' tmps' hr' hK (hf.trans hf') hok' hn'
  unfold iL at h;split at h
  ·rename_i hg;have : Region.wanted o (yielded all.toArray tmps) = true := by simp [Region.wanted, hg]
   rw [if_pos this];exact .inl (run h)
  ·rename_i j want hg;split at h
   ·rename_i t ht;split at h
    ·rename_i b hs;have hy := pC (all := all) (j := j) hok ht hs;by_cases hb : b = want
     ·have : Region.wanted o (yielded all.toArray tmps) = true := by simp [Region.wanted, hg, hy, hb]
      rw [if_pos this];exact .inl (run (h.1 hb))
     ·have : ¬ Region.wanted o (yielded all.toArray tmps) = true := by simp [Region.wanted, hg, hy, hb]
      rw [if_neg this];have hb' : b = !want := by cases b <;> cases want <;> simp_all
      obtain ⟨hd, h2⟩ := h.2 hb';have hdst : ∀ d, o.dst = some d → d < tmps.size := by
       intro d hd';have hd2 : d < st.n := by simpa [bL, hd'] using hd
       rw [hn]; exact hd2
      have hp := hok.put o.dst .und undef (fun t _ => Kx t);have e := nU tmps [] o.dst undef hdst;have hds := iQ ⟨tmps, []⟩ o.dst undef;have hsz := kM ⟨tmps, []⟩ o.dst undef;generalize hA : (⟨tmps, []⟩ : Act).put o.dst undef = A at *;obtain ⟨tmps', ds⟩ := A;simp only at hds hsz e;subst hds;exact pO r (k + 1) _ w g tmps' hr' h2 hf (by rw [e]; exact hp) (by rw [hsz, zC]; exact hn)
    ·exact h.elim
   ·exact h.elim
theorem Bb {c : Cfg} {id : Nat} {ops : List Oper} {Q : Exit → St → Prop} {st : St} (h : ∀ K : St → Prop, (∀ s, Q .normal s → K s) → iL P c ops ops st K) : fH P (.region id ops.toArray false) Q st := by
 intro w0 g0 w g tmps hf hok hn;refine wp_region ?_;have := pO (P := P) (c := c) (all := ops) (w0 := w0) (g0 := g0) (Q := Q) ops 0 st w g tmps (fun j => by simp) (h _ fun _ h => h) hf hok hn;simpa using this
theorem aG {Q : Exit → St → Prop} {st : St} (h : Q .normal st) : fH P .skip Q st :=
 fun _ _ _ g _ hf hok hn => wp_skip ⟨rfl, st, g, h, hf, hok, hn⟩
theorem bD {id : Nat} {Q : Exit → St → Prop} {st : St} (h : Q (.exit id) st) : fH P (.exit id) Q st :=
 fun _ _ _ g _ hf hok hn => wp_exit ⟨rfl, st, g, h, hf, hok, hn⟩
theorem aF {Q : Exit → St → Prop} {st : St} (h : Q .ret st) : fH P .ret Q st :=
 fun _ _ _ g _ hf hok hn => wp_ret ⟨rfl, st, g, h, hf, hok, hn⟩
def Ed (P : Program) (y : Code) (Q : Exit → St → Prop) : Exit → St → Prop
 | .normal, s => fH P y Q s
 | e, s => Q e s
theorem aE {x y : Code} {Q : Exit → St → Prop} {st : St} (h : fH P x (Ed P y Q) st) : fH P (.seq x y) Q st := by
 intro w0 g0 w g tmps hf hok hn;refine wp_seq (wp_mono (h w0 g0 w g tmps hf hok hn) ?_);rintro e ⟨tmps', ds⟩ w' ⟨hd, st', g', hq, hf', hok', hn'⟩;simp only at hd;subst hd;cases e with
 | normal => exact hq w0 g0 w' g' tmps' hf' hok' hn'
 | _ => exact ⟨rfl, st', g', hq, hf', hok', hn'⟩
theorem cI {x : Operand} {a b : Code} {t : Bool} {Q : Exit → St → Prop} {st : St} (hx : st.rd x = .v (.bool t)) (h1 : t = true → fH P a Q st) (h2 : t = false → fH P b Q st) : fH P (.cond x a b) Q st := by
 intro w0 g0 w g tmps hf hok hn;have hr := hok.rd x;rw [hx] at hr;exact wp_cond_split hr.vEq (fun ht => h1 ht w0 g0 w g tmps hf hok hn) (fun ht => h2 ht w0 g0 w g tmps hf hok hn)
def pG (id : Nat) (Q : Exit → St → Prop) : Exit → St → Prop
 | .exit id', s => if id' = id then Q .normal s else Q (.exit id') s
 | e, s => Q e s
theorem aI {id : Nat} {x : Code} {Q : Exit → St → Prop} {st : St} (h : fH P x (pG id Q) st) : fH P (.block id x) Q st := by
 intro w0 g0 w g tmps hf hok hn;refine wp_block (wp_mono (h w0 g0 w g tmps hf hok hn) ?_);rintro e a w' ⟨hd, st', g', hq, hrest⟩;cases e with
 | exit id' =>
  simp only [Exit.inBlock];simp only [pG] at hq;split
  ·rename_i e; rw [if_pos e] at hq; exact ⟨hd, st', g', hq, hrest⟩
  ·rename_i e; rw [if_neg e] at hq; exact ⟨hd, st', g', hq, hrest⟩
 | _ => exact ⟨hd, st', g', hq, hrest⟩
def qH (n : Nat) : Slot → Slot → Prop
 | _, .d .any => True
 | .lref m off, s => s = .lref m off ∧ m < n
 | .d (.sl true es), s => s = .d (.sl true es) ∨ s = .d (.sl false es)
 | .d x, s => s = .d x
structure Weak (st st' : St) : Prop where
 n : st.n = st'.n
 env : ∀ t, qH st'.loc.length (st.env t) (st'.env t)
 loc : st'.loc <+: st.loc
 obj : st'.obj = st.obj
theorem Ok.weak {w : World} {g : Gh} {st st' : St} {val : Nat → Value} (h : Ok w g st val) (hw : Weak st st') : ∃ g', Fr w g w g' ∧ Ok w g' st' val := by
 obtain ⟨rest, hloc⟩ := hw.loc;have hlen : st'.loc.length ≤ g.bl.length := by rw [h.ll, ← hloc]; simp
 refine ⟨{ g with bl := g.bl.take st'.loc.length }, ⟨rfl, rfl, rfl, Nat.le_refl _, fun b _ hx => ⟨rfl, hx, fun _ => rfl⟩, fun _ _ _ h => h, fun _ _ h => h⟩, ⟨h.mem, h.xlt, fun t => ?_, by rw [List.length_take]; omega, fun n b cs h1 h2 => ?_, by rw [hw.obj]; exact h.ol, fun n b cs h1 h2 => ?_⟩⟩
 ·have hs := h.slot t;have hl := hw.env t;generalize st.env t = s at hs hl;generalize st'.env t = s' at hl;have any : SlotOk w { g with bl := g.bl.take st'.loc.length } t .any (val t) := ⟨.any _, .flat _ _ _ rfl⟩;unfold qH at hl;split at hl
  ·exact any
  ·rename_i m off _;obtain ⟨rfl, hm⟩ := hl;obtain ⟨b, hb, hv⟩ := hs;exact ⟨b, by simp [List.getElem?_take, hm, hb], hv⟩
  ·rename_i es _;rcases hl with rfl | rfl
   ·exact hs
   ·exact ⟨hs.1.s1, .flat _ _ _ rfl⟩
  ·subst hl; exact hs
 ·simp only at h1;rw [List.getElem?_take] at h1;split at h1
  ·refine h.loc n b cs h1 ?_;rw [← hloc, List.getElem?_append_left (by exact (List.getElem?_eq_some_iff.1 h2).1)];exact h2
  ·cases h1
 ·rw [hw.obj] at h2;exact h.obj n b cs h1 h2
def bT : List (Nat × Slot) → Nat → Slot
 | [], _ => .any
 | (a, s) :: r, t => if t = a then s else bT r t
def St.mk' (n : Nat) (l : List (Nat × Slot)) (loc obj : List (List D)) : St := { n, env := bT l, loc, obj }
theorem rE {st : St} {n : Nat} {l : List (Nat × Slot)} {loc obj : List (List D)} (hn : st.n = n) (hl : ∀ p ∈ l, qH loc.length (st.env p.1) p.2) (hloc : loc <+: st.loc) (hobj : st.obj = obj) : Weak st (St.mk' n l loc obj) := by
 refine ⟨hn, fun t => ?_, hloc, hobj.symm⟩;show qH loc.length (st.env t) (bT l t)
 induction l with
 | nil => unfold bT qH; split <;> simp_all
 | cons p l ih =>
  obtain ⟨a, s⟩ := p;unfold bT;split
  ·rename_i e; subst e; exact hl (t, s) (by simp)
  ·exact ih (fun q hq => hl q (by simp [hq]))
def qI {α : Type} (S : α → St) (p : α → Prop) (m : α → Nat) (x : α) (Q : Exit → St → Prop) : Exit → St → Prop
 | .normal, s => ∃ y, p y ∧ m y < m x ∧ Weak s (S y)
 | e, s => Q e s
theorem tT {α : Type} (S : α → St) (p : α → Prop) (m : α → Nat) (x0 : α) {body : Code} {Q : Exit → St → Prop} {st : St} (hw : Weak st (S x0)) (hp : p x0) (h : ∀ x, p x → fH P body (qI S p m x Q) (S x)) : fH P (.loop body) Q st := by
 intro w0 g0 w g tmps hf hok hn
 let I : Act → World → Prop := fun a w => a.defers = [] ∧ ∃ x g, p x ∧ Fr w0 g0 w g ∧ Ok w g (S x) (aU a.tmps) ∧ a.tmps.size = (S x).n
 have key : ∀ k (a : Act) (w : World), (a.defers = [] ∧ ∃ x g, p x ∧ m x = k ∧ Fr w0 g0 w g ∧ Ok w g (S x) (aU a.tmps) ∧ a.tmps.size = (S x).n) →
   body.wp P (Exit.then (fun a' w' => a'.defers = [] ∧ ∃ k', k' < k ∧ ∃ x g, p x ∧ m x = k' ∧ Fr w0 g0 w' g ∧ Ok w' g (S x) (aU a'.tmps) ∧ a'.tmps.size = (S x).n) (rQ w0 g0 Q)) a w := by
  rintro k ⟨tmps, ds⟩ w ⟨hd, x, g, hp, hm, hf, hok, hn⟩;simp only at hd;subst hd;refine wp_mono (h x hp w0 g0 w g tmps hf hok hn) ?_;rintro e a' w' ⟨hd', st', g', hq, hf', hok', hn'⟩;cases e with
  | normal =>
   obtain ⟨y, hy, hlt, hwk⟩ := hq;obtain ⟨g'', hf'', hok''⟩ := hok'.weak hwk;exact ⟨hd', m y, by omega, y, g'', hy, rfl, hf'.trans hf'', hok'', by rw [hn', hwk.n]⟩
  | _ => exact ⟨hd', st', g', hq, hf', hok', hn'⟩
 obtain ⟨g1, hf1, hok1⟩ := hok.weak hw;exact zE (fun k a w => a.defers = [] ∧ ∃ x g, p x ∧ m x = k ∧ Fr w0 g0 w g ∧ Ok w g (S x) (aU a.tmps) ∧ a.tmps.size = (S x).n) (m x0)
  ⟨rfl, x0, g1, hp, rfl, hf.trans hf1, hok1, by rw [hn, hw.n]⟩ fun k a w hI => wp_mono (key k a w hI) fun e a' w' he => by
   cases e with
   | normal => obtain ⟨hd, k', hk, hrest⟩ := he; exact ⟨k', hk, hd, hrest⟩
   | _ => exact he
end
end Go.Vm

