import Derived.Test.YtighdhfgcdjmeaaGreatDoorVm5
namespace Go.Vm
open Go
set_option linter.all false
section
variable {P : Program}
def D.solid : D → Bool
 | .any | .tup _ | .mit _ _ _ _ => false
 | _ => true
theorem dK {d : D} (h : d.solid = true) : d ≠ .any ∧ ∀ cs, d ≠ .tup cs := by
 cases d <;> simp_all [D.solid]
def eS (P : Program) (dst : Option Tmp) (t : TypeId) (x i : Operand) (st : St) (K : St → Prop) : Prop :=
 match st.rd i with
 | .v (.int _ n) =>
  match eP P t with
  | some (_, k, _, _) =>
   match st.rd x with
   | .sl _ es => (0 ≤ n ∧ n < es.length) ∧ (es.getD n.toNat .any).solid = true ∧ (es.getD n.toNat .any).ncells = k ∧ K (st.put dst (.d (.adr (es.getD n.toNat .any).cells)))
   | _ => False
  | none =>
   match Da P t with
   | some (len, k) => (st.rdS x).isAddr = true ∧ (0 ≤ n ∧ n < len) ∧ K (st.put dst ((st.rdS x).plus (n.toNat * k)))
   | none => False
 | _ => False
theorem uW {t : TypeId} {n k : Nat} (h : Da P t = some (n, k)) : ∃ e i, P.underlying t = some (.array n e) ∧ P.info? e = some i ∧ i.size = k := by
 unfold Da at h;split at h
 ·rename_i n' e h1;split at h
  ·rename_i i h2;simp only [Option.some.injEq, Prod.mk.injEq] at h;obtain ⟨rfl, rfl⟩ := h;exact ⟨e, i, h1, h2, rfl⟩
  ·cases h
 ·cases h
theorem sY {o : Oper} {st : St} {K : St → Prop} (t : TypeId) (x i : Operand) (hd : bL o st) (ho : o.op = .indexAddr t x i) (h : eS P o.dst t x i st K) : Does P o st K := by
 unfold eS at h;split at h
 ·rename_i kk n hi;split at h
  ·rename_i e k by_ z he;obtain ⟨ti, zv, h1, h2, h3, h4, h5, h6, h7, h8⟩ := dD he;split at h
   ·rename_i own es hx;obtain ⟨⟨hn0, hn1⟩, hs, hk, hK⟩ := h;refine aT hd _ (fun w g tmps hok => ?_) hK;have hr := hok.rd x;rw [hx] at hr;have hri := hok.rd i;rw [hi] at hri;have hiv := hri.int;generalize hv : ev tmps x = v at hr;have hlt : n.toNat < es.length := by omega
    have hel : es[n.toNat]? = some (es.getD n.toNat .any) := by simp [List.getD, List.getElem?_eq_getElem hlt]
    cases hr with
    | nil o => simp at hlt
    | emp o a cap hm => simp at hlt
    | sl o' es b off m cap k' vs hl hm hk' hc hmx hrr hss hxx =>
     have hvlt : n.toNat < vs.length := by omega
     have hvv : vs[n.toNat]? = some vs[n.toNat] := List.getElem?_eq_getElem hvlt;have hkk : k' = k := by rw [← hk]; exact (hss _ _ hel).symm
     subst hkk;refine ⟨.pointer (some ⟨b, off + n.toNat * k', none⟩), ?_, aM ?_ rfl⟩
     ·have hc2 : 0 ≤ n ∧ n < (m : Int) := ⟨hn0, by omega⟩;simp [execOp, ho, Instr.indexAt, hv, hiv, asIntOf, run_underlying h1, aR h2, h5, hc2, Addr.add_none]
     ·have hre := hrr _ _ _ hel hvv;have hsz := (hxx _ _ hvv).1;refine .adr _ b _ vs[n.toNat].cells.toList ?_ (fun j d y a1 a2 => ?_) (fun j y a1 => ?_)
      ·rw [Array.length_toList, hsz, ← hk];cases (es.getD n.toNat D.any) <;> rfl
      ·exact (hre.each (dK hs).1 (dK hs).2 j d y a1 (by simpa using a2)).1
      ·have := (hxx _ _ hvv).2 j y (by simpa using a1);rw [show off + n.toNat * k' + j = off + (n.toNat * k' + j) by omega];exact this
   ·exact h.elim
  ·split at h
   ·rename_i len k ha;obtain ⟨e, ti, h1, h2, h3⟩ := uW ha;obtain ⟨hx, ⟨hn0, hn1⟩, hK⟩ := h;refine aT hd _ (fun w g tmps hok => ?_) hK;have hri := hok.rd i;rw [hi] at hri;have hiv := hri.int;obtain ⟨b, off, hv, hs⟩ := hok.plus (n.toNat * k) hx;refine ⟨_, ?_, hs⟩;have hc2 : 0 ≤ n ∧ n < (len : Int) := ⟨hn0, hn1⟩;simp [execOp, ho, Instr.indexAt, hv, hiv, asIntOf, run_underlying h1, aR h2, h3, Instr.sureAddr, hc2, Addr.add_none]
   ·exact h.elim
 ·exact h.elim
def kB (P : Program) (dst : Option Tmp) (t : TypeId) (x i : Operand) (st : St) (K : St → Prop) : Prop :=
 match st.rd x, st.rd i with
 | .v (.string s), .v (.int _ n) => P.underlying t = some .string ∧ (0 ≤ n ∧ n < s.size) ∧ K (st.put dst (.d (.v (.int .u8 ((s.data.toList.getD n.toNat 0).toNat : Nat)))))
 | .agg cs, .v (.int _ n) => match P.underlying t with
  | some (.array len e) => match eR P e with
   | some (a, m) => match lD a m (cs.drop (n.toNat * m)) with
    | some d => (0 ≤ n ∧ n < len) ∧ K (st.put dst (.d d.s2))
    | none => False
   | none => False
  | _ => False
 | _, _ => False
theorem De {o : Oper} {st : St} {K : St → Prop} (t : TypeId) (x i : Operand) (hd : bL o st) (ho : o.op = .index t x i) (h : kB P o.dst t x i st K) : Does P o st K := by
 unfold kB at h;split at h
 ·rename_i s kk n hx hi;obtain ⟨ht, ⟨hn0, hn1⟩, hK⟩ := h;refine aT hd _ (fun w g tmps hok => ?_) hK;have hr := hok.rd x;rw [hx] at hr;have hxv := hr.vEq;have hri := hok.rd i;rw [hi] at hri;have hiv := hri.int;refine ⟨_, ?_, aM (.v _ rfl) rfl⟩;have hlt : n.toNat < s.size := by omega
  have hl2 : n.toNat < s.data.size := hlt;have e : s[n.toNat]? = some (s.data.toList.getD n.toNat 0) := by
   rw [getElem?_pos s n.toNat hlt];have e2 : s.data.toList.getD n.toNat 0 = s.data[n.toNat] := by simp [List.getD, Array.getElem?_eq_getElem hl2]
   rw [e2];rfl
  simp [execOp, ho, Instr.index, hxv, hiv, asIntOf, run_underlying ht, hn0, e]
 ·rename_i cs kk n hx hi;split at h
  ·rename_i len e hu;split at h
   ·rename_i a m hty;split at h
    ·rename_i d hld;obtain ⟨⟨hn0, hn1⟩, hK⟩ := h;obtain ⟨td, ti, i1, i2, i3, i4⟩ := gR hty;refine aT hd _ (fun w g tmps hok => ?_) hK;have hr := hok.rd x;rw [hx] at hr;have hri := hok.rd i;rw [hi] at hri;have hiv := hri.int;generalize hv : ev tmps x = v at hr;cases hr with
     | agg cs vs hl hr h1' =>
      obtain ⟨y, hy, hry⟩ := zM (P := P) (w := w) hl hr h1' hty hld;refine ⟨y, ?_, lP hry (qP hl hr h1' hld)⟩;simp [execOp, ho, Instr.index, hv, hiv, asIntOf, run_underlying hu, hn0, hn1, aR i2, i4, hy]
    ·exact h.elim
   ·exact h.elim
  ·exact h.elim
 ·exact h.elim
def cK (st : St) (d : Int) : Option Operand → Option Int
 | none => some d
 | some x => match st.rd x with
  | .v (.int _ n) => some n
  | _ => none
def jT (P : Program) (dst : Option Tmp) (t : TypeId) (x : Operand) (lo hi mx : Option Operand) (st : St) (K : St → Prop) : Prop :=
 match st.rd x with
 | .v (.string s) => mx = none ∧ P.underlying t = some .string ∧ match cK st 0 lo, cK st s.size hi with
  | some l, some h => (0 ≤ l ∧ l ≤ h ∧ h ≤ s.size) ∧ K (st.put dst (.d (.str (s.extract l.toNat h.toNat))))
  | _, _ => False
 | .sl _ es => match eP P t with
  | some (_, k, _, _) => match mx with
   | none => match cK st 0 lo, cK st es.length hi with
    | some l, some h => (0 ≤ l ∧ l ≤ h ∧ h ≤ es.length) ∧ (∀ d ∈ es, d.ncells = k) ∧ K (st.put dst (.d (.sl false ((es.take h.toNat).drop l.toNat))))
    | _, _ => False
   | some m => match cK st 0 lo, cK st 0 hi, cK st 0 (some m) with
    | some l, some h, some m => (l = 0 ∧ h = 0 ∧ m = 0) ∧ hi ≠ none ∧ K (st.put dst (.d (.sl true [])))
    | _, _, _ => False
  | none => False
 | _ => False
theorem fA {w : World} {g : Gh} {st : St} {tmps : Array Value} (hok : Ok w g st (aU tmps)) {d n : Int} {x : Option Operand} (h : cK st d x = some n) : (x = none ∧ n = d) ∨ ∃ y k, x = some y ∧ ev tmps y = .int k n := by
 cases x with
 | none => simp [cK] at h; exact .inl ⟨rfl, h.symm⟩
 | some y =>
  simp only [cK] at h;split at h
  ·rename_i k m hy;simp at h;subst h;have hr := hok.rd y;rw [hy] at hr;exact .inr ⟨y, k, rfl, hr.int⟩
  ·cases h
theorem bU {k : IntKind} {i : Int} {y : Nat} {code : BoundsCode} {w : World} (h : 0 ≤ i ∧ i ≤ y) : (Instr.sliceBound (.int k i) y code).run P w = .ok i.toNat w := by
 simp [Instr.sliceBound, asIntOf, h]
theorem dC {w : World} {g : Gh} {st : St} {tmps : Array Value} (hok : Ok w g st (aU tmps)) {isSlice : Bool} {len cap : Nat} {lo hi : Option Operand} {l h : Int} (hcap : len ≤ cap)
  (h1 : cK st 0 lo = some l) (h2 : cK st len hi = some h) (hb : 0 ≤ l ∧ l ≤ h ∧ h ≤ len) :
  (Instr.sliceBounds isSlice len cap (lo.map (ev tmps)) (hi.map (ev tmps)) none).run P w = .ok (l.toNat, h.toNat, cap) w := by
 obtain ⟨b1, b2, b3⟩ := hb;rcases fA hok h1 with ⟨rfl, rfl⟩ | ⟨y, k, rfl, e1⟩ <;> rcases fA hok h2 with ⟨rfl, rfl⟩ | ⟨z, k', rfl, e2⟩
 ·simp [Instr.sliceBounds]
 ·simp [Instr.sliceBounds, e2, bU (P := P) (w := w) (k := k') (i := h) (y := cap) (code := if isSlice = true then .sliceAcap else .sliceAlen) (by omega)]
 ·have := bU (P := P) (w := w) (k := k) (i := l) (y := len) (code := .sliceB) (by omega);simp [Instr.sliceBounds, e1, this]
 ·have a1 := bU (P := P) (w := w) (k := k') (i := h) (y := cap) (code := if isSlice = true then .sliceAcap else .sliceAlen) (by omega);have a2 := bU (P := P) (w := w) (k := k) (i := l) (y := h.toNat) (code := .sliceB) (by omega);simp [Instr.sliceBounds, e1, e2, a1, a2]
theorem Bi {o : Oper} {st : St} {K : St → Prop} (t : TypeId) (x : Operand) (lo hi mx : Option Operand) (hd : bL o st) (ho : o.op = .slice t x lo hi mx) (h : jT P o.dst t x lo hi mx st K) : Does P o st K := by
 unfold jT at h;split at h
 ·rename_i s hx;obtain ⟨rfl, ht, h⟩ := h;split at h
  ·rename_i l hh e1 e2;obtain ⟨hb, hK⟩ := h;refine aT hd _ (fun w g tmps hok => ?_) hK;have hr := hok.rd x;rw [hx] at hr;have hxv := hr.vEq;refine ⟨_, ?_, aM (.v _ rfl) rfl⟩;have := dC (P := P) (isSlice := false) hok (Nat.le_refl s.size) e1 e2 hb;simp [execOp, ho, Instr.sliceAt, hxv, run_underlying ht, Instr.slice, this]
  ·exact h.elim
 ·rename_i own es hx;split at h
  ·rename_i e k by_ z he;obtain ⟨ti, zv, h1, h2, h3, h4, h5, h6, h7, h8⟩ := dD he;split at h
   ·split at h
    ·rename_i l hh e1 e2;obtain ⟨hb, hnc, hK⟩ := h;refine aT hd _ (fun w g tmps hok => ?_) hK;have hr := hok.rd x;rw [hx] at hr;generalize hv : ev tmps x = v at hr;cases hr with
     | nil o =>
      have := dC (P := P) (isSlice := true) hok (Nat.le_refl 0) e1 e2 hb;have hl0 : l = 0 := by have := hb.2.2; have := hb.2.1; have := hb.1; simp at *; omega
      have hh0 : hh = 0 := by have := hb.2.2; have := hb.2.1; have := hb.1; simp at *; omega
      subst hl0; subst hh0;refine ⟨.slice none 0 0, ?_, aM (by simpa using R.nil false) rfl⟩;simp at this;simp [execOp, ho, Instr.sliceAt, hv, run_underlying h1, Instr.slice, this, aR h2]
     | emp o a cap hm =>
      have := dC (P := P) (isSlice := true) hok (Nat.zero_le cap) e1 e2 hb;have hl0 : l = 0 := by have := hb.2.2; have := hb.2.1; have := hb.1; simp at *; omega
      have hh0 : hh = 0 := by have := hb.2.2; have := hb.2.1; have := hb.1; simp at *; omega
      subst hl0; subst hh0;refine ⟨.slice (some a) 0 cap, ?_, aM (by simpa using R.emp false a cap hm) rfl⟩;simp at this;simp [execOp, ho, Instr.sliceAt, hv, run_underlying h1, Instr.slice, this, aR h2, Addr.add]
     | sl o' es b off m cap k' vs hl hm hk' hc hmx hrr hss hxx =>
      have e2' : cK st m hi = some hh := by rw [hm]; exact e2
      have := dC (P := P) (isSlice := true) hok hc e1 e2' (by omega);obtain ⟨b1, b2, b3⟩ := hb;by_cases hml : cap = l.toNat
      ·-- the piece is empty, and lies at the end
       have hh0 : hh.toNat = l.toNat := by omega
       subst hml;refine ⟨.slice (some ⟨b, off, none⟩) (hh.toNat - l.toNat) (l.toNat - l.toNat), ?_, aM ?_ rfl⟩
       ·simp [execOp, ho, Instr.sliceAt, hv, run_underlying h1, Instr.slice, this, aR h2]
       ·have e0 : (es.take hh.toNat).drop l.toNat = [] := by
         apply List.drop_eq_nil_of_le;rw [List.length_take]; omega
        rw [e0];refine .sl false [] b off _ _ k' [] rfl (by simp; omega) hk' (by omega) (by omega) (fun i d y a => by simp at a) (fun i d a => by simp at a) (fun i y a => by simp at a)
      ·refine ⟨.slice (some ⟨b, off + l.toNat * k, none⟩) (hh.toNat - l.toNat) (cap - l.toNat), ?_, aM ?_ rfl⟩
       ·simp [execOp, ho, Instr.sliceAt, hv, run_underlying h1, Instr.slice, this, aR h2, hml, h5, Addr.add_none]
       ·have hlen : ((es.take hh.toNat).drop l.toNat).length = hh.toNat - l.toNat := by rw [List.length_drop, List.length_take]; omega
        by_cases he0 : hh.toNat = l.toNat
        ·have e0 : (es.take hh.toNat).drop l.toNat = [] := by
          apply List.drop_eq_nil_of_le;rw [List.length_take]; omega
         rw [e0];refine .sl false [] b _ _ _ k' [] rfl (by simp; omega) hk' (by omega) (by omega) (fun i d y a => by simp at a) (fun i d a => by simp at a) (fun i y a => by simp at a)
        ·have hkk : k' = k := by
          have h0 : 0 < es.length := by omega
          have hel : es[0]? = some es[0] := List.getElem?_eq_getElem h0;rw [← hss 0 _ hel];exact hnc _ (List.getElem_mem h0)
         subst hkk;have get : ∀ {α : Type} (xs : List α) (i : Nat) (y : α), ((xs.take hh.toNat).drop l.toNat)[i]? = some y → xs[l.toNat + i]? = some y := by
          intro α xs i y a;rw [List.getElem?_drop, List.getElem?_take] at a;split at a
          ·exact a
          ·cases a
         refine .sl false _ b _ _ _ k' ((vs.take hh.toNat).drop l.toNat) (by rw [hlen, List.length_drop, List.length_take]; omega) hlen.symm hk' (by omega) (by omega)
          (fun i d y a1 a2 => hrr _ d y (get _ _ _ a1) (get _ _ _ a2)) (fun i d a => hss _ d (get _ _ _ a)) (fun i y a => ?_)
         have := hxx _ _ (get _ _ _ a);refine ⟨this.1, fun j c hj => ?_⟩;have h9 := this.2 j c hj;rw [show off + l.toNat * k' + (i * k' + j) = off + ((l.toNat + i) * k' + j) by rw [Nat.add_mul]; omega];exact h9
    ·exact h.elim
   ·rename_i m;split at h
    ·rename_i l hh mm e1 e2 e3;obtain ⟨⟨rfl, rfl, rfl⟩, hne, hK⟩ := h;refine aT hd _ (fun w g tmps hok => ?_) hK;have hr := hok.rd x;rw [hx] at hr;generalize hv : ev tmps x = v at hr;obtain ⟨y2, k2, rfl, ev2⟩ : ∃ y k, hi = some y ∧ ev tmps y = .int k 0 := by
      rcases fA hok e2 with ⟨rfl, _⟩ | h
      ·exact absurd rfl hne
      ·exact h
     obtain ⟨y3, k3, h3', ev3⟩ : ∃ y k, some m = some y ∧ ev tmps y = .int k 0 := by
      rcases fA hok e3 with ⟨h, _⟩ | h
      ·cases h
      ·exact h
     cases h3';have b2 := bU (P := P) (w := w) (k := k2) (i := 0) (y := 0) (code := .slice3B) (by omega);have b3 : ∀ cap : Nat, (Instr.sliceBound (.int k3 0) cap .slice3Acap).run P w = .ok 0 w := fun cap => bU (P := P) (w := w) (k := k3) (i := 0) (y := cap) (code := .slice3Acap) (by omega);cases hr with
     | nil o =>
      refine ⟨.slice none 0 0, ?_, fun t => ⟨.nil true, .sl _ _ _ (.inl ⟨_, _, rfl⟩)⟩⟩;simp [execOp, ho, Instr.sliceAt, hv, run_underlying h1, Instr.slice, Instr.sliceBounds, ev2, ev3, b2, b3, aR h2];rcases fA hok e1 with ⟨rfl, _⟩ | ⟨y, k, rfl, e⟩
      ·simp
      ·have b1 := bU (P := P) (w := w) (k := k) (i := 0) (y := 0) (code := .slice3C) (by omega);simp at b1;simp [b1, e]
     | emp o a cap hm =>
      refine ⟨.slice (some a) 0 0, ?_, fun t => ⟨.emp true a 0 (Nat.zero_le _), .sl _ _ _ (.inl ⟨_, _, rfl⟩)⟩⟩;simp [execOp, ho, Instr.sliceAt, hv, run_underlying h1, Instr.slice, Instr.sliceBounds, ev2, ev3, b2, b3, aR h2, Addr.add];rcases fA hok e1 with ⟨rfl, _⟩ | ⟨y, k, rfl, e⟩
      ·simp
      ·have b1 := bU (P := P) (w := w) (k := k) (i := 0) (y := 0) (code := .slice3C) (by omega);simp at b1;simp [b1, e]
     | sl o' es b off n cap k' vs hl hm hk' hc hmx hrr hss hxx =>
      refine ⟨.slice (some ⟨b, off, none⟩) 0 0, ?_, fun t => ⟨.sl true [] b off _ _ k' [] rfl rfl hk' (Nat.le_refl _) (by simp) (fun i d y a => by simp at a) (fun i d a => by simp at a) (fun i y a => by simp at a), .sl _ _ _ (.inl ⟨_, _, rfl⟩)⟩⟩;simp [execOp, ho, Instr.sliceAt, hv, run_underlying h1, Instr.slice, Instr.sliceBounds, ev2, ev3, b2, b3, aR h2];rcases fA hok e1 with ⟨rfl, _⟩ | ⟨y, k, rfl, e⟩
      ·simp
      ·have b1 := bU (P := P) (w := w) (k := k) (i := 0) (y := 0) (code := .slice3C) (by omega);simp at b1;simp [b1, e]
    ·exact h.elim
  ·exact h.elim
 ·exact h.elim
end
end Go.Vm

