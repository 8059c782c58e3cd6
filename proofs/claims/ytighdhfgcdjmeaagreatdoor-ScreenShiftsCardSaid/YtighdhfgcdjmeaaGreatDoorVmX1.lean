import Derived.Test.YtighdhfgcdjmeaaGreatDoorVm14
namespace Go.Vm
open Go
set_option linter.all false

section
variable {P : Program}

theorem cB (d : D) : d.cells.length = d.ncells := by cases d <;> rfl

theorem Ok.freshX {w : World} {g : Gh} {st : St} {val : Nat → Value} (h : Ok w g st val) (d : Nat) (E : TypeId) (k cap : Nat) (es : List D) (cells : Array Value) (hk : 0 < k) (hc : es.length ≤ cap) (hm : cap ≤ maxLen) (hsize : cells.size = cap * k)
    (h1 : ∀ (o : Nat) (c : Value), cells[o]? = some c → c.oneCell' = true) (hs : ∀ (i : Nat) (d : D), es[i]? = some d → d.ncells = k ∧ d.arr = true)
    (hr : ∀ (i : Nat) (d : D) (j : Nat) (e : D), es[i]? = some d → d.cells[j]? = some e → ∃ x, cells[i * k + j]? = some x ∧ R g.M g.bs e x) :
    ∃ g', g'.bl = g.bl ∧ Fr w g (w.alloc (.cells cells E)) g' ∧ Ok (w.alloc (.cells cells E)) g' (st.set d (.d (.xs k es))) (fun u => if u = d then .slice (some ⟨w.heap.size, 0, none⟩) es.length cap else val u) := by
  obtain ⟨q1, q2⟩ := h.known cells #[] E (some (.slot d, [])) (fun o c h => by simp at h);refine ⟨{ g with M := g.M.add w.heap.size #[], X := fun b => if b = w.heap.size then some (.slot d, []) else g.X b }, rfl, q2, q1.set d _ _ ⟨.xs k es _ _ cap rfl hc hm (by simp), .xs _ _ _ _ (.inr ⟨w.heap.size, es.length, cap, cells, E, rfl, by simp, iJ w _, hk, hsize, rfl, hc, hm, fun o => by simp [Mem.add], h1, hs, fun i d j e a1 a2 => ?_⟩)⟩⟩;obtain ⟨x, x1, x2⟩ := hr i d j e a1 a2;exact ⟨x, x1, x2.mono q2.mono (fun _ _ h => h)⟩

theorem Ok.forget2 {w : World} {g : Gh} {st : St} {val : Nat → Value} {ts d : Nat} {A B : Slot} (h : Ok w g ((st.set ts A).set d B) val) (hne : ts ≠ d) : Ok w g ((st.set ts .any).set d B) val := by
  have := h.forget ts;have e : (((st.set ts A).set d B).set ts .any) = (st.set ts .any).set d B := by
    simp only [St.set];congr 1;funext u;by_cases h1 : u = d
    · subst h1; simp [Ne.symm hne]
    · by_cases h2 : u = ts
      · subst h2; simp [hne]
      · simp [h1, h2]
  rwa [e] at this

theorem eL {z : Array Value} {n : Nat} {c : Value} (h : c ∈ (Builtin.zeroCells z n).toList) (hz : 0 < z.size) : c ∈ z.toList := by
  simp only [Builtin.zeroCells, Array.toList_map, List.mem_map] at h;obtain ⟨i, _, rfl⟩ := h;have : i % z.size < z.size := Nat.mod_lt _ hz;simp [this]

def Rv (k : Nat) (es : List D) (x : D) : Prop := x = .xs k es ∨ (x = .sl true [] ∧ es = []) ∨ (x = .v (.slice none 0 0) ∧ es = [])

theorem yP {w : World} {g : Gh} {k ts : Nat} {es : List D} {x : D} {v : Value} (hb : Rv k es x) (h : SlotOk w g ts (.d x) v) : Oc w g.M g.bs g.X (.slot ts, []) k es v ∧ (∀ cs, x ≠ .tup cs) ∧ ∃ a n cap, v = .slice a n cap ∧ n = es.length ∧ (a = none → n = 0 ∧ cap = 0) := by
  obtain ⟨hr, ho⟩ := h;rcases hb with rfl | ⟨rfl, rfl⟩ | ⟨rfl, rfl⟩
  · refine ⟨?_, by simp, ?_⟩
    · cases ho with
      | xs p k es v ho => exact ho
      | flat p d v hf => simp [D.flat] at hf
    · cases hr with
      | xs k es a n cap hn hc hm ha => exact ⟨a, n, cap, rfl, hn, ha⟩
  · have hO : Kf w g.M g.X (.slot ts, []) [] v := by
      cases ho with
      | sl p es v ho => exact ho
      | flat p d v hf => simp [D.flat] at hf
    have h0 : ∃ a, v = .slice a 0 0 := by
      rcases hO with ⟨a, n, rfl⟩ | ⟨b, n, cap, k', cur, E, _, hc, _⟩
      · cases hr with
        | nil => exact ⟨_, rfl⟩
        | emp o a' cap hm' => exact ⟨_, rfl⟩
        | sl o' es' b off n' cap k vs hl hn hk hc => have hn0 : n = 0 := by simpa using hn
                                                     subst hn0; exact ⟨_, rfl⟩
      · exact absurd rfl hc
    obtain ⟨a, rfl⟩ := h0;exact ⟨.inl ⟨rfl, a, rfl⟩, by simp, a, 0, 0, rfl, rfl, fun _ => ⟨rfl, rfl⟩⟩
  · have hv := hr.vEq
    exact ⟨.inl ⟨rfl, none, hv⟩, by simp, none, 0, 0, hv, rfl, fun _ => ⟨rfl, rfl⟩⟩

def Ew (w : World) (g : Gh) (k : Nat) (xs : List D) (vx : Value) : Prop :=
  (xs = [] → ∃ a c, vx = .slice a 0 c) ∧ (xs ≠ [] → ∃ (b off cap : Nat) (vs : List Value), vx = .slice (some ⟨b, off, none⟩) xs.length cap ∧ vs.length = xs.length ∧ (∀ (i : Nat) (d : D) (x : Value), xs[i]? = some d → vs[i]? = some x → R g.M g.bs d x) ∧
      (∀ x : Value, x ∈ vs → x.cells.size = k ∧ ∀ c : Value, c ∈ x.cells.toList → c.oneCell' = true) ∧ (∀ (j : Nat) (c : Value), (vs.flatMap fun v => v.cells.toList)[j]? = some c → w.cell? ((⟨b, off, none⟩ : Addr).add j) = some c))

theorem nL {w : World} {g : Gh} {st : St} {val : Nat → Value} (hok : Ok w g st val) {o : Bool} {xs : List D} {vx : Value} {k : Nat} (hvx : R g.M g.bs (.sl o xs) vx) (hxs : ∀ d ∈ xs, d.ncells = k) : Ew w g k xs vx := by
  refine ⟨fun h => ?_, fun h => ?_⟩
  · subst h
    cases hvx with
    | nil => exact ⟨_, _, rfl⟩
    | emp o a cap hm => exact ⟨_, _, rfl⟩
    | sl o' es b off n cap k vs hl hn => subst hn; exact ⟨_, _, rfl⟩
  · obtain ⟨bx, offx, capx, vvx, rfl, l1, l2, l3, l4, l5, l6, l7⟩ := oN hok hvx hxs h
    exact ⟨bx, offx, capx, vvx, rfl, l1, l5, l6, fun j c hj => (l7 j c hj).1⟩

theorem dH {w : World} {g : Gh} {st : St} {tmps : Array Value} (hok : Ok w g st (aU tmps)) {t e : TypeId} {k by_ : Nat} {ti : TypeInfo} {zv : Value} (h1 : P.underlying t = some (.slice e)) (h2 : P.info? e = some ti) (h3 : ti.zero = some zv) (h5 : ti.size = k) (h6 : ti.bytes = by_) (h7 : zv.cells.size = k) (h8 : 0 < k) (hz : ∀ c ∈ zv.cells.toList, c.oneCell' = true)
    (ts d : Nat) (hne : ts ≠ d) (es xs : List D) (x0 : D) (hs : st.env ts = .d x0) (hbase : Rv k es x0) (vx : Value) (hvx : Ew w g k xs vx) (hb : (es.length + xs.length) * by_ ≤ 140737488355328) (hm : es.length + xs.length ≤ maxLen) (hxs : ∀ d ∈ xs, d.ncells = k ∧ d.arr = true) (ty : TypeId) :
    ∃ v w' g', (Builtin.append_ #[t, t] ty #[aU tmps ts, vx]).run P w = .ok v w' ∧ g'.bl = g.bl ∧ Fr w g w' g' ∧ Ok w' g' ((st.set ts .any).set d (.d (.xs k (es ++ xs)))) (fun u => if u = d then v else aU tmps u) := by
  have hsl := hok.slot ts;rw [hs] at hsl;obtain ⟨hO, hnt, a0, n0, cap0, hv0, hn0, hnil⟩ := yP hbase hsl;generalize hv : aU tmps ts = vs at hO hv0;subst h5; subst h6;by_cases hx0 : xs = []
  · subst hx0
    have hfc : ∀ (a : Option Addr) (c : Nat) w, (Builtin.firstCells ti.size 0 (.slice a 0 c)).run P w = .ok #[] w := by
      intro a c w;cases a with
      | none => simp [Builtin.firstCells]
      | some a => simp [Builtin.firstCells, loadCells, loadCellsFrom]
    obtain ⟨a, c, rfl⟩ := hvx.1 rfl;have hrun : n0 ≤ cap0 → (Builtin.append_ #[t, t] ty #[.slice a0 n0 cap0, .slice a 0 c]).run P w = .ok (.slice a0 n0 cap0) w := by
      intro hc;cases a0 with
      | none => obtain ⟨rfl, rfl⟩ := hnil rfl; simp [Builtin.append_, run_underlying h1, aR h2, Builtin.lenOf, hfc]
      | some a0 => simp [Builtin.append_, run_underlying h1, aR h2, Builtin.lenOf, hfc, hc, storeCells]
    rw [List.append_nil];rcases hO with ⟨rfl, a1, e1⟩ | ⟨b, n, cap, cur, E, e1, o1, o2, o3, o4, o5, o6, o7, o8, o9, o10, o11⟩
    · rw [hv0] at e1
      simp only [Value.slice.injEq] at e1;obtain ⟨rfl, rfl, rfl⟩ := e1;subst hv0;refine ⟨_, w, g, hrun (Nat.le_refl _), rfl, Fr.refl w g, ?_⟩;exact (hok.forget ts).set d _ _ ⟨.xs _ [] a0 0 0 rfl (Nat.le_refl _) (Nat.zero_le _) (fun _ => ⟨rfl, rfl⟩), .xs _ _ _ _ (.inl ⟨rfl, a0, rfl⟩)⟩
    · rw [hv0] at e1
      simp only [Value.slice.injEq] at e1;obtain ⟨rfl, rfl, rfl⟩ := e1;subst hv0;refine ⟨_, w, { g with X := cH (dG (.slot ts) [] (.slot d) []) g.X }, hrun o6, rfl, Fr.ren w g (dG (.slot ts) [] (.slot d) []), ?_⟩;obtain ⟨p1, _, _⟩ := hok.park ts _ hs hnt (dG (.slot ts) [] (.slot d) []) (fun t ht => fP ht);have p2 := (p1.set d (.d (.xs ti.size es)) (.slice (some ⟨b, 0, none⟩) n0 cap0) ⟨.xs _ es _ _ _ o5 o6 o7 (by simp), .xs _ _ _ _ (.inr ⟨b, n0, cap0, cur, E, rfl, ?_, o2, o3, o4, o5, o6, o7, o8, o9, o10, o11⟩)⟩)
      · exact p2.forget2 hne
      · show cH (dG (.slot ts) [] (.slot d) []) g.X b = some (.slot d, [])
        simp [cH, o1, dG]
  · obtain ⟨bx, offx, capx, vvx, rfl, l1, l5, l6, l7⟩ := hvx.2 hx0
    have hxlen : 0 < xs.length := by cases xs <;> simp_all
    have hxsz : ∀ v ∈ vvx, v.cells.size = ti.size := fun v hv => (l6 v hv).1;have hnl : (vvx.flatMap fun v => v.cells.toList).length = xs.length * ti.size := by rw [dE vvx hxsz, l1]
    have hnews : ∀ (j : Nat) (u : Value), (vvx.flatMap fun v => v.cells.toList)[j]? = some u → w.cell? ((⟨bx, offx, none⟩ : Addr).add j) = some u := fun j u hj => l7 j u hj;have hone : ∀ u ∈ (vvx.flatMap fun v => v.cells.toList), u.oneCell' = true := by
      intro u hu;rw [List.mem_flatMap] at hu;obtain ⟨v, hv, hu⟩ := hu;exact (l6 v hv).2 u hu
    -- the new elements' cells
    have newc : ∀ (i : Nat) (x : D) (j : Nat) (y : D), xs[i]? = some x → x.cells[j]? = some y → ∃ u, (vvx.flatMap fun v => v.cells.toList)[i * ti.size + j]? = some u ∧ R g.M g.bs y u := by
      intro i x j y a1 a2;have hi : i < vvx.length := by rw [l1]; exact (List.getElem?_eq_some_iff.1 a1).1
      have hvi : vvx[i]? = some vvx[i] := List.getElem?_eq_getElem hi;have hRx := l5 i x _ a1 hvi;have hmem := List.mem_of_getElem? a1;have hsz := hxsz _ (List.mem_of_getElem? hvi);have hj : j < vvx[i].cells.size := by
        rw [hsz, ← (hxs x hmem).1, ← cB];exact (List.getElem?_eq_some_iff.1 a2).1
      refine ⟨_, lT h8 vvx hxsz hvi (Array.getElem?_eq_getElem hj), ?_⟩;by_cases hany : x = .any
      · subst hany
        have : y = .any := by
          match j with
          | 0 => simpa [D.cells] using a2.symm
          | j + 1 => simp [D.cells] at a2
        rw [this]; exact .any _
      · have hnt' : ∀ cs, x ≠ .tup cs := by
          rintro cs rfl;have := (hxs _ hmem).2;simp [D.arr, D.cells, D.flat] at this
        exact (hRx.each hany hnt' j y _ a2 (Array.getElem?_eq_getElem hj)).1
    have hxs2 : ∀ (i : Nat) (d : D), xs[i]? = some d → d.ncells = ti.size ∧ d.arr = true := fun i d h => hxs d (List.mem_of_getElem? h);have hbig : es.length + xs.length ≤ 9223372036854775807 := by unfold maxLen at hm; omega
    have hdr : Ok w.drew g (st.set ts .any) (aU tmps) := (hok.forget ts).drew;have bdef : ∀ old, old < es.length + xs.length → Builtin.nextslicecap (es.length + xs.length) old * ti.bytes ≤ 281474976710656 := fun old ho => growslice_fits ho hb
    -- a new array
    have grown : ∀ (olds : List Value) (old : Nat), olds.length = es.length * ti.size → (∀ c ∈ olds, c.oneCell' = true) → (∀ (i : Nat) (d : D), es[i]? = some d → d.ncells = ti.size ∧ d.arr = true) →
        (∀ (i : Nat) (d : D) (j : Nat) (e : D), es[i]? = some d → d.cells[j]? = some e → ∃ x, olds[i * ti.size + j]? = some x ∧ R g.M g.bs e x) →
        ∃ g', g'.bl = g.bl ∧ Fr w g (w.drew.alloc (.cells (olds.toArray ++ (vvx.flatMap fun v => v.cells.toList).toArray ++ Builtin.zeroCells zv.cells (grownCap w (es.length + xs.length) old e - (es.length + xs.length))) e)) g' ∧
          Ok (w.drew.alloc (.cells (olds.toArray ++ (vvx.flatMap fun v => v.cells.toList).toArray ++ Builtin.zeroCells zv.cells (grownCap w (es.length + xs.length) old e - (es.length + xs.length))) e)) g' ((st.set ts .any).set d (.d (.xs ti.size (es ++ xs))))
            (fun u => if u = d then .slice (some ⟨w.heap.size, 0, none⟩) (es.length + xs.length) (grownCap w (es.length + xs.length) old e) else aU tmps u) := by
      intro olds old a1 a2 a3 a4;have hge := grownCap_ge w (es.length + xs.length) old e;have hcm : grownCap w (es.length + xs.length) old e ≤ maxLen := grownCap_le_maxLen w (es.length + xs.length) old e hm;obtain ⟨g', b1, b2, b3⟩ := hdr.freshX d e ti.size (grownCap w (es.length + xs.length) old e) (es ++ xs) (olds.toArray ++ (vvx.flatMap fun v => v.cells.toList).toArray ++ Builtin.zeroCells zv.cells (grownCap w (es.length + xs.length) old e - (es.length + xs.length))) h8
        (by simpa using hge) hcm
        (by
          simp only [Array.size_append, List.size_toArray, size_zeroCells, hnl, h7, a1, ← Nat.add_mul];congr 1;omega)
        (fun o c ho => by
          have hmem : c ∈ (olds.toArray ++ (vvx.flatMap fun v => v.cells.toList).toArray ++ Builtin.zeroCells zv.cells (grownCap w (es.length + xs.length) old e - (es.length + xs.length))).toList := by
            rw [← Array.getElem?_toList] at ho; exact List.mem_of_getElem? ho
          rw [Array.toList_append, Array.toList_append] at hmem;rcases List.mem_append.1 hmem with h | h
          · rcases List.mem_append.1 h with h | h
            · exact a2 c (by simpa using h)
            · exact hone c (by simpa using h)
          · exact hz c (eL h (by omega)))
        (fun i d c1 => by
          by_cases hi : i < es.length
          · rw [List.getElem?_append_left hi] at c1; exact a3 i d c1
          · rw [List.getElem?_append_right (by omega)] at c1; exact hxs2 _ d c1)
        (fun i d j y c1 c2 => by
          have hjk : j < ti.size := by
            have hd : d.ncells = ti.size := by
              by_cases hi : i < es.length
              · rw [List.getElem?_append_left hi] at c1; exact (a3 i d c1).1
              · rw [List.getElem?_append_right (by omega)] at c1; exact (hxs2 _ d c1).1
            rw [← hd, ← cB]; exact (List.getElem?_eq_some_iff.1 c2).1
          rw [← Array.getElem?_toList, Array.toList_append, Array.toList_append];by_cases hi : i < es.length
          · rw [List.getElem?_append_left hi] at c1
            obtain ⟨x, x1, x2⟩ := a4 i d j y c1 c2;refine ⟨x, ?_, x2⟩;have hlt : i * ti.size + j < olds.length := (List.getElem?_eq_some_iff.1 x1).1;rw [List.append_assoc, List.getElem?_append_left (by simpa using hlt)];simpa using x1
          · rw [List.getElem?_append_right (by omega)] at c1
            obtain ⟨x, x1, x2⟩ := newc _ d j y c1 c2;refine ⟨x, ?_, x2⟩;have hlt : (i - es.length) * ti.size + j < (vvx.flatMap fun v => v.cells.toList).length := (List.getElem?_eq_some_iff.1 x1).1;have hsub : i * ti.size = es.length * ti.size + (i - es.length) * ti.size := by rw [← Nat.add_mul]; congr 1; omega
            rw [List.append_assoc, List.getElem?_append_right (by simp only [a1]; omega), List.getElem?_append_left (by simp only [a1] at *; simpa using (by omega : i * ti.size + j - es.length * ti.size < (vvx.flatMap fun v => v.cells.toList).length))];have : i * ti.size + j - es.length * ti.size = (i - es.length) * ti.size + j := by omega
            simp only [a1];rw [this];simpa using x1)
      have hfr : Fr w g w.drew g := Fr.drew w g;refine ⟨g', b1, hfr.trans b2, ?_⟩;simp only [List.length_append] at b3;exact b3
    rcases hO with ⟨rfl, a1, e1⟩ | ⟨b, n, cap, cur, E, e1, o1, o2, o3, o4, o5, o6, o7, o8, o9, o10, o11⟩
    · rw [hv0] at e1
      simp only [Value.slice.injEq] at e1;obtain ⟨rfl, rfl, rfl⟩ := e1;subst hv0;obtain ⟨g', b1, b2, b3⟩ := grown [] 0 (by simp) (fun c h => by simp at h) (fun i d h => by simp at h) (fun i d j e h => by simp at h);simp only [List.length_nil, Nat.zero_add, List.nil_append] at *;cases a0 with
      | none =>
        refine ⟨_, _, g', run_append_nil (P := P) w t ty e ti zv h1 h2 h3 ⟨bx, offx, none⟩ xs.length capx _ hnl hnews hxlen (by omega) (by omega), b1, ?_, ?_⟩
        · simpa using b2
        · simpa using b3
      | some a0 =>
        have hr := run_append_grow (P := P) w t ty e ti zv h1 h2 h3 a0 0 0 [] (by simp) (fun j v h => by simp at h) ⟨bx, offx, none⟩ xs.length capx _ hnl hnews (by omega) (by omega) (by simpa using bdef 0 (by omega));simp only [Nat.zero_add] at hr;exact ⟨_, _, g', hr, b1, b2, b3⟩
    · rw [hv0] at e1
      simp only [Value.slice.injEq] at e1;obtain ⟨rfl, rfl, rfl⟩ := e1;subst hv0;subst o5;have hcs : es.length * ti.size ≤ cur.size := by rw [o4]; exact Nat.mul_le_mul_right _ o6
      by_cases hroom : es.length + xs.length ≤ cap0
      · have hfit : es.length * ti.size + (vvx.flatMap fun v => v.cells.toList).length ≤ cur.size := by
          rw [hnl, o4, ← Nat.add_mul]; exact Nat.mul_le_mul_right _ hroom
        have hr := jI (P := P) w t ty e E ti h1 h2 b es.length cap0 cur o2 ⟨bx, offx, none⟩ xs.length capx _ hnl hnews hone hroom hfit;generalize hcur : (cur.toList.take (es.length * ti.size) ++ (vvx.flatMap fun v => v.cells.toList) ++ cur.toList.drop (es.length * ti.size + (vvx.flatMap fun v => v.cells.toList).length)).toArray = cur' at hr;have hget : ∀ o, cur'[o]? = if o < es.length * ti.size then cur[o]? else if o < es.length * ti.size + (vvx.flatMap fun v => v.cells.toList).length then (vvx.flatMap fun v => v.cells.toList)[o - es.length * ti.size]? else cur[o]? := by
          intro o;rw [← hcur, List.getElem?_toArray, bX (by simpa using hfit)];simp
        have hsize : cur'.size = cur.size := by
          rw [← hcur, List.size_toArray, cU (by simpa using hfit), Array.length_toList]
        obtain ⟨p1, _, _⟩ := hok.park ts _ hs hnt (dG (.slot ts) [] (.slot d) []) (fun t ht => fP ht);have htag : cH (dG (.slot ts) [] (.slot d) []) g.X b = some (.slot d, []) := by simp [cH, o1, dG]
        obtain ⟨q1, q2⟩ := (p1.forget d).extend d b 0 cur cur' E (fun _ => none) htag (by simp [St.set]) o2 (fun o _ => o8 o) (fun o h => by omega) (fun o c h => by cases h);have q2' := (Fr.ren w g (dG (.slot ts) [] (.slot d) [])).trans q2;refine ⟨_, _, _, hr, ?_, q2', ?_⟩
        · rfl
        have hMM : ∀ o, (if o < 0 then g.M b o else none) = none := fun o => by simp
        have q3 := q1.set d (.d (.xs ti.size (es ++ xs))) (.slice (some ⟨b, 0, none⟩) (es.length + xs.length) cap0) ⟨.xs _ _ _ _ _ (by simp) hroom o7 (by simp), .xs _ _ _ _ (.inr ⟨b, _, cap0, cur', E, rfl, htag, setRow_heap w b cur cur' E (0, 0) o2, o3, by rw [hsize, o4], by simp, hroom, o7, fun o => by simp, ?_, ?_, ?_⟩)⟩
        · have e : (((st.set ts (.d x0.s2)).set d .any).set d (.d (.xs ti.size (es ++ xs)))) = (st.set ts (.d x0.s2)).set d (.d (.xs ti.size (es ++ xs))) := St.set_set st ts d _ _ _
          rw [e] at q3;exact q3.forget2 hne
        · intro o c ho
          rw [hget] at ho;split at ho
          · exact o9 o c ho
          · split at ho
            · exact hone c (List.mem_of_getElem? ho)
            · exact o9 o c ho
        · intro i d' c1
          by_cases hi : i < es.length
          · rw [List.getElem?_append_left hi] at c1; exact o10 i d' c1
          · rw [List.getElem?_append_right (by omega)] at c1; exact hxs2 _ d' c1
        · intro i d' j y c1 c2
          by_cases hi : i < es.length
          · rw [List.getElem?_append_left hi] at c1
            obtain ⟨x, x1, x2⟩ := o11 i d' j y c1 c2;have hjk : j < ti.size := by
              rw [← (o10 i d' c1).1, ← cB]; exact (List.getElem?_eq_some_iff.1 c2).1
            have hlt : i * ti.size + j < es.length * ti.size := by
              have : (i + 1) * ti.size ≤ es.length * ti.size := Nat.mul_le_mul_right _ hi;rw [Nat.add_mul] at this; omega
            refine ⟨x, by rw [hget, if_pos hlt]; exact x1, x2.mono ?_ (fun _ _ h => h)⟩;exact q2.mono
          · rw [List.getElem?_append_right (by omega)] at c1
            obtain ⟨x, x1, x2⟩ := newc _ d' j y c1 c2;have hlt : (i - es.length) * ti.size + j < (vvx.flatMap fun v => v.cells.toList).length := (List.getElem?_eq_some_iff.1 x1).1;have hsub : i * ti.size = es.length * ti.size + (i - es.length) * ti.size := by rw [← Nat.add_mul]; congr 1; omega
            have ha : ¬ (i * ti.size + j < es.length * ti.size) := by omega
            have hb' : i * ti.size + j < es.length * ti.size + (vvx.flatMap fun v => v.cells.toList).length := by omega
            refine ⟨x, by rw [hget, if_neg ha, if_pos hb', show i * ti.size + j - es.length * ti.size = (i - es.length) * ti.size + j by omega]; exact x1, x2.mono q2.mono (fun _ _ h => h)⟩
      · have hto : (cur.toList.take (es.length * ti.size)).length = es.length * ti.size := by rw [List.length_take, Array.length_toList]; exact Nat.min_eq_left hcs
        have hgt : ∀ (j : Nat) (v : Value), (cur.toList.take (es.length * ti.size))[j]? = some v → j < es.length * ti.size ∧ cur[j]? = some v := by
          intro j v hj;rw [List.getElem?_take] at hj;split at hj
          · rename_i h; exact ⟨h, by simpa using hj⟩
          · cases hj
        obtain ⟨g', b1, b2, b3⟩ := grown (cur.toList.take (es.length * ti.size)) cap0 hto (fun c hc => by
            obtain ⟨j, hj⟩ := List.getElem?_of_mem hc;exact o9 j c (hgt j c hj).2) o10 (fun i d' j y c1 c2 => by
            obtain ⟨x, x1, x2⟩ := o11 i d' j y c1 c2;have hi := (List.getElem?_eq_some_iff.1 c1).1;have hjk : j < ti.size := by
              rw [← (o10 i d' c1).1, ← cB]; exact (List.getElem?_eq_some_iff.1 c2).1
            have hlt : i * ti.size + j < es.length * ti.size := by
              have : (i + 1) * ti.size ≤ es.length * ti.size := Nat.mul_le_mul_right _ hi;rw [Nat.add_mul] at this; omega
            exact ⟨x, by rw [List.getElem?_take, if_pos hlt]; simpa using x1, x2⟩)
        have hr := run_append_grow (P := P) w t ty e ti zv h1 h2 h3 ⟨b, 0, none⟩ es.length cap0 (cur.toList.take (es.length * ti.size)) hto (fun j v hj => by
            rw [Addr.add_none, cell_of_row w b (0 + j) cur E (0, 0) o2, Nat.zero_add]; exact (hgt j v hj).2) ⟨bx, offx, none⟩ xs.length capx _ hnl hnews (by omega) (by omega) (bdef cap0 (by omega))
        exact ⟨_, _, g', hr, b1, b2, b3⟩

end
end Go.Vm

