import Derived.Deep.LoopGhost
import Derived.Deep.Draws
import Derived.WalkKit
import Derived.Lib.SlBuf
import Derived.Lib.SlParts
import Derived.Test.YtighdhfgcdjmeaaGreatDoorScLay
import Derived.Test.YtighdhfgcdjmeaaGreatDoorVmS3
import Derived.Test.YtighdhfgcdjmeaaGreatDoorWkS2
namespace Go.Proofs.YtighdhfgcdjmeaaGreatDoor
open Go Go.Vm Go.Proofs Go.RowKit Go.Shelf
set_option linter.all false
set_option maxRecDepth 100000
set_option maxHeartbeats 4000000
theorem Bd (l : List UInt8) (b : UInt8) : Lib.trimRightB (l ++ [b]) 32 = if b = 32 then Lib.trimRightB l 32 else l ++ [b] := by
 unfold Lib.trimRightB;simp only [List.reverse_append, List.reverse_cons, List.reverse_nil, List.nil_append, List.singleton_append, List.dropWhile_cons];by_cases h : b = 32
 ·simp [h]
 ·simp [h]
theorem yE : ∀ (n : Nat) (l : List UInt8), l.length = n → (⟨(Lib.trimRightB l 32).toArray⟩ : ByteArray) = uZ n ⟨l.toArray⟩
 | 0, l, h => by
  obtain rfl := List.eq_nil_of_length_eq_zero h;rfl
 | n + 1, l, h => by
  obtain ⟨i, b, rfl⟩ : ∃ i b, l = i ++ [b] := by
   have hne : l ≠ [] := by rintro rfl; simp at h
   exact ⟨l.dropLast, l.getLast hne, (List.dropLast_concat_getLast hne).symm⟩
  have hi : i.length = n := by simpa using h
  have hsz : (⟨(i ++ [b]).toArray⟩ : ByteArray).size = n + 1 := by show (i ++ [b]).toArray.size = _; simp [hi]
  have hb : jS ⟨(i ++ [b]).toArray⟩ n = b.toNat := by unfold jS; simp [← hi]
  have hx : (⟨(i ++ [b]).toArray⟩ : ByteArray).extract 0 n = ⟨i.toArray⟩ := by
   apply ByteArray.ext; rw [ByteArray.data_extract]; simp [← hi]
  rw [Bd];simp only [uZ, hsz, Nat.add_sub_cancel, hb, hx];by_cases hc : b = 32
  ·rw [if_pos hc, if_pos ⟨by omega, by rw [hc]; rfl⟩]; exact yE n i hi
  ·rw [if_neg hc, if_neg (fun hh => hc (UInt8.toNat_inj.1 hh.2))]
theorem Ko (s : ByteArray) : (⟨(Lib.trimRightB s.data.toList 32).toArray⟩ : ByteArray) = sN s := by
 rw [yE s.size s.data.toList (by show s.data.toList.length = s.data.size; simp)];rfl
theorem Bk (b o cap : Nat) (p : Option Addr) (l : Ls) (w : World) (hl : l.length ≤ 1000) (hs : ∀ s ∈ l, s.size ≤ 1000) (hp : 0 < l.length → p = some ⟨b, o, none⟩) (hc : ∀ (i : Nat) s, l[i]? = some s → w.cell? ⟨b, o + i, none⟩ = some (.string s)) :
  Calls Tryz.prog 17 #[.slice p l.length cap] w fun e w' => e = .returned (.string (kL l)) ∧ Below w.heap.size w w' := by
 go_enter Tryz.func17, Tryz.ntmps17
 go_wp2
 go_loopg [8] l.length (fun g s8 wr => ∃ i : Nat, i ≤ l.length ∧ g = l.length - i ∧ s8 = .int .i64 i ∧ Lib.IsBuilder 107 5 w.heap.size w.heap.size (Lib.byteCells (kL (l.take i)).data.toList) wr ∧ Below w.heap.size w wr)
 case atStart => exact ⟨0, Nat.zero_le _, rfl, rfl, by rw [List.take_zero]; exact Lib.fresh_isBuilder 107 5 w, (Below.refl _ w).alloc (Nat.le_refl _) _⟩
 case round =>
  obtain ⟨i, hi, rfl, rfl, hB, hbw⟩ := hrel;by_cases hlt : i < l.length
  ·have hcell := hc i l[i] (List.getElem?_eq_getElem hlt);have hcw : wr.cell? ⟨b, o + i, none⟩ = some (.string l[i]) := Lib.Below.cellOf hbw hcell (Nat.le_refl _);obtain rfl := hp (by omega);have hsi := hs l[i] (List.getElem_mem hlt);have hjs := rX l i hs hi;have htz : (sN l[i]).size ≤ l[i].size := mN _ _;have h10 : (⟨#[10]⟩ : ByteArray).size = 1 := rfl;have cT := Tryz.strings_TrimRight_one l[i] 32 (by decide) wr (by omega);rw [Ko] at cT;have hlen : (Lib.byteCells (kL (l.take i)).data.toList).length = (kL (l.take i)).size := by rw [Lib.byteCells_length]; show _ = (kL (l.take i)).data.size; simp
   have cW := Tryz.Builder_WriteString w.heap.size w.heap.size _ (sN l[i] ++ ⟨#[10]⟩) wr hB (by rw [hlen, ByteArray.size_append]; omega) hbw.size;generalize hTB : sN l[i] = TB at cT cW htz;have hcat : ¬ (9223372036854775807 < TB.size + (⟨#[10]⟩ : ByteArray).size) := by omega
   go_wp2_with (first | (go_at_call 39; refine cT.mono ?_; rintro e w' ⟨rfl, hw⟩; rw [hw]) | (go_at_call 38; refine cW.mono ?_; rintro e W1 ⟨rfl, h1, b1⟩))
   go_roundg (l.length - (i + 1))
   case measure => omega
   case rel =>
    refine ⟨i + 1, by omega, rfl, by go_num, Or.inr ?_, hbw.trans b1⟩;rw [sH l i hlt, hTB];rw [Lib.strCells_eq, ← Lib.byteCells_append] at h1;rw [ByteArray.data_append, Array.toList_append];exact h1
  ·obtain rfl : i = l.length := by omega
   have cS := Tryz.Builder_String_any w.heap.size w.heap.size _ wr hB hbw.size;rw [List.take_length] at cS
   go_wp2_with (go_at_call 40; refine cS.mono ?_; rintro e W1 ⟨rfl, b1⟩)
   go_ret
   exact ⟨rfl, hbw.trans b1⟩
theorem Oz (l : Ls) (σ : List (List D)) (hl : l.length ≤ 1000) (hs : ∀ s ∈ l, s.size ≤ 1000) : Ct Tryz.prog 17 [dl l] σ (fun r σ' => r = .v (.string (kL l)) ∧ σ' = σ) := by
 refine ⟨by kernel_rfl, fun w g vs hvs hb ho => ?_⟩;have s0 := (ho.slot 0).1;change R g.M g.bs (dl l) (aU vs 0) at s0;have h1 : vs = #[aU vs 0] := by
  apply Array.ext
  ·simpa using hvs
  ·intro i h1 h2;obtain rfl : i = 0 := by simp at h2; omega
   show vs[0] = vs.getD 0 undef
   rw [Array.getD_eq_getD_getElem?, Array.getElem?_eq_getElem h1]; rfl
 rw [h1];generalize aU vs 0 = x0 at s0;have key : ∃ (b o cap : Nat) (p : Option Addr), x0 = .slice p l.length cap ∧ (0 < l.length → p = some ⟨b, o, none⟩) ∧ ∀ (i : Nat) s, l[i]? = some s → w.cell? ⟨b, o + i, none⟩ = some (.string s) := by
  by_cases h0 : l = []
  ·subst h0;cases s0 with
   | nil => exact ⟨0, 0, 0, none, rfl, by simp, by simp⟩
   | emp o a cap hm => exact ⟨0, 0, cap, some a, rfl, by simp, by simp⟩
   | sl _ _ b off n cap k vs' hl' hn hk hc hm hr hs' hx => subst hn; exact ⟨b, off, cap, _, rfl, by simp, by simp⟩
  ·obtain ⟨b, off, cap, rfl, _, _, hcl⟩ := R.cellsOf s0 (by simpa using h0) (by intro d hd; obtain ⟨a, _, rfl⟩ := List.mem_map.1 hd; rfl);refine ⟨b, off, cap, _, by rw [List.length_map], fun _ => rfl, fun i s hi => ?_⟩;obtain ⟨x, hx1, hx2, hx3⟩ := hcl i (D.str s) (by rw [List.getElem?_map, hi]; rfl);cases hx1;exact ho.mem _ _ _ (hx3 _ rfl)
 obtain ⟨b, o, cap, p, rfl, hp, hc⟩ := key;refine (Bk b o cap p l w hl hs hp hc).mono ?_;rintro e w' ⟨rfl, hbel⟩;exact ⟨_, σ, _, g, rfl, ⟨rfl, rfl⟩, hb, Fr.below g hbel, (ho.below hbel).res hb _ _ (.v _ rfl) (.flat _ _ _ rfl)⟩
end Go.Proofs.YtighdhfgcdjmeaaGreatDoor

