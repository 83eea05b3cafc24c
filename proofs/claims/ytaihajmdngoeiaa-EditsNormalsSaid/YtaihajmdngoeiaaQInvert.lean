import Derived.Test.YtaihajmdngoeiaaQDone
import Derived.Test.YtaihajmdngoeiaaF11
import Derived.Test.YtaihajmdngoeiaaF19
namespace Go.Proofs.Ytaihajmdngoeiaa.Q
open Go.RowKit Go.Proofs.YtaihajmdngoeiaaW.PrintWords Go.Proofs.YtaihajmdngoeiaaW.PrintLast Go.Proofs.YtaihajmdngoeiaaW.PrintMore
open Go.Proofs.Ytaihajmdngoeiaa.F

theorem chain_lt {size : Int} : ∀ {l : List S42} {q : Int}, Chain size (some q) l → ∀ j (h : j < l.length), q < (l[j]).f0 ∧ q < (l[j]).f1
  | e :: t, q, ⟨c1, c2, c3, c4, c5⟩, 0, _ => by have := c4 q rfl; exact ⟨this, by show q < e.f1; omega⟩
  | e :: t, q, ⟨c1, c2, c3, c4, c5⟩, j + 1, h => by
    have := c4 q rfl
    have h2 := chain_lt c5 j (by simpa using h)
    simp only [List.getElem_cons_succ]
    omega
theorem chain_take {size : Int} : ∀ {l : List S42} {p : Option Int}, Chain size p l → ∀ j (h : j < l.length), Chain (l[j]).f0 p (l.take j)
  | e :: t, p, _, 0, _ => trivial
  | e :: t, p, ⟨c1, c2, c3, c4, c5⟩, j + 1, h => by
    have h2 := chain_lt c5 j (by simpa using h)
    refine ⟨c1, c2, ?_, c4, ?_⟩
    · simp only [List.getElem_cons_succ]; omega
    · exact chain_take c5 j (by simpa using h)
theorem chain_drop {size : Int} : ∀ {l : List S42} {p : Option Int}, Chain size p l → ∀ j, ∃ q, Chain size q (l.drop j)
  | [], p, _, j => ⟨none, by simp [Chain]⟩
  | e :: t, p, h, 0 => ⟨p, h⟩
  | e :: t, p, ⟨c1, c2, c3, c4, c5⟩, j + 1 => by simpa using chain_drop c5 j
theorem chain_at {size : Int} {l : List S42} {p : Option Int} (h : Chain size p l) (j : Nat) (hj : j < l.length) : 0 ≤ (l[j]).f0 ∧ (l[j]).f0 ≤ (l[j]).f1 ∧ (l[j]).f1 ≤ size := by
  obtain ⟨q, hq⟩ := chain_drop h j
  rw [List.drop_eq_getElem_cons hj] at hq
  exact ⟨hq.1, hq.2.1, hq.2.2.1⟩
theorem sumG_bound : ∀ (l : List S42), (∀ x ∈ l, x.f2.size ≤ 140737488351232) → ∀ {size : Int} {p : Option Int}, Chain size p l → sumG l ≤ l.length * 140737488351232
  | [], _, _, _, _ => by simp [sumG]
  | e :: t, h, size, p, ⟨c1, c2, c3, c4, c5⟩ => by
    have := sumG_bound t (fun x hx => h x (List.mem_cons_of_mem _ hx)) c5
    have := h e List.mem_cons_self
    simp only [sumG, grow, List.length_cons]
    omega
theorem growsOf_eq (e : S42) : wrap64 (growsOf e) = wrap64 (grow e) := by unfold growsOf grow wrap64; omega
theorem wrap_add (a b : Int) : wrap64 (wrap64 a + b) = wrap64 (a + b) := by unfold wrap64; omega
theorem wrap_add' (a b : Int) : wrap64 (a + wrap64 b) = wrap64 (a + b) := by unfold wrap64; omega
theorem shift_step (s : Int) (e : S42) : wrap64 (wrap64 s + growsOf e) = wrap64 (s + grow e) := by unfold growsOf grow wrap64; omega

/-- The edits that take a list back; s: by how much the places have moved. -/
def invGo (text : ByteArray) : Int → List S42 → List S42
  | _, [] => []
  | s, e :: t => ⟨wrap64 (e.f0 + s), wrap64 (wrap64 (e.f0 + s) + e.f2.size), text.extract e.f0.toNat e.f1.toNat⟩ :: invGo text (s + grow e) t

theorem inv_loop (text : ByteArray) (l : List S42) (hl : l.length ≤ 65536) (hc : Chain text.size none l) (d : Nat) : ∀ (i : Nat) (s : Int) (out : List S42), i ≤ l.length → l.length - i = d → out.length + d ≤ 65536 →
    Ev (fun k => edits_Invert.l0 k text out (wrap64 s) l (l.length : Int) (i : Int)) (out ++ invGo text s (l.drop i), 0) := by
  induction d with
  | zero =>
    intro i s out h1 h2 ho
    refine ⟨1, fun n hn => ?_⟩
    obtain ⟨k, rfl⟩ : ∃ m, n = m + 1 := ⟨n - 1, by omega⟩
    simp only [edits_Invert.l0]
    rw [if_neg (by omega), List.drop_eq_nil_of_le (by omega)]
    simp [invGo]
  | succ d ih =>
    intro i s out h1 h2 ho
    have hi : i < l.length := by omega
    have hci : (i : Int) < (l.length : Int) := by omega
    have hc0 : (0 : Int) ≤ (i : Int) := by omega
    have hw : wrap64 ((i : Int) + 1) = ((i + 1 : Nat) : Int) := by rw [w64] <;> omega
    obtain ⟨e1, e2, e3⟩ := chain_at hc i hi
    have ho2 : out.length < 4398046511104 := by omega
    obtain ⟨K, hK⟩ := ih (i + 1) (s + grow l[i]) (out ++ [⟨wrap64 ((l[i]).f0 + s), wrap64 (wrap64 ((l[i]).f0 + s) + (l[i]).f2.size), text.extract (l[i]).f0.toNat (l[i]).f1.toNat⟩]) (by omega) (by omega) (by simp; omega)
    refine ⟨K + 1, fun n hn => ?_⟩
    obtain ⟨k, rfl⟩ : ∃ m, n = m + 1 := ⟨n - 1, by omega⟩
    have g := hK k (by omega)
    simp only at g
    simp only [edits_Invert.l0]
    rw [rd_at l i hi, if_pos hci, if_pos hc0, if_pos hci, if_pos e1, if_pos e2, if_pos e3, if_pos ho2, grows_is]
    simp only [Option.bind_some]
    rw [wrap_add', shift_step, hw, g, List.drop_eq_getElem_cons hi]
    simp [invGo]

theorem rinv_loop (text : ByteArray) (ht : text.size ≤ 140737488351232) (l : List S42) (hl : l.length ≤ 65536) (hB : ∀ x ∈ l, x.f2.size ≤ 140737488351232) (hc : Chain text.size none l) (d : Nat) : ∀ (i : Nat) (out : List S42), i ≤ l.length → l.length - i = d → out.length + d ≤ 65536 →
    Ev (fun k => monikerref1_Invert.l0 k text l out (i : Int)) (out ++ invGo text (sumG (l.take i)) (l.drop i), 0) := by
  induction d with
  | zero =>
    intro i out h1 h2 ho
    refine ⟨1, fun n hn => ?_⟩
    obtain ⟨k, rfl⟩ : ∃ m, n = m + 1 := ⟨n - 1, by omega⟩
    simp only [monikerref1_Invert.l0]
    rw [if_neg (by omega), List.drop_eq_nil_of_le (by omega)]
    simp [invGo]
  | succ d ih =>
    intro i out h1 h2 ho
    have hi : i < l.length := by omega
    have hci : (i : Int) < (l.length : Int) := by omega
    have hci' : (i : Int) ≤ (l.length : Int) := by omega
    have hc0 : (0 : Int) ≤ (i : Int) := by omega
    have hw : wrap64 ((i : Int) + 1) = ((i + 1 : Nat) : Int) := by rw [w64] <;> omega
    obtain ⟨e1, e2, e3⟩ := chain_at hc i hi
    have e4 : (l[i]).f0 ≤ (text.size : Int) := by omega
    have ho2 : out.length < 4398046511104 := by omega
    have hct := chain_take hc i hi
    have htl : (l.take i).length = i := by rw [List.length_take]; omega
    have hsb := sumG_bound (l.take i) (fun x hx => hB x (List.mem_of_mem_take hx)) hct
    rw [htl] at hsb
    have hcut : (text.extract 0 (l[i]).f0.toNat).size = (l[i]).f0.toNat := by rw [ByteArray.size_extract]; omega
    have hcut' : (l[i]).f0 = ((text.extract 0 (l[i]).f0.toNat).size : Int) := by rw [hcut]; omega
    have hsz := saidB_size (text.extract 0 (l[i]).f0.toNat) (l[i]).f0 hcut' (l.take i) 0 none hct (by omega) e1 (fun e t he => by
      have := hct
      rw [he] at this
      exact this.1)
    have hold := segs_old (l[i]).f0 e1 (l.take i) 0 none hct (by omega)
    have hlen := segs_len (l[i]).f0 (l.take i) 0
    rw [htl] at hlen
    have hfrom : ((saidB (text.extract 0 (l[i]).f0.toNat) (segs (l[i]).f0 0 (l.take i))).size : Int) = wrap64 ((l[i]).f0 + sumG (l.take i)) := by
      rw [hsz, w64] <;> omega
    have hsum : sumG (l.take i) + grow l[i] = sumG (l.take (i + 1)) := by
      rw [List.take_succ_eq_append_getElem hi, sumG_append]
      simp [sumG]
    have hsz2 : (saidB (text.extract 0 (l[i]).f0.toNat) (segs (l[i]).f0 0 (l.take i))).size ≤ 9223372036854775807 := by omega
    obtain ⟨K1, hK1⟩ := Done_is (l[i]).f0 e1 (by omega) (l.take i) (by omega) hct
    obtain ⟨K2, hK2⟩ := said_is (text.extract 0 (l[i]).f0.toNat) (segs (l[i]).f0 0 (l.take i)) (by omega) (fun r hr hf => by
      rw [← hcut']
      exact hold r hr hf) hsz2
    obtain ⟨K, hK⟩ := ih (i + 1) (out ++ [⟨wrap64 ((l[i]).f0 + sumG (l.take i)), wrap64 (wrap64 ((l[i]).f0 + sumG (l.take i)) + (l[i]).f2.size), text.extract (l[i]).f0.toNat (l[i]).f1.toNat⟩]) (by omega) (by omega) (by simp; omega)
    clear hsz hsb hsz2 hold hlen
    refine ⟨K + K1 + K2 + 1, fun n hn => ?_⟩
    obtain ⟨k, rfl⟩ : ∃ m, n = m + 1 := ⟨n - 1, by omega⟩
    have g := hK k (by omega)
    have g1 := hK1 k (by omega)
    have g2 := hK2 k (by omega)
    simp only at g g1 g2
    simp only [monikerref1_Invert.l0]
    rw [rd_at l i hi, if_pos hci, if_pos hc0, if_pos e1, if_pos e4, Whole_is]
    simp only [Option.bind_some]
    rw [if_pos hci', Int.toNat_natCast, g1]
    simp only [Option.bind_some]
    rw [g2]
    simp only [Option.bind_some]
    rw [if_pos e2, if_pos e3, if_pos ho2, hfrom, hw, g, List.drop_eq_getElem_cons hi]
    simp [invGo, hsum]

def Invspec (text : ByteArray) (l : List S42) : List S42 × Int := if vspec text.size l = 0 then (invGo text 0 l, 0) else ([], vspec text.size l)
theorem Invert_is (text : ByteArray) (l : List S42) : Ev (fun k => edits_Invert.f k text l) (Invspec text l) := by
  unfold edits_Invert.f Invspec
  refine (valid_is _ l).bind ?_
  by_cases h : vspec text.size l = 0
  · simp only [if_pos h]
    obtain ⟨hl, hc⟩ := vspec_zero h
    have := inv_loop text l hl hc l.length 0 0 [] (by omega) (by omega) (by simpa using hl)
    simpa [show wrap64 0 = 0 by rw [w64] <;> omega] using this
  · simp only [if_neg h]; exact Ev.now _
theorem RInvert_is (text : ByteArray) (ht : text.size ≤ 140737488351232) (l : List S42) (hB : ∀ x ∈ l, x.f2.size ≤ 140737488351232) : Ev (fun k => monikerref1_Invert.f k text l) (Invspec text l) := by
  unfold monikerref1_Invert.f Invspec
  refine (rvalid_is _ l).bind ?_
  by_cases h : vspec text.size l = 0
  · simp only [if_pos h]
    obtain ⟨hl, hc⟩ := vspec_zero h
    have := rinv_loop text ht l hl hB hc l.length 0 [] (by omega) (by omega) (by simpa using hl)
    simpa [sumG] using this
  · simp only [if_neg h]; exact Ev.now _
end Go.Proofs.Ytaihajmdngoeiaa.Q
