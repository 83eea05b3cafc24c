import Derived.Test.YtaihajmdngoeiaaQShift
import Derived.Test.YtaihajmdngoeiaaF12
import Derived.Test.YtaihajmdngoeiaaF13
import Derived.Test.YtaihajmdngoeiaaF14
import Derived.Test.YtaihajmdngoeiaaF15
import Derived.Test.YtaihajmdngoeiaaF16
import Derived.Test.YtaihajmdngoeiaaF17
import Derived.Test.YtaihajmdngoeiaaF18
namespace Go.Proofs.Ytaihajmdngoeiaa.Q
open Go.RowKit Go.Proofs.YtaihajmdngoeiaaW.PrintWords Go.Proofs.YtaihajmdngoeiaaW.PrintLast Go.Proofs.YtaihajmdngoeiaaW.PrintMore
open Go.Proofs.Ytaihajmdngoeiaa.F

theorem rd61_at (l : List S61) (i : Nat) (h : i < l.length) : rd_T61 l (i : Int) = l[i] := by
  simp [rd_T61, List.getD_eq_getElem?_getD, h]
theorem mx_0 {x : Int} (h : 0 ≤ x) : mx x 0 = x := by unfold mx; omega
theorem mn_le {x y : Int} (h : x ≤ y) : mn x y = x := by unfold mn; omega

def whole (F : Int) : List S61 := if F = 0 then [] else [⟨true, 0, F, ⟨#[]⟩⟩]
theorem Whole_is (F : Int) : monikerref1_Whole.f F = some (whole F) := by
  unfold monikerref1_Whole.f whole
  split <;> rfl
def kp (a b : Int) : List S61 := if a < b then [⟨true, a, b, ⟨#[]⟩⟩] else []
/-- What a list of edits leaves of one run: the kept stretches and the texts. -/
def segs (F : Int) : Int → List S42 → List S61
  | a, [] => kp a F
  | a, e :: t => kp a e.f0 ++ ⟨false, 0, 0, e.f2⟩ :: segs F e.f1 t

theorem kept_one (F x y : Int) (hF : 0 ≤ F) (hF2 : F ≤ 4611686018427387904) (hx : 0 ≤ x) (hxF : x ≤ F) (hy : 0 ≤ y) (hyF : y ≤ F) : Ev (fun k => monikerref1_kept.f k (whole F) 0 x y) (kp x y) := by
  unfold monikerref1_kept.f whole
  by_cases h0 : F = 0
  · rw [if_pos h0]
    refine ⟨2, fun n hn => ?_⟩
    obtain ⟨k, rfl⟩ : ∃ m, n = m + 2 := ⟨n - 2, by omega⟩
    simp only [monikerref1_kept.l0]
    rw [if_neg (by simp)]
    simp only [monikerref1_kept.j1, kp]
    rw [if_neg (by simp), if_neg (by omega)]
  · rw [if_neg h0]
    refine ⟨6, fun n hn => ?_⟩
    obtain ⟨k, rfl⟩ : ∃ m, n = m + 6 := ⟨n - 6, by omega⟩
    have hend : ∀ (j : Nat) (a : Int) (o : List S61), monikerref1_kept.l0 (j + 2) [⟨true, 0, F, ⟨#[]⟩⟩] a x y o 1 = some o := by
      intro j a o
      simp only [monikerref1_kept.l0]
      rw [if_neg (by simp)]
      simp only [monikerref1_kept.j1]
      rw [if_neg (by simp)]
    have hr : rd_T61 [⟨true, 0, F, ⟨#[]⟩⟩] 0 = ⟨true, 0, F, ⟨#[]⟩⟩ := rfl
    have hw : wrap64 (F - 0) = F := by rw [w64] <;> omega
    have hw1 : wrap64 (x - 0) = x := by rw [w64] <;> omega
    have hw2 : wrap64 (y - 0) = y := by rw [w64] <;> omega
    have hw3 : wrap64 (0 + 1) = 1 := by rw [w64] <;> omega
    have hw4 : wrap64 (0 + x) = x := by rw [w64] <;> omega
    have hw5 : wrap64 (0 + y) = y := by rw [w64] <;> omega
    simp only [monikerref1_kept.l0]
    rw [if_pos (by simp)]
    simp only [monikerref1_kept.j1]
    rw [if_pos (by simp; omega), if_pos (by omega), if_pos (by simp), hr]
    simp only [monikerref1_Run_size.f, if_true, Option.bind_some, hw]
    rw [if_neg h0]
    simp only [monikerref1_kept.j2]
    rw [if_neg (by simp), hr]
    simp only [hw1, hw2, hw3]
    rw [mx_0 hx, mn_le hyF]
    unfold kp
    by_cases hxy : x < y
    · rw [if_pos hxy, if_pos hxy, if_pos (by omega), if_pos (by simp)]
      simp only [monikerref1_Run_part.f, if_true, Option.bind_some, hw4, hw5]
      rw [if_pos (by simp)]
      exact hend _ _ _
    · rw [if_neg hxy, if_neg hxy]
      exact hend _ _ _

theorem done_loop (F : Int) (hF : 0 ≤ F) (hF2 : F ≤ 4611686018427387904) (es : List S42) (hlen : es.length ≤ 65536) (d : Nat) : ∀ (i : Nat) (at_ : Int) (out : List S61) (p : Option Int), i ≤ es.length → es.length - i = d → 0 ≤ at_ → at_ ≤ F → Chain F p (es.drop i) → out.length + 2 * d ≤ 200000 →
    Ev (fun k => monikerref1_Done.l0 k (whole F) es out at_ F 0 (i : Int)) (out ++ segs F at_ (es.drop i)) := by
  induction d with
  | zero =>
    intro i at_ out p h1 h2 ha1 ha2 hc ho
    obtain ⟨K, hK⟩ := kept_one F at_ F hF hF2 ha1 ha2 hF (Int.le_refl _)
    refine ⟨K + 1, fun n hn => ?_⟩
    obtain ⟨k, rfl⟩ : ∃ m, n = m + 1 := ⟨n - 1, by omega⟩
    have := hK k (by omega)
    simp only at this
    simp only [monikerref1_Done.l0]
    rw [if_neg (by omega), this, List.drop_eq_nil_of_le (by omega)]
    simp only [Option.bind_some, segs]
    have hk : (kp at_ F).length ≤ 1 := by unfold kp; split <;> simp
    rw [if_pos (by omega)]
  | succ d ih =>
    intro i at_ out p h1 h2 ha1 ha2 hc ho
    have hi : i < es.length := by omega
    have hw : wrap64 ((i : Int) + 1) = ((i + 1 : Nat) : Int) := by rw [w64] <;> omega
    have hci : (i : Int) < (es.length : Int) := by omega
    have hc0 : (0 : Int) ≤ (i : Int) := by omega
    have hnl : ¬ wrap64 (0 + wrap64 (F - 0)) < at_ := by rw [w64 (x := F - 0) (by omega) (by omega), w64] <;> omega
    rw [List.drop_eq_getElem_cons hi] at hc ⊢
    obtain ⟨c1, c2, c3, c4, c5⟩ := hc
    obtain ⟨K, hK⟩ := kept_one F at_ (es[i]).f0 hF hF2 ha1 ha2 c1 (by omega)
    have hk : (kp at_ (es[i]).f0).length ≤ 1 := by unfold kp; split <;> simp
    have hb1 : out.length + (kp at_ (es[i]).f0).length < 3518437208883 := by omega
    have hb2 : (out ++ kp at_ (es[i]).f0).length < 3518437208883 := by rw [List.length_append]; omega
    obtain ⟨K', hK'⟩ := ih (i + 1) (es[i]).f1 (out ++ kp at_ (es[i]).f0 ++ [⟨false, 0, 0, (es[i]).f2⟩]) (some (es[i]).f1) (by omega) (by omega) (by omega) c3 c5 (by simp; omega)
    refine ⟨K + K' + 2, fun n hn => ?_⟩
    obtain ⟨k, rfl⟩ : ∃ m, n = m + 2 := ⟨n - 2, by omega⟩
    have g1 := hK k (by omega)
    have g2 := hK' k (by omega)
    simp only at g1 g2
    have htail : ((monikerref1_kept.f k (whole F) 0 at_ (es[i]).f0).bind fun t180 => (if out.length + t180.length < 3518437208883 then ((some (out ++ t180 : List S61)).bind fun y183 => (if y183.length < 3518437208883 then (monikerref1_Done.l0 k (whole F) es (y183 ++ [(⟨false, 0, 0, (es[i]).f2⟩ : S61)]) ((es[i]).f1) F 0 (wrap64 ((i : Int) + 1))) else (none))) else (none))) = some (out ++ segs F at_ (es[i] :: es.drop (i + 1))) := by
      rw [g1]
      simp only [Option.bind_some]
      rw [if_pos hb1, if_pos hb2, hw, g2]
      simp [segs]
    simp only [monikerref1_Done.l0]
    rw [if_pos hci]
    simp only [monikerref1_Done.l1, rd_at es i hi]
    by_cases h0 : F = 0
    · have hw0 : whole F = [] := by unfold whole; rw [if_pos h0]
      rw [hw0] at htail ⊢
      rw [if_neg (by simp), if_pos hc0, if_pos hci]
      exact htail
    · have hw0 : whole F = [⟨true, 0, F, ⟨#[]⟩⟩] := by unfold whole; rw [if_neg h0]
      rw [hw0] at htail ⊢
      have hr : rd_T61 [⟨true, 0, F, ⟨#[]⟩⟩] 0 = ⟨true, 0, F, ⟨#[]⟩⟩ := rfl
      rw [if_pos (by simp), if_pos (by simp), hr]
      simp only [monikerref1_Run_size.f, if_true, Option.bind_some]
      rw [if_neg hnl, if_pos hc0, if_pos hci]
      exact htail

theorem Size_whole (F : Int) (hF : 0 ≤ F) (hF2 : F ≤ 4611686018427387904) : Ev (fun k => monikerref1_Size.f k (whole F)) F := by
  unfold monikerref1_Size.f whole
  by_cases h0 : F = 0
  · rw [if_pos h0]
    refine ⟨1, fun n hn => ?_⟩
    obtain ⟨k, rfl⟩ : ∃ m, n = m + 1 := ⟨n - 1, by omega⟩
    simp only [monikerref1_Size.l0]
    rw [if_neg (by simp), h0]
  · rw [if_neg h0]
    refine ⟨2, fun n hn => ?_⟩
    obtain ⟨k, rfl⟩ : ∃ m, n = m + 2 := ⟨n - 2, by omega⟩
    have hr : rd_T61 [⟨true, 0, F, ⟨#[]⟩⟩] 0 = ⟨true, 0, F, ⟨#[]⟩⟩ := rfl
    simp only [monikerref1_Size.l0]
    rw [if_pos (by simp), if_pos (by omega), hr]
    simp only [monikerref1_Run_size.f, if_true, Option.bind_some]
    rw [w64 (x := F - 0) (by omega) (by omega), w64 (x := 0 + 1) (by omega) (by omega), if_neg (by simp), w64 (by omega) (by omega)]
    simp
theorem Done_is (F : Int) (hF : 0 ≤ F) (hF2 : F ≤ 4611686018427387904) (es : List S42) (hlen : es.length ≤ 65536) (hc : Chain F none es) : Ev (fun k => monikerref1_Done.f k (whole F) es) (segs F 0 es) := by
  unfold monikerref1_Done.f
  refine (Size_whole F hF hF2).bind ?_
  have := done_loop F hF hF2 es hlen es.length 0 0 [] none (by omega) (by omega) (by omega) hF hc (by simp; omega)
  simpa using this

def piece (text : ByteArray) (r : S61) : ByteArray := if r.f0 = true then text.extract r.f1.toNat r.f2.toNat else r.f3
def saidB (text : ByteArray) : List S61 → ByteArray
  | [] => ⟨#[]⟩
  | r :: t => piece text r ++ saidB text t
theorem said_loop (text : ByteArray) (rs : List S61) (hlen : rs.length ≤ 1000000) (hr : ∀ r ∈ rs, r.f0 = true → 0 ≤ r.f1 ∧ r.f1 ≤ r.f2 ∧ r.f2 ≤ text.size) (d : Nat) : ∀ (i : Nat) (acc : ByteArray), i ≤ rs.length → rs.length - i = d → acc.size + (saidB text (rs.drop i)).size ≤ 9223372036854775807 →
    Ev (fun k => monikerref1_said.l0 k text rs acc (i : Int)) (acc ++ saidB text (rs.drop i)) := by
  induction d with
  | zero =>
    intro i acc h1 h2 hs
    refine ⟨1, fun n hn => ?_⟩
    obtain ⟨k, rfl⟩ : ∃ m, n = m + 1 := ⟨n - 1, by omega⟩
    simp only [monikerref1_said.l0]
    rw [if_neg (by omega), List.drop_eq_nil_of_le (by omega)]
    simp only [saidB]
    congr 1
    exact (ByteArray.append_empty).symm
  | succ d ih =>
    intro i acc h1 h2 hs
    have hi : i < rs.length := by omega
    rw [List.drop_eq_getElem_cons hi] at hs ⊢
    simp only [saidB] at hs ⊢
    rw [ByteArray.size_append] at hs
    obtain ⟨K, hK⟩ := ih (i + 1) (acc ++ piece text rs[i]) (by omega) (by omega) (by rw [ByteArray.size_append]; omega)
    refine ⟨K + 1, fun n hn => ?_⟩
    obtain ⟨k, rfl⟩ : ∃ m, n = m + 1 := ⟨n - 1, by omega⟩
    have g := hK k (by omega)
    have hw : wrap64 ((i : Int) + 1) = ((i + 1 : Nat) : Int) := by rw [w64] <;> omega
    simp only at g
    simp only [monikerref1_said.l0]
    rw [rd61_at rs i hi, if_pos (by omega), if_pos (by omega), hw, ← ByteArray.append_assoc]
    by_cases h : (rs[i]).f0 = true
    · obtain ⟨e1, e2, e3⟩ := hr _ (List.getElem_mem hi) h
      have hp : piece text rs[i] = text.extract (rs[i]).f1.toNat (rs[i]).f2.toNat := by unfold piece; rw [if_pos h]
      rw [hp] at g hs ⊢
      rw [if_pos h, if_pos e1, if_pos e2, if_pos e3, if_pos (by omega)]
      exact g
    · have hp : piece text rs[i] = (rs[i]).f3 := by unfold piece; rw [if_neg h]
      rw [hp] at g hs ⊢
      rw [if_neg h, if_pos (by omega)]
      exact g
theorem said_is (text : ByteArray) (rs : List S61) (hlen : rs.length ≤ 1000000) (hr : ∀ r ∈ rs, r.f0 = true → 0 ≤ r.f1 ∧ r.f1 ≤ r.f2 ∧ r.f2 ≤ text.size) (hs : (saidB text rs).size ≤ 9223372036854775807) : Ev (fun k => monikerref1_said.f k text rs) (saidB text rs) := by
  unfold monikerref1_said.f
  have := said_loop text rs hlen hr rs.length 0 ⟨#[]⟩ (by omega) (by omega) (by rw [List.drop_zero, show (⟨#[]⟩ : ByteArray).size = 0 from rfl]; omega)
  have e : (⟨#[]⟩ : ByteArray) ++ saidB text (rs.drop 0) = saidB text rs := by rw [List.drop_zero]; exact ByteArray.empty_append
  rw [e] at this
  exact this

def grow (e : S42) : Int := (e.f2.size : Int) - (e.f1 - e.f0)
def sumG : List S42 → Int
  | [] => 0
  | e :: t => grow e + sumG t
theorem sumG_append : ∀ (l m : List S42), sumG (l ++ m) = sumG l + sumG m
  | [], m => by simp [sumG]
  | e :: t, m => by simp only [List.cons_append, sumG]; rw [sumG_append t m]; omega
theorem saidB_append (text : ByteArray) : ∀ (l m : List S61), saidB text (l ++ m) = saidB text l ++ saidB text m
  | [], m => by simp only [List.nil_append, saidB]; exact ByteArray.empty_append.symm
  | r :: t, m => by simp only [List.cons_append, saidB]; rw [saidB_append text t m, ByteArray.append_assoc]
theorem saidB_kp (text : ByteArray) (a b : Int) (ha : 0 ≤ a) (hb : b ≤ text.size) : ((saidB text (kp a b)).size : Int) = if a < b then b - a else 0 := by
  unfold kp
  split
  · simp only [saidB, piece]
    rw [if_pos trivial, ByteArray.size_append, ByteArray.size_extract]
    simp only [ByteArray.size, List.size_toArray, List.length_nil]
    simp only [ByteArray.size] at hb
    omega
  · simp [saidB, ByteArray.size]
theorem saidB_size (text : ByteArray) (F : Int) (hF : F = text.size) : ∀ (es : List S42) (a : Int) (p : Option Int), Chain F p es → 0 ≤ a → a ≤ F → (∀ e t, es = e :: t → a ≤ e.f0) → ((saidB text (segs F a es)).size : Int) = F - a + sumG es
  | [], a, p, _, h0, h1, _ => by
    simp only [segs, sumG]
    rw [saidB_kp text a F h0 (by omega)]
    split <;> omega
  | e :: t, a, p, ⟨c1, c2, c3, c4, c5⟩, h0, h1, h2 => by
    have ha := h2 e t rfl
    have ih := saidB_size text F hF t e.f1 (some e.f1) c5 (by omega) c3 (fun e' t' ht => by subst ht; have := c5.2.2.2.1 _ rfl; omega)
    simp only [segs, sumG]
    rw [saidB_append, ByteArray.size_append]
    simp only [saidB, piece]
    rw [ByteArray.size_append]
    simp only [Bool.false_eq_true, if_false]
    have hk := saidB_kp text a e.f0 h0 (by omega)
    unfold grow
    split at hk <;> omega
theorem segs_old (F : Int) (hF : 0 ≤ F) : ∀ (es : List S42) (a : Int) (p : Option Int), Chain F p es → 0 ≤ a → ∀ r ∈ segs F a es, r.f0 = true → 0 ≤ r.f1 ∧ r.f1 ≤ r.f2 ∧ r.f2 ≤ F
  | [], a, p, _, h0, r, hr, _ => by
    simp only [segs, kp] at hr
    split at hr
    · simp only [List.mem_singleton] at hr
      subst hr
      exact ⟨h0, by show a ≤ F; omega, Int.le_refl _⟩
    · cases hr
  | e :: t, a, p, ⟨c1, c2, c3, c4, c5⟩, h0, r, hr, hf => by
    simp only [segs, List.mem_append, List.mem_cons] at hr
    rcases hr with hr | rfl | hr
    · unfold kp at hr
      split at hr
      · simp only [List.mem_singleton] at hr
        subst hr
        exact ⟨h0, by show a ≤ e.f0; omega, by show e.f0 ≤ F; omega⟩
      · cases hr
    · cases hf
    · exact segs_old F hF t e.f1 _ c5 (by omega) r hr hf
theorem segs_len (F : Int) : ∀ (es : List S42) (a : Int), (segs F a es).length ≤ 2 * es.length + 1
  | [], a => by simp only [segs, kp]; split <;> simp
  | e :: t, a => by
    have := segs_len F t e.f1
    simp only [segs, List.length_append, List.length_cons]
    have : (kp a e.f0).length ≤ 1 := by unfold kp; split <;> simp
    omega
end Go.Proofs.Ytaihajmdngoeiaa.Q
