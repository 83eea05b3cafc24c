/- The law EditsChain of package monikerlaw holds of the given program: called with any arguments that can be read as data, together of bulk at most 1048576, it returns true, and its arguments read behind the call as before. Conditions: those of the given row '..Upto', no others. -/
import Derived.Test.YtaihajmdngoeiaaZChain0
import Derived.Test.YtaihajmdngoeiaaWMore
import Derived.SizedLaws
import Derived.ChangeSlices
import Derived.Deep.Slices
import Derived.Test.YtaihajmdngoeiaaRows
import Derived.JoinedCond
import Derived.ChangeArms
import Derived.WalkKit
import Derived.ProofKit
import Derived.OpenShut
import Derived.ShutString
import Derived.ChangeOld
import Derived.Below
namespace Go.Proofs.Ytaihajmdngoeiaa.Q
open Go.RowKit Go.Proofs.YtaihajmdngoeiaaW.PrintWords Go.Proofs.YtaihajmdngoeiaaW.PrintLast Go.Proofs.YtaihajmdngoeiaaW.PrintMore
open Go.Proofs.Ytaihajmdngoeiaa.F
set_option linter.unusedVariables false
set_option linter.unusedSimpArgs false

theorem stepG_a (lo hi sh : Int) (fi : List S67) (se : List S42) (e : S42) (r b : List S42) : stepG ⟨lo, hi, sh, fi, se, e :: r, b⟩ = if takesA lo hi sh e b = true then some (nextA ⟨lo, hi, sh, fi, se, e :: r, b⟩ e r) else stepB ⟨lo, hi, sh, fi, se, e :: r, b⟩ := rfl
/-- A group from its first edit on. -/
theorem gS_gat0 (sh : Int) (a b : List S42) (hne : ¬ (a = [] ∧ b = [])) (ha : ∀ e r, a = e :: r → 0 ≤ e.f0 + sh) (hb : ∀ f t, b = f :: t → 0 ≤ f.f0) :
    ∃ A2, (gS (a.length + b.length + 1) ⟨-1, 0, sh, [], [], a, b⟩).first = place sh A2 ∧ (gS (a.length + b.length + 1) ⟨-1, 0, sh, [], [], a, b⟩).sh = sh + sumG A2 ∧
      gat0 sh (a.map edOf) (b.map edOf) = ((gS (a.length + b.length + 1) ⟨-1, 0, sh, [], [], a, b⟩).lo, ((gS (a.length + b.length + 1) ⟨-1, 0, sh, [], [], a, b⟩).hi, A2.map edOf, (gS (a.length + b.length + 1) ⟨-1, 0, sh, [], [], a, b⟩).second.map edOf, (gS (a.length + b.length + 1) ⟨-1, 0, sh, [], [], a, b⟩).a.map edOf, (gS (a.length + b.length + 1) ⟨-1, 0, sh, [], [], a, b⟩).b.map edOf)) := by
  have n1 : (-1 : Int) < 0 := by decide
  have hA : ∀ (k : Nat) (e : S42) (r b : List S42), 0 ≤ e.f0 + sh → ∃ A2, (gS k (nextA ⟨-1, 0, sh, [], [], e :: r, b⟩ e r)).first = place sh A2 ∧ (gS k (nextA ⟨-1, 0, sh, [], [], e :: r, b⟩ e r)).sh = sh + sumG A2 ∧ (gS k (nextA ⟨-1, 0, sh, [], [], e :: r, b⟩ e r)).lo = e.f0 + sh ∧
      gatL k (max 0 ((edOf e).a + sh + (edOf e).t.length)) [edOf e] [] (r.map edOf) (b.map edOf) (sh + grw (edOf e)) = ((gS k (nextA ⟨-1, 0, sh, [], [], e :: r, b⟩ e r)).hi, A2.map edOf, (gS k (nextA ⟨-1, 0, sh, [], [], e :: r, b⟩ e r)).second.map edOf, (gS k (nextA ⟨-1, 0, sh, [], [], e :: r, b⟩ e r)).a.map edOf, (gS k (nextA ⟨-1, 0, sh, [], [], e :: r, b⟩ e r)).b.map edOf) := by
    intro k e r b h0
    obtain ⟨A2, i1, i2, i3, i4⟩ := gS_gatL sh k (nextA ⟨-1, 0, sh, [], [], e :: r, b⟩ e r) [e] (by show 0 ≤ if (-1 : Int) < 0 then e.f0 + sh else -1; rw [if_pos n1]; exact h0) rfl (by show sh + grow e = _; simp [sumG])
    refine ⟨A2, i1, i2, by rw [i3]; show (if (-1 : Int) < 0 then e.f0 + sh else -1) = _; rw [if_pos n1], ?_⟩
    rw [← i4, grw_ed]
    show gatL k (max 0 (e.f0 + sh + (e.f2.data.toList.length : Int))) _ _ _ _ _ = gatL k (max 0 (e.f0 + sh + (e.f2.size : Int))) _ _ _ _ _
    rw [show e.f2.data.toList.length = e.f2.size by simp]
    rfl
  have hB : ∀ (k : Nat) (f : S42) (t a : List S42), 0 ≤ f.f0 → ∃ A2, (gS k (nextB ⟨-1, 0, sh, [], [], a, f :: t⟩ f t)).first = place sh A2 ∧ (gS k (nextB ⟨-1, 0, sh, [], [], a, f :: t⟩ f t)).sh = sh + sumG A2 ∧ (gS k (nextB ⟨-1, 0, sh, [], [], a, f :: t⟩ f t)).lo = f.f0 ∧
      gatL k (max 0 (edOf f).b) [] [edOf f] (a.map edOf) (t.map edOf) sh = ((gS k (nextB ⟨-1, 0, sh, [], [], a, f :: t⟩ f t)).hi, A2.map edOf, (gS k (nextB ⟨-1, 0, sh, [], [], a, f :: t⟩ f t)).second.map edOf, (gS k (nextB ⟨-1, 0, sh, [], [], a, f :: t⟩ f t)).a.map edOf, (gS k (nextB ⟨-1, 0, sh, [], [], a, f :: t⟩ f t)).b.map edOf) := by
    intro k f t a h0
    obtain ⟨A2, i1, i2, i3, i4⟩ := gS_gatL sh k (nextB ⟨-1, 0, sh, [], [], a, f :: t⟩ f t) [] (by show 0 ≤ if (-1 : Int) < 0 then f.f0 else -1; rw [if_pos n1]; exact h0) rfl (by show sh = _; simp [sumG])
    exact ⟨A2, i1, i2, by rw [i3]; show (if (-1 : Int) < 0 then f.f0 else -1) = _; rw [if_pos n1], i4⟩
  have sB : ∀ (k : Nat) (f : S42) (t a : List S42), stepB ⟨-1, 0, sh, [], [], a, f :: t⟩ = some (nextB ⟨-1, 0, sh, [], [], a, f :: t⟩ f t) := fun k f t a => by
    show (if (-1 : Int) < 0 ∨ f.f0 ≤ 0 then some _ else none) = _
    rw [if_pos (Or.inl n1)]
  cases a with
  | nil =>
    cases b with
    | nil => exact absurd ⟨rfl, rfl⟩ hne
    | cons f t =>
      have e1 : gS (([] : List S42).length + (f :: t).length + 1) ⟨-1, 0, sh, [], [], [], f :: t⟩ = gS (t.length + 1) (nextB ⟨-1, 0, sh, [], [], [], f :: t⟩ f t) := by
        show gS (0 + (t.length + 1) + 1) _ = _
        rw [Nat.zero_add]
        show (match stepB ⟨-1, 0, sh, [], [], [], f :: t⟩ with | none => (⟨-1, 0, sh, [], [], [], f :: t⟩ : GS) | some s' => gS (t.length + 1) s') = _
        rw [sB 0]
      rw [e1]
      obtain ⟨A2, i1, i2, i3, i4⟩ := hB (t.length + 1) f t [] (hb f t rfl)
      refine ⟨A2, i1, i2, ?_⟩
      rw [i3, ← i4]
      simp only [List.map_nil, List.map_cons, gat0, List.length_map]
      rfl
  | cons e r =>
    cases b with
    | nil =>
      have e1 : gS ((e :: r).length + ([] : List S42).length + 1) ⟨-1, 0, sh, [], [], e :: r, []⟩ = gS (r.length + 1) (nextA ⟨-1, 0, sh, [], [], e :: r, []⟩ e r) := by
        show (match stepG ⟨-1, 0, sh, [], [], e :: r, []⟩ with | none => (⟨-1, 0, sh, [], [], e :: r, []⟩ : GS) | some s' => gS (r.length + 1) s') = _
        have : stepG ⟨-1, 0, sh, [], [], e :: r, []⟩ = some (nextA ⟨-1, 0, sh, [], [], e :: r, []⟩ e r) := by
          rw [stepG_a, if_pos (by unfold takesA; simp)]
        rw [this]
      rw [e1]
      obtain ⟨A2, i1, i2, i3, i4⟩ := hA (r.length + 1) e r [] (ha e r rfl)
      refine ⟨A2, i1, i2, ?_⟩
      rw [i3, ← i4]
      simp only [List.map_nil, List.map_cons, gat0, List.length_map]
      rfl
    | cons f t =>
      by_cases c : e.f0 + sh ≤ f.f0
      · have e1 : gS ((e :: r).length + (f :: t).length + 1) ⟨-1, 0, sh, [], [], e :: r, f :: t⟩ = gS (r.length + (t.length + 1) + 1) (nextA ⟨-1, 0, sh, [], [], e :: r, f :: t⟩ e r) := by
          rw [show (e :: r).length + (f :: t).length + 1 = (r.length + (t.length + 1) + 1) + 1 by simp only [List.length_cons]; omega]
          show (match stepG ⟨-1, 0, sh, [], [], e :: r, f :: t⟩ with | none => (⟨-1, 0, sh, [], [], e :: r, f :: t⟩ : GS) | some s' => gS (r.length + (t.length + 1) + 1) s') = _
          have : stepG ⟨-1, 0, sh, [], [], e :: r, f :: t⟩ = some (nextA ⟨-1, 0, sh, [], [], e :: r, f :: t⟩ e r) := by
            rw [stepG_a, if_pos (by unfold takesA; simp [c])]
          rw [this]
        rw [e1]
        obtain ⟨A2, i1, i2, i3, i4⟩ := hA (r.length + (t.length + 1) + 1) e r (f :: t) (ha e r rfl)
        refine ⟨A2, i1, i2, ?_⟩
        rw [i3, ← i4]
        simp only [List.map_cons, gat0, List.length_map]
        rw [if_pos (show (edOf e).a + sh ≤ (edOf f).a from c)]
        rfl
      · have e1 : gS ((e :: r).length + (f :: t).length + 1) ⟨-1, 0, sh, [], [], e :: r, f :: t⟩ = gS ((r.length + 1) + t.length + 1) (nextB ⟨-1, 0, sh, [], [], e :: r, f :: t⟩ f t) := by
          rw [show (e :: r).length + (f :: t).length + 1 = ((r.length + 1) + t.length + 1) + 1 by simp only [List.length_cons]; omega]
          show (match stepG ⟨-1, 0, sh, [], [], e :: r, f :: t⟩ with | none => (⟨-1, 0, sh, [], [], e :: r, f :: t⟩ : GS) | some s' => gS ((r.length + 1) + t.length + 1) s') = _
          have : stepG ⟨-1, 0, sh, [], [], e :: r, f :: t⟩ = some (nextB ⟨-1, 0, sh, [], [], e :: r, f :: t⟩ f t) := by
            rw [stepG_a, if_neg (by unfold takesA; simp [c]), sB 0]
          rw [this]
        rw [e1]
        obtain ⟨A2, i1, i2, i3, i4⟩ := hB ((r.length + 1) + t.length + 1) f t (e :: r) (hb f t rfl)
        refine ⟨A2, i1, i2, ?_⟩
        rw [i3, ← i4]
        simp only [List.map_cons, gat0, List.length_map]
        rw [if_neg (show ¬ (edOf e).a + sh ≤ (edOf f).a from c)]
        rfl
def ints (l : List UInt8) : List Int := l.map fun b => (b.toNat : Int)
theorem bytesOf_mk (l : List UInt8) : bytesOf ⟨l.toArray⟩ = ints l := by unfold bytesOf ints; simp
theorem put_ints (x y : Int) : ∀ (A : List S42) (sh : Int), putG (place sh A) x y = ints (putS (fsOf sh (A.map edOf)) x y)
  | [], sh => rfl
  | e :: r, sh => by
    simp only [place, putG, List.map_cons, fsOf, putS, put_ints x y r, grw_ed]
    have hl : e.f2.data.toList.length = e.f2.size := by simp
    have hx : mxx x (e.f0 + sh) = max x (e.f0 + sh) := by unfold mxx; split <;> omega
    have hy : mnn y (e.f0 + sh + (e.f2.size : Int)) = min y (e.f0 + sh + (e.f2.size : Int)) := by unfold mnn; split <;> omega
    have key : bytesOf (putOne (P67 (e.f0 + sh) e) x y) = ints (if max x ((edOf e).a + sh) < min y ((edOf e).a + sh + ((edOf e).t.length : Int)) then ((edOf e).t.drop (max x ((edOf e).a + sh) - ((edOf e).a + sh)).toNat).take (min y ((edOf e).a + sh + ((edOf e).t.length : Int)) - max x ((edOf e).a + sh)).toNat else []) := by
      show bytesOf (if mxx x (e.f0 + sh) < mnn y (e.f0 + sh + (e.f2.size : Int)) then e.f2.extract (mxx x (e.f0 + sh) - (e.f0 + sh)).toNat (mnn y (e.f0 + sh + (e.f2.size : Int)) - (e.f0 + sh)).toNat else ⟨#[]⟩) = ints (if max x (e.f0 + sh) < min y (e.f0 + sh + (e.f2.data.toList.length : Int)) then (e.f2.data.toList.drop (max x (e.f0 + sh) - (e.f0 + sh)).toNat).take (min y (e.f0 + sh + (e.f2.data.toList.length : Int)) - max x (e.f0 + sh)).toNat else [])
      rw [hx, hy, hl]
      by_cases c : max x (e.f0 + sh) < min y (e.f0 + sh + (e.f2.size : Int))
      · rw [if_pos c, if_pos c]
        unfold bytesOf ints
        congr 1
        rw [ByteArray.data_extract, Array.toList_extract, List.extract_eq_take_drop]
        congr 1
        omega
      · rw [if_neg c, if_neg c]
        rfl
    rw [key]
    unfold ints
    rw [← List.map_append]
theorem writ_ints (sh : Int) (A : List S42) (hi : Int) : ∀ (ss : List S42) (x : Int), writG (place sh A) hi ss x = ints (writS x (ss.map edOf) (fsOf sh (A.map edOf)) hi)
  | [], x => put_ints x hi A sh
  | e :: t, x => by
    simp only [writG, List.map_cons, writS, put_ints, writ_ints sh A hi t e.f1]
    unfold ints
    rw [List.map_append, List.map_append, List.append_assoc]
    rfl
theorem writ_str (sh : Int) (A : List S42) (hi : Int) (ss : List S42) (x : Int) : strOfNums (writG (place sh A) hi ss x) = ⟨(writS x (ss.map edOf) (fsOf sh (A.map edOf)) hi).toArray⟩ := by
  rw [writ_ints, ← bytesOf_mk, sn_bytes]
end Go.Proofs.Ytaihajmdngoeiaa.Q

-- (*composer).group (41): what lies in memory between its steps, and the bounds
namespace Go.Proofs.Ytaihajmdngoeiaa.F
open Go.RowKit Go.Proofs.YtaihajmdngoeiaaW.PrintWords Go.Proofs.YtaihajmdngoeiaaW.PrintLast Go.Proofs.YtaihajmdngoeiaaW.PrintMore
open Go.Proofs.Ytaihajmdngoeiaa.Q
set_option linter.unusedVariables false
set_option linter.unusedSimpArgs false

/-- The composer's box. -/
def CBx (w0 W : World) (g : Nat) (a b : List S42) (sh : Int) (vo : Value) : Prop := ∃ Aa ca Ab cb, W.heap[g]? = some (.cells #[.slice Aa a.length ca, .slice Ab b.length cb, .int .i64 sh, vo] 58 (0, 0)) ∧ Kd.C k42 w0 Aa a.length a ∧ a.length ≤ ca ∧ Kd.C k42 w0 Ab b.length b ∧ b.length ≤ cb
/-- The places of what is left of the first list lie in the text between. -/
def Pl (n m sh : Int) (a : List S42) : Prop := ∀ A e B, a = A ++ e :: B → 0 ≤ e.f0 + (sh + sumG A) ∧ e.f0 + (sh + sumG A) + e.f2.size ≤ m ∧ 0 ≤ e.f0 ∧ e.f0 ≤ e.f1 ∧ e.f1 ≤ n
theorem Pl.tail {n m sh : Int} {e : S42} {r : List S42} (h : Pl n m sh (e :: r)) : Pl n m (sh + grow e) r := by
  intro A x B hr
  have := h (e :: A) x B (by rw [hr]; rfl)
  simp only [sumG] at this
  rw [show sh + grow e + sumG A = sh + (grow e + sumG A) by omega]
  exact this
theorem Pl.head {n m sh : Int} {e : S42} {r : List S42} (h : Pl n m sh (e :: r)) : 0 ≤ e.f0 + sh ∧ e.f0 + sh + e.f2.size ≤ m ∧ 0 ≤ e.f0 ∧ e.f0 ≤ e.f1 ∧ e.f1 ≤ n := by
  have := h [] e r rfl
  simpa [sumG] using this
/-- The bounds between the rounds of group. -/
structure SR (n m : Int) (s : GS) : Prop where
  pa : Pl n m s.sh s.a
  pb : ∀ f ∈ s.b, 0 ≤ f.f0 ∧ f.f0 ≤ f.f1 ∧ f.f1 ≤ m
  fp : ∀ p ∈ s.first, 0 ≤ p.f0 ∧ p.f0 ≤ 5000000000000000000 ∧ p.f3.size ≤ 1048576
  sp : ∀ e ∈ s.second, (0 ≤ e.f0 ∧ e.f0 ≤ 5000000000000000000) ∧ 0 ≤ e.f1 ∧ e.f1 ≤ 5000000000000000000
  sa : ∀ e ∈ s.a, e.f2.size ≤ 1048576
  sl : -1 ≤ s.lo ∧ s.lo ≤ 4700000000000000000
  sh_ : 0 ≤ s.hi ∧ s.hi ≤ 4700000000000000000
  ss : -4700000000000000000 ≤ s.sh ∧ s.sh ≤ 4700000000000000000
  ln : s.first.length + s.a.length ≤ 100000 ∧ s.second.length + s.b.length ≤ 100000
theorem SR.nextA {n m lo hi sh : Int} {first : List S67} {second : List S42} {e : S42} {r b : List S42} (hm : m ≤ 4700000000000000000) (hn : n ≤ 4700000000000000000) (h : SR n m ⟨lo, hi, sh, first, second, e :: r, b⟩) : SR n m (nextA ⟨lo, hi, sh, first, second, e :: r, b⟩ e r) := by
  obtain ⟨pa, pb, fp, sp, sa, sl, sh_, ss, ln⟩ := h
  simp only at pa pb fp sp sa sl sh_ ss ln
  obtain ⟨p1, p2, p3, p4, p5⟩ := Pl.head pa
  have hg : grow e = (e.f2.size : Int) - (e.f1 - e.f0) := rfl
  refine ⟨pa.tail, pb, ?_, sp, fun x hx => sa x (List.mem_cons_of_mem _ hx), ?_, ?_, ?_, ?_⟩
  · intro p hp
    rcases List.mem_append.1 hp with hp | hp
    · exact fp p hp
    · rw [List.mem_singleton.1 hp]
      exact ⟨p1, by show e.f0 + sh ≤ _; omega, sa e List.mem_cons_self⟩
  · show -1 ≤ (if lo < 0 then e.f0 + sh else lo) ∧ (if lo < 0 then e.f0 + sh else lo) ≤ _
    split <;> omega
  · show 0 ≤ max hi (e.f0 + sh + e.f2.size) ∧ max hi (e.f0 + sh + e.f2.size) ≤ _
    omega
  · show _ ≤ sh + grow e ∧ sh + grow e ≤ _
    rw [hg]
    omega
  · refine ⟨?_, ln.2⟩
    show (first ++ [P67 (e.f0 + sh) e]).length + r.length ≤ _
    rw [List.length_append]
    simp only [List.length_cons, List.length_nil] at ln ⊢
    omega
theorem SR.nextB {n m lo hi sh : Int} {first : List S67} {second : List S42} {f : S42} {t a : List S42} (hm : m ≤ 4700000000000000000) (h : SR n m ⟨lo, hi, sh, first, second, a, f :: t⟩) : SR n m (nextB ⟨lo, hi, sh, first, second, a, f :: t⟩ f t) := by
  obtain ⟨pa, pb, fp, sp, sa, sl, sh_, ss, ln⟩ := h
  simp only at pa pb fp sp sa sl sh_ ss ln
  obtain ⟨p1, p2, p3⟩ := pb f List.mem_cons_self
  refine ⟨pa, fun x hx => pb x (List.mem_cons_of_mem _ hx), fp, ?_, sa, ?_, ?_, ss, ?_⟩
  · intro p hp
    rcases List.mem_append.1 hp with hp | hp
    · exact sp p hp
    · rw [List.mem_singleton.1 hp]
      omega
  · show -1 ≤ (if lo < 0 then f.f0 else lo) ∧ (if lo < 0 then f.f0 else lo) ≤ _
    split <;> omega
  · show 0 ≤ max hi f.f1 ∧ max hi f.f1 ≤ _
    omega
  · refine ⟨ln.1, ?_⟩
    show (second ++ [f]).length + t.length ≤ _
    rw [List.length_append]
    simp only [List.length_cons, List.length_nil] at ln ⊢
    omega
/-- What lies in memory between the steps of group. w0: the world that Compose began in; w: the one that group began in. -/
structure MR (w0 w W : World) (g : Nat) (a b : List S42) (sh : Int) (first : List S67) (second : List S42) (v5 v6 vo : Value) (out : List S42) : Prop where
  bx : CBx w0 W g a b sh vo
  r5 : Kd.R k67 67 W w.heap.size (fun k => k ≠ g) v5 first
  r6 : Kd.R k42 42 W w.heap.size (fun k => k ≠ g ∧ some k ≠ v5.ownBlock) v6 second
  ro : Kd.R k42 42 W w0.heap.size (fun k => k ≠ g ∧ k < w.heap.size) vo out
  hb : Below w0.heap.size w0 W
  g0 : w0.heap.size ≤ g
  gw : g < w.heap.size
  sz : w.heap.size ≤ W.heap.size
section
variable {w0 w W W1 : World} {g : Nat} {a b : List S42} {sh : Int} {first : List S67} {second : List S42} {v5 v6 vo : Value} {out : List S42}
theorem CBx.below {a b : List S42} {sh : Int} (h : CBx w0 W g a b sh vo) (hb : Below W.heap.size W W1) : CBx w0 W1 g a b sh vo := by
  obtain ⟨Aa, ca, Ab, cb, x, y⟩ := h
  exact ⟨Aa, ca, Ab, cb, blk_below x hb, y⟩
theorem MR.below (h : MR w0 w W g a b sh first second v5 v6 vo out) (hb : Below W.heap.size W W1) : MR w0 w W1 g a b sh first second v5 v6 vo out :=
  ⟨h.bx.below hb, Kd.R_below h.r5 hb, Kd.R_below h.r6 hb, Kd.R_below h.ro hb, below_step h.hb hb, h.g0, h.gw, Nat.le_trans h.sz hb.size⟩
/-- A cell of the box is written. -/
theorem MR.set (h : MR w0 w W g a b sh first second v5 v6 vo out) {a2 b2 : List S42} {sh2 : Int} (i : Nat) (u : Value) (hx : CBx w0 (W.setCell ⟨g, i, none⟩ u) g a2 b2 sh2 vo) : MR w0 w (W.setCell ⟨g, i, none⟩ u) g a2 b2 sh2 first second v5 v6 vo out :=
  ⟨hx, Kd.R_far (p := ⟨g, i, none⟩) h.r5 (fun k hk => hk) u, Kd.R_far (p := ⟨g, i, none⟩) h.r6 (fun k hk => hk.1) u, Kd.R_far (p := ⟨g, i, none⟩) h.ro (fun k hk => hk.1) u, below_set h.hb h.g0, h.g0, h.gw, by have := h.sz; simp only [World.setCell]; simpa using this⟩
theorem MR.gne (h : MR w0 w W g a b sh first second v5 v6 vo out) : some g ≠ v5.ownBlock ∧ some g ≠ v6.ownBlock := ⟨Kd.R_away h.r5 (fun _ hk => hk), Kd.R_away h.r6 (fun _ hk => hk.1)⟩
/-- The first row has grown. -/
theorem MR.app5 (h : MR w0 w W g a b sh first second v5 v6 vo out) {p : S67} {v : Value} (hr : Kd.R k67 67 W1 w.heap.size (fun k => k ≠ g) v (first ++ [p])) (hg : W.grownBy W1 v5.ownBlock) (hat : v.ownBlock = v5.ownBlock ∨ ∃ b, v.ownBlock = some b ∧ W.heap.size ≤ b) : MR w0 w W1 g a b sh (first ++ [p]) second v v6 vo out := by
  have h5 : ∀ k, v5.ownBlock = some k → w.heap.size ≤ k := fun k hk => ((Kd.R_bound h.r5).1 k hk).2.1
  refine ⟨?_, hr, ?_, ?_, h.hb.grown hg (Nat.le_trans h.hb.size (Nat.le_refl _)) (fun k hk => by have := h5 k hk; have := h.g0; have := h.gw; omega), h.g0, h.gw, Nat.le_trans h.sz hg.size⟩
  · obtain ⟨Aa, ca, Ab, cb, x, y⟩ := h.bx
    exact ⟨Aa, ca, Ab, cb, blk_grown x hg h.gne.1, y⟩
  · have h6 : Kd.R k42 42 W1 w.heap.size (fun k => (k ≠ g ∧ some k ≠ v5.ownBlock) ∧ k < W.heap.size) v6 second := Kd.R_mono (Kd.R_step (Kd.R_bound h.r6) (fun k ho hk => hg.block k hk ho.1.2)) (fun k hk => ⟨hk.1, hk.2.2.1⟩)
    refine Kd.R_mono h6 (fun k hk => ⟨hk.1.1, ?_⟩)
    rcases hat with e | ⟨q, e, hq⟩
    · rw [e]; exact hk.1.2
    · rw [e]; intro e2; injection e2 with e2; omega
  · exact Kd.R_step h.ro (fun k ho hk => hg.block k hk (fun e => by have := h5 k e.symm; omega))
/-- The second row has grown. -/
theorem MR.app6 (h : MR w0 w W g a b sh first second v5 v6 vo out) {p : S42} {v : Value} (hr : Kd.R k42 42 W1 w.heap.size (fun k => k ≠ g ∧ some k ≠ v5.ownBlock) v (second ++ [p])) (hg : W.grownBy W1 v6.ownBlock) : MR w0 w W1 g a b sh first (second ++ [p]) v5 v vo out := by
  have h6 : ∀ k, v6.ownBlock = some k → w.heap.size ≤ k := fun k hk => ((Kd.R_bound h.r6).1 k hk).2.1
  refine ⟨?_, ?_, hr, ?_, h.hb.grown hg (Nat.le_trans h.hb.size (Nat.le_refl _)) (fun k hk => by have := h6 k hk; have := h.g0; have := h.gw; omega), h.g0, h.gw, Nat.le_trans h.sz hg.size⟩
  · obtain ⟨Aa, ca, Ab, cb, x, y⟩ := h.bx
    exact ⟨Aa, ca, Ab, cb, blk_grown x hg h.gne.2, y⟩
  · have h5 : ∀ k, v5.ownBlock = some k → some k ≠ v6.ownBlock := fun k hk e => (h.r6.1 k e.symm).2 hk.symm
    have : Kd.R k67 67 W w.heap.size (fun k => k ≠ g ∧ some k ≠ v6.ownBlock) v5 first := by
      cases h6o : v6.ownBlock with
      | none => exact Kd.R_mono h.r5 (fun k hk => ⟨hk, by simp⟩)
      | some q => exact Kd.R_mono (Kd.R_far1 h.r5 rfl (g := q) (fun e => h5 q e.symm (by rw [h6o]))) (fun k hk => ⟨hk.1, fun e => hk.2 (by injection e)⟩)
    exact Kd.R_mono (Kd.R_step this (fun k ho hk => hg.block k hk ho.2)) (fun k hk => hk.1)
  · exact Kd.R_step h.ro (fun k ho hk => hg.block k hk (fun e => by have := h6 k e.symm; omega))
end
end Go.Proofs.Ytaihajmdngoeiaa.F

-- Compose, plainly, group by group: what holds between two groups
namespace Go.Proofs.Ytaihajmdngoeiaa.Q
open Go.RowKit Go.Proofs.YtaihajmdngoeiaaW.PrintWords Go.Proofs.YtaihajmdngoeiaaW.PrintLast Go.Proofs.YtaihajmdngoeiaaW.PrintMore
open Go.Proofs.Ytaihajmdngoeiaa.F
set_option linter.unusedVariables false
set_option linter.unusedSimpArgs false

theorem cz_mem {n : Int} : ∀ (l : List Ed) (q : Int), Cz n q l → ∀ e ∈ l, q ≤ e.a ∧ e.a ≤ e.b ∧ e.b ≤ n
  | [], q, _, e, he => by cases he
  | x :: t, q, ⟨c1, c2, c3, c4⟩, e, he => by
    rcases List.mem_cons.1 he with rfl | he
    · exact ⟨c1, c2, c3⟩
    · have := cz_mem t x.b (Ch.cz c4 c3) e he
      exact ⟨by omega, this.2⟩
theorem map_edOf_inj {a b : List S42} (h : a.map edOf = b.map edOf) : a = b := by
  have := congrArg (List.map toS) h
  simpa [List.map_map, Function.comp_def, toS_edOf] using this
theorem edLen (e : S42) : ((edOf e).t.length : Int) = e.f2.size := by
  show (e.f2.data.toList.length : Int) = _
  simp
/-- Between two groups. -/
structure CI (n m : Int) (a b : List S42) (sh : Int) : Prop where
  q : ∃ q, Cz n q (a.map edOf) ∧ 0 ≤ q ∧ q ≤ n ∧ Cz m (q + sh) (b.map edOf) ∧ 0 ≤ q + sh
  hm : m = n + shOf sh (a.map edOf)
theorem tot_mem : ∀ (l : List S42) (e : S42), e ∈ l → e.f2.size ≤ tot l
  | x :: l, e, h => by
    rcases List.mem_cons.1 h with rfl | h
    · simp only [tot]; omega
    · have := tot_mem l e h
      simp only [tot]; omega
theorem tot_both : ∀ (a b : List S42), tot (a ++ b) = tot a + tot b
  | [], b => by simp [tot]
  | x :: a, b => by simp only [List.cons_append, tot, tot_both a b]; omega
theorem CI.sr {n m : Int} {a b : List S42} {sh : Int} (h : CI n m a b sh) (hn : n ≤ 4700000000000000000) (hm : m ≤ 4700000000000000000) (ht : tot a ≤ 1048576) (hl : a.length ≤ 100000 ∧ b.length ≤ 100000) : SR n m ⟨-1, 0, sh, [], [], a, b⟩ := by
  obtain ⟨q, h1, h2, h3, h4, h5⟩ := h.q
  have hend := cz_end n (a.map edOf) q sh h1
  refine ⟨?_, ?_, (fun p hp => by cases hp), (fun e he => by cases he), (fun e he => Nat.le_trans (tot_mem a e he) ht), (show (-1 : Int) ≤ -1 ∧ (-1 : Int) ≤ 4700000000000000000 by decide), (show (0 : Int) ≤ 0 ∧ (0 : Int) ≤ 4700000000000000000 by decide), ?_, ?_⟩
  · intro A e B he
    subst he
    have hmap : (A ++ e :: B).map edOf = A.map edOf ++ edOf e :: B.map edOf := by simp
    rw [hmap] at h1
    have c1 := cz_next n (A.map edOf) q sh (edOf e) (B.map edOf) h1
    have c2 := cz_text n (A.map edOf) q sh (edOf e) (B.map edOf) h1
    have c3 := cz_mem _ q h1 (edOf e) (by simp)
    have hmm := h.hm
    rw [hmap] at hmm
    rw [← hmm, edLen, shOf_edOf] at c2
    rw [shOf_edOf] at c1
    have d1 : (edOf e).a = e.f0 := rfl
    have d2 : (edOf e).b = e.f1 := rfl
    rw [d1] at c1 c2 c3
    rw [d2] at c1 c3
    show 0 ≤ e.f0 + (sh + sumG A) ∧ e.f0 + (sh + sumG A) + e.f2.size ≤ m ∧ 0 ≤ e.f0 ∧ e.f0 ≤ e.f1 ∧ e.f1 ≤ n
    exact ⟨by omega, by omega, by omega, by omega, by omega⟩
  · intro f hf
    have c3 := cz_mem _ _ h4 (edOf f) (List.mem_map_of_mem hf)
    have d1 : (edOf f).a = f.f0 := rfl
    have d2 : (edOf f).b = f.f1 := rfl
    rw [d1, d2] at c3
    exact ⟨by omega, by omega, by omega⟩
  · show _ ≤ sh ∧ sh ≤ _
    have := h.hm
    omega
  · show 0 + a.length ≤ _ ∧ 0 + b.length ≤ _
    omega
theorem putG_len : ∀ (A : List S42) (sh x y : Int), (putG (place sh A) x y).length ≤ tot A
  | [], _, _, _ => by simp [place, putG]
  | e :: r, sh, x, y => by
    have := putG_len r (sh + grow e) x y
    simp only [place, putG, List.length_append, tot]
    have h : (bytesOf (putOne (P67 (e.f0 + sh) e) x y)).length ≤ e.f2.size := by
      rw [bytesOf_length]
      unfold putOne
      split
      · show (e.f2.extract _ _).size ≤ _
        simp only [ByteArray.size_extract]
        omega
      · exact Nat.zero_le _
    omega
theorem writG_len (A : List S42) (sh hi : Int) : ∀ (ss : List S42) (x : Int), (writG (place sh A) hi ss x).length ≤ (ss.length + 1) * tot A + tot ss
  | [], x => by
    have := putG_len A sh x hi
    simp only [writG, List.length_nil, tot]
    omega
  | e :: t, x => by
    have h1 := putG_len A sh x e.f0
    have h2 := writG_len A sh hi t e.f1
    simp only [writG, List.length_append, bytesOf_length, tot, List.length_cons]
    have h3 : (t.length + 1 + 1) * tot A = (t.length + 1) * tot A + tot A := by rw [Nat.add_mul (t.length + 1) 1, Nat.one_mul]
    omega
/-- A group, and what is left behind it. -/
structure CStep (n m : Int) (a b : List S42) (sh : Int) (S : GS) : Prop where
  lo0 : 0 ≤ S.lo
  lo : 0 ≤ S.lo - sh ∧ S.lo - sh ≤ n
  hi : 0 ≤ S.hi - S.sh ∧ S.hi - S.sh ≤ n
  ci : CI n m S.a S.b S.sh
  ln : S.a.length + S.b.length + 1 ≤ a.length + b.length ∧ S.a.length ≤ a.length ∧ S.b.length ≤ b.length
  ta : tot S.a ≤ tot a
  tb : tot S.b ≤ tot b
  tx : (writG S.first S.hi S.second S.lo).length ≤ (b.length + 1) * tot a + tot b
  gr : ∀ k, groups (k + 1) (a.map edOf) (b.map edOf) sh = edOf ⟨S.lo - sh, S.hi - S.sh, strOfNums (writG S.first S.hi S.second S.lo)⟩ :: groups k (S.a.map edOf) (S.b.map edOf) S.sh
theorem CI.step {n m : Int} {a b : List S42} {sh : Int} (h : CI n m a b sh) (hne : ¬ (a = [] ∧ b = [])) (S : GS) (hS : gS (a.length + b.length + 1) ⟨-1, 0, sh, [], [], a, b⟩ = S) : CStep n m a b sh S := by
  obtain ⟨q, h1, h2, h3, h4, h5⟩ := h.q
  have hm := h.hm
  have hne' : ¬ (a.map edOf = [] ∧ b.map edOf = []) := by simpa using hne
  obtain ⟨lo, hlo, hla, hlb⟩ := next_lo (a.map edOf) (b.map edOf) sh hne'
  have ha0 : ∀ e r, a = e :: r → 0 ≤ e.f0 + sh := by
    intro e r he
    have := cz_mem _ q h1 (edOf e) (by rw [he]; simp)
    have d1 : (edOf e).a = e.f0 := rfl
    rw [d1] at this
    omega
  have hb0 : ∀ f t, b = f :: t → 0 ≤ f.f0 := by
    intro f t hf
    have := cz_mem _ _ h4 (edOf f) (by rw [hf]; simp)
    have d1 : (edOf f).a = f.f0 := rfl
    rw [d1] at this
    omega
  obtain ⟨A2, g1, g2, g3⟩ := gS_gat0 sh a b hne ha0 hb0
  rw [hS] at g1 g2 g3
  have hqlo : q + sh ≤ lo := by
    rcases hlo with ⟨e, t, h, h6⟩ | ⟨f, s, h, h6, _⟩
    · rw [h] at h1
      have := h1.1
      omega
    · rw [h] at h4
      have := h4.1
      omega
  have hln : lo - sh ≤ n := by
    rcases hlo with ⟨e, t, h, h6⟩ | ⟨f, s, h, h6, h7⟩
    · rw [h] at h1
      have := h1.2.1
      have := h1.2.2.1
      omega
    · rw [h] at h4
      have b1 := h4.2.1
      have b2 := h4.2.2.1
      cases haa : a.map edOf with
      | nil =>
        rw [haa] at hm
        simp only [shOf] at hm
        omega
      | cons e t =>
        rw [haa] at h1
        have := h7 e t haa
        have := h1.2.1
        have := h1.2.2.1
        omega
  have hA : Cz n (lo - sh) (a.map edOf) := by
    cases haa : a.map edOf with
    | nil => exact hln
    | cons e t =>
      rw [haa] at h1
      have := hla e t haa
      exact ⟨by omega, h1.2⟩
  have hB : Cz m lo (b.map edOf) := by
    cases hbb : b.map edOf with
    | nil =>
      rcases hlo with ⟨e, t, h, h6⟩ | ⟨f, s, h, _⟩
      · have := cz_end n (a.map edOf) (lo - sh) sh hA
        show lo ≤ m
        omega
      · rw [hbb] at h; cases h
    | cons f t =>
      rw [hbb] at h4
      have := hlb f t hbb
      exact ⟨by omega, h4.2⟩
  obtain ⟨s1, s2, s3⟩ := gat0_spec n m (lo - sh) sh lo (by omega) (by omega) (a.map edOf) (b.map edOf) hA hB hm hlo
  have s2a := s2.ha
  have s2b := s2.hb
  have s2m := s2.hm
  have s2g := s2.gat
  have s2sA := s2.stopA
  have s2sB := s2.stopB
  rw [g3] at s1 s2a s2b s2m s2g s2sA s2sB s3
  simp only at s1 s2a s2b s2m s2g s2sA s2sB s3
  have haa : A2 ++ S.a = a := map_edOf_inj (by rw [List.map_append]; exact s2a)
  have hbb : S.second ++ S.b = b := map_edOf_inj (by rw [List.map_append]; exact s2b)
  have hsh : shOf sh (A2.map edOf) = S.sh := by rw [shOf_edOf, g2]
  rw [hsh] at s2sA
  have hql := q_le n (A2.map edOf) (lo - sh) sh S.hi (by rw [← s2a] at hA; exact Cz.left hA hln) (fun f t hm => (s2g.fs_ f t hm).2) (by have := s2g.le_; omega)
  rw [hsh] at hql
  have hmS : m = n + shOf S.sh (S.a.map edOf) := by rw [hm, ← s2a, shOf_append, hsh]
  have hhi : S.hi - S.sh ≤ n := by
    cases hsa : S.a.map edOf with
    | nil =>
      rw [hsa] at hmS
      simp only [shOf] at hmS
      omega
    | cons e t =>
      have := s2sA e t hsa
      have := cz_mem _ _ hA e (by rw [← s2a, hsa]; simp)
      omega
  have e1 : a.length = A2.length + S.a.length := by rw [← haa, List.length_append]
  have e2 : b.length = S.second.length + S.b.length := by rw [← hbb, List.length_append]
  have t1 : tot a = tot A2 + tot S.a := by rw [← haa, tot_both]
  have t2 : tot b = tot S.second + tot S.b := by rw [← hbb, tot_both]
  simp only [List.length_map] at s3
  have hle := s2g.le_
  refine ⟨by omega, by omega, by omega, ⟨⟨S.hi - S.sh, ?_, by omega, hhi, ?_, by omega⟩, hmS⟩, by omega, by omega, by omega, ?_, ?_⟩
  · have hr := cz_right n (A2.map edOf) (S.a.map edOf) (lo - sh) (by rw [s2a]; exact hA)
    exact Ch.cz (ch_from n _ (lo - sh) _ hr (fun e t he => by have := s2sA e t he; omega)) hhi
  · rw [show S.hi - S.sh + S.sh = S.hi by omega]
    have hr := cz_right m (S.second.map edOf) (S.b.map edOf) lo (by rw [s2b]; exact hB)
    exact Ch.cz (ch_from m _ lo _ hr (fun e t he => s2sB e t he)) s2m
  · rw [g1]
    have := writG_len A2 sh S.hi S.second S.lo
    have h6 : (S.second.length + 1) * tot A2 ≤ (b.length + 1) * tot a := Nat.mul_le_mul (by omega) (by omega)
    omega
  · intro k
    simp only [groups]
    rw [if_neg hne', g3, hsh]
    congr 1
    rw [g1, writ_str]
    rfl
end Go.Proofs.Ytaihajmdngoeiaa.Q

-- Rows of a text's bytes: what a list of edits leaves, one list for two, how many new bytes
namespace Go.Proofs.Ytaihajmdngoeiaa.Q
open Go.RowKit Go.Proofs.YtaihajmdngoeiaaW.PrintWords Go.Proofs.YtaihajmdngoeiaaW.PrintLast Go.Proofs.YtaihajmdngoeiaaW.PrintMore
open Go.Proofs.Ytaihajmdngoeiaa.F
set_option linter.unusedVariables false
set_option linter.unusedSimpArgs false

/-- A byte of a row over a text. -/
def byX (x : List UInt8) : By → UInt8
  | .new c => c
  | .old j => x.getD j.toNat 0
def bys (R : Rw) : List By := R.1.map (·.2)
/-- A row's text. -/
def appR (x : List UInt8) (R : Rw) : List UInt8 := (bys R).map (byX x)
def atX (x : List UInt8) : List At → List UInt8
  | [] => []
  | .mark :: r => atX x r
  | .by b :: r => byX x b :: atX x r
theorem atX_cells (x : List UInt8) : ∀ (Z : List At) (f : Bool), appR x (cells f Z) = atX x Z
  | [], f => rfl
  | .mark :: r, f => by simp only [cells, atX]; exact atX_cells x r true
  | .by b :: r, f => by
    have := atX_cells x r false
    simp only [appR, bys] at this
    simp only [cells, atX, appR, bys, List.map_cons, this]
theorem atX_app (x : List UInt8) : ∀ (a b : List At), atX x (a ++ b) = atX x a ++ atX x b
  | [], b => rfl
  | .mark :: a, b => by simp only [List.cons_append, atX, atX_app x a b]
  | .by c :: a, b => by simp only [List.cons_append, atX, atX_app x a b]
theorem atX_news (x : List UInt8) (t : List UInt8) : atX x (news t) = t := by
  induction t with
  | nil => rfl
  | cons c t ih =>
    simp only [news, List.map_cons, atX, byX] at ih ⊢
    rw [ih]
theorem atX_cAts (x : List UInt8) : ∀ (l : List Cl), atX x (cAts l) = l.map (fun c => byX x c.2)
  | [] => rfl
  | (f, b) :: l => by
    have := atX_cAts x l
    simp only [cAts, List.flatMap_cons] at this ⊢
    rw [atX_app, this]
    cases f <;> simp [cAt, atX]
theorem idr_bytes (x : List UInt8) (p : Nat) : (idr p x.length).1.map (fun c => byX x c.2) = x.drop p := by
  apply List.ext_getElem
  · simp only [idr, List.length_map, List.length_range, List.length_drop]; omega
  · intro i h1 h2
    simp only [List.length_drop] at h2
    simp only [idr, List.getElem_map, List.getElem_range, byX, List.getElem_drop]
    rw [show ((p : Int) + (i : Int)).toNat = p + i by omega, List.getD_eq_getElem?_getD, List.getElem?_eq_getElem (by omega)]
    rfl
theorem ap_at (text : ByteArray) : ∀ (l : List S42) (p : Nat), Cz text.size p (l.map edOf) → (apGo text p l).data.toList = atX text.data.toList (cmp p (idr p text.size) (l.map edOf))
  | [], p, h => by
    have hp : (p : Int) ≤ text.size := h
    have hx : text.data.toList.length = text.size := by simp
    simp only [List.map_nil, apGo]
    rw [cmp_nil, atX_cAts]
    have := idr_bytes text.data.toList p
    rw [hx] at this
    rw [this, ByteArray.data_extract, Array.toList_extract, List.extract_eq_take_drop]
    simp only [Int.toNat_natCast]
    rw [List.take_of_length_le (by rw [List.length_drop, hx]; omega)]
  | e :: t, p, ⟨c1, c2, c3, c4⟩ => by
    have d1 : (edOf e).a = e.f0 := rfl
    have d2 : (edOf e).b = e.f1 := rfl
    have d3 : (edOf e).t = e.f2.data.toList := rfl
    rw [d1] at c1 c2
    rw [d2] at c2 c3 c4
    have hx : text.data.toList.length = text.size := by simp
    simp only [List.map_cons, apGo]
    rw [cmp_cons p text.size (edOf e) (t.map edOf) (by rw [d2]; omega), atX_app, atX_cAts]
    simp only [atX]
    rw [atX_app, atX_news, d1, d2, d3]
    obtain ⟨q, hq⟩ : ∃ q : Nat, e.f1 = (q : Int) := ⟨e.f1.toNat, by omega⟩
    have ih := ap_at text t q (by rw [← hq]; exact Ch.cz c4 c3)
    rw [hq, ← ih]
    have hi := idr_bytes text.data.toList p
    rw [hx] at hi
    rw [List.map_take, hi]
    simp only [ByteArray.data_append, Array.toList_append, ByteArray.data_extract, Array.toList_extract, List.extract_eq_take_drop, Int.toNat_natCast, List.append_assoc]
    rw [show (e.f0 - (p : Int)).toNat = e.f0.toNat - p by omega]
/-- What Apply leaves is the list's row over the text. -/
theorem ap_row (text : ByteArray) (l : List S42) (hc : Chain text.size none l) : (apGo text 0 l).data.toList = appR text.data.toList (rowE text.size (l.map edOf)) := by
  unfold rowE
  rw [atX_cells]
  exact ap_at text l 0 (Ok.cz (chain_ok hc) (by omega))
/-- Only the bytes count. -/
theorem bys_nrm (n : Int) (R R' : Rw) (h : nrm n (some 0) R.1 R.2 = nrm n (some 0) R'.1 R'.2) : bys R = bys R' := by
  have key : ∀ (l : List Cl) (nx : Option Int) (fin : Bool), (nrm n nx l fin).1.map (·.2) = l.map (·.2) := by
    intro l
    induction l with
    | nil => intro nx fin; rfl
    | cons c l ih =>
      intro nx fin
      obtain ⟨f, b⟩ := c
      cases b with
      | new y => simp only [nrm, List.map_cons, ih]
      | old k => simp only [nrm, List.map_cons, ih]
  unfold bys
  rw [← key R.1 (some 0) R.2, h, key]
theorem appR_lst (x : List UInt8) (n : Int) (R : Rw) (h : Mono n 0 R.1) : appR x (rowE n (lst n R)) = appR x R := by
  unfold appR
  rw [bys_nrm n _ _ (nrm_rowE n R h)]
theorem appR_sub (x : List UInt8) (R S : Rw) (h : ∀ c ∈ S.1, ∀ j, c.2 = .old j → 0 ≤ j ∧ j < R.1.length) : appR x (sub R S) = appR (appR x R) S := by
  unfold appR bys sub
  simp only [List.map_map]
  apply List.map_congr_left
  intro c hc
  obtain ⟨f, b⟩ := c
  cases b with
  | new y => rfl
  | old j =>
    obtain ⟨h0, h1⟩ := h _ hc j rfl
    have hj : j.toNat < R.1.length := by omega
    simp only [Function.comp_apply, sub1, List.getElem?_eq_getElem hj, byX]
    rw [List.getD_eq_getElem?_getD, List.getElem?_map, List.getElem?_eq_getElem hj]
    rfl
/-- One list does what both do. -/
theorem appR_cmpE (x : List UInt8) (n : Int) (h0 : 0 ≤ n) (a b : List Ed) (ha : Ok n a) (hb : Ok (rowE n a).1.length b) : appR x (rowE n (cmpE n a b)) = appR (appR x (rowE n a)) (rowE (rowE n a).1.length b) := by
  have oA := row_ok n h0 a ha
  have oB := row_ok _ (by omega) b hb
  unfold cmpE
  rw [appR_lst x n _ (sub_ok n _ _ oA oB).1, appR_sub]
  intro c hc j hj
  exact mono_lt _ _ 0 (Int.le_refl _) oB.1 c hc j hj
theorem cmpE_ok (n : Int) (h0 : 0 ≤ n) (a b : List Ed) (ha : Ok n a) (hb : Ok (rowE n a).1.length b) : Ok n (cmpE n a b) := lst_ok n _ (sub_ok n _ _ (row_ok n h0 a ha) (row_ok _ (by omega) b hb)).1
/-- The empty list is nothing. -/
theorem rowE_nil (n : Int) : rowE n [] = idr 0 n := by
  unfold rowE
  rw [cmp_nil]
  have := cells_cAts (idr 0 n).1 [] false
  rw [List.append_nil] at this
  rw [this]
  unfold idr
  cases hl : (List.range (n - 0).toNat).map (fun (i : Nat) => ((false, By.old (0 + (i : Int))) : Cl)) with
  | nil => rfl
  | cons c t =>
    simp only [cells, List.append_nil, Bool.false_or]
theorem idr0_len (n : Int) (h : 0 ≤ n) : ((idr 0 n).1.length : Int) = n := by
  unfold idr
  simp only [List.length_map, List.length_range]
  omega
theorem sub_nil_right (R : Rw) : sub R (rowE R.1.length []) = R := by
  rw [rowE_nil]
  unfold sub
  obtain ⟨l, f⟩ := R
  simp only [idr, Bool.false_or, Prod.mk.injEq, and_true]
  apply List.ext_getElem
  · simp
  · intro i h1 h2
    simp only [List.getElem_map, List.getElem_range, sub1]
    have e : ((0 : Int) + (i : Int)).toNat = i := by omega
    simp only [e, List.getElem?_eq_getElem h2, Bool.false_or]
theorem sub_nil_left (n : Int) (h0 : 0 ≤ n) (S : Rw) (h : ∀ c ∈ S.1, ∀ j, c.2 = .old j → 0 ≤ j ∧ j < n) : sub (rowE n []) S = S := by
  rw [rowE_nil]
  unfold sub
  obtain ⟨l, f⟩ := S
  have e2 : (idr 0 n).2 = false := rfl
  simp only [e2, Bool.or_false, Prod.mk.injEq, and_true]
  conv => rhs; rw [← List.map_id l]
  apply List.map_congr_left
  intro c hc
  obtain ⟨g, b⟩ := c
  cases b with
  | new y => rfl
  | old j =>
    obtain ⟨h1, h2⟩ := h _ hc j rfl
    have hl := idr0_len n h0
    have hj : j.toNat < (idr 0 n).1.length := by omega
    have e : (0 : Int) + (j.toNat : Int) = j := by omega
    have hg : (idr 0 n).1[j.toNat]? = some (false, .old j) := by
      rw [List.getElem?_eq_getElem hj]
      simp only [idr, List.getElem_map, List.getElem_range, e]
    simp only [sub1, hg, Bool.or_false, id]
theorem cmpE_nil_right (n : Int) (h0 : 0 ≤ n) (a : List Ed) (ha : Ok n a) : cmpE n a [] = a := by
  unfold cmpE
  rw [sub_nil_right]
  exact lst_rowE n h0 a ha
theorem cmpE_nil_left (n : Int) (h0 : 0 ≤ n) (a : List Ed) (ha : Ok n a) : cmpE n [] a = a := by
  have e : ((rowE n []).1.length : Int) = n := by rw [rowE_nil]; exact idr0_len n h0
  unfold cmpE
  rw [e, sub_nil_left n h0]
  · exact lst_rowE n h0 a ha
  · intro c hc j hj
    exact mono_lt n _ 0 (Int.le_refl _) (row_ok n h0 a ha).1 c hc j hj
/-- How many new bytes a row has. -/
def nw : List Cl → Nat
  | [] => 0
  | (_, .new _) :: r => nw r + 1
  | (_, .old _) :: r => nw r
theorem nw_app : ∀ (a b : List Cl), nw (a ++ b) = nw a + nw b
  | [], b => by simp [nw]
  | (_, .new _) :: a, b => by simp only [List.cons_append, nw, nw_app a b]; omega
  | (_, .old _) :: a, b => by simp only [List.cons_append, nw, nw_app a b]
def sT : List Ed → Nat
  | [] => 0
  | e :: t => e.t.length + sT t
theorem sT_lst (n : Int) : ∀ (l : List Cl) (last : Int) (op : Bool) (tx : List UInt8) (fin : Bool), (op = false → tx = []) → sT (lstC n last op tx l fin) = tx.length + nw l
  | [], last, op, tx, fin, h => by
    simp only [lstC]
    split
    · simp [sT, nw]
    · rename_i hn
      have : op = false := by
        cases op with
        | true => exact absurd (Or.inl rfl) hn
        | false => rfl
      rw [h this]
      rfl
  | (f, .new c) :: r, last, op, tx, fin, h => by
    simp only [lstC, nw]
    rw [sT_lst n r last true (tx ++ [c]) fin (fun h => by cases h)]
    simp only [List.length_append, List.length_singleton]
    omega
  | (f, .old k) :: r, last, op, tx, fin, h => by
    have ih := sT_lst n r (k + 1) false [] fin (fun _ => rfl)
    simp only [lstC, nw]
    split
    · simp only [sT, ih, List.length_nil]
      omega
    · rename_i hn
      have : op = false := by
        cases op with
        | true => exact absurd (Or.inl rfl) hn
        | false => rfl
      rw [h this, ih]
theorem nw_row (n : Int) (h0 : 0 ≤ n) (es : List Ed) (h : Ok n es) : nw (rowE n es).1 = sT es := by
  have h1 := lst_rowE n h0 es h
  have h2 := sT_lst n (rowE n es).1 0 false [] (rowE n es).2 (fun _ => rfl)
  unfold lst at h1
  rw [h1] at h2
  simpa using h2.symm
theorem nw_drop : ∀ (l : List Cl) (i j : Nat), i ≤ j → nw (l.drop j) ≤ nw (l.drop i) := by
  intro l i j h
  obtain ⟨d, rfl⟩ : ∃ d, j = i + d := ⟨j - i, by omega⟩
  rw [← List.drop_drop]
  have key : ∀ (m : List Cl) (d : Nat), nw (m.drop d) ≤ nw m := by
    intro m d
    conv => rhs; rw [← List.take_append_drop d m, nw_app]
    omega
  exact key _ d
theorem nw_sub (R : Rw) : ∀ (S : List Cl) (p : Int), 0 ≤ p → Mono R.1.length p S → nw (S.map (sub1 R)) ≤ nw S + nw (R.1.drop p.toNat)
  | [], p, _, _ => by simp [nw]
  | (f, .new y) :: r, p, h0, h => by
    have := nw_sub R r p h0 h
    simp only [List.map_cons, sub1, nw]
    omega
  | (f, .old k) :: r, p, h0, ⟨h1, h2, h3⟩ => by
    have ih := nw_sub R r (k + 1) (by omega) h3
    have hk : k.toNat < R.1.length := by omega
    have hd := nw_drop R.1 p.toNat k.toNat (by omega)
    rw [List.drop_eq_getElem_cons hk] at hd
    rw [show (k + 1).toNat = k.toNat + 1 by omega] at ih
    simp only [List.map_cons, sub1, List.getElem?_eq_getElem hk]
    rcases hc : R.1[k.toNat] with ⟨g, b⟩
    rw [hc] at hd
    cases b with
    | new y =>
      simp only [nw] at hd ⊢
      omega
    | old j =>
      simp only [nw] at hd ⊢
      omega
theorem sT_cmpE (n : Int) (h0 : 0 ≤ n) (a b : List Ed) (ha : Ok n a) (hb : Ok (rowE n a).1.length b) : sT (cmpE n a b) ≤ sT a + sT b := by
  have oB := row_ok _ (Int.natCast_nonneg _) b hb
  unfold cmpE lst
  rw [sT_lst n _ 0 false [] _ (fun _ => rfl)]
  have h1 := nw_sub (rowE n a) (rowE (rowE n a).1.length b).1 0 (Int.le_refl _) oB.1
  rw [nw_row _ (Int.natCast_nonneg _) b hb] at h1
  simp only [Int.toNat_zero, List.drop_zero] at h1
  rw [nw_row n h0 a ha] at h1
  simp only [List.length_nil, Nat.zero_add]
  show nw ((rowE (rowE n a).1.length b).1.map (sub1 (rowE n a))) ≤ _
  omega
theorem sT_edOf : ∀ (l : List S42), sT (l.map edOf) = tot l
  | [] => rfl
  | e :: t => by
    have : (edOf e).t.length = e.f2.size := by have := edLen e; omega
    simp only [List.map_cons, sT, tot, sT_edOf t, this]
theorem tot_toS : ∀ (l : List Ed), tot (l.map toS) = sT l
  | [] => rfl
  | e :: t => by
    have : (toS e).f2.size = e.t.length := by show (ByteArray.mk e.t.toArray).size = _; simp [ByteArray.size]
    simp only [List.map_cons, sT, tot, tot_toS t, this]
theorem edOf_toS_map (l : List Ed) : (l.map toS).map edOf = l := by
  rw [List.map_map]
  conv => rhs; rw [← List.map_id l]
  apply List.map_congr_left
  intro e he
  show edOf (toS e) = e
  unfold edOf toS
  simp
theorem groups_len (n m : Int) : ∀ (k : Nat) (a b : List S42) (sh : Int), CI n m a b sh → (groups k (a.map edOf) (b.map edOf) sh).length ≤ a.length + b.length
  | 0, a, b, sh, _ => by simp [groups]
  | k + 1, a, b, sh, h => by
    by_cases hne : a = [] ∧ b = []
    · obtain ⟨rfl, rfl⟩ := hne
      simp [groups]
    · have hs := CI.step h hne _ rfl
      obtain ⟨S, hS⟩ : ∃ S, gS (a.length + b.length + 1) ⟨-1, 0, sh, [], [], a, b⟩ = S := ⟨_, rfl⟩
      rw [hS] at hs
      rw [hs.gr]
      have ih := groups_len n m k S.a S.b S.sh hs.ci
      have := hs.ln
      simp only [List.length_cons]
      omega
end Go.Proofs.Ytaihajmdngoeiaa.Q

namespace Go.Proofs.Ytaihajmdngoeiaa.Q
open Go.RowKit Go.Proofs.YtaihajmdngoeiaaW.PrintWords Go.Proofs.YtaihajmdngoeiaaW.PrintLast Go.Proofs.YtaihajmdngoeiaaW.PrintMore
open Go.Proofs.Ytaihajmdngoeiaa.F

theorem same_loop (l : List S42) (hl : l.length ≤ 9223372036854775807) (d : Nat) : ∀ i, i ≤ l.length → l.length - i = d →
    Ev (fun k => monikerplain_SameEdits.l0 k l l (l.length : Int) (i : Int)) true := by
  induction d with
  | zero =>
    intro i h1 h2
    refine ⟨1, fun n hn => ?_⟩
    obtain ⟨k, rfl⟩ : ∃ m, n = m + 1 := ⟨n - 1, by omega⟩
    simp only [monikerplain_SameEdits.l0]
    rw [if_neg (by omega)]
  | succ d ih =>
    intro i h1 h2
    obtain ⟨K, hK⟩ := ih (i + 1) (by omega) (by omega)
    refine ⟨K + 1, fun n hn => ?_⟩
    obtain ⟨k, rfl⟩ : ∃ m, n = m + 1 := ⟨n - 1, by omega⟩
    simp only [monikerplain_SameEdits.l0]
    rw [if_pos (by omega), if_pos (by omega), if_pos (by omega), if_pos (by omega), if_neg (by simp), show wrap64 ((i : Int) + 1) = ((i + 1 : Nat) : Int) by unfold wrap64; omega]
    exact hK k (by omega)
theorem same_is (l : List S42) (hl : l.length ≤ 9223372036854775807) : Ev (fun k => monikerplain_SameEdits.f k l l) true := by
  unfold monikerplain_SameEdits.f
  simp only [↓reduceIte]
  exact same_loop l hl l.length 0 (by omega) (by omega)
end Go.Proofs.Ytaihajmdngoeiaa.Q

-- (*composer).group (41), walked by hand
namespace Go.Proofs.Ytaihajmdngoeiaa.F
open Go.RowKit Go.Proofs.YtaihajmdngoeiaaW.PrintWords Go.Proofs.YtaihajmdngoeiaaW.PrintLast Go.Proofs.YtaihajmdngoeiaaW.PrintMore
open Go.Proofs.Ytaihajmdngoeiaa.Q
attribute [local go_sem] max2_int min2_int max_two min_two
set_option linter.unusedVariables false
set_option linter.unusedSimpArgs false

def group.T11 : Bool × List (List Nat × List Nat) := (true, [([], []), ([0], [0]), ([1], [1]), ([2], [2]), ([], []), ([4], [4]), ([3, 5], [3, 5]), ([0, 0, 1, 2, 3, 4, 5, 6], [0]), ([7, 0, 1, 2, 3, 4, 5, 6], [7]), ([8, 6, 5, 0, 1, 2, 3, 4, 5, 6], [6, 8])])
def group.B11 : List Nat := [0, 1, 3, 7, 0, 16, 63, 127, 255, 511]
theorem group.tab11 : rtab .any (opsOf Try.f41 11) = group.T11 := by kernel_rfl
theorem group.bits11 : waitsOk group.T11.2 group.B11 = true := by kernel_rfl
def group.T22 : Bool × List (List Nat × List Nat) := (true, [([], []), ([], []), ([1], [1]), ([2], [2]), ([3], [3]), ([], []), ([], []), ([5, 6], [5, 6]), ([], []), ([], []), ([9], [9]), ([10], [10]), ([11], [11]), ([8, 12], [8, 12]), ([], []), ([], []), ([], []), ([], []), ([14, 15, 16, 17], [14, 15, 16, 17]), ([7, 13, 18], [7, 13, 18]), ([19], [19]), ([4, 20, 18], [4, 20]), ([0, 0, 1, 2, 3, 4, 5, 6, 7, 8, 9, 10, 11, 12, 13, 14, 15, 16, 17, 18, 19, 20, 21], [0]), ([22, 0, 1, 2, 3, 4, 5, 6, 7, 8, 9, 10, 11, 12, 13, 14, 15, 16, 17, 18, 19, 20, 21], [22]), ([23, 21, 21, 0, 1, 2, 3, 4, 5, 6, 7, 8, 9, 10, 11, 12, 13, 14, 15, 16, 17, 18, 19, 20, 21], [21, 23])])
def group.B22 : List Nat := [0, 0, 2, 6, 14, 0, 0, 96, 0, 0, 512, 1536, 3584, 7936, 0, 0, 0, 0, 245760, 524256, 1048544, 2097150, 4194303, 8388607, 16777215]
theorem group.tab22 : rtab .any (opsOf Try.f41 22) = group.T22 := by kernel_rfl
theorem group.bits22 : waitsOk group.T22.2 group.B22 = true := by kernel_rfl
set_option maxRecDepth 100000 in
set_option maxHeartbeats 20000000 in
theorem group.calls (g : Nat) (a b : List S42) (sh : Int) (vo : Value) (out : List S42) (n m : Int) (w0 w : World) (hm : m ≤ 4700000000000000000) (hn : n ≤ 4700000000000000000)
    (h0 : MR w0 w w g a b sh [] [] (.slice none 0 0) (.slice none 0 0) vo out) (hs0 : SR n m ⟨-1, 0, sh, [], [], a, b⟩) (hol : out.length ≤ 200000) (S : GS) (hS : gS (a.length + b.length + 1) ⟨-1, 0, sh, [], [], a, b⟩ = S)
    (hf : -9000000000000000000 ≤ S.lo - sh ∧ S.lo - sh ≤ 9000000000000000000 ∧ -9000000000000000000 ≤ S.hi - S.sh ∧ S.hi - S.sh ≤ 9000000000000000000) (hwl : (writG S.first S.hi S.second S.lo).length ≤ 140737488355328) (hlo : 0 ≤ S.lo) :
    Calls Try.prog 41 #[.pointer (some ⟨g, 0, none⟩)] w fun e w' => (∃ x, e = .returned x) ∧ ∃ vo', CBx w0 w' g S.a S.b S.sh vo' ∧ Kd.R k42 42 w' w0.heap.size (fun k => k ≠ g) vo' (out ++ [⟨S.lo - sh, S.hi - S.sh, strOfNums (writG S.first S.hi S.second S.lo)⟩]) ∧ Below w0.heap.size w0 w' := by
  have hu22 := Try.underlying22
  have hu42 := Try.underlying42
  have hu65 := Try.underlying65
  have hu67 := Try.underlying67
  have HM0 := Aside0.mk hm
  have HN0 := Aside0.mk hn
  have H0 := Aside0.mk h0
  have HS0 := Aside0.mk hs0
  have HOL := Aside0.mk hol
  have HGS := Aside0.mk hS
  have HF := Aside0.mk hf
  have HWL := Aside0.mk hwl
  have HLO := Aside0.mk hlo
  obtain ⟨Aa, ca, Ab, cb, xg, CA, la, CB, lb⟩ := h0.bx
  have mg : w.cell? ⟨g, 2, none⟩ = some (.int .i64 sh) := (blk_cell xg 2).trans rfl
  clear hm hn h0 hs0 hol hS hf hwl hlo xg CA CB la lb
  go_enter Try.func41, Try.ntmps41
  go_upto_block 0 with (fail)
  go_cut [2, 3, 5, 6] (fun v2 v3 v5 v6 wc => v2 = .int .i64 S.lo ∧ v3 = .int .i64 S.hi ∧ Aside0 (MR w0 w wc g S.a S.b S.sh S.first S.second v5 v6 vo out) ∧ Aside0 (SR n m S))
  case first =>
    as_aux_lemma =>
      clear mg
      go_wp2_with (fail)
      go_loopg [2, 3, 5, 6] (a.length + b.length + 1) (fun kq v2 v3 v5 v6 w' => ∃ (s : GS), v2 = .int .i64 s.lo ∧ v3 = .int .i64 s.hi ∧ Aside0 (s.a.length + s.b.length + 1 = kq) ∧ Aside0 (gS kq s = S) ∧ Aside0 (MR w0 w w' g s.a s.b s.sh s.first s.second v5 v6 vo out) ∧ Aside0 (SR n m s))
      case atStart => exact ⟨_, rfl, rfl, ⟨rfl⟩, HGS, H0, HS0⟩
      case round =>
        clear H0 HGS HS0
        obtain ⟨s, rfl, rfl, HK, HS, HMR, HSR⟩ := hrel
        obtain ⟨lo, hi, sh1, first, second, a1, b1⟩ := s
        go_step
        go_step
        go_cut [2, 3, 5] (fun v2 v3 v5 wc => v2 = .int .i64 lo ∧ v3 = .int .i64 hi ∧ v5 = u5 ∧ Aside0 (MR w0 w wc g a1 b1 sh1 first second u5 u6 vo out) ∧ Aside0 (∀ e r, a1 = e :: r → takesA lo hi sh1 e b1 = false))
        case first =>
          as_aux_lemma =>
            obtain ⟨Aa, ca, Ab, cb, xg, CA, la, CB, lb⟩ := HMR.out.bx
            simp only at xg CA la CB lb
            obtain ⟨na, hna⟩ : ∃ n, n = a1.length := ⟨_, rfl⟩
            obtain ⟨nb, hnb⟩ : ∃ n, n = b1.length := ⟨_, rfl⟩
            rw [← hna, ← hnb] at xg
            have m0 : wr.cell? ⟨g, 0, none⟩ = some (.slice Aa na ca) := (blk_cell xg 0).trans rfl
            have m1 : wr.cell? ⟨g, 1, none⟩ = some (.slice Ab nb cb) := (blk_cell xg 1).trans rfl
            have m2 : wr.cell? ⟨g, 2, none⟩ = some (.int .i64 sh1) := (blk_cell xg 2).trans rfl
            have XCA := Aside0.mk CA
            have XCB := Aside0.mk CB
            have NA := Aside0.mk hna
            have NB := Aside0.mk hnb
            clear xg CA CB la lb hna hnb
            cases a1 with
            | nil =>
              have hna := NA.out
              simp only [List.length_nil] at hna
              subst hna
              go_wp2
              go_meet
              case rel => exact ⟨rfl, rfl, rfl, HMR, ⟨fun e r h => by cases h⟩⟩
            | cons e r =>
              have hna := NA.out
              have d1 : decide (0 < na) = true := decide_eq_true (by rw [hna]; simp)
              have d2 : decide (0 < (na : Int)) = true := decide_eq_true (by rw [hna]; simp only [List.length_cons]; omega)
              obtain ⟨ada, ea, xa0, xa1, xa2⟩ := at_T42 (Kd.C_below XCA.out HMR.out.hb) 0 (by omega) (by simp)
              subst ea
              have qa : (0 < na) = True := eq_true (by rw [hna]; simp)
              have ra : rd_T42 (e :: r) 0 = e := rfl
              simp only [ra, Int.toNat_zero, Nat.zero_mul, Addr.add_zero'] at xa0 xa1 xa2
              obtain ⟨p1, p2, p3, p4, p5⟩ := Pl.head (show Pl n m sh1 (e :: r) from HSR.out.pa)
              have hw : wrap64 (e.f0 + sh1) = e.f0 + sh1 := by have := HM0.out; rw [w64] <;> omega
              have PH := Aside0.mk (show 0 ≤ e.f0 + sh1 ∧ e.f0 + sh1 + e.f2.size ≤ m ∧ 0 ≤ e.f0 ∧ e.f0 ≤ e.f1 ∧ e.f1 ≤ n from ⟨p1, p2, p3, p4, p5⟩)
              clear hna ra p1 p2 p3 p4 p5
              go_upto_region 6 with (fail)
              go_quiet (fail)
              go_upto_region 7 with (fail)
              rw [hw]
              go_cut [61] (fun v61 wc => v61 = .bool (takesA lo hi sh1 e b1) ∧ ∃ k, wc = wr.drewN k)
              case first =>
                as_aux_lemma =>
                  by_cases l : lo < 0
                  · have c1 : decide (lo < 0) = true := decide_eq_true l
                    have c2 : decide (0 ≤ lo) = false := decide_eq_false (by omega)
                    cases b1 with
                    | nil =>
                      have hnb := NB.out
                      simp only [List.length_nil] at hnb
                      subst hnb
                      have HT := Aside0.mk (show takesA lo hi sh1 e [] = true by simp [takesA, l])
                      clear l xa0 xa1 xa2 hw qa
                      go_wp2
                      go_meet
                      case rel => exact ⟨by rw [HT.out], _, rfl⟩
                    | cons f t =>
                      have hnb := NB.out
                      obtain ⟨adb, eb, xb0, xb1, xb2⟩ := at_T42 (Kd.C_below XCB.out HMR.out.hb) 0 (by omega) (by simp)
                      subst eb
                      have qb : (0 < nb) = True := eq_true (by rw [hnb]; simp)
                      have dn : ((nb : Int) == 0) = false := beq_eq_false_iff_ne.mpr (by rw [hnb]; simp only [List.length_cons]; omega)
                      have rb : rd_T42 (f :: t) 0 = f := rfl
                      simp only [rb, Int.toNat_zero, Nat.zero_mul, Addr.add_zero'] at xb0 xb1 xb2
                      by_cases c : e.f0 + sh1 ≤ f.f0
                      · have d3 : decide (e.f0 + sh1 ≤ f.f0) = true := decide_eq_true c
                        have HT := Aside0.mk (show takesA lo hi sh1 e (f :: t) = true by simp [takesA, l, c])
                        clear l xa0 xa1 xa2 hw qa rb hnb c
                        go_wp2
                        go_meet
                        case rel => exact ⟨by rw [HT.out], _, rfl⟩
                      · have d3 : decide (e.f0 + sh1 ≤ f.f0) = false := decide_eq_false c
                        have HT := Aside0.mk (show takesA lo hi sh1 e (f :: t) = false by simp [takesA, l, c]; omega)
                        clear l xa0 xa1 xa2 hw qa rb hnb c
                        go_wp2
                        go_meet
                        case rel => exact ⟨by rw [HT.out], _, rfl⟩
                  · have c1 : decide (lo < 0) = false := decide_eq_false l
                    have c2 : decide (0 ≤ lo) = true := decide_eq_true (by omega)
                    have HT := Aside0.mk (show takesA lo hi sh1 e b1 = decide (e.f0 + sh1 ≤ hi) by simp [takesA, l]; omega)
                    clear l xa0 xa1 xa2 hw qa
                    go_wp2
                    go_meet
                    case rel => exact ⟨by rw [HT.out], _, rfl⟩
              case rest =>
                as_aux_lemma =>
                  obtain ⟨rfl, kd, rfl⟩ := hcut
                  have HM1 := Aside0.mk (HMR.out.below (pw_below_drewN (Below.refl _ _) kd))
                  by_cases ht : takesA lo hi sh1 e b1 = true
                  · rw [ht]
                    have HTK := Aside0.mk ht
                    clear ht HMR m0 m1 m2 xa0 xa1 xa2 hw d1 d2 qa XCA XCB NA NB
                    generalize wr.drewN kd = wd at HM1 ⊢
                    clear Aa ca Ab cb na nb ada
                    obtain ⟨Aa, ca, Ab, cb, xg, CA, la, CB, lb⟩ := HM1.out.bx
                    obtain ⟨na, hna⟩ : ∃ n, n = (e :: r).length := ⟨_, rfl⟩
                    rw [← hna] at xg la
                    have m0 : wd.cell? ⟨g, 0, none⟩ = some (.slice Aa na ca) := (blk_cell xg 0).trans rfl
                    obtain ⟨ada, ea, xa0, xa1, xa2⟩ := at_T42 (Kd.C_below CA HM1.out.hb) 0 (by omega) (by simp)
                    subst ea
                    have qa : (0 < na) = True := eq_true (by rw [hna]; simp)
                    have ra : rd_T42 (e :: r) 0 = e := rfl
                    simp only [ra, Int.toNat_zero, Nat.zero_mul, Addr.add_zero'] at xa0 xa1 xa2
                    have XCA := Aside0.mk CA
                    have XCB := Aside0.mk CB
                    have XG := Aside0.mk xg
                    have NA := Aside0.mk hna
                    have LA := Aside0.mk la
                    have LB := Aside0.mk lb
                    clear xg CA CB la lb hna ra
                    go_upto_region 9 with (fail)
                    obtain ⟨gE, hgE⟩ : ∃ g, wd.heap.size = g := ⟨_, rfl⟩
                    obtain ⟨W2, hW2⟩ : ∃ W, W = wd.alloc (Obj.cells #[Value.int IntKind.i64 e.f0, Value.int IntKind.i64 e.f1, Value.string e.f2] 42) := ⟨_, rfl⟩
                    rw [← hW2, hgE]
                    have BE := Aside0.mk (show W2.heap[gE]? = some (.cells #[.int .i64 e.f0, .int .i64 e.f1, .string e.f2] 42 (0, 0)) by rw [hW2, ← hgE]; exact blk_new _ _)
                    have XG2 := Aside0.mk (show W2.heap[g]? = some (.cells #[.slice (some ada) na ca, .slice Ab b1.length cb, .int .i64 sh1, vo] 58 (0, 0)) by rw [hW2]; exact blk_alloc XG.out _)
                    have HM2 := Aside0.mk (show MR w0 w W2 g (e :: r) b1 sh1 first second u5 u6 vo out by rw [hW2]; exact HM1.out.below (below_alloc (Below.refl _ _) _))
                    have h5E : ∀ k, u5.ownBlock = some k → k < gE := fun k hk => by rw [← hgE]; exact Kd.R_lt HM1.out.r5 k hk
                    have h6E : ∀ k, u6.ownBlock = some k → k < gE := fun k hk => by rw [← hgE]; exact Kd.R_lt HM1.out.r6 k hk
                    have hgE' : g < gE := by rw [← hgE]; exact blk_lt XG.out
                    have H5E := Aside0.mk h5E
                    have H6E := Aside0.mk h6E
                    have GE := Aside0.mk hgE'
                    clear h5E h6E hgE' hgE hW2 HM1 XG m0 xa0 xa1 xa2
                    have m0 : W2.cell? ⟨g, 0, none⟩ = some (.slice (some ada) na ca) := (blk_cell XG2.out 0).trans rfl
                    have mf := blk_frozen XG2.out 0
                    have s1 : (1 ≤ (na : Int)) = True := eq_true (by rw [NA.out]; simp only [List.length_cons]; omega)
                    go_upto_region 10 with (fail)
                    have hCr := Kd.C_drop (m := 1) (c := ca) (by rw [← NA.out]; have := XCA.out; rw [← NA.out] at this; exact this) (by simp) (by rw [← NA.out]; exact LA.out)
                    have hna1 : na - 1 = r.length := by rw [NA.out]; simp
                    have XG3 := Aside0.mk (show (W2.setCell ⟨g, 0, none⟩ (.slice (if ca = 1 then some ada else some ⟨ada.block, ada.off + 3, none⟩) (na - 1) (ca - 1))).heap[g]? = some (.cells #[.slice (if ca = 1 then some ada else some ⟨ada.block, ada.off + 3, none⟩) r.length (ca - 1), .slice Ab b1.length cb, .int .i64 sh1, vo] 58 (0, 0)) by rw [hna1]; exact blk_put XG2.out 0 _ rfl)
                    have HM3 := Aside0.mk (HM2.out.set (a2 := r) (b2 := b1) (sh2 := sh1) 0 (.slice (if ca = 1 then some ada else some ⟨ada.block, ada.off + 3, none⟩) (na - 1) (ca - 1)) ⟨_, _, _, _, XG3.out, hCr, by rw [← hna1]; have := LA.out; omega, XCB.out, LB.out⟩)
                    have BE3 := Aside0.mk ((Below.heap_setCell W2 ⟨g, 0, none⟩ (.slice (if ca = 1 then some ada else some ⟨ada.block, ada.off + 3, none⟩) (na - 1) (ca - 1)) gE (show gE ≠ g by have := GE.out; omega)).trans BE.out)
                    generalize W2.setCell ⟨g, 0, none⟩ (.slice (if ca = 1 then some ada else some ⟨ada.block, ada.off + 3, none⟩) (na - 1) (ca - 1)) = W3 at XG3 HM3 BE3 ⊢
                    clear HM2 BE XG2 hCr hna1 m0 mf s1
                    have e0 : W3.cell? ⟨gE, 0, none⟩ = some (.int .i64 e.f0) := (blk_cell BE3.out 0).trans rfl
                    have e1 : W3.cell? ⟨gE, 1, none⟩ = some (.int .i64 e.f1) := (blk_cell BE3.out 1).trans rfl
                    have e2 : W3.cell? ⟨gE, 2, none⟩ = some (.string e.f2) := (blk_cell BE3.out 2).trans rfl
                    have LF := Aside0.mk (show first.length ≤ 100000 by have := HSR.out.ln.1; simp only at this; omega)
                    go_upto_region 11 with (first | ((with_reducible refine gate_builtin (b := .append) (xs := #[.tmp 76, .tmp 80]) rfl ?_); at_builtin; refine Kd.R_append k67 (w0 := W3) w.heap.size rfl (.tmp 76) (.tmp 80) 65 67 (.agg #[(.int .i64 0), (.int .i64 0), (.int .i64 0), (.string ⟨#[]⟩)]) 40 rfl hu65 info67 rfl (by decide) (by omega) u5 first (P67 (e.f0 + sh1) e) [.int .i64 (e.f0 + sh1), .int .i64 e.f0, .int .i64 e.f1, .string e.f2] (fun k => k ≠ g) (fun _ => False) rfl rfl ?aP (fun _ hk => hk.elim) ?aF ?aO ?aB ?aS ?aL ?_; (case aP => exact k67_mkM _ _ _ (P67 (e.f0 + sh1) e)); (case aB => exact Below.refl _ _); (case aF => exact fun k hk => by have := HM3.out.gw; have := HM3.out.sz; omega); (case aO => exact HM3.out.r5); (case aS => exact HM3.out.sz); (case aL => have := LF.out; omega); intro v9 W4 ho hb hg hat; have HM4 := Aside0.mk (HM3.out.app5 ho hg hat); have BE4 := Aside0.mk (blk_grown BE3.out hg (fun q => by have := H5E.out gE q.symm; omega)); have BG := Aside0.mk (blk_grown XG3.out hg HM3.out.gne.1); clear ho hb hg hat e0 e1 e2; have m2 : W4.cell? ⟨g, 2, none⟩ = some (.int .i64 sh1) := (blk_cell BG.out 2).trans rfl; have e0 : W4.cell? ⟨gE, 0, none⟩ = some (.int .i64 e.f0) := (blk_cell BE4.out 0).trans rfl; have e1 : W4.cell? ⟨gE, 1, none⟩ = some (.int .i64 e.f1) := (blk_cell BE4.out 1).trans rfl; have e2 : W4.cell? ⟨gE, 2, none⟩ = some (.string e.f2) := (blk_cell BE4.out 2).trans rfl))
                    clear HM3 BE3 XG3
                    obtain ⟨hP1, hP2, hP3, hP4, hP5⟩ := PH.out
                    have hwg : wrap64 (sh1 + wrap64 ((e.f2.size : Int) - wrap64 (e.f1 - e.f0))) = sh1 + grow e := by
                      have h1 := HM0.out
                      have h2 := HN0.out
                      have h3 := HSR.out.ss
                      have h4 := HSR.out.sa e List.mem_cons_self
                      simp only at h3
                      show wrap64 (sh1 + wrap64 ((e.f2.size : Int) - wrap64 (e.f1 - e.f0))) = sh1 + ((e.f2.size : Int) - (e.f1 - e.f0))
                      rw [w64 (x := e.f1 - e.f0) (by omega) (by omega), w64 (x := (e.f2.size : Int) - (e.f1 - e.f0)) (by omega) (by omega), w64 (by omega) (by omega)]
                    have hwt : wrap64 (e.f0 + sh1 + (e.f2.size : Int)) = e.f0 + sh1 + (e.f2.size : Int) := by have h1 := HM0.out; rw [w64] <;> omega
                    have HWG := Aside0.mk hwg
                    have HWT := Aside0.mk hwt
                    have hgS : gS (r.length + b1.length + 1) (nextA ⟨lo, hi, sh1, first, second, e :: r, b1⟩ e r) = S := by
                      have h1 := HS.out
                      have h2 := HK.out
                      simp only [List.length_cons] at h2
                      rw [← h2, show r.length + 1 + b1.length + 1 = (r.length + b1.length + 1) + 1 by omega] at h1
                      simp only [gS, stepG_a, HTK.out, if_true] at h1
                      exact h1
                    have HGN := Aside0.mk hgS
                    clear hP1 hP2 hP3 hP4 hP5 hwg hwt hgS HS
                    refine start_ (n := 10) (S := fun w' => Below W4.heap.size W4 w') (ds := [9]) #[false, false, false, false, false, false, false, false, false, false] (by kernel_rfl) rfl rfl (below_drew1 (Below.refl _ _)) (fun hHeld => ?_)
                    refine with_tabW group.tab11 group.bits11 (fun HT_ HW_ => ?_)
                    generalize W4.drew = wa at hHeld ⊢
                    refine pure_ (i := 0) (N := some 82) (v := ?_) (a' := ?_) #[true, false, false, false, false, false, false, false, false, false] rfl rfl (any_of HT_.out (by kernel_rfl)) (fun _ _ _ h => h) (Or.inl ⟨by rfl, ?_⟩) ?_ ?_
                    rotate_left
                    · intro w'
                      go_simp
                      with_reducible rfl
                    rotate_left
                    · simp only [Act.put, List.setIfInBounds_toArray, List.set_cons_zero, List.set_cons_succ, i64_w, i32_w]
                      rfl
                    refine pure_ (i := 1) (N := some 83) (v := ?_) (a' := ?_) #[true, true, false, false, false, false, false, false, false, false] rfl rfl (any_of HT_.out (by kernel_rfl)) (fun _ _ _ h => h) (Or.inl ⟨by rfl, ?_⟩) ?_ ?_
                    rotate_left
                    · intro w'
                      go_simp
                      with_reducible rfl
                    rotate_left
                    · simp only [Act.put, List.setIfInBounds_toArray, List.set_cons_zero, List.set_cons_succ, i64_w, i32_w]
                      rfl
                    refine pure_ (i := 2) (N := some 84) (v := ?_) (a' := ?_) #[true, true, true, false, false, false, false, false, false, false] rfl rfl (any_of HT_.out (by kernel_rfl)) (fun _ _ _ h => h) (Or.inl ⟨by rfl, ?_⟩) ?_ ?_
                    rotate_left
                    · intro w'
                      go_simp
                      with_reducible rfl
                    rotate_left
                    · simp only [Act.put, List.setIfInBounds_toArray, List.set_cons_zero, List.set_cons_succ, i64_w, i32_w]
                      rfl
                    refine take_ (i := 3) (N := some 85) (v := ?_) (a' := ?_) #[true, true, true, true, false, false, false, false, false, false] rfl rfl (take_ofW HT_.out HW_.out (by kernel_rfl)) (fun _ _ _ h => h) (Or.inl ⟨by rfl, ?_⟩) hHeld ?_ ?_
                    rotate_left
                    · intro w' hS
                      have h0 := (hS.cell (World.block_lt_of_cell? _ _ m2)).trans m2
                      have h1 := (hS.cell (World.block_lt_of_cell? _ _ e0)).trans e0
                      have h2 := (hS.cell (World.block_lt_of_cell? _ _ e1)).trans e1
                      have h3 := (hS.cell (World.block_lt_of_cell? _ _ e2)).trans e2
                      clear hS
                      go_simp
                      with_reducible rfl
                    rotate_left
                    · simp only [Act.put, List.setIfInBounds_toArray, List.set_cons_zero, List.set_cons_succ, i64_w, i32_w]
                      rfl
                    refine take_ (i := 4) (N := some 86) (v := ?_) (a' := ?_) #[true, true, true, true, true, false, false, false, false, false] rfl rfl (take_ofW HT_.out HW_.out (by kernel_rfl)) (fun _ _ _ h => h) (Or.inl ⟨by rfl, ?_⟩) hHeld ?_ ?_
                    rotate_left
                    · intro w' hS
                      have h0 := (hS.cell (World.block_lt_of_cell? _ _ m2)).trans m2
                      have h1 := (hS.cell (World.block_lt_of_cell? _ _ e0)).trans e0
                      have h2 := (hS.cell (World.block_lt_of_cell? _ _ e1)).trans e1
                      have h3 := (hS.cell (World.block_lt_of_cell? _ _ e2)).trans e2
                      clear hS
                      go_simp
                      with_reducible rfl
                    rotate_left
                    · simp only [Act.put, List.setIfInBounds_toArray, List.set_cons_zero, List.set_cons_succ, i64_w, i32_w]
                      rfl
                    refine one_ (i := 5) (N := some 87) #[true, true, true, true, true, true, false, false, false, false] rfl rfl (one_of HT_.out (by kernel_rfl)) (by decide) (fun K hK => ?_)
                    refine goes_ Try.func34 (by kernel_rfl) rfl #[.agg #[.int .i64 e.f0, .int .i64 e.f1, .string e.f2]] (by rfl) rfl rfl (by (try simp only [List.map_toArray, List.map_cons, List.map_nil]); first | done | rfl) ?_
                    refine (edits_grows.calls e.f0 e.f1 e.f2 _ _ rfl).mono ?_
                    rintro e' w5 ⟨rfl, hb5⟩
                    refine ⟨_, rfl, ?_⟩
                    refine hK.out _ _ (below_step hHeld hb5) (fun hHeld => ?_)
                    clear hb5
                    clear hK K
                    refine norm_ (a' := ?_) ?_ ?_
                    rotate_left
                    · show Act.put _ (some 87) _ = _
                      simp only [Act.put, List.setIfInBounds_toArray, List.set_cons_zero, List.set_cons_succ, i64_w, i32_w]
                      rfl
                    refine pure_ (i := 6) (N := some 88) (v := ?_) (a' := ?_) #[true, true, true, true, true, true, true, false, false, false] rfl rfl (any_of HT_.out (by kernel_rfl)) (fun _ _ _ h => h) (Or.inl ⟨by rfl, ?_⟩) ?_ ?_
                    rotate_left
                    · intro w'
                      go_simp
                      with_reducible rfl
                    rotate_left
                    · simp only [Act.put, List.setIfInBounds_toArray, List.set_cons_zero, List.set_cons_succ, i64_w, i32_w]
                      rfl
                    refine pure_ (i := 7) (N := some 89) (v := ?_) (a' := ?_) #[true, true, true, true, true, true, true, true, false, false] rfl rfl (any_of HT_.out (by kernel_rfl)) (fun _ _ _ h => h) (Or.inl ⟨by rfl, ?_⟩) ?_ ?_
                    rotate_left
                    · intro w'
                      go_simp
                      with_reducible rfl
                    rotate_left
                    · simp only [Act.put, List.setIfInBounds_toArray, List.set_cons_zero, List.set_cons_succ, i64_w, i32_w]
                      rfl
                    refine pure_ (i := 8) (N := some 90) (v := ?_) (a' := ?_) #[true, true, true, true, true, true, true, true, true, false] rfl rfl (any_of HT_.out (by kernel_rfl)) (fun _ _ _ h => h) (Or.inl ⟨by rfl, ?_⟩) ?_ ?_
                    rotate_left
                    · intro w'
                      go_simp
                      with_reducible rfl
                    rotate_left
                    · simp only [Act.put, List.setIfInBounds_toArray, List.set_cons_zero, List.set_cons_succ, i64_w, i32_w]
                      rfl
                    refine last_ (i := 9) (N := none) #[true, true, true, true, true, true, true, true, true, true] rfl rfl (one_of HT_.out (by kernel_rfl)) (by decide) (fun K hK => ?_)
                    have hf0 := blk_frozen (blk_below BG.out hHeld) 2
                    have h0 := (blk_cell (blk_below BG.out hHeld) 2)
                    refine skip_ (w1 := ?_) (by rfl) rfl ?_ ?_
                    rotate_left
                    · go_simp
                      rfl
                    refine hK.out _ _ ?_
                    clear hK K
                    refine done_ (done_of HT_.out (by kernel_rfl)) ?_
                    have HM5 := HM4.out.below hHeld
                    have BE5 := blk_below BE4.out hHeld
                    rw [HWG.out]
                    obtain ⟨Aq, cq, Ar, cr, xq, Cq, lq, Cr, lr⟩ := HM5.bx
                    have HM6 := Aside0.mk (HM5.set (a2 := r) (b2 := b1) (sh2 := sh1 + grow e) 2 (.int .i64 (sh1 + grow e)) ⟨Aq, cq, Ar, cr, blk_put xq 2 _ rfl, Cq, lq, Cr, lr⟩)
                    have BE6 := Aside0.mk ((Below.heap_setCell w5 ⟨g, 2, none⟩ (.int .i64 (sh1 + grow e)) gE (show gE ≠ g by have := GE.out; omega)).trans BE5)
                    generalize w5.setCell ⟨g, 2, none⟩ (.int .i64 (sh1 + grow e)) = W6 at HM6 BE6 ⊢
                    clear HM5 BE5 xq Cq lq Cr lr hHeld hf0 h0 HM4 BG BE4 m2 e0 e1 e2
                    have e2 : W6.cell? ⟨gE, 2, none⟩ = some (.string e.f2) := (blk_cell BE6.out 2).trans rfl
                    have hwt := HWT.out
                    by_cases l : lo < 0
                    · have c1 : decide (lo < 0) = true := decide_eq_true l
                      have HL := Aside0.mk l
                      clear l
                      go_wp2
                      all_goals
                        go_roundg (r.length + b1.length + 1)
                        case measure => have := HK.out; simp only [List.length_cons] at this; omega
                        case rel =>
                          refine ⟨nextA ⟨lo, hi, sh1, first, second, e :: r, b1⟩ e r, ?_, ?_, ⟨rfl⟩, HGN, HM6, ⟨SR.nextA HM0.out HN0.out HSR.out⟩⟩
                          · show Value.int .i64 (e.f0 + sh1) = .int .i64 (if lo < 0 then e.f0 + sh1 else lo)
                            rw [if_pos HL.out]
                          · show Value.int .i64 _ = Value.int .i64 (max hi (e.f0 + sh1 + (e.f2.size : Int)))
                            congr 1
                            omega
                    · have c1 : decide (lo < 0) = false := decide_eq_false l
                      have HL := Aside0.mk l
                      clear l
                      go_wp2
                      all_goals
                        go_roundg (r.length + b1.length + 1)
                        case measure => have := HK.out; simp only [List.length_cons] at this; omega
                        case rel =>
                          refine ⟨nextA ⟨lo, hi, sh1, first, second, e :: r, b1⟩ e r, ?_, ?_, ⟨rfl⟩, HGN, HM6, ⟨SR.nextA HM0.out HN0.out HSR.out⟩⟩
                          · show Value.int .i64 lo = .int .i64 (if lo < 0 then e.f0 + sh1 else lo)
                            rw [if_neg (show ¬ lo < 0 by have := HL.out; omega)]
                          · show Value.int .i64 _ = Value.int .i64 (max hi (e.f0 + sh1 + (e.f2.size : Int)))
                            congr 1
                            omega
                  · rw [Bool.not_eq_true] at ht
                    rw [ht]
                    have HTK := Aside0.mk ht
                    clear ht
                    go_wp2
                    go_meet
                    case rel => exact ⟨rfl, rfl, rfl, HM1, ⟨fun e' r' h => by injection h with h1 h2; rw [← h1]; exact HTK.out⟩⟩
        case rest =>
          as_aux_lemma =>
            obtain ⟨rfl, rfl, rfl, HM1, HNT⟩ := hcut
            clear HMR
            obtain ⟨Aa, ca, Ab, cb, xg, CA, la, CB, lb⟩ := HM1.out.bx
            obtain ⟨nb, hnb⟩ : ∃ n, n = b1.length := ⟨_, rfl⟩
            rw [← hnb] at xg lb
            have m1 : wc.cell? ⟨g, 1, none⟩ = some (.slice Ab nb cb) := (blk_cell xg 1).trans rfl
            have hend : stepB ⟨lo, hi, sh1, first, second, a1, b1⟩ = none → S = ⟨lo, hi, sh1, first, second, a1, b1⟩ := by
              intro hb
              have h1 := HS.out
              rw [← HK.out] at h1
              have h2 : Q.stepG ⟨lo, hi, sh1, first, second, a1, b1⟩ = none := by
                cases a1 with
                | nil => exact hb
                | cons e r => rw [stepG_a, HNT.out e r rfl]; simpa using hb
              simp only [gS, h2] at h1
              exact h1.symm
            have HEND := Aside0.mk hend
            have XCA := Aside0.mk CA
            have XCB := Aside0.mk CB
            have XG := Aside0.mk xg
            have NB := Aside0.mk hnb
            have LA := Aside0.mk la
            have LB := Aside0.mk lb
            clear xg CA CB la lb hnb hend
            cases b1 with
            | nil =>
              have hnb := NB.out
              simp only [List.length_nil] at hnb
              subst hnb
              have hSe := HEND.out rfl
              have HSE := Aside0.mk hSe
              clear hSe
              go_wp2
              go_meet
              case rel => rw [HSE.out]; exact ⟨rfl, rfl, HM1, HSR⟩
            | cons f t =>
              have hnb := NB.out
              have d1 : decide (0 < nb) = true := decide_eq_true (by rw [hnb]; simp)
              have d2 : decide (0 < (nb : Int)) = true := decide_eq_true (by rw [hnb]; simp only [List.length_cons]; omega)
              obtain ⟨adb, eb, xb0, xb1, xb2⟩ := at_T42 (Kd.C_below XCB.out HM1.out.hb) 0 (by omega) (by simp)
              subst eb
              have qb : (0 < nb) = True := eq_true (by rw [hnb]; simp)
              have rb : rd_T42 (f :: t) 0 = f := rfl
              simp only [rb, Int.toNat_zero, Nat.zero_mul, Addr.add_zero'] at xb0 xb1 xb2
              clear rb hnb
              go_upto_region 15 with (fail)
              go_cut [121] (fun v121 w' => v121 = .bool (decide (lo < 0 ∨ f.f0 ≤ hi)) ∧ w' = wc)
              case first =>
                as_aux_lemma =>
                  by_cases l : lo < 0
                  · have c1 : decide (lo < 0) = true := decide_eq_true l
                    have HT := Aside0.mk (show decide (lo < 0 ∨ f.f0 ≤ hi) = true from decide_eq_true (Or.inl l))
                    clear l
                    go_wp2
                    go_meet
                    case rel => exact ⟨by rw [HT.out], rfl⟩
                  · have c1 : decide (lo < 0) = false := decide_eq_false l
                    have HT := Aside0.mk (show decide (lo < 0 ∨ f.f0 ≤ hi) = decide (f.f0 ≤ hi) by simp [l])
                    clear l
                    go_wp2
                    go_meet
                    case rel => exact ⟨by rw [HT.out], rfl⟩
              case rest =>
                as_aux_lemma =>
                  obtain ⟨rfl, rfl⟩ := hcut
                  by_cases ht : lo < 0 ∨ f.f0 ≤ hi
                  · rw [decide_eq_true ht]
                    have HTK := Aside0.mk (show stepB ⟨lo, hi, sh1, first, second, a1, f :: t⟩ = some (nextB ⟨lo, hi, sh1, first, second, a1, f :: t⟩ f t) by show (if lo < 0 ∨ f.f0 ≤ hi then some _ else none) = _; rw [if_pos ht])
                    clear ht
                    go_upto_region 17 with (fail)
                    obtain ⟨gE, hgE⟩ : ∃ g, wc.heap.size = g := ⟨_, rfl⟩
                    obtain ⟨W2, hW2⟩ : ∃ W, W = wc.alloc (Obj.cells #[Value.int IntKind.i64 f.f0, Value.int IntKind.i64 f.f1, Value.string f.f2] 42) := ⟨_, rfl⟩
                    rw [← hW2, hgE]
                    have BE := Aside0.mk (show W2.heap[gE]? = some (.cells #[.int .i64 f.f0, .int .i64 f.f1, .string f.f2] 42 (0, 0)) by rw [hW2, ← hgE]; exact blk_new _ _)
                    have XG2 := Aside0.mk (show W2.heap[g]? = some (.cells #[.slice Aa a1.length ca, .slice (some adb) nb cb, .int .i64 sh1, vo] 58 (0, 0)) by rw [hW2]; exact blk_alloc XG.out _)
                    have HM2 := Aside0.mk (show MR w0 w W2 g a1 (f :: t) sh1 first second u5 u6 vo out by rw [hW2]; exact HM1.out.below (below_alloc (Below.refl _ _) _))
                    have h6E : ∀ k, u6.ownBlock = some k → k < gE := fun k hk => by rw [← hgE]; exact Kd.R_lt HM1.out.r6 k hk
                    have hgE' : g < gE := by rw [← hgE]; exact blk_lt XG.out
                    have H6E := Aside0.mk h6E
                    have GE := Aside0.mk hgE'
                    clear h6E hgE' hgE hW2 HM1 XG m1 xb0 xb1 xb2
                    have m1 : W2.cell? ⟨g, 1, none⟩ = some (.slice (some adb) nb cb) := (blk_cell XG2.out 1).trans rfl
                    have mf := blk_frozen XG2.out 1
                    have s1 : (1 ≤ (nb : Int)) = True := eq_true (by rw [NB.out]; simp only [List.length_cons]; omega)
                    go_upto_region 18 with (fail)
                    have hCr := Kd.C_drop (m := 1) (c := cb) (by rw [← NB.out]; have := XCB.out; rw [← NB.out] at this; exact this) (by simp) (by rw [← NB.out]; exact LB.out)
                    have hna1 : nb - 1 = t.length := by rw [NB.out]; simp
                    have HM3 := Aside0.mk (HM2.out.set (a2 := a1) (b2 := t) (sh2 := sh1) 1 (.slice (if cb = 1 then some adb else some ⟨adb.block, adb.off + 3, none⟩) (nb - 1) (cb - 1)) ⟨_, _, _, _, (show (W2.setCell ⟨g, 1, none⟩ (.slice (if cb = 1 then some adb else some ⟨adb.block, adb.off + 3, none⟩) (nb - 1) (cb - 1))).heap[g]? = some (.cells #[.slice Aa a1.length ca, .slice (if cb = 1 then some adb else some ⟨adb.block, adb.off + 3, none⟩) t.length (cb - 1), .int .i64 sh1, vo] 58 (0, 0)) by rw [hna1]; exact blk_put XG2.out 1 _ rfl), XCA.out, LA.out, hCr, by rw [← hna1]; have := LB.out; omega⟩)
                    have BE3 := Aside0.mk ((Below.heap_setCell W2 ⟨g, 1, none⟩ (.slice (if cb = 1 then some adb else some ⟨adb.block, adb.off + 3, none⟩) (nb - 1) (cb - 1)) gE (show gE ≠ g by have := GE.out; omega)).trans BE.out)
                    generalize W2.setCell ⟨g, 1, none⟩ (.slice (if cb = 1 then some adb else some ⟨adb.block, adb.off + 3, none⟩) (nb - 1) (cb - 1)) = W3 at HM3 BE3 ⊢
                    clear HM2 BE XG2 hCr hna1 m1 mf s1
                    have e0 : W3.cell? ⟨gE, 0, none⟩ = some (.int .i64 f.f0) := (blk_cell BE3.out 0).trans rfl
                    have e1 : W3.cell? ⟨gE, 1, none⟩ = some (.int .i64 f.f1) := (blk_cell BE3.out 1).trans rfl
                    have e2 : W3.cell? ⟨gE, 2, none⟩ = some (.string f.f2) := (blk_cell BE3.out 2).trans rfl
                    have LF := Aside0.mk (show second.length ≤ 100000 by have := HSR.out.ln.2; simp only at this; omega)
                    have hgS : gS (a1.length + t.length + 1) (nextB ⟨lo, hi, sh1, first, second, a1, f :: t⟩ f t) = S := by
                      have h1 := HS.out
                      rw [← HK.out] at h1
                      have h2 : Q.stepG ⟨lo, hi, sh1, first, second, a1, f :: t⟩ = some (nextB ⟨lo, hi, sh1, first, second, a1, f :: t⟩ f t) := by
                        cases a1 with
                        | nil => exact HTK.out
                        | cons e r => rw [stepG_a, HNT.out e r rfl]; simpa using HTK.out
                      simp only [gS, h2, List.length_cons] at h1
                      exact h1
                    have HGN := Aside0.mk hgS
                    clear hgS HS HEND
                    go_upto_region 19 with (first | ((with_reducible refine gate_builtin (b := .append) (xs := #[.tmp 136, .tmp 138]) rfl ?_); at_builtin; refine Kd.R_append k42 (w0 := W3) w.heap.size rfl (.tmp 136) (.tmp 138) 22 42 (.agg #[(.int .i64 0), (.int .i64 0), (.string ⟨#[]⟩)]) 32 rfl hu22 info42 rfl (by decide) (by omega) u6 second f [.int .i64 f.f0, .int .i64 f.f1, .string f.f2] (fun k => k ≠ g ∧ some k ≠ u5.ownBlock) (fun _ => False) rfl rfl ?aP (fun _ hk => hk.elim) ?aF ?aO ?aB ?aS ?aL ?_; (case aP => exact k42_mkM _ _ _ f); (case aB => exact Below.refl _ _); (case aF => exact fun k hk => ⟨by have := HM3.out.gw; have := HM3.out.sz; omega, fun q => by have := Kd.R_lt HM3.out.r5 k q.symm; omega⟩); (case aO => exact HM3.out.r6); (case aS => exact HM3.out.sz); (case aL => have := LF.out; omega); intro v9 W4 ho hb hg hat; have HM4 := Aside0.mk (HM3.out.app6 ho hg); have BE4 := Aside0.mk (blk_grown BE3.out hg (fun q => by have := H6E.out gE q.symm; omega)); clear ho hb hg hat e0 e1 e2; have e0 : W4.cell? ⟨gE, 0, none⟩ = some (.int .i64 f.f0) := (blk_cell BE4.out 0).trans rfl; have e1 : W4.cell? ⟨gE, 1, none⟩ = some (.int .i64 f.f1) := (blk_cell BE4.out 1).trans rfl; have e2 : W4.cell? ⟨gE, 2, none⟩ = some (.string f.f2) := (blk_cell BE4.out 2).trans rfl))
                    clear HM3 BE3
                    by_cases l : lo < 0
                    · have c1 : decide (lo < 0) = true := decide_eq_true l
                      have HL := Aside0.mk l
                      clear l
                      go_wp2
                      all_goals
                        go_roundg (a1.length + t.length + 1)
                        case measure => have := HK.out; simp only [List.length_cons] at this; omega
                        case rel =>
                          refine ⟨nextB ⟨lo, hi, sh1, first, second, a1, f :: t⟩ f t, ?_, ?_, ⟨rfl⟩, HGN, HM4, ⟨SR.nextB HM0.out HSR.out⟩⟩
                          · show Value.int .i64 f.f0 = .int .i64 (if lo < 0 then f.f0 else lo)
                            rw [if_pos HL.out]
                          · show Value.int .i64 _ = Value.int .i64 (max hi f.f1)
                            congr 1
                            omega
                    · have c1 : decide (lo < 0) = false := decide_eq_false l
                      have HL := Aside0.mk l
                      clear l
                      go_wp2
                      all_goals
                        go_roundg (a1.length + t.length + 1)
                        case measure => have := HK.out; simp only [List.length_cons] at this; omega
                        case rel =>
                          refine ⟨nextB ⟨lo, hi, sh1, first, second, a1, f :: t⟩ f t, ?_, ?_, ⟨rfl⟩, HGN, HM4, ⟨SR.nextB HM0.out HSR.out⟩⟩
                          · show Value.int .i64 lo = .int .i64 (if lo < 0 then f.f0 else lo)
                            rw [if_neg (show ¬ lo < 0 by have := HL.out; omega)]
                          · show Value.int .i64 _ = Value.int .i64 (max hi f.f1)
                            congr 1
                            omega
                  · rw [decide_eq_false ht]
                    have hSe := HEND.out (by show (if lo < 0 ∨ f.f0 ≤ hi then some _ else none) = _; rw [if_neg ht])
                    have HSE := Aside0.mk hSe
                    clear hSe ht
                    go_wp2
                    go_meet
                    case rel => rw [HSE.out]; exact ⟨rfl, rfl, HM1, HSR⟩
  case rest =>
    as_aux_lemma =>
      obtain ⟨rfl, rfl, HM1, HS1⟩ := hcut
      clear H0 HGS HS0
      obtain ⟨Aa, ca, Ab, cb, xg, CA, la, CB, lb⟩ := HM1.out.bx
      obtain ⟨A5, c5, e5, hc5, hC5⟩ := Kd.R_reads HM1.out.r5
      obtain ⟨A6, c6, e6, hc6, hC6⟩ := Kd.R_reads HM1.out.r6
      subst e5
      subst e6
      have HC5 := Aside0.mk hC5
      have HC6 := Aside0.mk hC6
      have XG := Aside0.mk xg
      have CA := Aside0.mk CA
      have CB := Aside0.mk CB
      have LA := Aside0.mk la
      have LB := Aside0.mk lb
      have m2 : wc.cell? ⟨g, 2, none⟩ = some (.int .i64 S.sh) := (blk_cell xg 2).trans rfl
      have m3 : wc.cell? ⟨g, 3, none⟩ = some vo := (blk_cell xg 3).trans rfl
      have hw1 : wrap64 (S.lo - sh) = S.lo - sh := by have := HF.out; rw [w64] <;> omega
      have hw2 : wrap64 (S.hi - S.sh) = S.hi - S.sh := by have := HF.out; rw [w64] <;> omega
      clear xg la lb hC5 hC6 hc5 hc6 mg
      go_upto_region 22 with (fail)
      refine start_ (n := 25) (S := fun w' => Below wc.heap.size wc w') (ds := [21, 24]) #[false, false, false, false, false, false, false, false, false, false, false, false, false, false, false, false, false, false, false, false, false, false, false, false, false] (by kernel_rfl) rfl rfl (below_drew1 (Below.refl _ _)) (fun hHeld => ?_)
      refine with_tabW group.tab22 group.bits22 (fun HT_ HW_ => ?_)
      generalize wc.drew = wa at hHeld ⊢
      refine pure_ (i := 0) (N := some 148) (v := ?_) (a' := ?_) #[true, false, false, false, false, false, false, false, false, false, false, false, false, false, false, false, false, false, false, false, false, false, false, false, false] rfl rfl (any_of HT_.out (by kernel_rfl)) (fun _ _ _ h => h) (Or.inl ⟨by rfl, ?_⟩) ?_ ?_
      rotate_left
      · intro w'
        go_simp
        with_reducible rfl
      rotate_left
      · simp only [Act.put, List.setIfInBounds_toArray, List.set_cons_zero, List.set_cons_succ, i64_w, i32_w]
        rfl
      refine pure_ (i := 1) (N := some 149) (v := ?_) (a' := ?_) #[true, true, false, false, false, false, false, false, false, false, false, false, false, false, false, false, false, false, false, false, false, false, false, false, false] rfl rfl (any_of HT_.out (by kernel_rfl)) (fun _ _ _ h => h) (Or.inl ⟨by rfl, ?_⟩) ?_ ?_
      rotate_left
      · intro w'
        go_simp
        with_reducible rfl
      rotate_left
      · simp only [Act.put, List.setIfInBounds_toArray, List.set_cons_zero, List.set_cons_succ, i64_w, i32_w]
        rfl
      refine pure_ (i := 2) (N := some 150) (v := ?_) (a' := ?_) #[true, true, true, false, false, false, false, false, false, false, false, false, false, false, false, false, false, false, false, false, false, false, false, false, false] rfl rfl (any_of HT_.out (by kernel_rfl)) (fun _ _ _ h => h) (Or.inl ⟨by rfl, ?_⟩) ?_ ?_
      rotate_left
      · intro w'
        go_simp
        with_reducible rfl
      rotate_left
      · simp only [Act.put, List.setIfInBounds_toArray, List.set_cons_zero, List.set_cons_succ, i64_w, i32_w]
        rfl
      refine pure_ (i := 3) (N := some 151) (v := ?_) (a' := ?_) #[true, true, true, true, false, false, false, false, false, false, false, false, false, false, false, false, false, false, false, false, false, false, false, false, false] rfl rfl (any_of HT_.out (by kernel_rfl)) (fun _ _ _ h => h) (Or.inl ⟨by rfl, ?_⟩) ?_ ?_
      rotate_left
      · intro w'
        go_simp
        with_reducible rfl
      rotate_left
      · simp only [Act.put, List.setIfInBounds_toArray, List.set_cons_zero, List.set_cons_succ, i64_w, i32_w]
        rfl
      refine pure_ (i := 5) (N := some 153) (v := ?_) (a' := ?_) #[true, true, true, true, false, true, false, false, false, false, false, false, false, false, false, false, false, false, false, false, false, false, false, false, false] rfl rfl (any_of HT_.out (by kernel_rfl)) (fun _ _ _ h => h) (Or.inl ⟨by rfl, ?_⟩) ?_ ?_
      rotate_left
      · intro w'
        go_simp
        with_reducible rfl
      rotate_left
      · simp only [Act.put, List.setIfInBounds_toArray, List.set_cons_zero, List.set_cons_succ, i64_w, i32_w]
        rfl
      refine pure_ (i := 6) (N := some 154) (v := ?_) (a' := ?_) #[true, true, true, true, false, true, true, false, false, false, false, false, false, false, false, false, false, false, false, false, false, false, false, false, false] rfl rfl (any_of HT_.out (by kernel_rfl)) (fun _ _ _ h => h) (Or.inl ⟨by rfl, ?_⟩) ?_ ?_
      rotate_left
      · intro w'
        go_simp
        with_reducible rfl
      rotate_left
      · simp only [Act.put, List.setIfInBounds_toArray, List.set_cons_zero, List.set_cons_succ, i64_w, i32_w]
        rfl
      refine pure_ (i := 7) (N := some 155) (v := ?_) (a' := ?_) #[true, true, true, true, false, true, true, true, false, false, false, false, false, false, false, false, false, false, false, false, false, false, false, false, false] rfl rfl (any_of HT_.out (by kernel_rfl)) (fun _ _ _ h => h) (Or.inl ⟨by rfl, ?_⟩) ?_ ?_
      rotate_left
      · intro w'
        go_simp
        with_reducible rfl
      rotate_left
      · simp only [Act.put, List.setIfInBounds_toArray, List.set_cons_zero, List.set_cons_succ, i64_w, i32_w]
        rfl
      refine pure_ (i := 8) (N := some 156) (v := ?_) (a' := ?_) #[true, true, true, true, false, true, true, true, true, false, false, false, false, false, false, false, false, false, false, false, false, false, false, false, false] rfl rfl (any_of HT_.out (by kernel_rfl)) (fun _ _ _ h => h) (Or.inl ⟨by rfl, ?_⟩) ?_ ?_
      rotate_left
      · intro w'
        go_simp
        with_reducible rfl
      rotate_left
      · simp only [Act.put, List.setIfInBounds_toArray, List.set_cons_zero, List.set_cons_succ, i64_w, i32_w]
        rfl
      refine pure_ (i := 9) (N := some 157) (v := ?_) (a' := ?_) #[true, true, true, true, false, true, true, true, true, true, false, false, false, false, false, false, false, false, false, false, false, false, false, false, false] rfl rfl (any_of HT_.out (by kernel_rfl)) (fun _ _ _ h => h) (Or.inl ⟨by rfl, ?_⟩) ?_ ?_
      rotate_left
      · intro w'
        go_simp
        with_reducible rfl
      rotate_left
      · simp only [Act.put, List.setIfInBounds_toArray, List.set_cons_zero, List.set_cons_succ, i64_w, i32_w]
        rfl
      refine pure_ (i := 10) (N := some 158) (v := ?_) (a' := ?_) #[true, true, true, true, false, true, true, true, true, true, true, false, false, false, false, false, false, false, false, false, false, false, false, false, false] rfl rfl (any_of HT_.out (by kernel_rfl)) (fun _ _ _ h => h) (Or.inl ⟨by rfl, ?_⟩) ?_ ?_
      rotate_left
      · intro w'
        go_simp
        with_reducible rfl
      rotate_left
      · simp only [Act.put, List.setIfInBounds_toArray, List.set_cons_zero, List.set_cons_succ, i64_w, i32_w]
        rfl
      refine pure_ (i := 11) (N := some 159) (v := ?_) (a' := ?_) #[true, true, true, true, false, true, true, true, true, true, true, true, false, false, false, false, false, false, false, false, false, false, false, false, false] rfl rfl (any_of HT_.out (by kernel_rfl)) (fun _ _ _ h => h) (Or.inl ⟨by rfl, ?_⟩) ?_ ?_
      rotate_left
      · intro w'
        go_simp
        with_reducible rfl
      rotate_left
      · simp only [Act.put, List.setIfInBounds_toArray, List.set_cons_zero, List.set_cons_succ, i64_w, i32_w]
        rfl
      refine pure_ (i := 14) (N := some 162) (v := ?_) (a' := ?_) #[true, true, true, true, false, true, true, true, true, true, true, true, false, false, true, false, false, false, false, false, false, false, false, false, false] rfl rfl (any_of HT_.out (by kernel_rfl)) (fun _ _ _ h => h) (Or.inl ⟨by rfl, ?_⟩) ?_ ?_
      rotate_left
      · intro w'
        go_simp
        with_reducible rfl
      rotate_left
      · simp only [Act.put, List.setIfInBounds_toArray, List.set_cons_zero, List.set_cons_succ, i64_w, i32_w]
        rfl
      refine pure_ (i := 15) (N := some 163) (v := ?_) (a' := ?_) #[true, true, true, true, false, true, true, true, true, true, true, true, false, false, true, true, false, false, false, false, false, false, false, false, false] rfl rfl (any_of HT_.out (by kernel_rfl)) (fun _ _ _ h => h) (Or.inl ⟨by rfl, ?_⟩) ?_ ?_
      rotate_left
      · intro w'
        go_simp
        with_reducible rfl
      rotate_left
      · simp only [Act.put, List.setIfInBounds_toArray, List.set_cons_zero, List.set_cons_succ, i64_w, i32_w]
        rfl
      refine pure_ (i := 16) (N := some 164) (v := ?_) (a' := ?_) #[true, true, true, true, false, true, true, true, true, true, true, true, false, false, true, true, true, false, false, false, false, false, false, false, false] rfl rfl (any_of HT_.out (by kernel_rfl)) (fun _ _ _ h => h) (Or.inl ⟨by rfl, ?_⟩) ?_ ?_
      rotate_left
      · intro w'
        go_simp
        with_reducible rfl
      rotate_left
      · simp only [Act.put, List.setIfInBounds_toArray, List.set_cons_zero, List.set_cons_succ, i64_w, i32_w]
        rfl
      refine pure_ (i := 17) (N := some 165) (v := ?_) (a' := ?_) #[true, true, true, true, false, true, true, true, true, true, true, true, false, false, true, true, true, true, false, false, false, false, false, false, false] rfl rfl (any_of HT_.out (by kernel_rfl)) (fun _ _ _ h => h) (Or.inl ⟨by rfl, ?_⟩) ?_ ?_
      rotate_left
      · intro w'
        go_simp
        with_reducible rfl
      rotate_left
      · simp only [Act.put, List.setIfInBounds_toArray, List.set_cons_zero, List.set_cons_succ, i64_w, i32_w]
        rfl
      refine take_ (i := 4) (N := some 152) (v := ?_) (a' := ?_) #[true, true, true, true, true, true, true, true, true, true, true, true, false, false, true, true, true, true, false, false, false, false, false, false, false] rfl rfl (take_ofW HT_.out HW_.out (by kernel_rfl)) (fun _ _ _ h => h) (Or.inl ⟨by rfl, ?_⟩) hHeld ?_ ?_
      rotate_left
      · intro w' hS
        have h0 := (hS.cell (World.block_lt_of_cell? _ _ m2)).trans m2
        have h1 := (hS.cell (World.block_lt_of_cell? _ _ m3)).trans m3
        clear hS
        go_simp
        with_reducible rfl
      rotate_left
      · simp only [Act.put, List.setIfInBounds_toArray, List.set_cons_zero, List.set_cons_succ, i64_w, i32_w]
        rfl
      refine take_ (i := 12) (N := some 160) (v := ?_) (a' := ?_) #[true, true, true, true, true, true, true, true, true, true, true, true, true, false, true, true, true, true, false, false, false, false, false, false, false] rfl rfl (take_ofW HT_.out HW_.out (by kernel_rfl)) (fun _ _ _ h => h) (Or.inl ⟨by rfl, ?_⟩) hHeld ?_ ?_
      rotate_left
      · intro w' hS
        have h0 := (hS.cell (World.block_lt_of_cell? _ _ m2)).trans m2
        have h1 := (hS.cell (World.block_lt_of_cell? _ _ m3)).trans m3
        clear hS
        go_simp
        with_reducible rfl
      rotate_left
      · simp only [Act.put, List.setIfInBounds_toArray, List.set_cons_zero, List.set_cons_succ, i64_w, i32_w]
        rfl
      refine pure_ (i := 13) (N := some 161) (v := ?_) (a' := ?_) #[true, true, true, true, true, true, true, true, true, true, true, true, true, true, true, true, true, true, false, false, false, false, false, false, false] rfl rfl (any_of HT_.out (by kernel_rfl)) (fun _ _ _ h => h) (Or.inl ⟨by rfl, ?_⟩) ?_ ?_
      rotate_left
      · intro w'
        go_simp
        with_reducible rfl
      rotate_left
      · simp only [Act.put, List.setIfInBounds_toArray, List.set_cons_zero, List.set_cons_succ, i64_w, i32_w]
        rfl
      refine one_ (i := 18) (N := some 166) #[true, true, true, true, true, true, true, true, true, true, true, true, true, true, true, true, true, true, true, false, false, false, false, false, false] rfl rfl (one_of HT_.out (by kernel_rfl)) (by decide) (fun K hK => ?_)
      refine goes_ Try.func47 (by kernel_rfl) rfl #[.slice A5 S.first.length c5, .slice A6 S.second.length c6, .int .i64 S.lo, .int .i64 S.hi] (by rfl) rfl rfl (by (try simp only [List.map_toArray, List.map_cons, List.map_nil]); first | done | rfl) ?_
      refine (written.calls S.first S.second A5 c5 A6 c6 S.lo S.hi _ (Kd.C_below HC5.out hHeld) (Kd.C_below HC6.out hHeld) HS1.out.fp HS1.out.sp ⟨HLO.out, by have := HS1.out.sl; omega⟩ ⟨HS1.out.sh_.1, by have := HS1.out.sh_; omega⟩ (by have := HS1.out.ln; omega) (by have := HS1.out.ln; omega) HWL.out).mono ?_
      rintro e' w5 ⟨rfl, hb5⟩
      refine ⟨_, rfl, ?_⟩
      have HW5 := Aside0.mk (below_step hHeld hb5)
      refine hK.out _ _ HW5.out (fun hHeld => ?_)
      clear hb5
      clear hK K
      refine norm_ (a' := ?_) ?_ ?_
      rotate_left
      · show Act.put _ (some 166) _ = _
        simp only [Act.put, List.setIfInBounds_toArray, List.set_cons_zero, List.set_cons_succ, i64_w, i32_w]
        rfl
      refine pure_ (i := 19) (N := some 167) (v := ?_) (a' := ?_) #[true, true, true, true, true, true, true, true, true, true, true, true, true, true, true, true, true, true, true, true, false, false, false, false, false] rfl rfl (any_of HT_.out (by kernel_rfl)) (fun _ _ _ h => h) (Or.inl ⟨by rfl, ?_⟩) ?_ ?_
      rotate_left
      · intro w'
        go_simp
        with_reducible rfl
      rotate_left
      · simp only [Act.put, List.setIfInBounds_toArray, List.set_cons_zero, List.set_cons_succ, i64_w, i32_w]
        rfl
      refine one_ (i := 20) (N := some 168) #[true, true, true, true, true, true, true, true, true, true, true, true, true, true, true, true, true, true, true, true, true, false, false, false, false] rfl rfl (one_of HT_.out (by kernel_rfl)) (by decide) (fun K hK => ?_)
      refine value_ (w1 := ?_) (v := ?_) (by rfl) rfl ?_ ?_
      rotate_left 2
      · go_simp
        constructor
        · rfl
        · rfl
      refine hK.out _ _ (below_alloc HW5.out _) (fun hHeld => ?_)
      clear hK K
      refine norm_ (a' := ?_) ?_ ?_
      rotate_left
      · show Act.put _ (some 168) _ = _
        simp only [Act.put, List.setIfInBounds_toArray, List.set_cons_zero, List.set_cons_succ, i64_w, i32_w]
        rfl
      refine last_ (i := 21) (N := some 169) #[true, true, true, true, true, true, true, true, true, true, true, true, true, true, true, true, true, true, true, true, true, true, false, false, false] rfl rfl (one_of HT_.out (by kernel_rfl)) (by decide) (fun K hK => ?_)
      refine Kd.R_append_step k42 (w0 := w0) w0.heap.size (by rfl) (.tmp 152) (.tmp 168) 22 42 (.agg #[(.int .i64 0), (.int .i64 0), (.string ⟨#[]⟩)]) 32 rfl Try.underlying22 info42 rfl (by decide) (by omega) vo out (⟨S.lo - sh, S.hi - S.sh, strOfNums (writG S.first S.hi S.second S.lo)⟩ : S42) [.int .i64 (S.lo - sh), .int .i64 (S.hi - S.sh), .string (strOfNums (writG S.first S.hi S.second S.lo))] (fun k => k ≠ g) (fun _ => False) rfl rfl ?aP (fun _ hk => hk.elim) ?aF ?aO ?aB ?aS ?aL ?_
      case aP => exact k42_mkM _ _ _ (⟨S.lo - sh, S.hi - S.sh, strOfNums (writG S.first S.hi S.second S.lo)⟩ : S42)
      case aB => exact below_step HM1.out.hb HW5.out
      case aF => exact fun k hk => by have := HM1.out.gw; have := HM1.out.sz; have := HW5.out.size; omega
      case aO => exact Kd.R_mono (Kd.R_below HM1.out.ro HW5.out) (fun k hk => hk.1)
      case aS => exact Nat.le_trans HM1.out.hb.size HW5.out.size
      case aL => have := HOL.out; omega
      intro v9 W7 ho hb hg hat
      obtain ⟨A9, c9, e9⟩ := Kd.R_slice ho
      obtain ⟨nO, hnO⟩ : ∃ k, k = (out ++ [(⟨S.lo - sh, S.hi - S.sh, strOfNums (writG S.first S.hi S.second S.lo)⟩ : S42)]).length := ⟨_, rfl⟩
      rw [← hnO] at e9
      subst e9
      clear hnO
      have BG7 := Aside0.mk (blk_grown (blk_below XG.out HW5.out) hg (Kd.R_away HM1.out.ro (fun _ hk => hk.1)))
      have HO7 := Aside0.mk ho
      have HB7 := Aside0.mk hb
      clear ho hb hg hat
      refine hK.out _ _ ?_
      clear hK K
      refine norm_ (a' := ?_) ?_ ?_
      rotate_left
      · show Act.put _ (some 169) _ = _
        simp only [Act.put, List.setIfInBounds_toArray, List.set_cons_zero, List.set_cons_succ, i64_w, i32_w]
        rfl
      refine pure_ (i := 22) (N := some 170) (v := ?_) (a' := ?_) #[true, true, true, true, true, true, true, true, true, true, true, true, true, true, true, true, true, true, true, true, true, true, true, false, false] rfl rfl (any_of HT_.out (by kernel_rfl)) (fun _ _ _ h => h) (Or.inl ⟨by rfl, ?_⟩) ?_ ?_
      rotate_left
      · intro w'
        go_simp
        with_reducible rfl
      rotate_left
      · simp only [Act.put, List.setIfInBounds_toArray, List.set_cons_zero, List.set_cons_succ, i64_w, i32_w]
        rfl
      refine pure_ (i := 23) (N := some 171) (v := ?_) (a' := ?_) #[true, true, true, true, true, true, true, true, true, true, true, true, true, true, true, true, true, true, true, true, true, true, true, true, false] rfl rfl (any_of HT_.out (by kernel_rfl)) (fun _ _ _ h => h) (Or.inl ⟨by rfl, ?_⟩) ?_ ?_
      rotate_left
      · intro w'
        go_simp
        with_reducible rfl
      rotate_left
      · simp only [Act.put, List.setIfInBounds_toArray, List.set_cons_zero, List.set_cons_succ, i64_w, i32_w]
        rfl
      refine last_ (i := 24) (N := none) #[true, true, true, true, true, true, true, true, true, true, true, true, true, true, true, true, true, true, true, true, true, true, true, true, true] rfl rfl (one_of HT_.out (by kernel_rfl)) (by decide) (fun K hK => ?_)
      have hf0 := blk_frozen BG7.out 3
      have h0 := (blk_cell BG7.out 3)
      refine skip_ (w1 := ?_) (by rfl) rfl ?_ ?_
      rotate_left
      · go_simp
        rfl
      refine hK.out _ _ ?_
      clear hK K
      refine done_ (done_of HT_.out (by kernel_rfl)) ?_
      go_wp2
      (try simp only [Exit.inBlock, Exit.then])
      refine Go.Great.bodyPost_end0 (fn := Try.f41) ?_ ?_ ?_
      · rfl
      · rfl
      refine ⟨⟨_, rfl⟩, .slice A9 nO c9, ⟨Aa, ca, Ab, cb, blk_put BG7.out 3 _ rfl, CA.out, LA.out, CB.out, LB.out⟩, ?_, ?_⟩
      · exact Kd.R_far (p := ⟨g, 3, none⟩) HO7.out (fun k hk => hk) _
      · exact below_set HB7.out HM1.out.g0
end Go.Proofs.Ytaihajmdngoeiaa.F

-- edits.Compose (30), walked by hand
namespace Go.Proofs.Ytaihajmdngoeiaa.F
open Go.RowKit Go.Proofs.YtaihajmdngoeiaaW.PrintWords Go.Proofs.YtaihajmdngoeiaaW.PrintLast Go.Proofs.YtaihajmdngoeiaaW.PrintMore
open Go.Proofs.Ytaihajmdngoeiaa.Q
set_option linter.unusedVariables false
set_option linter.unusedSimpArgs false

/-- Between the groups of Compose. -/
structure CO (w0 W : World) (g : Nat) (n m : Int) (L : List S42) (kq : Nat) (a b : List S42) (sh : Int) (vo : Value) (out : List S42) : Prop where
  bx : CBx w0 W g a b sh vo
  ro : Kd.R k42 42 W w0.heap.size (fun k => k ≠ g) vo out
  hb : Below w0.heap.size w0 W
  g0 : w0.heap.size ≤ g
  ci : CI n m a b sh
  ta : tot a ≤ 1048576
  tb : tot b ≤ 1048576
  la : a.length ≤ 65536
  lb : b.length ≤ 65536
  lo : out.length + kq ≤ 131073
  lk : a.length + b.length + 1 ≤ kq
  sp : out ++ (groups kq (a.map edOf) (b.map edOf) sh).map toS = L
theorem CBx.lt {w0 W : World} {g : Nat} {a b : List S42} {sh : Int} {vo : Value} (h : CBx w0 W g a b sh vo) : g < W.heap.size := by
  obtain ⟨Aa, ca, Ab, cb, x, _⟩ := h
  exact blk_lt x
theorem CO.mr {w0 W : World} {g : Nat} {n m : Int} {L : List S42} {kq : Nat} {a b : List S42} {sh : Int} {vo : Value} {out : List S42} (h : CO w0 W g n m L kq a b sh vo out) : MR w0 W W g a b sh [] [] (.slice none 0 0) (.slice none 0 0) vo out :=
  ⟨h.bx, Kd.R_nil _ _ _ _ _, Kd.R_nil _ _ _ _ _, Kd.R_mono (Kd.R_bound h.ro) (fun k hk => ⟨hk.1, hk.2.2.1⟩), h.hb, h.g0, h.bx.lt, Nat.le_refl _⟩
theorem CO.next {w0 W W1 : World} {g : Nat} {n m : Int} {L : List S42} {kq : Nat} {a b : List S42} {sh : Int} {vo vo1 : Value} {out : List S42} (h : CO w0 W g n m L (kq + 1) a b sh vo out) {S : GS} (hs : CStep n m a b sh S)
    (hx : CBx w0 W1 g S.a S.b S.sh vo1) (hr : Kd.R k42 42 W1 w0.heap.size (fun k => k ≠ g) vo1 (out ++ [⟨S.lo - sh, S.hi - S.sh, strOfNums (writG S.first S.hi S.second S.lo)⟩])) (hb : Below w0.heap.size w0 W1) :
    CO w0 W1 g n m L kq S.a S.b S.sh vo1 (out ++ [⟨S.lo - sh, S.hi - S.sh, strOfNums (writG S.first S.hi S.second S.lo)⟩]) := by
  have h1 := h.lo
  have h2 := h.lk
  have h3 := hs.ln
  refine ⟨hx, hr, hb, h.g0, hs.ci, Nat.le_trans hs.ta h.ta, Nat.le_trans hs.tb h.tb, Nat.le_trans h3.2.1 h.la, Nat.le_trans h3.2.2 h.lb, ?_, by omega, ?_⟩
  · rw [List.length_append, List.length_singleton]
    omega
  · have := h.sp
    rw [hs.gr, List.map_cons, toS_edOf] at this
    rw [← this]
    simp
theorem CO.end_ {w0 W : World} {g : Nat} {n m : Int} {L : List S42} {kq : Nat} {sh : Int} {vo : Value} {out : List S42} (h : CO w0 W g n m L kq [] [] sh vo out) : out = L := by
  have h1 := h.sp
  have h2 := h.lk
  obtain ⟨k, rfl⟩ : ∃ k, kq = k + 1 := ⟨kq - 1, by simp only [List.length_nil] at h2; omega⟩
  simpa [groups] using h1
def edits_Compose.f (k : Nat) (a0 : Int) (a b : List S42) : Option (List S42 × Int) := if tot a ≤ 1048576 ∧ tot b ≤ 1048576 then some (compSpec a0 a b) else none
set_option maxRecDepth 100000 in
set_option maxHeartbeats 20000000 in
theorem edits_Compose.calls (k : Nat) (a0 : Int) (A1 : Option Addr) (c1 : Nat) (l1 : List S42) (A2 : Option Addr) (c2 : Nat) (l2 : List S42) (r1 : List S42) (r2 : Int) (w : World) (hr1 : Kd.C k42 w A1 l1.length l1) (hc1 : l1.length ≤ c1) (hr2 : Kd.C k42 w A2 l2.length l2) (hc2 : l2.length ≤ c2) (h : edits_Compose.f k a0 l1 l2 = some (r1, r2)) :
    Calls Try.prog 30 #[.int .i64 a0, .slice A1 l1.length c1, .slice A2 l2.length c2] w fun e w' => ∃ v0_ : Value, e = .returned (.tuple #[v0_, .int .i64 r2]) ∧ Kd.R k42 42 w' w.heap.size (fun _ => True) v0_ r1 ∧ Below w.heap.size w w' := by
  have hu22 := Try.underlying22
  have hu42 := Try.underlying42
  unfold edits_Compose.f at h
  have hsz : tot l1 ≤ 1048576 ∧ tot l2 ≤ 1048576 := Classical.byContradiction fun hh => by rw [if_neg hh] at h; cases h
  rw [if_pos hsz] at h
  have h' := Option.some.inj h
  clear h
  unfold compSpec at h'
  have HS := Aside0.mk hsz
  have HR1 := Aside0.mk hr1
  have HC1 := Aside0.mk hc1
  have HR2 := Aside0.mk hr2
  have HC2 := Aside0.mk hc2
  obtain ⟨k1, hk1⟩ := (Valid_is a0 l1).rounds
  have HV1 := Aside0.mk hk1
  clear hsz hr1 hc1 hr2 hc2 hk1
  by_cases q1 : Vspec a0 l1 = 0
  · rw [if_pos q1] at h'
    rw [q1] at HV1
    obtain ⟨z0, zn, zl, zc⟩ := Vspec_zero q1
    obtain ⟨y0, y1, y2⟩ := new_size a0 z0 zn l1 zc (by have := HS.out.1; omega)
    obtain ⟨k2, hk2⟩ := (left_is a0 z0 zn l1 zl).rounds
    rw [y2] at hk2 h'
    obtain ⟨k3, hk3⟩ := (valid_is (a0 + sumG l1) l2).rounds
    have HV2 := Aside0.mk hk2
    have HV3 := Aside0.mk hk3
    clear hk2 hk3
    by_cases q2 : vspec (a0 + sumG l1) l2 = 0
    · rw [if_pos q2] at h'
      rw [q2] at HV3
      obtain ⟨xl, xc⟩ := vspec_zero q2
      have hco : ∀ (W : World) (g : Nat), CBx w W g l1 l2 0 (.slice none 0 0) → Below w.heap.size w W → w.heap.size ≤ g → CO w W g a0 (a0 + sumG l1) (compL a0 l1 l2) (l1.length + l2.length + 1) l1 l2 0 (.slice none 0 0) [] := by
        intro W g hx hb hg
        have hA := Ok.cz (chain_ok zc) z0
        have hob : Ok (rowE a0 (l1.map edOf)).1.length (l2.map edOf) := by rw [rowE_len a0 z0 l1 none zc]; exact chain_ok xc
        refine ⟨hx, Kd.R_nil _ _ _ _ _, hb, hg, ⟨⟨0, hA, Int.le_refl _, z0, Ok.cz (chain_ok xc) y0, by omega⟩, by rw [shOf_edOf]; omega⟩, HS.out.1, HS.out.2, zl, xl, by simp only [List.length_nil]; omega, Nat.le_refl _, ?_⟩
        unfold compL
        rw [cmpE_groups a0 z0 (l1.map edOf) (l2.map edOf) (chain_ok zc) hob (l1.length + l2.length) (by simp only [List.length_map]; omega)]
        rfl
      have HCO := Aside0.mk hco
      have HM := Aside0.mk h'
      have HY := Aside0.mk (show a0 + sumG l1 ≤ 4700000000000000000 by have h1 := sumG_tot zc; have h2 := HS.out.1; omega)
      have HZ := Aside0.mk (show a0 ≤ 4700000000000000000 by omega)
      clear h' hco q1 q2 z0 zn zl zc y0 y1 y2 xl xc
      obtain ⟨L, hL⟩ : ∃ L, compL a0 l1 l2 = L := ⟨_, rfl⟩
      obtain ⟨m, hm⟩ : ∃ m, a0 + sumG l1 = m := ⟨_, rfl⟩
      rw [hL] at HCO HM
      rw [hm] at HCO HV2 HV3 HY
      clear hL hm
      go_enter Try.func30, Try.ntmps30
      go_wp2_with fail
      refine (edits_Valid.calls k1 a0 A1 c1 l1 0 _ HR1.out HC1.out HV1.out).mono ?_
      rintro e w1 ⟨rfl, hb1⟩
      have HB1 := Aside0.mk hb1
      clear hb1
      go_wp2_with fail
      refine (edits_left.calls k2 a0 A1 c1 l1 _ _ (Kd.C_below HR1.out HB1.out) HC1.out HV2.out).mono ?_
      rintro e w2 ⟨rfl, hb2⟩
      have HB2 := Aside0.mk (below_step HB1.out hb2)
      clear hb2
      go_wp2_with fail
      refine (edits_valid.calls k3 m A2 c2 l2 0 _ (Kd.C_below HR2.out HB2.out) HC2.out HV3.out).mono ?_
      rintro e w3 ⟨rfl, hb3⟩
      have HB3 := Aside0.mk (below_step HB2.out hb3)
      clear hb3 HB1 HB2
      go_upto_block 0 with (fail)
      obtain ⟨g, hg⟩ : ∃ g, w3.heap.size = g := ⟨_, rfl⟩
      obtain ⟨W, hW⟩ : ∃ W, W = w3.alloc (Obj.cells #[Value.slice A1 l1.length c1, Value.slice A2 l2.length c2, Value.int IntKind.i64 0, Value.slice none 0 0] 58) := ⟨_, rfl⟩
      rw [← hW, hg]
      have HC := Aside0.mk (HCO.out W g ⟨A1, c1, A2, c2, by rw [hW, ← hg]; exact blk_new _ _, HR1.out, HC1.out, HR2.out, HC2.out⟩ (by rw [hW]; exact below_alloc HB3.out _) (by rw [← hg]; exact HB3.out.size))
      clear hW hg HCO HB3 HV1 HV2 HV3 HS HR1 HR2
      go_wp2_with fail
      go_loopg [] (l1.length + l2.length + 1) (fun kq w' => Aside0 (∃ a b sh vo out, CO w w' g a0 m L kq a b sh vo out))
      case atStart => exact ⟨⟨_, _, _, _, _, HC.out⟩⟩
      case round =>
        clear HC
        have HC := hrel
        obtain ⟨a, b, sh, vo, out, hC⟩ := HC.out
        clear HC
        obtain ⟨Aa, ca, Ab, cb, xg, CA, la, CB, lb⟩ := hC.bx
        obtain ⟨na, hna⟩ : ∃ n, n = a.length := ⟨_, rfl⟩
        obtain ⟨nb, hnb⟩ : ∃ n, n = b.length := ⟨_, rfl⟩
        rw [← hna, ← hnb] at xg
        have m0 : wr.cell? ⟨g, 0, none⟩ = some (.slice Aa na ca) := (blk_cell xg 0).trans rfl
        have m1 : wr.cell? ⟨g, 1, none⟩ = some (.slice Ab nb cb) := (blk_cell xg 1).trans rfl
        have m3 : wr.cell? ⟨g, 3, none⟩ = some vo := (blk_cell xg 3).trans rfl
        have HC := Aside0.mk hC
        have NA := Aside0.mk hna
        have NB := Aside0.mk hnb
        clear hC xg CA la CB lb hna hnb
        by_cases hab : a = [] ∧ b = []
        · obtain ⟨rfl, rfl⟩ := hab
          have h1 := NA.out
          have h2 := NB.out
          simp only [List.length_nil] at h1 h2
          subst h1
          subst h2
          have hL := HC.out.end_
          subst hL
          obtain ⟨Ao, co, eo, hco, hCo⟩ := Kd.R_reads HC.out.ro
          subst eo
          obtain ⟨no, hno⟩ : ∃ n, n = out.length := ⟨_, rfl⟩
          have hm := HM.out
          rw [← hno] at m3 hm
          by_cases hbig : (no : Int) > 65536
          · have d1 : decide ((65536 : Int) < (no : Int)) = true := decide_eq_true hbig
            have d2 : decide (65536 < no) = true := decide_eq_true (by omega)
            rw [if_pos hbig] at hm
            obtain ⟨rfl, rfl⟩ := Prod.mk.inj hm
            clear hm hbig hno
            go_wp2
            go_ret2
            exact ⟨_, rfl, Kd.R_nil _ _ _ _ _, HC.out.hb⟩
          · have d1 : decide ((65536 : Int) < (no : Int)) = false := decide_eq_false hbig
            have d2 : decide (65536 < no) = false := decide_eq_false (by omega)
            rw [if_neg hbig] at hm
            obtain ⟨rfl, rfl⟩ := Prod.mk.inj hm
            have HNO := Aside0.mk hno
            clear hm hbig hno
            go_wp2
            go_ret2
            refine ⟨_, rfl, ?_, HC.out.hb⟩
            rw [HNO.out]
            exact Kd.R_mono HC.out.ro (fun _ _ => trivial)
        · have hz := CI.step HC.out.ci hab _ rfl
          obtain ⟨S, hS⟩ : ∃ S, gS (a.length + b.length + 1) ⟨-1, 0, sh, [], [], a, b⟩ = S := ⟨_, rfl⟩
          rw [hS] at hz
          have hx : ∃ k, gk = k + 1 := ⟨gk - 1, by have := HC.out.lk; omega⟩
          have hsr := HC.out.ci.sr HZ.out HY.out HC.out.ta ⟨by have := HC.out.la; omega, by have := HC.out.lb; omega⟩
          have hgr := group.calls g a b sh vo out a0 m w wr HY.out HZ.out HC.out.mr hsr (by have := HC.out.lo; omega) S hS
            (by have h1 := hz.lo; have h2 := hz.hi; have h3 := HZ.out; exact ⟨by omega, by omega, by omega, by omega⟩)
            (by
              have h1 := hz.tx
              have h2 : (b.length + 1) * tot a ≤ 65537 * 1048576 := Nat.mul_le_mul (by have := HC.out.lb; omega) HC.out.ta
              have h3 := HC.out.tb
              omega) hz.lo0
          have HG := Aside0.mk hgr
          have HX := Aside0.mk hz
          have HK := Aside0.mk hx
          have HAB := Aside0.mk hab
          clear hgr hz hx hS hsr
          by_cases ha : 0 < na
          · have d1 : decide (0 < na) = true := decide_eq_true ha
            have d2 : decide (0 < (na : Int)) = true := decide_eq_true (by omega)
            clear ha hab
            go_wp2_with fail
            refine HG.out.mono ?_
            rintro e W1 ⟨⟨x, rfl⟩, vo1, hx1, hr1, hb1⟩
            obtain ⟨k', rfl⟩ := HK.out
            have HN := Aside0.mk (HC.out.next HX.out hx1 hr1 hb1)
            clear hx1 hr1 hb1 m0 m1 m3
            go_wp2
            go_roundg k'
            case measure => omega
            case rel => exact ⟨⟨_, _, _, _, _, HN.out⟩⟩
          · have hna0 : na = 0 := by omega
            have hb0 : 0 < nb := by
              rcases Nat.eq_zero_or_pos nb with h | h
              · exact absurd ⟨List.eq_nil_of_length_eq_zero (by rw [← NA.out, hna0]), List.eq_nil_of_length_eq_zero (by rw [← NB.out, h])⟩ hab
              · exact h
            have NA0 := Aside0.mk hna0
            have d1 : decide (0 < na) = false := decide_eq_false ha
            have d2 : decide (0 < (na : Int)) = false := decide_eq_false (by omega)
            have d3 : decide (0 < nb) = true := decide_eq_true hb0
            have d4 : decide (0 < (nb : Int)) = true := decide_eq_true (by omega)
            clear ha hab hna0 hb0
            go_wp2_with fail
            refine HG.out.mono ?_
            rintro e W1 ⟨⟨x, rfl⟩, vo1, hx1, hr1, hb1⟩
            obtain ⟨k', rfl⟩ := HK.out
            have HN := Aside0.mk (HC.out.next HX.out hx1 hr1 hb1)
            clear hx1 hr1 hb1 m0 m1 m3
            go_wp2
            go_roundg k'
            case measure => omega
            case rel => exact ⟨⟨_, _, _, _, _, HN.out⟩⟩
    · rw [if_neg q2] at h'
      obtain ⟨rfl, rfl⟩ := Prod.mk.inj h'
      obtain ⟨m, hm⟩ : ∃ m, a0 + sumG l1 = m := ⟨_, rfl⟩
      rw [hm] at HV2 HV3 q2 ⊢
      obtain ⟨e2, he2⟩ : ∃ e, vspec m l2 = e := ⟨_, rfl⟩
      rw [he2] at HV3 q2 ⊢
      have cc2 : (e2 != 0) = true := bne_iff_ne.mpr q2
      clear h' q1 q2 z0 zn zl zc y0 y1 y2 hm he2 HS
      go_enter Try.func30, Try.ntmps30
      go_wp2_with fail
      refine (edits_Valid.calls k1 a0 A1 c1 l1 0 _ HR1.out HC1.out HV1.out).mono ?_
      rintro e w1 ⟨rfl, hb1⟩
      have HB1 := Aside0.mk hb1
      clear hb1
      go_wp2_with fail
      refine (edits_left.calls k2 a0 A1 c1 l1 _ _ (Kd.C_below HR1.out HB1.out) HC1.out HV2.out).mono ?_
      rintro e w2 ⟨rfl, hb2⟩
      have HB2 := Aside0.mk (below_step HB1.out hb2)
      clear hb2
      go_wp2_with fail
      refine (edits_valid.calls k3 m A2 c2 l2 _ _ (Kd.C_below HR2.out HB2.out) HC2.out HV3.out).mono ?_
      rintro e w3 ⟨rfl, hb3⟩
      have HB3 := Aside0.mk (below_step HB2.out hb3)
      clear hb3
      go_wp2
      go_ret2
      exact ⟨_, rfl, Kd.R_nil _ _ _ _ _, HB3.out⟩
  · rw [if_neg q1] at h'
    obtain ⟨rfl, rfl⟩ := Prod.mk.inj h'
    obtain ⟨e1, he1⟩ : ∃ e, Vspec a0 l1 = e := ⟨_, rfl⟩
    rw [he1] at HV1 q1 ⊢
    have cc1 : (e1 != 0) = true := bne_iff_ne.mpr q1
    clear h' q1 he1 HS
    go_enter Try.func30, Try.ntmps30
    go_wp2_with fail
    refine (edits_Valid.calls k1 a0 A1 c1 l1 _ _ HR1.out HC1.out HV1.out).mono ?_
    rintro e w1 ⟨rfl, hb1⟩
    have HB1 := Aside0.mk hb1
    clear hb1
    go_wp2
    go_ret2
    exact ⟨_, rfl, Kd.R_nil _ _ _ _ _, HB1.out⟩
end Go.Proofs.Ytaihajmdngoeiaa.F

-- The law EditsChain, printed by a changed print tool over the contract of Compose (GIVEN)
namespace Go.Proofs.Ytaihajmdngoeiaa.F
open Go.RowKit Go.Proofs.YtaihajmdngoeiaaW.PrintWords Go.Proofs.YtaihajmdngoeiaaW.PrintLast Go.Proofs.YtaihajmdngoeiaaW.PrintMore
attribute [local go_sem] max2_int min2_int max_two min_two max_three min_three max_four min_four   -- for this text's walks alone
set_option linter.unusedVariables false
set_option linter.unusedSimpArgs false

/-! ### monikerlaw1_EditsChain: function 13 -/
mutual
def monikerlaw1_EditsChain.j0 : Nat → ByteArray → List (S42) → List (S42) → List (S42) → ByteArray → Bool → Option (Bool)
  | 0, _, _, _, _, _, _ => none
  | k + 1, x0, x1, x2, x3, x9, x77 => if x77 = true then (some false) else ((edits_Apply.f k x9 x2).bind fun bt520 => ((edits_Compose.f k (x0.size : Int) x1 x2).bind fun bt522 => (if bt520.2 = 0 then (monikerlaw1_EditsChain.j1 k x0 x1 x2 x3 x9 bt520.2 bt522.2 bt520.1 bt522.1 (bt522.2 != 0)) else (monikerlaw1_EditsChain.j1 k x0 x1 x2 x3 x9 bt520.2 bt522.2 bt520.1 bt522.1 true))))
def monikerlaw1_EditsChain.j1 : Nat → ByteArray → List (S42) → List (S42) → List (S42) → ByteArray → Int → Int → ByteArray → List (S42) → Bool → Option (Bool)
  | 0, _, _, _, _, _, _, _, _, _, _ => none
  | k + 1, x0, x1, x2, x3, x9, x10, x15, x16, x17, x97 => if x97 = true then (if x10 = x15 then (some true) else (if x10 = 0 then (if x15 = 2 then (some (decide ((wrap64 ((x1.length : Int) + (x2.length : Int))) > 65536))) else (some false)) else (some false))) else ((edits_Apply.f k x0 x17).bind fun bt526 => (if bt526.2 = 0 then (if bt526.1.toList = x16.toList then (monikerlaw1_EditsChain.j2 k x0 x1 x2 x3 x9 x17 (decide ((x17.length : Int) > (wrap64 ((x1.length : Int) + (x2.length : Int)))))) else (monikerlaw1_EditsChain.j2 k x0 x1 x2 x3 x9 x17 true)) else (monikerlaw1_EditsChain.j2 k x0 x1 x2 x3 x9 x17 true)))
def monikerlaw1_EditsChain.j2 : Nat → ByteArray → List (S42) → List (S42) → List (S42) → ByteArray → List (S42) → Bool → Option (Bool)
  | 0, _, _, _, _, _, _, _ => none
  | k + 1, x0, x1, x2, x3, x9, x17, x139 => if x139 = true then (some false) else ((edits_Compose.f k (x9.size : Int) x2 x3).bind fun bt528 => (if bt528.2 = 0 then ((edits_Compose.f k (x0.size : Int) x17 x3).bind fun bt532 => ((edits_Compose.f k (x0.size : Int) x1 bt528.1).bind fun bt536 => (if bt532.2 = bt536.2 then ((monikerplain_SameEdits.f k bt532.1 bt536.1).bind fun t540 => (some t540)) else (some false)))) else (some true)))
end
def monikerlaw1_EditsChain.f (k : Nat) (a0 : ByteArray) (l1 : List (S42)) (l2 : List (S42)) (l3 : List (S42)) : Option (Bool) := (edits_Apply.f k a0 l1).bind fun bt504 => (if bt504.2 = 0 then ((edits_Compose.f k (a0.size : Int) l1 ([] : List (S42))).bind fun bt510 => ((edits_Compose.f k (a0.size : Int) ([] : List (S42)) l1).bind fun bt514 => (if bt510.2 = 0 then (if bt514.2 = 0 then ((monikerplain_SameEdits.f k bt510.1 l1).bind fun t518 => (if t518 = true then ((monikerplain_SameEdits.f k bt514.1 l1).bind fun t519 => (monikerlaw1_EditsChain.j0 k a0 l1 l2 l3 bt504.1 (!t519))) else (monikerlaw1_EditsChain.j0 k a0 l1 l2 l3 bt504.1 true))) else (monikerlaw1_EditsChain.j0 k a0 l1 l2 l3 bt504.1 true)) else (monikerlaw1_EditsChain.j0 k a0 l1 l2 l3 bt504.1 true)))) else ((edits_Compose.f k (a0.size : Int) l1 l2).bind fun bt506 => (if bt506.2 = bt504.2 then (some ((bt506.1.length : Int) == 0)) else (some false))))
set_option maxHeartbeats 8000000 in
set_option maxRecDepth 100000 in
theorem monikerlaw1_EditsChain.calls (k : Nat) (a0 : ByteArray) (A1 : Option Addr) (c1 : Nat) (l1 : List (S42)) (A2 : Option Addr) (c2 : Nat) (l2 : List (S42)) (A3 : Option Addr) (c3 : Nat) (l3 : List (S42)) (r : Bool) (w : World) (hr1 : Kd.C k42 w A1 l1.length l1) (hc1 : l1.length ≤ c1) (hr2 : Kd.C k42 w A2 l2.length l2) (hc2 : l2.length ≤ c2) (hr3 : Kd.C k42 w A3 l3.length l3) (hc3 : l3.length ≤ c3) (h : monikerlaw1_EditsChain.f k a0 l1 l2 l3 = some r) :
    Calls Try.prog 13 #[.string a0, .slice A1 l1.length c1, .slice A2 l2.length c2, .slice A3 l3.length c3] w fun e w' => e = .returned (.bool r) ∧ Below w.heap.size w w' := by
  have HR1 := Aside0.mk hr1
  have HC1 := Aside0.mk hc1
  clear hr1 hc1
  have HR2 := Aside0.mk hr2
  have HC2 := Aside0.mk hc2
  clear hr2 hc2
  have HR3 := Aside0.mk hr3
  have HC3 := Aside0.mk hc3
  clear hr3 hc3
  have HB := Aside0.mk (Below.refl w.heap.size w)
  have H : ((edits_Apply.f k a0 l1).bind fun bt504 => (if bt504.2 = 0 then ((edits_Compose.f k (a0.size : Int) l1 ([] : List (S42))).bind fun bt510 => ((edits_Compose.f k (a0.size : Int) ([] : List (S42)) l1).bind fun bt514 => (if bt510.2 = 0 then (if bt514.2 = 0 then ((monikerplain_SameEdits.f k bt510.1 l1).bind fun t518 => (if t518 = true then ((monikerplain_SameEdits.f k bt514.1 l1).bind fun t519 => (monikerlaw1_EditsChain.j0 k a0 l1 l2 l3 bt504.1 (!t519))) else (monikerlaw1_EditsChain.j0 k a0 l1 l2 l3 bt504.1 true))) else (monikerlaw1_EditsChain.j0 k a0 l1 l2 l3 bt504.1 true)) else (monikerlaw1_EditsChain.j0 k a0 l1 l2 l3 bt504.1 true)))) else ((edits_Compose.f k (a0.size : Int) l1 l2).bind fun bt506 => (if bt506.2 = bt504.2 then (some ((bt506.1.length : Int) == 0)) else (some false))))) = some r := h
  clear h
  replace H := Option.bind_eq_some_iff.mp H
  obtain ⟨⟨t504, t505⟩, A50, H⟩ := H
  replace H : (if t505 = 0 then ((edits_Compose.f k (a0.size : Int) l1 ([] : List (S42))).bind fun bt510 => ((edits_Compose.f k (a0.size : Int) ([] : List (S42)) l1).bind fun bt514 => (if bt510.2 = 0 then (if bt514.2 = 0 then ((monikerplain_SameEdits.f k bt510.1 l1).bind fun t518 => (if t518 = true then ((monikerplain_SameEdits.f k bt514.1 l1).bind fun t519 => (monikerlaw1_EditsChain.j0 k a0 l1 l2 l3 t504 (!t519))) else (monikerlaw1_EditsChain.j0 k a0 l1 l2 l3 t504 true))) else (monikerlaw1_EditsChain.j0 k a0 l1 l2 l3 t504 true)) else (monikerlaw1_EditsChain.j0 k a0 l1 l2 l3 t504 true)))) else ((edits_Compose.f k (a0.size : Int) l1 l2).bind fun bt506 => (if bt506.2 = t505 then (some ((bt506.1.length : Int) == 0)) else (some false)))) = some r := H
  have A5 := Aside0.mk A50
  clear A50
  by_cases c6 : t505 = 0
  · rw [if_pos c6] at H
    have c6b0 : (t505 == 0) = true := beq_iff_eq.mpr c6
    have c6b1 : (t505 != 0) = false := bne_eq_false_iff_eq.mpr c6
    clear c6
    replace H := Option.bind_eq_some_iff.mp H
    obtain ⟨⟨t510, t511⟩, A70, H⟩ := H
    replace H : ((edits_Compose.f k (a0.size : Int) ([] : List (S42)) l1).bind fun bt514 => (if t511 = 0 then (if bt514.2 = 0 then ((monikerplain_SameEdits.f k t510 l1).bind fun t518 => (if t518 = true then ((monikerplain_SameEdits.f k bt514.1 l1).bind fun t519 => (monikerlaw1_EditsChain.j0 k a0 l1 l2 l3 t504 (!t519))) else (monikerlaw1_EditsChain.j0 k a0 l1 l2 l3 t504 true))) else (monikerlaw1_EditsChain.j0 k a0 l1 l2 l3 t504 true)) else (monikerlaw1_EditsChain.j0 k a0 l1 l2 l3 t504 true))) = some r := H
    have A7 := Aside0.mk A70
    clear A70
    replace H := Option.bind_eq_some_iff.mp H
    obtain ⟨⟨t514, t515⟩, A80, H⟩ := H
    replace H : (if t511 = 0 then (if t515 = 0 then ((monikerplain_SameEdits.f k t510 l1).bind fun t518 => (if t518 = true then ((monikerplain_SameEdits.f k t514 l1).bind fun t519 => (monikerlaw1_EditsChain.j0 k a0 l1 l2 l3 t504 (!t519))) else (monikerlaw1_EditsChain.j0 k a0 l1 l2 l3 t504 true))) else (monikerlaw1_EditsChain.j0 k a0 l1 l2 l3 t504 true)) else (monikerlaw1_EditsChain.j0 k a0 l1 l2 l3 t504 true)) = some r := H
    have A8 := Aside0.mk A80
    clear A80
    have HC9 := Aside0.mk H
    clear H
    go_enter Try.func13, Try.ntmps13
    go_upto_region 7 with (first | ((with_reducible refine gate_callee (f := 24) rfl ?_); refine goesL_ (some 25) rfl rfl Try.func24 (by kernel_rfl) rfl #[.string a0, .slice A1 l1.length c1] rfl (by (try simp only [List.map_toArray, List.map_cons, List.map_nil]); first | done | rfl | (simp only [List.length_drop, List.length_take]; rfl)) ?_; (with_reducible refine (edits_Apply.calls k a0 _ _ l1 t504 t505 _ ?side1 ?side2 A5.out).mono ?_); (case side1 => repeat (first | exact HR1.out | (with_reducible refine Kd.C_alloc ?_ _) | (with_reducible refine Kd.C_drewN ?_ _) | (with_reducible refine Kd.C_drew ?_))); (case side2 => exact HC1.out); rintro e w10 ⟨rfl, hb⟩; refine ⟨_, rfl, ?_⟩; have n0_ := Aside0.mk (below_step (by repeat (first | (with_reducible first | exact HB.out | apply below_alloc | apply pw_below_drewN | apply below_drew1) | exact HB.out)) hb); clear HB; have HB := n0_; clear n0_; (try clear hb); (try clear hb2); (try clear hk); (try clear hi)) | ((with_reducible refine gate_callee (f := 30) rfl ?_); refine goesL_ (some 50) rfl rfl Try.func30 (by kernel_rfl) rfl #[.int .i64 (a0.size : Int), .slice A1 l1.length c1, .slice none 0 0] rfl (by (try simp only [List.map_toArray, List.map_cons, List.map_nil]); first | done | rfl | (simp only [List.length_drop, List.length_take]; rfl)) ?_; (refine (edits_Compose.calls k (a0.size : Int) _ _ l1 _ _ ([] : List (S42)) t510 t511 _ ?side1 ?side2 ?side3 ?side4 A7.out).mono ?_); (case side1 => repeat (first | exact (Kd.C_below HR1.out HB.out) | (with_reducible refine Kd.C_alloc ?_ _) | (with_reducible refine Kd.C_drewN ?_ _) | (with_reducible refine Kd.C_drew ?_))); (case side2 => exact HC1.out); (case side3 => exact Kd.C_nil _ _); (case side4 => exact Nat.le_refl _); rintro e w11 ⟨v512, rfl, ho0, hb⟩; refine ⟨_, rfl, ?_⟩; have n0_ := Aside0.mk (Kd.R_lower ho0 (below_size (by repeat (first | (with_reducible first | exact HB.out | apply below_alloc | apply pw_below_drewN | apply below_drew1) | exact HB.out)))); have n1_ := Aside0.mk (below_step (by repeat (first | (with_reducible first | exact HB.out | apply below_alloc | apply pw_below_drewN | apply below_drew1) | exact HB.out)) hb); clear HB; have HO513 := n0_; have HB := n1_; clear n0_ n1_; (try clear hb); (try clear hb2); (try clear hk); (try clear hi); (try clear ho0)) | ((with_reducible refine gate_callee (f := 30) rfl ?_); refine goesL_ (some 57) rfl rfl Try.func30 (by kernel_rfl) rfl #[.int .i64 (a0.size : Int), .slice none 0 0, .slice A1 l1.length c1] rfl (by (try simp only [List.map_toArray, List.map_cons, List.map_nil]); first | done | rfl | (simp only [List.length_drop, List.length_take]; rfl)) ?_; (refine (edits_Compose.calls k (a0.size : Int) _ _ ([] : List (S42)) _ _ l1 t514 t515 _ ?side1 ?side2 ?side3 ?side4 A8.out).mono ?_); (case side1 => exact Kd.C_nil _ _); (case side2 => exact Nat.le_refl _); (case side3 => repeat (first | exact (Kd.C_below HR1.out HB.out) | (with_reducible refine Kd.C_alloc ?_ _) | (with_reducible refine Kd.C_drewN ?_ _) | (with_reducible refine Kd.C_drew ?_))); (case side4 => exact HC1.out); rintro e w12 ⟨v516, rfl, ho0, hb⟩; refine ⟨_, rfl, ?_⟩; have n0_ := Aside0.mk (Kd.R_elder' (by (with_reducible repeat (first | apply Kd.R_alloc | apply Kd.R_drewN | apply Kd.R_drew)); exact HO513.out) (Kd.R_base ho0) hb); have n1_ := Aside0.mk (Kd.R_lower (Kd.R_new' ho0 (Kd.R_lt (by (with_reducible repeat (first | apply Kd.R_alloc | apply Kd.R_drewN | apply Kd.R_drew)); exact HO513.out))) (below_size (by repeat (first | (with_reducible first | exact HB.out | apply below_alloc | apply pw_below_drewN | apply below_drew1) | exact HB.out)))); have n2_ := Aside0.mk (below_step (by repeat (first | (with_reducible first | exact HB.out | apply below_alloc | apply pw_below_drewN | apply below_drew1) | exact HB.out)) hb); clear HO513; clear HB; have HO513 := n0_; have HO517 := n1_; have HB := n2_; clear n0_ n1_ n2_; (try clear hb); (try clear hb2); (try clear hk); (try clear hi); (try clear ho0)))
    (try simp only [Act.put, List.setIfInBounds_toArray, List.set_cons_zero, List.set_cons_succ])
    go_cut [77] (fun v77 wc => ∃ (kq : Nat) (x77_8 : Bool), v77 = .bool x77_8 ∧ Aside0 (monikerlaw1_EditsChain.j0 kq a0 l1 l2 l3 t504 x77_8 = some r) ∧ Aside0 (kq ≤ k) ∧ Aside0 (Below w.heap.size w wc))
    case first =>
      have H := HC9.out
      clear HC9
      by_cases c13 : t511 = 0
      · rw [if_pos c13] at H
        have c13b0 : (t511 == 0) = true := beq_iff_eq.mpr c13
        have c13b1 : (t511 != 0) = false := bne_eq_false_iff_eq.mpr c13
        clear c13
        (first | rw [c13b0] | (simp only [i64_w, i32_w]; rw [c13b0]) | skip)
        by_cases c14 : t515 = 0
        · rw [if_pos c14] at H
          have c14b0 : (t515 == 0) = true := beq_iff_eq.mpr c14
          have c14b1 : (t515 != 0) = false := bne_eq_false_iff_eq.mpr c14
          clear c14
          replace H := Option.bind_eq_some_iff.mp H
          obtain ⟨t518, A150, H⟩ := H
          replace H : (if t518 = true then ((monikerplain_SameEdits.f k t514 l1).bind fun t519 => (monikerlaw1_EditsChain.j0 k a0 l1 l2 l3 t504 (!t519))) else (monikerlaw1_EditsChain.j0 k a0 l1 l2 l3 t504 true)) = some r := H
          have A15 := Aside0.mk A150
          clear A150
          by_cases c16 : t518 = true
          · subst c16
            have H1 : ((monikerplain_SameEdits.f k t514 l1).bind fun t519 => (monikerlaw1_EditsChain.j0 k a0 l1 l2 l3 t504 (!t519))) = some r := by rw [if_pos rfl] at H; exact H
            clear H
            have H := H1
            clear H1
            replace H := Option.bind_eq_some_iff.mp H
            obtain ⟨t519, A170, H⟩ := H
            replace H : (monikerlaw1_EditsChain.j0 k a0 l1 l2 l3 t504 (!t519)) = some r := H
            have A17 := Aside0.mk A170
            clear A170
            have H' := Aside0.mk H
            clear H
            obtain ⟨Ao18, co18, eo18⟩ := Kd.R_slice HO513.out
            subst eo18
            go_wp2_with (first | (go_at_call 21; (with_reducible refine (monikerplain_SameEdits.calls k _ _ t510 _ _ l1 true _ ?side1 ?side2 ?side3 ?side4 A15.out).mono ?_); (case side1 => repeat (first | exact (Kd.R_reads' HO513.out).2.2 | (with_reducible refine Kd.C_alloc ?_ _) | (with_reducible refine Kd.C_drewN ?_ _) | (with_reducible refine Kd.C_drew ?_))); (case side2 => exact (Kd.R_reads' HO513.out).2.1); (case side3 => repeat (first | exact (Kd.C_below HR1.out HB.out) | (with_reducible refine Kd.C_alloc ?_ _) | (with_reducible refine Kd.C_drewN ?_ _) | (with_reducible refine Kd.C_drew ?_))); (case side4 => exact HC1.out); rintro e w' ⟨rfl, ⟨nd, rfl⟩⟩; obtain ⟨Ao19, co19, eo19⟩ := Kd.R_slice HO517.out; subst eo19) | (go_at_call 21; (with_reducible refine (monikerplain_SameEdits.calls k _ _ t514 _ _ l1 t519 _ ?side1 ?side2 ?side3 ?side4 A17.out).mono ?_); (case side1 => repeat (first | exact (Kd.R_reads' HO517.out).2.2 | (with_reducible refine Kd.C_alloc ?_ _) | (with_reducible refine Kd.C_drewN ?_ _) | (with_reducible refine Kd.C_drew ?_))); (case side2 => exact (Kd.R_reads' HO517.out).2.1); (case side3 => repeat (first | exact (Kd.C_below HR1.out (by repeat (first | (with_reducible first | exact HB.out | apply below_alloc | apply pw_below_drewN | apply below_drew1) | exact HB.out))) | (with_reducible refine Kd.C_alloc ?_ _) | (with_reducible refine Kd.C_drewN ?_ _) | (with_reducible refine Kd.C_drew ?_))); (case side4 => exact HC1.out); rintro e w' ⟨rfl, ⟨nd, rfl⟩⟩))
            go_meet
            case rel => exact ⟨_, (!t519), (by first | rfl | (simp; done) | (simp [*]; done)), H', ⟨by first | omega | exact Nat.le_refl _⟩, ⟨by repeat (first | (with_reducible first | exact HB.out | apply below_alloc | apply pw_below_drewN | apply below_drew1) | exact HB.out)⟩⟩
          · replace c16 := Bool.eq_false_iff.mpr c16
            subst c16
            have H1 : (monikerlaw1_EditsChain.j0 k a0 l1 l2 l3 t504 true) = some r := by rw [if_neg (show ¬ (false = true) by decide)] at H; exact H
            clear H
            have H := H1
            clear H1
            have H' := Aside0.mk H
            clear H
            obtain ⟨Ao20, co20, eo20⟩ := Kd.R_slice HO513.out
            subst eo20
            go_wp2_with (first | (go_at_call 21; (with_reducible refine (monikerplain_SameEdits.calls k _ _ t510 _ _ l1 false _ ?side1 ?side2 ?side3 ?side4 A15.out).mono ?_); (case side1 => repeat (first | exact (Kd.R_reads' HO513.out).2.2 | (with_reducible refine Kd.C_alloc ?_ _) | (with_reducible refine Kd.C_drewN ?_ _) | (with_reducible refine Kd.C_drew ?_))); (case side2 => exact (Kd.R_reads' HO513.out).2.1); (case side3 => repeat (first | exact (Kd.C_below HR1.out HB.out) | (with_reducible refine Kd.C_alloc ?_ _) | (with_reducible refine Kd.C_drewN ?_ _) | (with_reducible refine Kd.C_drew ?_))); (case side4 => exact HC1.out); rintro e w' ⟨rfl, ⟨nd, rfl⟩⟩))
            go_meet
            case rel => exact ⟨_, (true), (by first | rfl | (simp; done) | (simp [*]; done)), H', ⟨by first | omega | exact Nat.le_refl _⟩, ⟨by repeat (first | (with_reducible first | exact HB.out | apply below_alloc | apply pw_below_drewN | apply below_drew1) | exact HB.out)⟩⟩
        · rw [if_neg c14] at H
          have c14b0 : (t515 == 0) = false := beq_eq_false_iff_ne.mpr c14
          have c14b1 : (t515 != 0) = true := bne_iff_ne.mpr c14
          have H' := Aside0.mk H
          clear H
          go_wp2
          go_meet
          case rel => exact ⟨_, (true), (by first | rfl | (simp; done) | (simp [*]; done)), H', ⟨by first | omega | exact Nat.le_refl _⟩, ⟨by repeat (first | (with_reducible first | exact HB.out | apply below_alloc | apply pw_below_drewN | apply below_drew1) | exact HB.out)⟩⟩
      · rw [if_neg c13] at H
        have c13b0 : (t511 == 0) = false := beq_eq_false_iff_ne.mpr c13
        have c13b1 : (t511 != 0) = true := bne_iff_ne.mpr c13
        (first | rw [c13b0] | (simp only [i64_w, i32_w]; rw [c13b0]) | skip)
        have H' := Aside0.mk H
        clear H
        go_wp2
        go_meet
        case rel => exact ⟨_, (true), (by first | rfl | (simp; done) | (simp [*]; done)), H', ⟨by first | omega | exact Nat.le_refl _⟩, ⟨by repeat (first | (with_reducible first | exact HB.out | apply below_alloc | apply pw_below_drewN | apply below_drew1) | exact HB.out)⟩⟩
    case rest =>
      clear HC9
      try clear c1
      try clear c2
      try clear p2
      try clear c3
      try clear c6
      try clear c6b0
      try clear c6b1
      try clear c13
      try clear c13b0
      try clear c13b1
      try clear c14
      try clear c14b0
      try clear c14b1
      try clear c16
      obtain ⟨kq, x77_8, rfl, HA, HJ8, HB⟩ := hcut
      cases kq with
      | zero => exact absurd HA.out (by simp [monikerlaw1_EditsChain.j0])
      | succ kj8 =>
        have H := HA.out
        clear HA
        simp only [monikerlaw1_EditsChain.j0] at H
        by_cases c21 : x77_8 = true
        · subst c21
          have H1 : (some false) = some r := by rw [if_pos rfl] at H; exact H
          clear H
          have H := H1
          clear H1
          obtain rfl := Option.some.inj H
          go_wp2
          go_ret
          exact ⟨by first | rfl | (simp [errW_none, errW_some] <;> rfl) | (simp [*, errW_none, errW_some] <;> rfl), by repeat (first | (with_reducible first | exact HB.out | apply below_alloc | apply pw_below_drewN | apply below_drew1) | exact HB.out)⟩
        · replace c21 := Bool.eq_false_iff.mpr c21
          subst c21
          have H1 : ((edits_Apply.f kj8 t504 l2).bind fun bt520 => ((edits_Compose.f kj8 (a0.size : Int) l1 l2).bind fun bt522 => (if bt520.2 = 0 then (monikerlaw1_EditsChain.j1 kj8 a0 l1 l2 l3 t504 bt520.2 bt522.2 bt520.1 bt522.1 (bt522.2 != 0)) else (monikerlaw1_EditsChain.j1 kj8 a0 l1 l2 l3 t504 bt520.2 bt522.2 bt520.1 bt522.1 true)))) = some r := by rw [if_neg (show ¬ (false = true) by decide)] at H; exact H
          clear H
          have H := H1
          clear H1
          replace H := Option.bind_eq_some_iff.mp H
          obtain ⟨⟨t520, t521⟩, A220, H⟩ := H
          replace H : ((edits_Compose.f kj8 (a0.size : Int) l1 l2).bind fun bt522 => (if t521 = 0 then (monikerlaw1_EditsChain.j1 kj8 a0 l1 l2 l3 t504 t521 bt522.2 t520 bt522.1 (bt522.2 != 0)) else (monikerlaw1_EditsChain.j1 kj8 a0 l1 l2 l3 t504 t521 bt522.2 t520 bt522.1 true))) = some r := H
          have A22 := Aside0.mk A220
          clear A220
          replace H := Option.bind_eq_some_iff.mp H
          obtain ⟨⟨t522, t523⟩, A230, H⟩ := H
          replace H : (if t521 = 0 then (monikerlaw1_EditsChain.j1 kj8 a0 l1 l2 l3 t504 t521 t523 t520 t522 (t523 != 0)) else (monikerlaw1_EditsChain.j1 kj8 a0 l1 l2 l3 t504 t521 t523 t520 t522 true)) = some r := H
          have A23 := Aside0.mk A230
          clear A230
          have HC24 := Aside0.mk H
          clear H
          go_upto_region 11 with (first | ((with_reducible refine gate_callee (f := 24) rfl ?_); refine goesL_ (some 81) rfl rfl Try.func24 (by kernel_rfl) rfl #[.string t504, .slice A2 l2.length c2] rfl (by (try simp only [List.map_toArray, List.map_cons, List.map_nil]); first | done | rfl | (simp only [List.length_drop, List.length_take]; rfl)) ?_; (with_reducible refine (edits_Apply.calls kj8 t504 _ _ l2 t520 t521 _ ?side1 ?side2 A22.out).mono ?_); (case side1 => repeat (first | exact (Kd.C_below HR2.out HB.out) | (with_reducible refine Kd.C_alloc ?_ _) | (with_reducible refine Kd.C_drewN ?_ _) | (with_reducible refine Kd.C_drew ?_))); (case side2 => exact HC2.out); rintro e w25 ⟨rfl, hb⟩; refine ⟨_, rfl, ?_⟩; have n0_ := Aside0.mk (below_step (by repeat (first | (with_reducible first | exact HB.out | apply below_alloc | apply pw_below_drewN | apply below_drew1) | exact HB.out)) hb); clear HB; have HB := n0_; clear n0_; (try clear hb); (try clear hb2); (try clear hk); (try clear hi)) | ((with_reducible refine gate_callee (f := 30) rfl ?_); refine goesL_ (some 89) rfl rfl Try.func30 (by kernel_rfl) rfl #[.int .i64 (a0.size : Int), .slice A1 l1.length c1, .slice A2 l2.length c2] rfl (by (try simp only [List.map_toArray, List.map_cons, List.map_nil]); first | done | rfl | (simp only [List.length_drop, List.length_take]; rfl)) ?_; (with_reducible refine (edits_Compose.calls kj8 (a0.size : Int) _ _ l1 _ _ l2 t522 t523 _ ?side1 ?side2 ?side3 ?side4 A23.out).mono ?_); (case side1 => repeat (first | exact (Kd.C_below HR1.out HB.out) | (with_reducible refine Kd.C_alloc ?_ _) | (with_reducible refine Kd.C_drewN ?_ _) | (with_reducible refine Kd.C_drew ?_))); (case side2 => exact HC1.out); (case side3 => repeat (first | exact (Kd.C_below HR2.out HB.out) | (with_reducible refine Kd.C_alloc ?_ _) | (with_reducible refine Kd.C_drewN ?_ _) | (with_reducible refine Kd.C_drew ?_))); (case side4 => exact HC2.out); rintro e w26 ⟨v524, rfl, ho0, hb⟩; refine ⟨_, rfl, ?_⟩; have n0_ := Aside0.mk (Kd.R_lower ho0 (below_size (by repeat (first | (with_reducible first | exact HB.out | apply below_alloc | apply pw_below_drewN | apply below_drew1) | exact HB.out)))); have n1_ := Aside0.mk (below_step (by repeat (first | (with_reducible first | exact HB.out | apply below_alloc | apply pw_below_drewN | apply below_drew1) | exact HB.out)) hb); clear HB; have HO525 := n0_; have HB := n1_; clear n0_ n1_; (try clear hb); (try clear hb2); (try clear hk); (try clear hi); (try clear ho0)))
          (try simp only [Act.put, List.setIfInBounds_toArray, List.set_cons_zero, List.set_cons_succ])
          go_cut [97] (fun v97 wc => ∃ (kq : Nat) (x97_23 : Bool), v97 = .bool x97_23 ∧ Aside0 (monikerlaw1_EditsChain.j1 kq a0 l1 l2 l3 t504 t521 t523 t520 t522 x97_23 = some r) ∧ Aside0 (kq ≤ kj8) ∧ Aside0 (Kd.R k42 42 wc w.heap.size (fun _ => True) v524 t522) ∧ Aside0 (Below w.heap.size w wc))
          case first =>
            have H := HC24.out
            clear HC24
            by_cases c27 : t521 = 0
            · rw [if_pos c27] at H
              have c27b0 : (t521 == 0) = true := beq_iff_eq.mpr c27
              have c27b1 : (t521 != 0) = false := bne_eq_false_iff_eq.mpr c27
              clear c27
              (first | rw [c27b0] | (simp only [i64_w, i32_w]; rw [c27b0]) | skip)
              have H' := Aside0.mk H
              clear H
              go_wp2
              go_meet
              case rel => exact ⟨_, ((t523 != 0)), (by first | rfl | (simp; done) | (simp [*]; done)), H', ⟨by have := HJ8.out; first | omega | exact Nat.le_refl _⟩, ⟨by (with_reducible repeat (first | apply Kd.R_alloc | apply Kd.R_drewN | apply Kd.R_drew)); exact HO525.out⟩, ⟨by repeat (first | (with_reducible first | exact HB.out | apply below_alloc | apply pw_below_drewN | apply below_drew1) | exact HB.out)⟩⟩
            · rw [if_neg c27] at H
              have c27b0 : (t521 == 0) = false := beq_eq_false_iff_ne.mpr c27
              have c27b1 : (t521 != 0) = true := bne_iff_ne.mpr c27
              (first | rw [c27b0] | (simp only [i64_w, i32_w]; rw [c27b0]) | skip)
              have H' := Aside0.mk H
              clear H
              go_wp2
              go_meet
              case rel => exact ⟨_, (true), (by first | rfl | (simp; done) | (simp [*]; done)), H', ⟨by have := HJ8.out; first | omega | exact Nat.le_refl _⟩, ⟨by (with_reducible repeat (first | apply Kd.R_alloc | apply Kd.R_drewN | apply Kd.R_drew)); exact HO525.out⟩, ⟨by repeat (first | (with_reducible first | exact HB.out | apply below_alloc | apply pw_below_drewN | apply below_drew1) | exact HB.out)⟩⟩
          case rest =>
            clear HC24
            try clear c1
            try clear c2
            try clear p2
            try clear c3
            try clear c6
            try clear c6b0
            try clear c6b1
            try clear c13
            try clear c13b0
            try clear c13b1
            try clear c14
            try clear c14b0
            try clear c14b1
            try clear c16
            try clear c21
            try clear c24
            try clear c27
            try clear c27b0
            try clear c27b1
            try clear p2
            obtain ⟨kq, x97_23, rfl, HA, HJ23, HO_17, HB⟩ := hcut
            cases kq with
            | zero => exact absurd HA.out (by simp [monikerlaw1_EditsChain.j1])
            | succ kj23 =>
              have H := HA.out
              clear HA
              simp only [monikerlaw1_EditsChain.j1] at H
              by_cases c28 : x97_23 = true
              · subst c28
                have H1 : (if t521 = t523 then (some true) else (if t521 = 0 then (if t523 = 2 then (some (decide ((wrap64 ((l1.length : Int) + (l2.length : Int))) > 65536))) else (some false)) else (some false))) = some r := by rw [if_pos rfl] at H; exact H
                clear H
                have H := H1
                clear H1
                by_cases c29 : t521 = t523
                · rw [if_pos c29] at H
                  have c29b0 : (t521 == t523) = true := beq_iff_eq.mpr c29
                  have c29b1 : (t521 != t523) = false := bne_eq_false_iff_eq.mpr c29
                  clear c29
                  obtain rfl := Option.some.inj H
                  go_wp2
                  go_ret
                  exact ⟨by first | rfl | (simp [errW_none, errW_some] <;> rfl) | (simp [*, errW_none, errW_some] <;> rfl), by repeat (first | (with_reducible first | exact HB.out | apply below_alloc | apply pw_below_drewN | apply below_drew1) | exact HB.out)⟩
                · rw [if_neg c29] at H
                  have c29b0 : (t521 == t523) = false := beq_eq_false_iff_ne.mpr c29
                  have c29b1 : (t521 != t523) = true := bne_iff_ne.mpr c29
                  by_cases c30 : t521 = 0
                  · rw [if_pos c30] at H
                    have c30b0 : (t521 == 0) = true := beq_iff_eq.mpr c30
                    have c30b1 : (t521 != 0) = false := bne_eq_false_iff_eq.mpr c30
                    clear c30
                    by_cases c31 : t523 = 2
                    · rw [if_pos c31] at H
                      have c31b0 : (t523 == 2) = true := beq_iff_eq.mpr c31
                      have c31b1 : (t523 != 2) = false := bne_eq_false_iff_eq.mpr c31
                      clear c31
                      obtain rfl := Option.some.inj H
                      go_wp2
                      go_ret
                      exact ⟨by first | rfl | (simp [errW_none, errW_some] <;> rfl) | (simp [*, errW_none, errW_some] <;> rfl), by repeat (first | (with_reducible first | exact HB.out | apply below_alloc | apply pw_below_drewN | apply below_drew1) | exact HB.out)⟩
                    · rw [if_neg c31] at H
                      have c31b0 : (t523 == 2) = false := beq_eq_false_iff_ne.mpr c31
                      have c31b1 : (t523 != 2) = true := bne_iff_ne.mpr c31
                      obtain rfl := Option.some.inj H
                      go_wp2
                      go_ret
                      exact ⟨by first | rfl | (simp [errW_none, errW_some] <;> rfl) | (simp [*, errW_none, errW_some] <;> rfl), by repeat (first | (with_reducible first | exact HB.out | apply below_alloc | apply pw_below_drewN | apply below_drew1) | exact HB.out)⟩
                  · rw [if_neg c30] at H
                    have c30b0 : (t521 == 0) = false := beq_eq_false_iff_ne.mpr c30
                    have c30b1 : (t521 != 0) = true := bne_iff_ne.mpr c30
                    obtain rfl := Option.some.inj H
                    go_wp2
                    go_ret
                    exact ⟨by first | rfl | (simp [errW_none, errW_some] <;> rfl) | (simp [*, errW_none, errW_some] <;> rfl), by repeat (first | (with_reducible first | exact HB.out | apply below_alloc | apply pw_below_drewN | apply below_drew1) | exact HB.out)⟩
              · replace c28 := Bool.eq_false_iff.mpr c28
                subst c28
                have H1 : ((edits_Apply.f kj23 a0 t522).bind fun bt526 => (if bt526.2 = 0 then (if bt526.1.toList = t520.toList then (monikerlaw1_EditsChain.j2 kj23 a0 l1 l2 l3 t504 t522 (decide ((t522.length : Int) > (wrap64 ((l1.length : Int) + (l2.length : Int)))))) else (monikerlaw1_EditsChain.j2 kj23 a0 l1 l2 l3 t504 t522 true)) else (monikerlaw1_EditsChain.j2 kj23 a0 l1 l2 l3 t504 t522 true))) = some r := by rw [if_neg (show ¬ (false = true) by decide)] at H; exact H
                clear H
                have H := H1
                clear H1
                replace H := Option.bind_eq_some_iff.mp H
                obtain ⟨⟨t526, t527⟩, A320, H⟩ := H
                replace H : (if t527 = 0 then (if t526.toList = t520.toList then (monikerlaw1_EditsChain.j2 kj23 a0 l1 l2 l3 t504 t522 (decide ((t522.length : Int) > (wrap64 ((l1.length : Int) + (l2.length : Int)))))) else (monikerlaw1_EditsChain.j2 kj23 a0 l1 l2 l3 t504 t522 true)) else (monikerlaw1_EditsChain.j2 kj23 a0 l1 l2 l3 t504 t522 true)) = some r := H
                have A32 := Aside0.mk A320
                clear A320
                have HC33 := Aside0.mk H
                clear H
                obtain ⟨Ao34, co34, eo34⟩ := Kd.R_slice HO_17.out
                subst eo34
                go_upto_region 14 with (first | ((with_reducible refine gate_callee (f := 24) rfl ?_); refine goesL_ (some 120) rfl rfl Try.func24 (by kernel_rfl) rfl #[.string a0, .slice Ao34 t522.length co34] rfl (by (try simp only [List.map_toArray, List.map_cons, List.map_nil]); first | done | rfl | (simp only [List.length_drop, List.length_take]; rfl)) ?_; (with_reducible refine (edits_Apply.calls kj23 a0 _ _ t522 t526 t527 _ ?side1 ?side2 A32.out).mono ?_); (case side1 => repeat (first | exact (Kd.R_reads' HO_17.out).2.2 | (with_reducible refine Kd.C_alloc ?_ _) | (with_reducible refine Kd.C_drewN ?_ _) | (with_reducible refine Kd.C_drew ?_))); (case side2 => exact (Kd.R_reads' HO_17.out).2.1); rintro e w35 ⟨rfl, hb⟩; refine ⟨_, rfl, ?_⟩; have n0_ := Aside0.mk (Kd.R_below (by (with_reducible repeat (first | apply Kd.R_alloc | apply Kd.R_drewN | apply Kd.R_drew)); exact HO_17.out) hb); have n1_ := Aside0.mk (below_step (by repeat (first | (with_reducible first | exact HB.out | apply below_alloc | apply pw_below_drewN | apply below_drew1) | exact HB.out)) hb); clear HO_17; clear HB; have HO_17 := n0_; have HB := n1_; clear n0_ n1_; (try clear hb); (try clear hb2); (try clear hk); (try clear hi)))
                (try simp only [Act.put, List.setIfInBounds_toArray, List.set_cons_zero, List.set_cons_succ])
                go_cut [139] (fun v139 wc => ∃ (kq : Nat) (x139_32 : Bool), v139 = .bool x139_32 ∧ Aside0 (monikerlaw1_EditsChain.j2 kq a0 l1 l2 l3 t504 t522 x139_32 = some r) ∧ Aside0 (kq ≤ kj23) ∧ Aside0 (Kd.R k42 42 wc w.heap.size (fun _ => True) (.slice Ao34 t522.length co34) t522) ∧ Aside0 (Below w.heap.size w wc))
                case first =>
                  have H := HC33.out
                  clear HC33
                  by_cases c36 : t527 = 0
                  · rw [if_pos c36] at H
                    have c36b0 : (t527 == 0) = true := beq_iff_eq.mpr c36
                    have c36b1 : (t527 != 0) = false := bne_eq_false_iff_eq.mpr c36
                    clear c36
                    (first | rw [c36b0] | (simp only [i64_w, i32_w]; rw [c36b0]) | skip)
                    by_cases c37 : t526.toList = t520.toList
                    · rw [if_pos c37] at H
                      have c37b0 : (t526.toList == t520.toList) = true := beq_iff_eq.mpr c37
                      have c37b1 : (t526.toList != t520.toList) = false := bne_eq_false_iff_eq.mpr c37
                      clear c37
                      have H' := Aside0.mk H
                      clear H
                      go_wp2
                      go_meet
                      case rel => exact ⟨_, (decide ((t522.length : Int) > (wrap64 ((l1.length : Int) + (l2.length : Int))))), (by first | rfl | (simp; done) | (simp [*]; done)), H', ⟨by have := HJ8.out; have := HJ23.out; first | omega | exact Nat.le_refl _⟩, ⟨by (with_reducible repeat (first | apply Kd.R_alloc | apply Kd.R_drewN | apply Kd.R_drew)); exact HO_17.out⟩, ⟨by repeat (first | (with_reducible first | exact HB.out | apply below_alloc | apply pw_below_drewN | apply below_drew1) | exact HB.out)⟩⟩
                    · rw [if_neg c37] at H
                      have c37b0 : (t526.toList == t520.toList) = false := beq_eq_false_iff_ne.mpr c37
                      have c37b1 : (t526.toList != t520.toList) = true := bne_iff_ne.mpr c37
                      have H' := Aside0.mk H
                      clear H
                      go_wp2
                      go_meet
                      case rel => exact ⟨_, (true), (by first | rfl | (simp; done) | (simp [*]; done)), H', ⟨by have := HJ8.out; have := HJ23.out; first | omega | exact Nat.le_refl _⟩, ⟨by (with_reducible repeat (first | apply Kd.R_alloc | apply Kd.R_drewN | apply Kd.R_drew)); exact HO_17.out⟩, ⟨by repeat (first | (with_reducible first | exact HB.out | apply below_alloc | apply pw_below_drewN | apply below_drew1) | exact HB.out)⟩⟩
                  · rw [if_neg c36] at H
                    have c36b0 : (t527 == 0) = false := beq_eq_false_iff_ne.mpr c36
                    have c36b1 : (t527 != 0) = true := bne_iff_ne.mpr c36
                    (first | rw [c36b0] | (simp only [i64_w, i32_w]; rw [c36b0]) | skip)
                    have H' := Aside0.mk H
                    clear H
                    go_wp2
                    go_meet
                    case rel => exact ⟨_, (true), (by first | rfl | (simp; done) | (simp [*]; done)), H', ⟨by have := HJ8.out; have := HJ23.out; first | omega | exact Nat.le_refl _⟩, ⟨by (with_reducible repeat (first | apply Kd.R_alloc | apply Kd.R_drewN | apply Kd.R_drew)); exact HO_17.out⟩, ⟨by repeat (first | (with_reducible first | exact HB.out | apply below_alloc | apply pw_below_drewN | apply below_drew1) | exact HB.out)⟩⟩
                case rest =>
                  clear HC33
                  try clear c1
                  try clear c2
                  try clear p2
                  try clear c3
                  try clear c6
                  try clear c6b0
                  try clear c6b1
                  try clear p6
                  try clear c13
                  try clear c13b0
                  try clear c13b1
                  try clear c14
                  try clear c14b0
                  try clear c14b1
                  try clear c16
                  try clear c21
                  try clear c24
                  try clear c27
                  try clear c27b0
                  try clear c27b1
                  try clear c28
                  try clear c29
                  try clear c29b0
                  try clear c29b1
                  try clear c30
                  try clear c30b0
                  try clear c30b1
                  try clear c31
                  try clear c31b0
                  try clear c31b1
                  try clear c36
                  try clear c36b0
                  try clear c36b1
                  try clear c37
                  try clear c37b0
                  try clear c37b1
                  try clear p2
                  obtain ⟨kq, x139_32, rfl, HA, HJ32, HO_17, HB⟩ := hcut
                  cases kq with
                  | zero => exact absurd HA.out (by simp [monikerlaw1_EditsChain.j2])
                  | succ kj32 =>
                    have H := HA.out
                    clear HA
                    simp only [monikerlaw1_EditsChain.j2] at H
                    by_cases c38 : x139_32 = true
                    · subst c38
                      have H1 : (some false) = some r := by rw [if_pos rfl] at H; exact H
                      clear H
                      have H := H1
                      clear H1
                      obtain rfl := Option.some.inj H
                      go_wp2
                      go_ret
                      exact ⟨by first | rfl | (simp [errW_none, errW_some] <;> rfl) | (simp [*, errW_none, errW_some] <;> rfl), by repeat (first | (with_reducible first | exact HB.out | apply below_alloc | apply pw_below_drewN | apply below_drew1) | exact HB.out)⟩
                    · replace c38 := Bool.eq_false_iff.mpr c38
                      subst c38
                      have H1 : ((edits_Compose.f kj32 (t504.size : Int) l2 l3).bind fun bt528 => (if bt528.2 = 0 then ((edits_Compose.f kj32 (a0.size : Int) t522 l3).bind fun bt532 => ((edits_Compose.f kj32 (a0.size : Int) l1 bt528.1).bind fun bt536 => (if bt532.2 = bt536.2 then ((monikerplain_SameEdits.f kj32 bt532.1 bt536.1).bind fun t540 => (some t540)) else (some false)))) else (some true))) = some r := by rw [if_neg (show ¬ (false = true) by decide)] at H; exact H
                      clear H
                      have H := H1
                      clear H1
                      replace H := Option.bind_eq_some_iff.mp H
                      obtain ⟨⟨t528, t529⟩, A390, H⟩ := H
                      replace H : (if t529 = 0 then ((edits_Compose.f kj32 (a0.size : Int) t522 l3).bind fun bt532 => ((edits_Compose.f kj32 (a0.size : Int) l1 t528).bind fun bt536 => (if bt532.2 = bt536.2 then ((monikerplain_SameEdits.f kj32 bt532.1 bt536.1).bind fun t540 => (some t540)) else (some false)))) else (some true)) = some r := H
                      have A39 := Aside0.mk A390
                      clear A390
                      by_cases c40 : t529 = 0
                      · rw [if_pos c40] at H
                        have c40b0 : (t529 == 0) = true := beq_iff_eq.mpr c40
                        have c40b1 : (t529 != 0) = false := bne_eq_false_iff_eq.mpr c40
                        clear c40
                        replace H := Option.bind_eq_some_iff.mp H
                        obtain ⟨⟨t532, t533⟩, A410, H⟩ := H
                        replace H : ((edits_Compose.f kj32 (a0.size : Int) l1 t528).bind fun bt536 => (if t533 = bt536.2 then ((monikerplain_SameEdits.f kj32 t532 bt536.1).bind fun t540 => (some t540)) else (some false))) = some r := H
                        have A41 := Aside0.mk A410
                        clear A410
                        replace H := Option.bind_eq_some_iff.mp H
                        obtain ⟨⟨t536, t537⟩, A420, H⟩ := H
                        replace H : (if t533 = t537 then ((monikerplain_SameEdits.f kj32 t532 t536).bind fun t540 => (some t540)) else (some false)) = some r := H
                        have A42 := Aside0.mk A420
                        clear A420
                        by_cases c43 : t533 = t537
                        · rw [if_pos c43] at H
                          have c43b0 : (t533 == t537) = true := beq_iff_eq.mpr c43
                          have c43b1 : (t533 != t537) = false := bne_eq_false_iff_eq.mpr c43
                          clear c43
                          replace H := Option.bind_eq_some_iff.mp H
                          obtain ⟨t540, A440, H⟩ := H
                          replace H : (some t540) = some r := H
                          have A44 := Aside0.mk A440
                          clear A440
                          obtain rfl := Option.some.inj H
                          go_wp2_with (first | ((with_reducible refine gate_callee (f := 30) rfl ?_); refine goesL_ (some 145) rfl rfl Try.func30 (by kernel_rfl) rfl #[.int .i64 (t504.size : Int), .slice A2 l2.length c2, .slice A3 l3.length c3] rfl (by (try simp only [List.map_toArray, List.map_cons, List.map_nil]); first | done | rfl | (simp only [List.length_drop, List.length_take]; rfl)) ?_; (with_reducible refine (edits_Compose.calls kj32 (t504.size : Int) _ _ l2 _ _ l3 t528 t529 _ ?side1 ?side2 ?side3 ?side4 A39.out).mono ?_); (case side1 => repeat (first | exact (Kd.C_below HR2.out HB.out) | (with_reducible refine Kd.C_alloc ?_ _) | (with_reducible refine Kd.C_drewN ?_ _) | (with_reducible refine Kd.C_drew ?_))); (case side2 => exact HC2.out); (case side3 => repeat (first | exact (Kd.C_below HR3.out HB.out) | (with_reducible refine Kd.C_alloc ?_ _) | (with_reducible refine Kd.C_drewN ?_ _) | (with_reducible refine Kd.C_drew ?_))); (case side4 => exact HC3.out); rintro e w45 ⟨v530, rfl, ho0, hb⟩; refine ⟨_, rfl, ?_⟩; have n0_ := Aside0.mk (Kd.R_elder' (by (with_reducible repeat (first | apply Kd.R_alloc | apply Kd.R_drewN | apply Kd.R_drew)); exact HO_17.out) (Kd.R_base ho0) hb); have n1_ := Aside0.mk (Kd.R_lower (Kd.R_new' ho0 (Kd.R_lt (by (with_reducible repeat (first | apply Kd.R_alloc | apply Kd.R_drewN | apply Kd.R_drew)); exact HO_17.out))) (below_size (by repeat (first | (with_reducible first | exact HB.out | apply below_alloc | apply pw_below_drewN | apply below_drew1) | exact HB.out)))); have n2_ := Aside0.mk (below_step (by repeat (first | (with_reducible first | exact HB.out | apply below_alloc | apply pw_below_drewN | apply below_drew1) | exact HB.out)) hb); clear HO_17; clear HB; have HO_17 := n0_; have HO531 := n1_; have HB := n2_; clear n0_ n1_ n2_; (try clear hb); (try clear hb2); (try clear hk); (try clear hi); (try clear ho0)) | ((with_reducible refine gate_callee (f := 30) rfl ?_); refine goesL_ (some 155) rfl rfl Try.func30 (by kernel_rfl) rfl #[.int .i64 (a0.size : Int), .slice Ao34 t522.length co34, .slice A3 l3.length c3] rfl (by (try simp only [List.map_toArray, List.map_cons, List.map_nil]); first | done | rfl | (simp only [List.length_drop, List.length_take]; rfl)) ?_; (with_reducible refine (edits_Compose.calls kj32 (a0.size : Int) _ _ t522 _ _ l3 t532 t533 _ ?side1 ?side2 ?side3 ?side4 A41.out).mono ?_); (case side1 => repeat (first | exact (Kd.R_reads' HO_17.out).2.2 | (with_reducible refine Kd.C_alloc ?_ _) | (with_reducible refine Kd.C_drewN ?_ _) | (with_reducible refine Kd.C_drew ?_))); (case side2 => exact (Kd.R_reads' HO_17.out).2.1); (case side3 => repeat (first | exact (Kd.C_below HR3.out HB.out) | (with_reducible refine Kd.C_alloc ?_ _) | (with_reducible refine Kd.C_drewN ?_ _) | (with_reducible refine Kd.C_drew ?_))); (case side4 => exact HC3.out); rintro e w46 ⟨v534, rfl, ho0, hb⟩; refine ⟨_, rfl, ?_⟩; have n0_ := Aside0.mk (Kd.R_elder' (by (with_reducible repeat (first | apply Kd.R_alloc | apply Kd.R_drewN | apply Kd.R_drew)); exact HO_17.out) (Kd.R_base ho0) hb); have n1_ := Aside0.mk (Kd.R_elder' (by (with_reducible repeat (first | apply Kd.R_alloc | apply Kd.R_drewN | apply Kd.R_drew)); exact HO531.out) (Kd.R_base ho0) hb); have n2_ := Aside0.mk (Kd.R_lower (Kd.R_new' (Kd.R_new' ho0 (Kd.R_lt (by (with_reducible repeat (first | apply Kd.R_alloc | apply Kd.R_drewN | apply Kd.R_drew)); exact HO_17.out))) (Kd.R_lt (by (with_reducible repeat (first | apply Kd.R_alloc | apply Kd.R_drewN | apply Kd.R_drew)); exact HO531.out))) (below_size (by repeat (first | (with_reducible first | exact HB.out | apply below_alloc | apply pw_below_drewN | apply below_drew1) | exact HB.out)))); have n3_ := Aside0.mk (below_step (by repeat (first | (with_reducible first | exact HB.out | apply below_alloc | apply pw_below_drewN | apply below_drew1) | exact HB.out)) hb); clear HO_17; clear HO531; clear HB; have HO_17 := n0_; have HO531 := n1_; have HO535 := n2_; have HB := n3_; clear n0_ n1_ n2_ n3_; (try clear hb); (try clear hb2); (try clear hk); (try clear hi); (try clear ho0); obtain ⟨Ao47, co47, eo47⟩ := Kd.R_slice HO531.out; subst eo47) | ((with_reducible refine gate_callee (f := 30) rfl ?_); refine goesL_ (some 163) rfl rfl Try.func30 (by kernel_rfl) rfl #[.int .i64 (a0.size : Int), .slice A1 l1.length c1, .slice Ao47 t528.length co47] rfl (by (try simp only [List.map_toArray, List.map_cons, List.map_nil]); first | done | rfl | (simp only [List.length_drop, List.length_take]; rfl)) ?_; (with_reducible refine (edits_Compose.calls kj32 (a0.size : Int) _ _ l1 _ _ t528 t536 t537 _ ?side1 ?side2 ?side3 ?side4 A42.out).mono ?_); (case side1 => repeat (first | exact (Kd.C_below HR1.out HB.out) | (with_reducible refine Kd.C_alloc ?_ _) | (with_reducible refine Kd.C_drewN ?_ _) | (with_reducible refine Kd.C_drew ?_))); (case side2 => exact HC1.out); (case side3 => repeat (first | exact (Kd.R_reads' HO531.out).2.2 | (with_reducible refine Kd.C_alloc ?_ _) | (with_reducible refine Kd.C_drewN ?_ _) | (with_reducible refine Kd.C_drew ?_))); (case side4 => exact (Kd.R_reads' HO531.out).2.1); rintro e w48 ⟨v538, rfl, ho0, hb⟩; refine ⟨_, rfl, ?_⟩; have n0_ := Aside0.mk (Kd.R_elder' (by (with_reducible repeat (first | apply Kd.R_alloc | apply Kd.R_drewN | apply Kd.R_drew)); exact HO_17.out) (Kd.R_base ho0) hb); have n1_ := Aside0.mk (Kd.R_elder' (by (with_reducible repeat (first | apply Kd.R_alloc | apply Kd.R_drewN | apply Kd.R_drew)); exact HO531.out) (Kd.R_base ho0) hb); have n2_ := Aside0.mk (Kd.R_elder' (by (with_reducible repeat (first | apply Kd.R_alloc | apply Kd.R_drewN | apply Kd.R_drew)); exact HO535.out) (Kd.R_base ho0) hb); have n3_ := Aside0.mk (Kd.R_lower (Kd.R_new' (Kd.R_new' (Kd.R_new' ho0 (Kd.R_lt (by (with_reducible repeat (first | apply Kd.R_alloc | apply Kd.R_drewN | apply Kd.R_drew)); exact HO_17.out))) (Kd.R_lt (by (with_reducible repeat (first | apply Kd.R_alloc | apply Kd.R_drewN | apply Kd.R_drew)); exact HO531.out))) (Kd.R_lt (by (with_reducible repeat (first | apply Kd.R_alloc | apply Kd.R_drewN | apply Kd.R_drew)); exact HO535.out))) (below_size (by repeat (first | (with_reducible first | exact HB.out | apply below_alloc | apply pw_below_drewN | apply below_drew1) | exact HB.out)))); have n4_ := Aside0.mk (below_step (by repeat (first | (with_reducible first | exact HB.out | apply below_alloc | apply pw_below_drewN | apply below_drew1) | exact HB.out)) hb); clear HO_17; clear HO531; clear HO535; clear HB; have HO_17 := n0_; have HO531 := n1_; have HO535 := n2_; have HO539 := n3_; have HB := n4_; clear n0_ n1_ n2_ n3_ n4_; (try clear hb); (try clear hb2); (try clear hk); (try clear hi); (try clear ho0); obtain ⟨Ao49, co49, eo49⟩ := Kd.R_slice HO535.out; subst eo49; obtain ⟨Ao50, co50, eo50⟩ := Kd.R_slice HO539.out; subst eo50) | (go_at_call 21; (with_reducible refine (monikerplain_SameEdits.calls kj32 _ _ t532 _ _ t536 t540 _ ?side1 ?side2 ?side3 ?side4 A44.out).mono ?_); (case side1 => repeat (first | exact (Kd.R_reads' HO535.out).2.2 | (with_reducible refine Kd.C_alloc ?_ _) | (with_reducible refine Kd.C_drewN ?_ _) | (with_reducible refine Kd.C_drew ?_))); (case side2 => exact (Kd.R_reads' HO535.out).2.1); (case side3 => repeat (first | exact (Kd.R_reads' HO539.out).2.2 | (with_reducible refine Kd.C_alloc ?_ _) | (with_reducible refine Kd.C_drewN ?_ _) | (with_reducible refine Kd.C_drew ?_))); (case side4 => exact (Kd.R_reads' HO539.out).2.1); rintro e w' ⟨rfl, ⟨nd, rfl⟩⟩))
                          go_ret
                          exact ⟨by first | rfl | (simp [errW_none, errW_some] <;> rfl) | (simp [*, errW_none, errW_some] <;> rfl), by repeat (first | (with_reducible first | exact HB.out | apply below_alloc | apply pw_below_drewN | apply below_drew1) | exact HB.out)⟩
                        · rw [if_neg c43] at H
                          have c43b0 : (t533 == t537) = false := beq_eq_false_iff_ne.mpr c43
                          have c43b1 : (t533 != t537) = true := bne_iff_ne.mpr c43
                          obtain rfl := Option.some.inj H
                          go_wp2_with (first | ((with_reducible refine gate_callee (f := 30) rfl ?_); refine goesL_ (some 145) rfl rfl Try.func30 (by kernel_rfl) rfl #[.int .i64 (t504.size : Int), .slice A2 l2.length c2, .slice A3 l3.length c3] rfl (by (try simp only [List.map_toArray, List.map_cons, List.map_nil]); first | done | rfl | (simp only [List.length_drop, List.length_take]; rfl)) ?_; (with_reducible refine (edits_Compose.calls kj32 (t504.size : Int) _ _ l2 _ _ l3 t528 t529 _ ?side1 ?side2 ?side3 ?side4 A39.out).mono ?_); (case side1 => repeat (first | exact (Kd.C_below HR2.out HB.out) | (with_reducible refine Kd.C_alloc ?_ _) | (with_reducible refine Kd.C_drewN ?_ _) | (with_reducible refine Kd.C_drew ?_))); (case side2 => exact HC2.out); (case side3 => repeat (first | exact (Kd.C_below HR3.out HB.out) | (with_reducible refine Kd.C_alloc ?_ _) | (with_reducible refine Kd.C_drewN ?_ _) | (with_reducible refine Kd.C_drew ?_))); (case side4 => exact HC3.out); rintro e w51 ⟨v530, rfl, ho0, hb⟩; refine ⟨_, rfl, ?_⟩; have n0_ := Aside0.mk (Kd.R_elder' (by (with_reducible repeat (first | apply Kd.R_alloc | apply Kd.R_drewN | apply Kd.R_drew)); exact HO_17.out) (Kd.R_base ho0) hb); have n1_ := Aside0.mk (Kd.R_lower (Kd.R_new' ho0 (Kd.R_lt (by (with_reducible repeat (first | apply Kd.R_alloc | apply Kd.R_drewN | apply Kd.R_drew)); exact HO_17.out))) (below_size (by repeat (first | (with_reducible first | exact HB.out | apply below_alloc | apply pw_below_drewN | apply below_drew1) | exact HB.out)))); have n2_ := Aside0.mk (below_step (by repeat (first | (with_reducible first | exact HB.out | apply below_alloc | apply pw_below_drewN | apply below_drew1) | exact HB.out)) hb); clear HO_17; clear HB; have HO_17 := n0_; have HO531 := n1_; have HB := n2_; clear n0_ n1_ n2_; (try clear hb); (try clear hb2); (try clear hk); (try clear hi); (try clear ho0)) | ((with_reducible refine gate_callee (f := 30) rfl ?_); refine goesL_ (some 155) rfl rfl Try.func30 (by kernel_rfl) rfl #[.int .i64 (a0.size : Int), .slice Ao34 t522.length co34, .slice A3 l3.length c3] rfl (by (try simp only [List.map_toArray, List.map_cons, List.map_nil]); first | done | rfl | (simp only [List.length_drop, List.length_take]; rfl)) ?_; (with_reducible refine (edits_Compose.calls kj32 (a0.size : Int) _ _ t522 _ _ l3 t532 t533 _ ?side1 ?side2 ?side3 ?side4 A41.out).mono ?_); (case side1 => repeat (first | exact (Kd.R_reads' HO_17.out).2.2 | (with_reducible refine Kd.C_alloc ?_ _) | (with_reducible refine Kd.C_drewN ?_ _) | (with_reducible refine Kd.C_drew ?_))); (case side2 => exact (Kd.R_reads' HO_17.out).2.1); (case side3 => repeat (first | exact (Kd.C_below HR3.out HB.out) | (with_reducible refine Kd.C_alloc ?_ _) | (with_reducible refine Kd.C_drewN ?_ _) | (with_reducible refine Kd.C_drew ?_))); (case side4 => exact HC3.out); rintro e w52 ⟨v534, rfl, ho0, hb⟩; refine ⟨_, rfl, ?_⟩; have n0_ := Aside0.mk (Kd.R_elder' (by (with_reducible repeat (first | apply Kd.R_alloc | apply Kd.R_drewN | apply Kd.R_drew)); exact HO_17.out) (Kd.R_base ho0) hb); have n1_ := Aside0.mk (Kd.R_elder' (by (with_reducible repeat (first | apply Kd.R_alloc | apply Kd.R_drewN | apply Kd.R_drew)); exact HO531.out) (Kd.R_base ho0) hb); have n2_ := Aside0.mk (Kd.R_lower (Kd.R_new' (Kd.R_new' ho0 (Kd.R_lt (by (with_reducible repeat (first | apply Kd.R_alloc | apply Kd.R_drewN | apply Kd.R_drew)); exact HO_17.out))) (Kd.R_lt (by (with_reducible repeat (first | apply Kd.R_alloc | apply Kd.R_drewN | apply Kd.R_drew)); exact HO531.out))) (below_size (by repeat (first | (with_reducible first | exact HB.out | apply below_alloc | apply pw_below_drewN | apply below_drew1) | exact HB.out)))); have n3_ := Aside0.mk (below_step (by repeat (first | (with_reducible first | exact HB.out | apply below_alloc | apply pw_below_drewN | apply below_drew1) | exact HB.out)) hb); clear HO_17; clear HO531; clear HB; have HO_17 := n0_; have HO531 := n1_; have HO535 := n2_; have HB := n3_; clear n0_ n1_ n2_ n3_; (try clear hb); (try clear hb2); (try clear hk); (try clear hi); (try clear ho0); obtain ⟨Ao53, co53, eo53⟩ := Kd.R_slice HO531.out; subst eo53) | ((with_reducible refine gate_callee (f := 30) rfl ?_); refine goesL_ (some 163) rfl rfl Try.func30 (by kernel_rfl) rfl #[.int .i64 (a0.size : Int), .slice A1 l1.length c1, .slice Ao53 t528.length co53] rfl (by (try simp only [List.map_toArray, List.map_cons, List.map_nil]); first | done | rfl | (simp only [List.length_drop, List.length_take]; rfl)) ?_; (with_reducible refine (edits_Compose.calls kj32 (a0.size : Int) _ _ l1 _ _ t528 t536 t537 _ ?side1 ?side2 ?side3 ?side4 A42.out).mono ?_); (case side1 => repeat (first | exact (Kd.C_below HR1.out HB.out) | (with_reducible refine Kd.C_alloc ?_ _) | (with_reducible refine Kd.C_drewN ?_ _) | (with_reducible refine Kd.C_drew ?_))); (case side2 => exact HC1.out); (case side3 => repeat (first | exact (Kd.R_reads' HO531.out).2.2 | (with_reducible refine Kd.C_alloc ?_ _) | (with_reducible refine Kd.C_drewN ?_ _) | (with_reducible refine Kd.C_drew ?_))); (case side4 => exact (Kd.R_reads' HO531.out).2.1); rintro e w54 ⟨v538, rfl, ho0, hb⟩; refine ⟨_, rfl, ?_⟩; have n0_ := Aside0.mk (Kd.R_elder' (by (with_reducible repeat (first | apply Kd.R_alloc | apply Kd.R_drewN | apply Kd.R_drew)); exact HO_17.out) (Kd.R_base ho0) hb); have n1_ := Aside0.mk (Kd.R_elder' (by (with_reducible repeat (first | apply Kd.R_alloc | apply Kd.R_drewN | apply Kd.R_drew)); exact HO531.out) (Kd.R_base ho0) hb); have n2_ := Aside0.mk (Kd.R_elder' (by (with_reducible repeat (first | apply Kd.R_alloc | apply Kd.R_drewN | apply Kd.R_drew)); exact HO535.out) (Kd.R_base ho0) hb); have n3_ := Aside0.mk (Kd.R_lower (Kd.R_new' (Kd.R_new' (Kd.R_new' ho0 (Kd.R_lt (by (with_reducible repeat (first | apply Kd.R_alloc | apply Kd.R_drewN | apply Kd.R_drew)); exact HO_17.out))) (Kd.R_lt (by (with_reducible repeat (first | apply Kd.R_alloc | apply Kd.R_drewN | apply Kd.R_drew)); exact HO531.out))) (Kd.R_lt (by (with_reducible repeat (first | apply Kd.R_alloc | apply Kd.R_drewN | apply Kd.R_drew)); exact HO535.out))) (below_size (by repeat (first | (with_reducible first | exact HB.out | apply below_alloc | apply pw_below_drewN | apply below_drew1) | exact HB.out)))); have n4_ := Aside0.mk (below_step (by repeat (first | (with_reducible first | exact HB.out | apply below_alloc | apply pw_below_drewN | apply below_drew1) | exact HB.out)) hb); clear HO_17; clear HO531; clear HO535; clear HB; have HO_17 := n0_; have HO531 := n1_; have HO535 := n2_; have HO539 := n3_; have HB := n4_; clear n0_ n1_ n2_ n3_ n4_; (try clear hb); (try clear hb2); (try clear hk); (try clear hi); (try clear ho0)))
                          go_ret
                          exact ⟨by first | rfl | (simp [errW_none, errW_some] <;> rfl) | (simp [*, errW_none, errW_some] <;> rfl), by repeat (first | (with_reducible first | exact HB.out | apply below_alloc | apply pw_below_drewN | apply below_drew1) | exact HB.out)⟩
                      · rw [if_neg c40] at H
                        have c40b0 : (t529 == 0) = false := beq_eq_false_iff_ne.mpr c40
                        have c40b1 : (t529 != 0) = true := bne_iff_ne.mpr c40
                        obtain rfl := Option.some.inj H
                        go_wp2_with (first | ((with_reducible refine gate_callee (f := 30) rfl ?_); refine goesL_ (some 145) rfl rfl Try.func30 (by kernel_rfl) rfl #[.int .i64 (t504.size : Int), .slice A2 l2.length c2, .slice A3 l3.length c3] rfl (by (try simp only [List.map_toArray, List.map_cons, List.map_nil]); first | done | rfl | (simp only [List.length_drop, List.length_take]; rfl)) ?_; (with_reducible refine (edits_Compose.calls kj32 (t504.size : Int) _ _ l2 _ _ l3 t528 t529 _ ?side1 ?side2 ?side3 ?side4 A39.out).mono ?_); (case side1 => repeat (first | exact (Kd.C_below HR2.out HB.out) | (with_reducible refine Kd.C_alloc ?_ _) | (with_reducible refine Kd.C_drewN ?_ _) | (with_reducible refine Kd.C_drew ?_))); (case side2 => exact HC2.out); (case side3 => repeat (first | exact (Kd.C_below HR3.out HB.out) | (with_reducible refine Kd.C_alloc ?_ _) | (with_reducible refine Kd.C_drewN ?_ _) | (with_reducible refine Kd.C_drew ?_))); (case side4 => exact HC3.out); rintro e w55 ⟨v530, rfl, ho0, hb⟩; refine ⟨_, rfl, ?_⟩; have n0_ := Aside0.mk (Kd.R_elder' (by (with_reducible repeat (first | apply Kd.R_alloc | apply Kd.R_drewN | apply Kd.R_drew)); exact HO_17.out) (Kd.R_base ho0) hb); have n1_ := Aside0.mk (Kd.R_lower (Kd.R_new' ho0 (Kd.R_lt (by (with_reducible repeat (first | apply Kd.R_alloc | apply Kd.R_drewN | apply Kd.R_drew)); exact HO_17.out))) (below_size (by repeat (first | (with_reducible first | exact HB.out | apply below_alloc | apply pw_below_drewN | apply below_drew1) | exact HB.out)))); have n2_ := Aside0.mk (below_step (by repeat (first | (with_reducible first | exact HB.out | apply below_alloc | apply pw_below_drewN | apply below_drew1) | exact HB.out)) hb); clear HO_17; clear HB; have HO_17 := n0_; have HO531 := n1_; have HB := n2_; clear n0_ n1_ n2_; (try clear hb); (try clear hb2); (try clear hk); (try clear hi); (try clear ho0)))
                        go_ret
                        exact ⟨by first | rfl | (simp [errW_none, errW_some] <;> rfl) | (simp [*, errW_none, errW_some] <;> rfl), by repeat (first | (with_reducible first | exact HB.out | apply below_alloc | apply pw_below_drewN | apply below_drew1) | exact HB.out)⟩
  · rw [if_neg c6] at H
    have c6b0 : (t505 == 0) = false := beq_eq_false_iff_ne.mpr c6
    have c6b1 : (t505 != 0) = true := bne_iff_ne.mpr c6
    replace H := Option.bind_eq_some_iff.mp H
    obtain ⟨⟨t506, t507⟩, A560, H⟩ := H
    replace H : (if t507 = t505 then (some ((t506.length : Int) == 0)) else (some false)) = some r := H
    have A56 := Aside0.mk A560
    clear A560
    by_cases c57 : t507 = t505
    · rw [if_pos c57] at H
      have c57b0 : (t507 == t505) = true := beq_iff_eq.mpr c57
      have c57b1 : (t507 != t505) = false := bne_eq_false_iff_eq.mpr c57
      clear c57
      obtain rfl := Option.some.inj H
      go_enter Try.func13, Try.ntmps13
      go_wp2_with (first | ((with_reducible refine gate_callee (f := 24) rfl ?_); refine goesL_ (some 25) rfl rfl Try.func24 (by kernel_rfl) rfl #[.string a0, .slice A1 l1.length c1] rfl (by (try simp only [List.map_toArray, List.map_cons, List.map_nil]); first | done | rfl | (simp only [List.length_drop, List.length_take]; rfl)) ?_; (with_reducible refine (edits_Apply.calls k a0 _ _ l1 t504 t505 _ ?side1 ?side2 A5.out).mono ?_); (case side1 => repeat (first | exact HR1.out | (with_reducible refine Kd.C_alloc ?_ _) | (with_reducible refine Kd.C_drewN ?_ _) | (with_reducible refine Kd.C_drew ?_))); (case side2 => exact HC1.out); rintro e w58 ⟨rfl, hb⟩; refine ⟨_, rfl, ?_⟩; have n0_ := Aside0.mk (below_step (by repeat (first | (with_reducible first | exact HB.out | apply below_alloc | apply pw_below_drewN | apply below_drew1) | exact HB.out)) hb); clear HB; have HB := n0_; clear n0_; (try clear hb); (try clear hb2); (try clear hk); (try clear hi)) | ((with_reducible refine gate_callee (f := 30) rfl ?_); refine goesL_ (some 35) rfl rfl Try.func30 (by kernel_rfl) rfl #[.int .i64 (a0.size : Int), .slice A1 l1.length c1, .slice A2 l2.length c2] rfl (by (try simp only [List.map_toArray, List.map_cons, List.map_nil]); first | done | rfl | (simp only [List.length_drop, List.length_take]; rfl)) ?_; (with_reducible refine (edits_Compose.calls k (a0.size : Int) _ _ l1 _ _ l2 t506 t507 _ ?side1 ?side2 ?side3 ?side4 A56.out).mono ?_); (case side1 => repeat (first | exact (Kd.C_below HR1.out HB.out) | (with_reducible refine Kd.C_alloc ?_ _) | (with_reducible refine Kd.C_drewN ?_ _) | (with_reducible refine Kd.C_drew ?_))); (case side2 => exact HC1.out); (case side3 => repeat (first | exact (Kd.C_below HR2.out HB.out) | (with_reducible refine Kd.C_alloc ?_ _) | (with_reducible refine Kd.C_drewN ?_ _) | (with_reducible refine Kd.C_drew ?_))); (case side4 => exact HC2.out); rintro e w59 ⟨v508, rfl, ho0, hb⟩; refine ⟨_, rfl, ?_⟩; have n0_ := Aside0.mk (Kd.R_lower ho0 (below_size (by repeat (first | (with_reducible first | exact HB.out | apply below_alloc | apply pw_below_drewN | apply below_drew1) | exact HB.out)))); have n1_ := Aside0.mk (below_step (by repeat (first | (with_reducible first | exact HB.out | apply below_alloc | apply pw_below_drewN | apply below_drew1) | exact HB.out)) hb); clear HB; have HO509 := n0_; have HB := n1_; clear n0_ n1_; (try clear hb); (try clear hb2); (try clear hk); (try clear hi); (try clear ho0); obtain ⟨Ao60, co60, eo60⟩ := Kd.R_slice HO509.out; subst eo60))
      go_ret
      exact ⟨by first | rfl | (simp [errW_none, errW_some] <;> rfl) | (simp [*, errW_none, errW_some] <;> rfl), by repeat (first | (with_reducible first | exact HB.out | apply below_alloc | apply pw_below_drewN | apply below_drew1) | exact HB.out)⟩
    · rw [if_neg c57] at H
      have c57b0 : (t507 == t505) = false := beq_eq_false_iff_ne.mpr c57
      have c57b1 : (t507 != t505) = true := bne_iff_ne.mpr c57
      obtain rfl := Option.some.inj H
      go_enter Try.func13, Try.ntmps13
      go_wp2_with (first | ((with_reducible refine gate_callee (f := 24) rfl ?_); refine goesL_ (some 25) rfl rfl Try.func24 (by kernel_rfl) rfl #[.string a0, .slice A1 l1.length c1] rfl (by (try simp only [List.map_toArray, List.map_cons, List.map_nil]); first | done | rfl | (simp only [List.length_drop, List.length_take]; rfl)) ?_; (with_reducible refine (edits_Apply.calls k a0 _ _ l1 t504 t505 _ ?side1 ?side2 A5.out).mono ?_); (case side1 => repeat (first | exact HR1.out | (with_reducible refine Kd.C_alloc ?_ _) | (with_reducible refine Kd.C_drewN ?_ _) | (with_reducible refine Kd.C_drew ?_))); (case side2 => exact HC1.out); rintro e w61 ⟨rfl, hb⟩; refine ⟨_, rfl, ?_⟩; have n0_ := Aside0.mk (below_step (by repeat (first | (with_reducible first | exact HB.out | apply below_alloc | apply pw_below_drewN | apply below_drew1) | exact HB.out)) hb); clear HB; have HB := n0_; clear n0_; (try clear hb); (try clear hb2); (try clear hk); (try clear hi)) | ((with_reducible refine gate_callee (f := 30) rfl ?_); refine goesL_ (some 35) rfl rfl Try.func30 (by kernel_rfl) rfl #[.int .i64 (a0.size : Int), .slice A1 l1.length c1, .slice A2 l2.length c2] rfl (by (try simp only [List.map_toArray, List.map_cons, List.map_nil]); first | done | rfl | (simp only [List.length_drop, List.length_take]; rfl)) ?_; (with_reducible refine (edits_Compose.calls k (a0.size : Int) _ _ l1 _ _ l2 t506 t507 _ ?side1 ?side2 ?side3 ?side4 A56.out).mono ?_); (case side1 => repeat (first | exact (Kd.C_below HR1.out HB.out) | (with_reducible refine Kd.C_alloc ?_ _) | (with_reducible refine Kd.C_drewN ?_ _) | (with_reducible refine Kd.C_drew ?_))); (case side2 => exact HC1.out); (case side3 => repeat (first | exact (Kd.C_below HR2.out HB.out) | (with_reducible refine Kd.C_alloc ?_ _) | (with_reducible refine Kd.C_drewN ?_ _) | (with_reducible refine Kd.C_drew ?_))); (case side4 => exact HC2.out); rintro e w62 ⟨v508, rfl, ho0, hb⟩; refine ⟨_, rfl, ?_⟩; have n0_ := Aside0.mk (Kd.R_lower ho0 (below_size (by repeat (first | (with_reducible first | exact HB.out | apply below_alloc | apply pw_below_drewN | apply below_drew1) | exact HB.out)))); have n1_ := Aside0.mk (below_step (by repeat (first | (with_reducible first | exact HB.out | apply below_alloc | apply pw_below_drewN | apply below_drew1) | exact HB.out)) hb); clear HB; have HO509 := n0_; have HB := n1_; clear n0_ n1_; (try clear hb); (try clear hb2); (try clear hk); (try clear hi); (try clear ho0)))
      go_ret
      exact ⟨by first | rfl | (simp [errW_none, errW_some] <;> rfl) | (simp [*, errW_none, errW_some] <;> rfl), by repeat (first | (with_reducible first | exact HB.out | apply below_alloc | apply pw_below_drewN | apply below_drew1) | exact HB.out)⟩

end Go.Proofs.Ytaihajmdngoeiaa.F

-- The law EditsChain, plainly
namespace Go.Proofs.Ytaihajmdngoeiaa.Q
open Go.RowKit Go.Proofs.YtaihajmdngoeiaaW.PrintWords Go.Proofs.YtaihajmdngoeiaaW.PrintLast Go.Proofs.YtaihajmdngoeiaaW.PrintMore
open Go.Proofs.Ytaihajmdngoeiaa.F
set_option linter.unusedVariables false
set_option linter.unusedSimpArgs false

theorem comp_f (k : Nat) (n : Int) (a b : List S42) (h1 : tot a ≤ 1048576) (h2 : tot b ≤ 1048576) : edits_Compose.f k n a b = some (compSpec n a b) := by
  unfold edits_Compose.f
  rw [if_pos ⟨h1, h2⟩]
theorem chain_of_ok {n : Int} : ∀ (l : List Ed) (p : Int), Ch n p l → 0 ≤ p → Chain n (some p) (l.map toS)
  | [], p, _, _ => trivial
  | e :: t, p, ⟨c1, c2, c3, c4⟩, h0 => ⟨by show 0 ≤ e.a; omega, c2, c3, (fun q hq => by injection hq with hq; show q < e.a; omega), chain_of_ok t e.b c4 (by omega)⟩
theorem chain_of_Ok {n : Int} {l : List Ed} (h : Ok n l) : Chain n none (l.map toS) := by
  cases l with
  | nil => trivial
  | cons e t =>
    obtain ⟨c1, c2, c3, c4⟩ := h
    exact ⟨c1, c2, c3, (fun q hq => by cases hq), chain_of_ok t e.b c4 (by omega)⟩
theorem Vspec_nat (n : Nat) (hn : n ≤ 4611686018427387904) (l : List S42) : Vspec (n : Int) l = vspec n l := by
  unfold Vspec
  rw [if_neg (by omega), if_neg (by omega)]
theorem compSpec_bad (n : Nat) (hn : n ≤ 4611686018427387904) (a b : List S42) (h : ¬ vspec n a = 0) : compSpec n a b = ([], vspec n a) := by
  unfold compSpec
  rw [Vspec_nat n hn, if_neg h]
theorem compSpec_good (n : Nat) (hn : n ≤ 4611686018427387904) (a b : List S42) (h : vspec n a = 0) (m : Nat) (hm : (m : Int) = n + sumG a) (hmn : m ≤ 4611686018427387904) : compSpec n a b = if vspec m b = 0 then (if (compL n a b).length > 65536 then ([], 2) else (compL n a b, 0)) else ([], vspec m b) := by
  unfold compSpec
  rw [Vspec_nat n hn, if_pos h, ← hm, w64 (by omega) (by omega)]
  by_cases h2 : vspec (m : Int) b = 0
  · rw [if_pos h2, if_pos h2]
    by_cases h3 : (compL n a b).length > 65536
    · rw [if_pos h3, if_pos (by omega)]
    · rw [if_neg h3, if_neg (by omega)]
  · rw [if_neg h2, if_neg h2]
theorem rowE_len' (n : Nat) (a : List S42) (ha : Chain n none a) (m : Nat) (hm : (m : Int) = n + sumG a) : (rowE n (a.map edOf)).1.length = m := by
  have := rowE_len n (by omega) a none ha
  omega
theorem compL_chain (n : Nat) (a b : List S42) (ha : Chain n none a) (m : Nat) (hm : (m : Int) = n + sumG a) (hb : Chain m none b) : Chain n none (compL n a b) := by
  unfold compL
  exact chain_of_Ok (cmpE_ok n (by omega) _ _ (chain_ok ha) (by rw [rowE_len' n a ha m hm]; exact chain_ok hb))
theorem compL_tot (n : Nat) (a b : List S42) (ha : Chain n none a) (m : Nat) (hm : (m : Int) = n + sumG a) (hb : Chain m none b) : tot (compL n a b) ≤ tot a + tot b := by
  unfold compL
  rw [tot_toS, ← sT_edOf a, ← sT_edOf b]
  exact sT_cmpE n (by omega) _ _ (chain_ok ha) (by rw [rowE_len' n a ha m hm]; exact chain_ok hb)
theorem compL_len (n : Nat) (a b : List S42) (ha : Chain n none a) (m : Nat) (hm : (m : Int) = n + sumG a) (hb : Chain m none b) : (compL n a b).length ≤ a.length + b.length := by
  have hA := Ok.cz (chain_ok ha) (by omega)
  have hob : Ok (rowE n (a.map edOf)).1.length (b.map edOf) := by rw [rowE_len' n a ha m hm]; exact chain_ok hb
  unfold compL
  rw [cmpE_groups n (by omega) (a.map edOf) (b.map edOf) (chain_ok ha) hob (a.length + b.length) (by simp only [List.length_map]; omega), List.length_map]
  exact groups_len n m _ a b 0 ⟨⟨0, hA, Int.le_refl _, by omega, Ok.cz (chain_ok hb) (by omega), by omega⟩, by rw [shOf_edOf]; omega⟩
theorem compL_nil (n : Nat) (a : List S42) (ha : Chain n none a) : compL n a [] = a ∧ compL n [] a = a := by
  have h : (a.map edOf).map toS = a := by simp [List.map_map, Function.comp_def, toS_edOf]
  unfold compL
  simp only [List.map_nil]
  rw [cmpE_nil_right n (by omega) _ (chain_ok ha), cmpE_nil_left n (by omega) _ (chain_ok ha)]
  exact ⟨h, h⟩
theorem ba_of_list {x y : ByteArray} (h : x.data.toList = y.data.toList) : x = y := by
  cases x
  cases y
  congr 1
  exact Array.toList_inj.1 h
/-- One list does what both do. -/
theorem compL_ap (text : ByteArray) (a b : List S42) (ha : Chain text.size none a) (hb : Chain (apGo text 0 a).size none b) (hm : ((apGo text 0 a).size : Int) = text.size + sumG a) : apGo text 0 (compL text.size a b) = apGo (apGo text 0 a) 0 b := by
  apply ba_of_list
  have hc := compL_chain text.size a b ha _ hm hb
  rw [ap_row text _ hc, ap_row (apGo text 0 a) b hb, ap_row text a ha]
  have hl := rowE_len' text.size a ha _ hm
  unfold compL
  rw [edOf_toS_map, appR_cmpE _ _ (by omega) _ _ (chain_ok ha) (by rw [hl]; exact chain_ok hb), hl]
theorem compL_assoc (n : Nat) (a b c : List S42) (ha : Chain n none a) (m : Nat) (hm : (m : Int) = n + sumG a) (hb : Chain m none b) (m' : Nat) (hm' : (m' : Int) = m + sumG b) (hc : Chain m' none c) : compL n (compL n a b) c = compL n a (compL m b c) := by
  have h1 := rowE_len' n a ha m hm
  have h2 := rowE_len' m b hb m' hm'
  unfold compL
  rw [edOf_toS_map, edOf_toS_map, cmpE_assoc n (by omega) _ _ _ (chain_ok ha) (by rw [h1]; exact chain_ok hb) (by rw [h1, h2]; exact chain_ok hc), h1]
theorem sumG_of_ap (text : ByteArray) (a b : List S42) (hla : vspec text.size a = 0) (hl : (compL text.size a b).length ≤ 65536) (hb : Chain (apGo text 0 a).size none b) (hlb : b.length ≤ 65536) : (text.size : Int) + sumG (compL text.size a b) = (apGo text 0 a).size + sumG b := by
  obtain ⟨_, ha⟩ := vspec_zero hla
  have hm := ap_size text a hla
  have hc := compL_chain text.size a b ha _ hm hb
  have e := compL_ap text a b ha hb hm
  have h1 := ap_size text _ (vspec_of hl hc)
  have h2 := ap_size (apGo text 0 a) b (vspec_of hlb hb)
  rw [e, h2] at h1
  omega
theorem EditsChain_is (text : ByteArray) (a b c : List S42) (h : text.size + (tot a + (tot b + tot c)) ≤ 1048576) : Ev (fun k => monikerlaw1_EditsChain.f k text a b c) true := by
  unfold monikerlaw1_EditsChain.f
  simp only [comp_f _ _ a b (by omega) (by omega), comp_f _ _ a [] (by omega) (by simp only [tot]; omega), comp_f _ _ [] a (by simp only [tot]; omega) (by omega), Option.bind_some]
  refine (Apply_is text a (by omega)).bind ?_
  unfold Apspec
  have hn : text.size ≤ 4611686018427387904 := by omega
  by_cases h1 : vspec text.size a = 0
  · simp only [if_pos h1, if_true]
    obtain ⟨la, ca⟩ := vspec_zero h1
    have hS := ap_size text a h1
    have hle := ap_le text a h1
    obtain ⟨s, hs⟩ : ∃ s, apGo text 0 a = s := ⟨_, rfl⟩
    rw [hs] at hS hle
    have hsn : s.size ≤ 4611686018427387904 := by omega
    have hv0 : ∀ n : Int, vspec n ([] : List S42) = 0 := fun n => vspec_of (Nat.zero_le _) trivial
    have n1 : compSpec text.size a [] = (a, 0) := by
      rw [compSpec_good text.size hn a [] h1 s.size hS hsn, (compL_nil text.size a ca).1, if_pos (hv0 _), if_neg (by omega)]
    have n2 : compSpec text.size [] a = (a, 0) := by
      rw [compSpec_good text.size hn [] a (hv0 _) text.size (by simp [sumG]) hn, (compL_nil text.size a ca).2, if_pos h1, if_neg (by omega)]
    simp only [n1, n2, if_true, hs]
    refine (same_is a (by omega)).bind ?_
    simp only [if_true]
    refine (same_is a (by omega)).bind ?_
    simp only [Bool.not_true]
    refine Ev.step (f := fun k => (edits_Apply.f k s b).bind fun bt520 => ((edits_Compose.f k (text.size : Int) a b).bind fun bt522 => (if bt520.2 = 0 then (monikerlaw1_EditsChain.j1 k text a b c s bt520.2 bt522.2 bt520.1 bt522.1 (bt522.2 != 0)) else (monikerlaw1_EditsChain.j1 k text a b c s bt520.2 bt522.2 bt520.1 bt522.1 true)))) (fun k => by
      simp only [monikerlaw1_EditsChain.j0]
      rw [if_neg (by simp)]) ?_
    refine (Apply_is s b (by omega)).bind ?_
    simp only [comp_f _ _ a b (by omega) (by omega), Option.bind_some]
    unfold Apspec
    rw [compSpec_good text.size hn a b h1 s.size hS hsn]
    by_cases h2 : vspec s.size b = 0
    · obtain ⟨lb, cb⟩ := vspec_zero h2
      have hT := ap_size s b h2
      have hlt := ap_le s b h2
      have hC := compL_chain text.size a b ca s.size hS cb
      have hCt := compL_tot text.size a b ca s.size hS cb
      have hCl := compL_len text.size a b ca s.size hS cb
      have hap := compL_ap text a b ca (by rw [hs]; exact cb) (by rw [hs]; exact hS)
      rw [hs] at hap
      have hsum : (text.size : Int) + sumG (compL text.size a b) = s.size + sumG b ∨ (compL text.size a b).length > 65536 := by
        by_cases hb : (compL text.size a b).length > 65536
        · exact Or.inr hb
        · have := sumG_of_ap text a b h1 (by omega) (by rw [hs]; exact cb) lb
          rw [hs] at this
          exact Or.inl this
      simp only [if_pos h2, if_true]
      obtain ⟨ab, hab⟩ : ∃ ab, compL text.size a b = ab := ⟨_, rfl⟩
      rw [hab] at hC hCt hCl hap hsum ⊢
      by_cases h3 : ab.length > 65536
      · simp only [if_pos h3]
        refine Ev.step (f := fun _ => some true) (fun k => ?_) (Ev.now _)
        simp only [monikerlaw1_EditsChain.j1]
        rw [if_pos (by decide), if_neg (by decide), if_pos trivial, if_pos trivial, w64 (by omega) (by omega), decide_eq_true (by omega)]
      · simp only [if_neg h3]
        have hv : vspec text.size ab = 0 := vspec_of (by omega) hC
        have hsum' := hsum.resolve_right h3
        have hA := Apply_is text ab (by omega)
        unfold Apspec at hA
        rw [if_pos hv, hap] at hA
        refine Ev.step (f := fun k => (edits_Apply.f k text ab).bind fun bt526 => (if bt526.2 = 0 then (if bt526.1.toList = (apGo s 0 b).toList then (monikerlaw1_EditsChain.j2 k text a b c s ab (decide ((ab.length : Int) > (wrap64 ((a.length : Int) + (b.length : Int)))))) else (monikerlaw1_EditsChain.j2 k text a b c s ab true)) else (monikerlaw1_EditsChain.j2 k text a b c s ab true))) (fun k => by
          simp only [monikerlaw1_EditsChain.j1]
          rw [if_neg (by simp)]) ?_
        refine hA.bind ?_
        simp only [if_true]
        rw [w64 (by omega) (by omega), decide_eq_false (by omega)]
        have f1 := fun k => comp_f k s.size b c (by omega) (by omega)
        rw [compSpec_good s.size hsn b c h2 (apGo s 0 b).size hT (by omega)] at f1
        have f2 := fun k => comp_f k text.size ab c (by omega) (by omega)
        rw [compSpec_good text.size hn ab c hv (apGo s 0 b).size (by rw [hsum', ← hT]) (by omega)] at f2
        by_cases h4 : vspec (apGo s 0 b).size c = 0
        · obtain ⟨lc, cc⟩ := vspec_zero h4
          have hD := compL_chain s.size b c cb (apGo s 0 b).size hT cc
          have hDt := compL_tot s.size b c cb (apGo s 0 b).size hT cc
          have hE := compL_assoc text.size a b c ca s.size hS cb (apGo s 0 b).size hT cc
          rw [hab] at hE
          rw [if_pos h4] at f1 f2
          by_cases h5 : (compL s.size b c).length > 65536
          · rw [if_pos h5] at f1
            refine Ev.step (f := fun _ => some true) (fun k => ?_) (Ev.now _)
            simp only [monikerlaw1_EditsChain.j2]
            rw [if_neg (by simp), f1]
            simp only [Option.bind_some]
            rw [if_neg (by decide)]
          · rw [if_neg h5] at f1
            have f3 := fun k => comp_f k text.size a (compL s.size b c) (by omega) (by omega)
            rw [compSpec_good text.size hn a _ h1 s.size hS hsn, if_pos (vspec_of (by omega) hD), ← hE] at f3
            obtain ⟨R, hR⟩ : ∃ R, (if (compL text.size ab c).length > 65536 then (([] : List S42), (2 : Int)) else (compL text.size ab c, 0)) = R := ⟨_, rfl⟩
            rw [hR] at f2 f3
            have hRl : R.1.length ≤ 9223372036854775807 := by
              rw [← hR]
              split
              · simp
              · simp only; omega
            refine Ev.step (f := fun k => (monikerplain_SameEdits.f k R.1 R.1).bind fun t540 => some t540) (fun k => ?_) ((same_is R.1 hRl).bind (Ev.now _))
            simp only [monikerlaw1_EditsChain.j2]
            rw [if_neg (by simp), f1]
            simp only [Option.bind_some, if_true]
            rw [f2, f3]
            simp only [Option.bind_some, if_true]
        · rw [if_neg h4] at f1
          refine Ev.step (f := fun _ => some true) (fun k => ?_) (Ev.now _)
          simp only [monikerlaw1_EditsChain.j2]
          rw [if_neg (by simp), f1]
          simp only [Option.bind_some]
          rw [if_neg h4]
    · simp only [if_neg h2]
      refine Ev.step (f := fun _ => some true) (fun k => ?_) (Ev.now _)
      simp only [monikerlaw1_EditsChain.j1]
      rw [if_pos trivial, if_pos trivial]
  · simp only [if_neg h1]
    rw [compSpec_bad text.size hn a b h1]
    simp only [if_true]
    exact Ev.now _
end Go.Proofs.Ytaihajmdngoeiaa.Q

namespace Go.Proofs.Ytaihajmdngoeiaa.O
open Go.ChangeShapes Go.WideShapes Go.Deep Go.Proofs.YtaihajmdngoeiaaW.PrintWords

theorem mem_weightsAll {H : Type} {P : Program} {e : TypeId} : ∀ {l : List (DataW H)} {y : DataW H}, y ∈ l → ∀ n ∈ y.weights P e, n ∈ DataW.weightsAll P e l
  | y0 :: l, y, h, n, hn => by
    simp only [DataW.weightsAll, List.mem_append]
    rcases List.mem_cons.1 h with rfl | h
    · exact .inl hn
    · exact .inr (mem_weightsAll h n hn)

end Go.Proofs.Ytaihajmdngoeiaa.O

namespace Go.Proofs.Ytaihajmdngoeiaa.O
open Go.ChangeShapes Go.WideShapes Go.Deep Go.Proofs.YtaihajmdngoeiaaW.PrintWords Go.Proofs.Ytaihajmdngoeiaa
set_option linter.unusedVariables false

section
variable {H : Type} {enc : TypeId × Value → H}
/-- The wrap of a row with a condition of its specification's own, the reach handed on. -/
theorem returns_upto {a : Assume} {C : Checked} {os : Os} {f : FuncId} {fn : Func} {s : OpenSpec} {k : (H : Type) → List (DataW H) → Bool} (hk : s.cond = some k) {F : Stop.Interp} {conds : List PathCond} {apart fresh handsOn again : Bool}
    (own : ownKnob C.prog.godebug = none) (started : os.Started) (noInit : C.prog.inits.idxOf? f = none) (hfn : C.prog.funcs[f]? = some fn)
    (witness : ∃ (w : World) (tape : Tape) (i : Input), w.os = os ∧ (w.forCall tape i).Shaped C.prog ∧ i.vars = [] ∧ Input.okWide C.prog (w.forCall tape i) .any w.heap.size f i ∧
      s.pre6 enc C.prog fn conds apart (w.forCall tape i).memory i.args ∧ a.holds C.prog (lone (Frame.enter C.prog f i.args .normal) [] (w.forCall tape i)))
    (contract : ∀ (W : World) (base : Nat) (args : Array Value) (ds gs : List (DataW H)) (before : List MemPlace),
      (∀ (j : Nat) t v, fn.params[j]? = some t → args[j]? = some v → Value.okWide C.prog W .any base t v) →
      DataW.Whole enc C.prog fn.params.toList s.vars apart W args.toList ds gs before →
      conds.all (PathCond.test C.prog ⟨fn.params.toList, ds, s.bare.plain.varTypes C.prog, gs⟩) = true → k H (ds ++ gs) = true →
      (DataW.weightsEach C.prog (fn.params.toList ++ s.bare.plain.varTypes C.prog) (ds ++ gs)).all (· ≤ reachBytes) = true →
      a.holds C.prog (lone (Frame.enter C.prog f args .normal) [] W) →
      Calls C.prog f args W fun e W' => ∃ v, e = .returned v ∧ (s.at F).post enc C.prog fn apart fresh handsOn again W args v W') :
    ReturnsInHanded a C os f .any (s.pre6 enc C.prog fn conds apart) ((s.at F).post enc C.prog fn apart fresh handsOn again) := by
  refine returnsInHanded_of_calls own started noInit witness ?_
  intro w tape i _ _ _ hok hpre hholds
  obtain ⟨_, _, _, fn', hfn', _, _, _, _, hval⟩ := hok
  have e : fn' = fn := Option.some.inj (hfn'.symm.trans hfn)
  subst e
  obtain ⟨ds, gs, before, hw, hc, hkk⟩ := (OpenSpec.pre_some hk conds apart _ _).1 hpre.1
  have hw' := DataW.Whole.of_heap (w' := w.forCall tape i) (by rfl) hw
  have hz := hpre.2
  refine (contract (w.forCall tape i) w.heap.size i.args ds gs before hval hw' hc hkk (hz.weights hw) hholds).mono fun e W' ⟨v, he, hp⟩ => ?_
  subst he
  exact ChangeSpec.post_blind hp
end

theorem witnessU {H : Type} {enc : TypeId × Value → H} {C : Checked} {os : Os} {f : FuncId} {fn : Func} {s : OpenSpec} {k : (H : Type) → List (DataW H) → Bool} (hk : s.cond = some k) {conds : List PathCond} {apart : Bool} (modest : Bool) (i : Input) (fuel : Nat)
    (hv : (World.plainHolding C.prog os i).variablesB C.prog = true)
    (hr : ((World.plainHolding C.prog os i).heap.toList.drop C.prog.globals.size).take ((begin C.prog (fun _ _ => 0) default).world.heap.size - C.prog.globals.size) =
      (begin C.prog (fun _ _ => 0) default).world.heap.toList.drop C.prog.globals.size)
    (hok : Input.okWideB C.prog (World.plainHolding C.prog os i) f ⟨#[], i.args, []⟩ = true)
    (hB : (match DataW.whole enc C.prog (World.plainHolding C.prog os i).memory fn.params.toList s.vars apart i.args.toList fuel with
      | some x => conds.all (PathCond.test C.prog ⟨fn.params.toList, x.1, s.bare.plain.varTypes C.prog, x.2.1⟩) && k H (x.1 ++ x.2.1)
      | none => false) = true)
    (hsz : s.bare.sizedB enc C.prog fn apart (World.plainHolding C.prog os i).memory i.args fuel = true) :
    ∃ (w : World) (tape : Tape) (i : Input), w.os = os ∧ (w.forCall tape i).Shaped C.prog ∧ i.vars = [] ∧ Input.okWide C.prog (w.forCall tape i) .any w.heap.size f i ∧
      s.pre6 enc C.prog fn conds apart (w.forCall tape i).memory i.args ∧ ({ modest := modest } : Assume).holds C.prog (lone (Frame.enter C.prog f i.args .normal) [] (w.forCall tape i)) := by
  cases hx : DataW.whole enc C.prog (World.plainHolding C.prog os i).memory fn.params.toList s.vars apart i.args.toList fuel with
  | none => rw [hx] at hB; cases hB
  | some x =>
    rw [hx] at hB
    have h := (Bool.and_eq_true _ _).mp hB
    exact OpenSpec.witness hk modest i fuel hv hr hok hx h.1 h.2 hsz

/-- As Opens; and the value is no heavier than the reading's bulk. -/
def OpensU {α : Type} (P : Program) (t : TypeId) (d : Kd α) (B : α → Prop) (m : α → Nat) : Prop :=
  ∀ {H : Type} {enc : TypeId × Value → H} {w : World} {base : Nat} {spare : Nat → Bool} {held : Bool} {fuel : Nat} {cs : List Value} {x : DataW H × List MemPlace},
    DataW.trod enc P w base spare held fuel t cs = some x → (∀ n ∈ x.1.weights P t, n ≤ reachBytes) → ∃ a, d.K w a cs ∧ B a ∧ m a ≤ Rows.uptoBulk x.1

theorem opens_intU {P : Program} {t : TypeId} {k : IntKind} (hu : P.underlying t = some (.int k)) : OpensU P t (Kd.int k) (fun n => (Lit.int k n).wf = true) (fun _ => 1) := fun h _ => by
  obtain ⟨n, rfl, rfl, hw⟩ := DataW.trod_int hu h
  exact ⟨n, rfl, hw, by simp [Rows.uptoBulk]⟩
theorem opens_stringU {P : Program} {t : TypeId} (hu : P.underlying t = some .string) : OpensU P t Kd.string (fun s => s.size ≤ 140737488351232) (fun s => s.size + 1) := fun h hw => by
  obtain ⟨s, rfl, rfl, _⟩ := DataW.trod_string hu h
  have e : s.data.toList.length = s.size := by rw [Array.length_toList]; rfl
  refine ⟨s, rfl, ?_, by simp only [Rows.uptoBulk]; omega⟩
  have := hw s.data.toList.length (by simp [DataW.weights])
  rw [e] at this
  exact this

theorem bulkAll_snoc {H : Type} : ∀ (l : List (DataW H)) (d : DataW H), Rows.uptoBulkAll (l ++ [d]) = Rows.uptoBulkAll l + Rows.uptoBulk d
  | [], d => by simp [Rows.uptoBulkAll]
  | x :: l, d => by simp only [List.cons_append, Rows.uptoBulkAll, bulkAll_snoc l d]; omega
def sumM {α : Type} (m : α → Nat) : List α → Nat
  | [] => 0
  | a :: l => m a + sumM m l
theorem sumM_snoc {α : Type} (m : α → Nat) : ∀ (l : List α) (a : α), sumM m (l ++ [a]) = sumM m l + m a
  | [], a => by simp [sumM]
  | x :: l, a => by simp only [List.cons_append, sumM, sumM_snoc m l a]; omega

theorem open_rowU {α : Type} {P : Program} {t e : TypeId} {d : Kd α} {B : α → Prop} {M : α → Nat} (hu : P.underlying t = some (.slice e)) (he : OpensU P e d B M) (hc : P.cellsOf e = d.sz)
    {H : Type} {enc : TypeId × Value → H} {w : World} {base : Nat} {spare : Nat → Bool} {held : Bool} {fuel : Nat} {A : Option Addr} {n c : Nat} {x : DataW H × List MemPlace}
    (h : DataW.trod enc P w base spare held fuel t [.slice A n c] = some x) (hw : ∀ n ∈ x.1.weights P t, n ≤ reachBytes) :
    ∃ xs : List α, xs.length = n ∧ d.C w A n xs ∧ n ≤ c ∧ (A = none → c = 0) ∧ (∀ a ∈ xs, B a) ∧ n * P.bytesOf e ≤ 140737488351232 ∧ sumM M xs + 1 ≤ Rows.uptoBulk x.1 := by
  rcases open_slice hu h with ⟨hcs, rfl⟩ | ⟨a, len, cap, m, fu, D, Pl, hcs, hb, hl, hm, hmm, rfl, hel⟩
  · simp only [List.cons.injEq, Value.slice.injEq, and_true] at hcs
    obtain ⟨rfl, rfl, rfl⟩ := hcs
    exact ⟨[], rfl, ⟨rfl, by omega, fun h0 => absurd h0 (by omega)⟩, by omega, fun _ => rfl, (fun a ha => by cases ha), by omega, by simp [sumM, Rows.uptoBulk]⟩
  · simp only [List.cons.injEq, Value.slice.injEq, and_true] at hcs
    obtain ⟨rfl, rfl, rfl⟩ := hcs
    have hlm : n ≤ m := by rw [hmm]; split <;> omega
    have hex : ∀ i, i < n → ∃ v : α, (∃ cs, d.K w v cs ∧ ∀ j u, cs[j]? = some u → w.cell? (a.add (i * d.sz + j)) = some u) ∧ B v ∧ M v ≤ Rows.uptoBulk (D i) := by
      intro i hi
      obtain ⟨cs', hc1, hc2⟩ := hel i (by omega)
      have hmem : D i ∈ (List.range n).map D := List.mem_map.2 ⟨i, List.mem_range.2 hi, rfl⟩
      obtain ⟨v, hv, hB, hM⟩ := he hc2 (fun q hq => hw q (by
        simp only [DataW.weights, hu, List.mem_cons, List.mem_append]
        exact .inr (.inl (mem_weightsAll hmem q hq))))
      refine ⟨v, ⟨cs', hv, fun j u hj => ?_⟩, hB, hM⟩
      obtain ⟨_, hcl, hat⟩ := World.cells?_some hc1
      have hjl : j < cs'.length := (List.getElem?_eq_some_iff.1 hj).1
      have := hat j (by omega)
      rw [hc] at this
      rw [← Go.Deep.add_add, this, hj]
    have key : ∀ k, k ≤ n → ∃ xs : List α, xs.length = k ∧ (∀ j p, xs[j]? = some p → (∃ cs, cs.length = d.sz ∧ d.K w p cs ∧ ∀ i u, cs[i]? = some u → w.cell? (a.add (j * d.sz + i)) = some u) ∧ B p) ∧ sumM M xs ≤ Rows.uptoBulkAll ((List.range k).map D) := by
      intro k
      induction k with
      | zero => intro _; exact ⟨[], rfl, fun j p hj => by simp at hj, by simp [sumM]⟩
      | succ k ih =>
        intro hk
        obtain ⟨xs, hx, hxs, hsum⟩ := ih (by omega)
        obtain ⟨v, ⟨cs, hv, hcell⟩, hB, hM⟩ := hex k (by omega)
        refine ⟨xs ++ [v], by simp [hx], fun j p hj => ?_, ?_⟩
        · rcases Nat.lt_or_ge j k with hjk | hjk
          · rw [List.getElem?_append_left (by omega)] at hj
            exact hxs j p hj
          · have hjl := (List.getElem?_eq_some_iff.1 hj).1
            rw [List.length_append, List.length_singleton] at hjl
            obtain rfl : j = k := by omega
            have hp : v = p := by simpa [List.getElem?_append_right, hx] using hj
            subst hp
            exact ⟨⟨cs, d.K_len hv, hv, hcell⟩, hB⟩
        · rw [sumM_snoc, List.range_succ, List.map_append, List.map_cons, List.map_nil, bulkAll_snoc]
          omega
    obtain ⟨xs, hx, hxs, hsum⟩ := key n (Nat.le_refl _)
    refine ⟨xs, hx, ⟨hx, by have : maxLen = 9223372036854775807 := rfl; omega, fun _ => ⟨a, rfl, fun j p hj => (hxs j p hj).1⟩⟩, hl, (fun h => by cases h), fun v hv => ?_, ?_, ?_⟩
    · obtain ⟨j, hj, rfl⟩ := List.mem_iff_getElem.1 hv
      exact (hxs j _ (List.getElem?_eq_getElem hj)).2
    · have := hw ((((List.range n).map D).length + ((List.range (m - n)).map fun j => D (n + j)).length) * P.bytesOf e) (by
        simp only [DataW.weights, hu]
        exact List.mem_cons_self)
      simp only [List.length_map, List.length_range] at this
      have h2 : n * P.bytesOf e ≤ (n + (m - n)) * P.bytesOf e := Nat.mul_le_mul_right _ (by omega)
      have h3 : reachBytes = 140737488351232 := rfl
      omega
    · simp only [Rows.uptoBulk]
      omega
end Go.Proofs.Ytaihajmdngoeiaa.O

namespace Go.Proofs.Ytaihajmdngoeiaa.H
open Go.ChangeShapes Go.WideShapes Go.Deep Go.Proofs.YtaihajmdngoeiaaW.PrintWords Go.Proofs.Ytaihajmdngoeiaa.F

def B42 (x : S42) : Prop := (Lit.int .i64 x.f0).wf = true ∧ (Lit.int .i64 x.f1).wf = true ∧ x.f2.size ≤ 140737488351232
theorem cells42 : Try.prog.cellsOf 42 = 3 := by kernel_rfl
theorem cells3 : Try.prog.cellsOf 3 = 1 := by kernel_rfl
theorem cells9 : Try.prog.cellsOf 9 = 1 := by kernel_rfl
theorem bytes42 : Try.prog.bytesOf 42 = 32 := by kernel_rfl
end Go.Proofs.Ytaihajmdngoeiaa.H

namespace Go.Proofs.Ytaihajmdngoeiaa.H
open Go.ChangeShapes Go.WideShapes Go.Deep Go.Proofs.YtaihajmdngoeiaaW.PrintWords Go.Proofs.Ytaihajmdngoeiaa.F Go.Proofs.Ytaihajmdngoeiaa
theorem opens42U : O.OpensU Try.prog 42 k42 B42 (fun x => x.f2.size + 4) := by
  intro H enc w base spare held fuel cs x h hw
  obtain ⟨ys, n, rfl, rfl, hlen, hyl, hf⟩ := DataW.trod_struct Try.underlying42 h
  rw [cells42] at hlen
  obtain ⟨c0, c1, c2, rfl⟩ : ∃ a b c, cs = [a, b, c] := by
    match cs, hlen with
    | [a, b, c], _ => exact ⟨a, b, c, rfl⟩
  obtain ⟨y0, y1, y2, rfl⟩ : ∃ a b c, ys = [a, b, c] := by
    match ys, hyl with
    | [a, b, c], _ => exact ⟨a, b, c, rfl⟩
  have f0 := hf 0 { name := "From", type := 3, offset := 0, embedded := false, tag := "", pkgPath := "", byteOffset := 0 } rfl
  have f1 := hf 1 { name := "To", type := 3, offset := 1, embedded := false, tag := "", pkgPath := "", byteOffset := 8 } rfl
  have f2 := hf 2 { name := "Text", type := 9, offset := 2, embedded := false, tag := "", pkgPath := "", byteOffset := 16 } rfl
  simp only [cells3, cells9, List.drop_zero, List.drop_succ_cons, List.take_succ_cons, List.take_zero, List.getElem?_cons_zero, List.getElem?_cons_succ] at f0 f1 f2
  have hq : ∀ (j : Nat) (t : TypeId) (d : DataW H), [3, 3, 9][j]? = some t → [y0.1, y1.1, y2.1][j]? = some d → ∀ n ∈ d.weights Try.prog t, n ≤ reachBytes := by
    intro j t d h1 h2 q hq
    refine hw q ?_
    simp only [DataW.weights, Try.underlying42]
    exact DataW.weights_mem_each (j := j) h1 h2 q hq
  obtain ⟨a0, e0, w0, m0⟩ := O.opens_intU Try.underlying3 f0 (hq 0 _ _ rfl rfl)
  obtain rfl : c0 = .int .i64 a0 := (List.cons.inj e0).1
  obtain ⟨a1, e1, w1, m1⟩ := O.opens_intU Try.underlying3 f1 (hq 1 _ _ rfl rfl)
  obtain rfl : c1 = .int .i64 a1 := (List.cons.inj e1).1
  obtain ⟨a2, e2, w2, m2⟩ := O.opens_stringU Try.underlying9 f2 (hq 2 _ _ rfl rfl)
  obtain rfl : c2 = .string a2 := (List.cons.inj e2).1
  refine ⟨⟨a0, a1, a2⟩, k42_mk w _, ⟨w0, w1, w2⟩, ?_⟩
  show a2.size + 4 ≤ Rows.uptoBulk (DataW.agg [y0.1, y1.1, y2.1])
  simp only [Rows.uptoBulk, Rows.uptoBulkAll]
  simp only at m0 m1 m2
  generalize Rows.uptoBulk y0.1 = z0 at m0 ⊢
  generalize Rows.uptoBulk y1.1 = z1 at m1 ⊢
  generalize Rows.uptoBulk y2.1 = z2 at m2 ⊢
  omega
end Go.Proofs.Ytaihajmdngoeiaa.H

namespace Go.Proofs.Ytaihajmdngoeiaa.L
open Go.RowKit Go.Proofs.YtaihajmdngoeiaaW.PrintWords Go.Proofs.YtaihajmdngoeiaaW.PrintLast Go.Proofs.YtaihajmdngoeiaaW.PrintMore
open Go.Proofs.Ytaihajmdngoeiaa.F Go.Proofs.Ytaihajmdngoeiaa.H
set_option linter.unusedVariables false
set_option linter.unusedSimpArgs false

theorem tot_wtH : ∀ (l : List S42), Q.tot l + 4 * l.length = O.sumM (fun x => x.f2.size + 4) l
  | [] => rfl
  | x :: l => by
    have := tot_wtH l
    simp only [Q.tot, O.sumM, List.length_cons]
    omega
theorem chain_walk (a0 : ByteArray) (A1 : Option Addr) (c1 : Nat) (l1 : List S42) (A2 : Option Addr) (c2 : Nat) (l2 : List S42) (A3 : Option Addr) (c3 : Nat) (l3 : List S42) (w : World) (hs : a0.size ≤ 140737488351232)
    (hr1 : Kd.C k42 w A1 l1.length l1) (hc1 : l1.length ≤ c1) (hn1 : A1 = none → c1 = 0) (hB1 : ∀ x ∈ l1, B42 x) (hb1 : l1.length * 32 ≤ 140737488351232)
    (hr2 : Kd.C k42 w A2 l2.length l2) (hc2 : l2.length ≤ c2) (hn2 : A2 = none → c2 = 0) (hB2 : ∀ x ∈ l2, B42 x) (hb2 : l2.length * 32 ≤ 140737488351232)
    (hr3 : Kd.C k42 w A3 l3.length l3) (hc3 : l3.length ≤ c3) (hn3 : A3 = none → c3 = 0) (hB3 : ∀ x ∈ l3, B42 x) (hb3 : l3.length * 32 ≤ 140737488351232)
    (hu : (a0.size + 1) + ((O.sumM (fun x => x.f2.size + 4) l1 + 1) + ((O.sumM (fun x => x.f2.size + 4) l2 + 1) + (O.sumM (fun x => x.f2.size + 4) l3 + 1))) ≤ 1048576) :
    Calls Try.prog 13 #[.string a0, .slice A1 l1.length c1, .slice A2 l2.length c2, .slice A3 l3.length c3] w fun e w' => e = .returned (.bool true) ∧ Below w.heap.size w w' := by
  rw [← tot_wtH, ← tot_wtH, ← tot_wtH] at hu
  obtain ⟨k, hk⟩ := (Q.EditsChain_is a0 l1 l2 l3 (by omega)).rounds
  exact monikerlaw1_EditsChain.calls k a0 A1 c1 l1 A2 c2 l2 A3 c3 l3 true w hr1 hc1 hr2 hc2 hr3 hc3 hk
end Go.Proofs.Ytaihajmdngoeiaa.L


namespace Go.Proofs.Ytaihajmdngoeiaa.editsChain
open Go.ChangeShapes Go.WideShapes Go.ChangeAt Go.RowKit Go.Proofs.Ytaihajmdngoeiaa
open Go.ChangeMaps (open_string shut_string)
set_option linter.unusedVariables false
theorem own : ownKnob Try.prog.godebug = none := by kernel_rfl
theorem laidOut : laidOutB Try.prog = true := by kernel_rfl
set_option maxRecDepth 100000 in
theorem lifted (os : Os) (started : os.Started) (H : Type) (enc : TypeId × Value → H) (F : Stop.Interp) :
    ReturnsInHanded {} Try.checked os 13 .any ((Rows.OpenSpec.upto Rows.editsChainSpec).pre6 enc Try.prog Try.f13 Rows.editsChainUptoRow.domain false) (((Rows.OpenSpec.upto Rows.editsChainSpec).at F).post enc Try.prog Try.f13 false true false false) := by
  refine O.returns_upto (k := Rows.uptoSmall) (s := Rows.OpenSpec.upto Rows.editsChainSpec) rfl (C := Try.checked) own started (by kernel_rfl) Try.func13
    (O.witnessU (enc := enc) (C := Try.checked) (s := Rows.OpenSpec.upto Rows.editsChainSpec) rfl false ⟨#[], #[.string ByteArray.empty, .slice none 0 0, .slice none 0 0, .slice none 0 0], []⟩ 8 (by kernel_rfl) (by kernel_rfl) (by kernel_rfl) (by kernel_rfl) (by kernel_rfl)) ?_
  intro W base args ds gs before hval0 hW hcnd hk0 hsz0 _
  have hsz : (DataW.weightsEach Try.prog (Try.f13.params.toList ++ Rows.editsChainSpec.plain.varTypes Try.prog) (ds ++ gs)).all (· ≤ reachBytes) = true := hsz0
  have hval : ∀ (j : Nat) t v, Try.f13.params[j]? = some t → args[j]? = some v → Value.okWide Try.prog W .any base t v := hval0
  have hW' := hW
  obtain ⟨p, q, hA0, hV, rfl, hfz, hnd⟩ := hW
  have hA : DataW.TrodAll enc Try.prog W 0 (fun _ => true) true Try.f13.params.toList args.toList ds p := hA0
  rw [Try.params13] at hA hval hsz
  obtain ⟨v0, vs0, d0, ds0, p0, q0, hargs, rfl, rfl, h0, r0⟩ := trodAll_cons hA
  obtain ⟨v1, vs1, d1, ds1, p1, q1, rfl, rfl, rfl, h1, r1⟩ := trodAll_cons r0
  obtain ⟨v2, vs2, d2, ds2, p2, q2, rfl, rfl, rfl, h2, r2⟩ := trodAll_cons r1
  obtain ⟨v3, vs3, d3, ds3, p3, q3, rfl, rfl, rfl, h3, r3⟩ := trodAll_cons r2
  obtain ⟨rfl, rfl, rfl⟩ := trodAll_nil r3
  obtain rfl : args = #[v0, v1, v2, v3] := by cases args; simp_all
  obtain ⟨rfl, rfl⟩ := trodVars_none hV
  have hbulk : Rows.uptoBulkAll ([d0, d1, d2, d3] ++ []) ≤ 1048576 := of_decide_eq_true hk0
  simp only [List.append_nil, Rows.uptoBulkAll, Nat.add_zero] at hbulk
  obtain ⟨a0, rfl, rfl, rfl, y0⟩ := open_string Try.underlying9 (hval 0 9 v0 rfl rfl) h0
  have w0 : a0.size ≤ 140737488351232 := by
    have z := sized_string hsz (j := 0) (t := 9) rfl rfl
    rw [Array.length_toList] at z
    exact z
  have hm0 : a0.size + 1 ≤ Rows.uptoBulk (DataW.lit (H := H) (.string a0.data.toList)) := by simp only [Rows.uptoBulk]; rw [Array.length_toList]; exact Nat.le_refl _
  obtain ⟨a1, len1, cap1, rfl⟩ := okWide_slice Try.underlying22 (hval 1 22 v1 rfl rfl)
  have k1 := h1
  have lt1 : ∀ x ∈ p1, x.block < W.heap.size := by obtain ⟨m, hm⟩ := k1; exact DataW.trod_lt m _ _ _ hm
  obtain ⟨fu1, hf1⟩ := h1
  have hg1 : DataW.trod enc Try.prog W 0 (fun _ => true) true fu1 22 [.slice a1 len1 cap1] = some (d1, p1) := by simpa [Value.cells] using hf1
  have hq1 : ∀ n ∈ DataW.weights Try.prog 22 d1, n ≤ reachBytes := fun n hn => of_decide_eq_true (List.all_eq_true.1 hsz n (DataW.weights_mem_each (j := 1) rfl rfl n hn))
  obtain ⟨l1, rfl, hC1, hc1, hn1, hB1, hb1, hm1⟩ := O.open_rowU Try.underlying22 Go.Proofs.Ytaihajmdngoeiaa.H.opens42U Go.Proofs.Ytaihajmdngoeiaa.H.cells42 hg1 hq1
  rw [Go.Proofs.Ytaihajmdngoeiaa.H.bytes42] at hb1
  obtain ⟨a2, len2, cap2, rfl⟩ := okWide_slice Try.underlying22 (hval 2 22 v2 rfl rfl)
  have k2 := h2
  have lt2 : ∀ x ∈ p2, x.block < W.heap.size := by obtain ⟨m, hm⟩ := k2; exact DataW.trod_lt m _ _ _ hm
  obtain ⟨fu2, hf2⟩ := h2
  have hg2 : DataW.trod enc Try.prog W 0 (fun _ => true) true fu2 22 [.slice a2 len2 cap2] = some (d2, p2) := by simpa [Value.cells] using hf2
  have hq2 : ∀ n ∈ DataW.weights Try.prog 22 d2, n ≤ reachBytes := fun n hn => of_decide_eq_true (List.all_eq_true.1 hsz n (DataW.weights_mem_each (j := 2) rfl rfl n hn))
  obtain ⟨l2, rfl, hC2, hc2, hn2, hB2, hb2, hm2⟩ := O.open_rowU Try.underlying22 Go.Proofs.Ytaihajmdngoeiaa.H.opens42U Go.Proofs.Ytaihajmdngoeiaa.H.cells42 hg2 hq2
  rw [Go.Proofs.Ytaihajmdngoeiaa.H.bytes42] at hb2
  obtain ⟨a3, len3, cap3, rfl⟩ := okWide_slice Try.underlying22 (hval 3 22 v3 rfl rfl)
  have k3 := h3
  have lt3 : ∀ x ∈ p3, x.block < W.heap.size := by obtain ⟨m, hm⟩ := k3; exact DataW.trod_lt m _ _ _ hm
  obtain ⟨fu3, hf3⟩ := h3
  have hg3 : DataW.trod enc Try.prog W 0 (fun _ => true) true fu3 22 [.slice a3 len3 cap3] = some (d3, p3) := by simpa [Value.cells] using hf3
  have hq3 : ∀ n ∈ DataW.weights Try.prog 22 d3, n ≤ reachBytes := fun n hn => of_decide_eq_true (List.all_eq_true.1 hsz n (DataW.weights_mem_each (j := 3) rfl rfl n hn))
  obtain ⟨l3, rfl, hC3, hc3, hn3, hB3, hb3, hm3⟩ := O.open_rowU Try.underlying22 Go.Proofs.Ytaihajmdngoeiaa.H.opens42U Go.Proofs.Ytaihajmdngoeiaa.H.cells42 hg3 hq3
  rw [Go.Proofs.Ytaihajmdngoeiaa.H.bytes42] at hb3
  clear hA0 hval0 hsz0 hsz
  refine (L.chain_walk a0 a1 cap1 l1 a2 cap2 l2 a3 cap3 l3 W w0 hC1 hc1 hn1 hB1 hb1 hC2 hc2 hn2 hB2 hb2 hC3 hc3 hn3 hB3 hb3 (Nat.le_trans (Nat.add_le_add hm0 (Nat.add_le_add hm1 (Nat.add_le_add hm2 hm3))) hbulk)).mono fun e W' ⟨he, bel⟩ => ?_
  subst he
  exact ⟨_, rfl, _, _, _, [], _, [], hW', trodAll_mk1 (shut_bool Try.underlying4 _), (trodAll_cons_mk (shut_string Try.underlying9 y0) (trodAll_cons_mk (Below.trod laidOut (by kernel_rfl) (of_decide_eq_true (by kernel_rfl)) k1 bel lt1) (trodAll_cons_mk (Below.trod laidOut (by kernel_rfl) (of_decide_eq_true (by kernel_rfl)) k2 bel lt2) (trodAll_cons_mk (Below.trod laidOut (by kernel_rfl) (of_decide_eq_true (by kernel_rfl)) k3 bel lt3) trodAll_mk0)))), rfl, bel.frame _, fun h => by cases h⟩
theorem over : Rows.editsChainUptoRow.holds Try.pinned (Rows.OpenSpec.upto Rows.editsChainSpec) :=
  OpenClaim.holds_of_cond 13 Try.f13 rfl rfl rfl rfl rfl rfl rfl ⟨rfl, rfl, rfl, rfl, rfl⟩ rfl rfl rfl rfl rfl (by kernel_rfl) Try.func13 (by kernel_rfl)
    (of_decide_eq_true (by kernel_rfl)) (by unfold Func.isWrapper; first | (rw [if_pos (by decide +kernel)]; kernel_rfl) | (rw [if_neg (by decide +kernel)]; exact ⟨rfl, rfl⟩))
    (fun os started H enc _ F => lifted os started H enc F)
theorem proved : Rows.EditsChainUptoSaid := over
#print axioms proved
end Go.Proofs.Ytaihajmdngoeiaa.editsChain
namespace Go.Proofs.Ytaihajmdngoeiaa
/-- The row, under a short name, for the claim. -/
theorem editsChain_holds : Rows.EditsChainUptoSaid := editsChain.proved
end Go.Proofs.Ytaihajmdngoeiaa
