/- Texts of the proof of one law (Anew), part 2: functions printed as Lean functions with their walks, and what is proved of them. Conditions: those of each theorem. -/
import Derived.Test.YtaihajmdngoeiaaDoorZAnew1
import Derived.Shelf.Strconv.Atoi
import Derived.Shelf.Strconv.Itoa0
import Derived.Shelf.Strconv.Itoa1
import Derived.Shelf.LaysM
import Derived.Shelf.Strconv.Itoa2
import Derived.Shelf.Strconv.Itoa3
import Derived.Shelf.Strconv.AtoiErrFast
import Derived.Shelf.Strconv.ParseIntEmpty
import Derived.Shelf.Strconv.AtoiFail
import Derived.Shelf.Strconv.Clone
import Derived.Shelf.Strconv.SyntaxError
import Derived.Shelf.LaysC
import Derived.Shelf.Strconv.ToError
import Derived.Shelf.Strconv.Lower
import Derived.Shelf.Strconv.ParseUint10
import Derived.Shelf.Strconv.ParseUint10Empty
import Derived.Shelf.Strconv.ParseUint10Any
import Derived.Shelf.Strconv.ParseInt10
import Derived.Shelf.Strconv.AtoiLong
import Derived.Shelf.Strconv.AtoiInnerAll
import Derived.Shelf.Strconv.RangeError
import Derived.Shelf.Strconv.ToErrorRange
import Derived.Shelf.Strconv.AtoiAll
import Derived.Shelf.Strconv.AppendUint10
import Derived.Shelf.Strconv.AppendInt10
import Derived.Shelf.Strconv.AppendIntPublic10
import Derived.Test.YtaihajmdngoeiaaDoorProg
import Derived.Lib.ItoaLen
import Derived.Test.YtaihajmdngoeiaaDoorWMore
import Derived.Test.YtaihajmdngoeiaaDoorWNEv
import Derived.Test.YtaihajmdngoeiaaDoorWRepsOne
import Derived.Lib.AtoiErrMem
namespace Go.Proofs.YtaihajmdngoeiaaDoor.QE
open Go.RowKit Go.Proofs.YtaihajmdngoeiaaDoorW.PrintWords Go.Proofs.YtaihajmdngoeiaaDoorW.PrintLast Go.Proofs.YtaihajmdngoeiaaDoorW.PrintMore
open Go.Proofs.YtaihajmdngoeiaaDoor.F
set_option linter.unusedVariables false
set_option linter.unusedSimpArgs false
def edOf (e : S42) : Ed := ⟨e.f0, e.f1, e.f2.data.toList⟩
def toS (e : Ed) : S42 := ⟨e.a, e.b, ⟨e.t.toArray⟩⟩
theorem toS_edOf (e : S42) : toS (edOf e) = e := rfl
def doneC (l : List S86) (size : Int) : Int → List S42 → List S86
 | p, [] => keptS 0 p size l
 | p, e :: t => keptS 0 p e.f0 l ++ ⟨false, 0, 0, e.f2⟩ :: doneC l size e.f1 t
theorem sum_pos : ∀ l : List S86, (∀ r ∈ l, Rn r) → 0 ≤ sum_ l
 | [], _ => Int.le_refl _
 | r :: l, h => by
  have := rsz_pos (h r List.mem_cons_self)
  have := sum_pos l (fun x hx => h x (List.mem_cons_of_mem _ hx))
  simp only [sum_]
  omega
theorem kept_end (x y : Int) (hxy : x ≤ y) : ∀ (l : List S86) (p : Int) (f g : Bool), (∀ r ∈ l, Rn r) → p < x → p + sum_ l = y →
  sC (cells f (rAts (keptS p x y l))) = sC (cells f (cAts ((cells g (rAts l)).1.drop (x - p).toNat) ++ fAt (cells g (rAts l)).2))
 | [], p, f, g, _, h, hs => by
  simp only [sum_] at hs
  omega
 | r :: l, p, f, g, hR, hx, hs => by
  have hr := hR r List.mem_cons_self
  have hR' := fun z hz => hR z (List.mem_cons_of_mem r hz)
  have h0 := rsz_pos hr
  simp only [sum_] at hs
  by_cases h1 : p + rsz r < x
  ·rw [kept_skip x y r l p hr h1 hxy, rAts_cons]
   by_cases hz : rsz r = 0
   ·rw [rn_zero hr hz]
    simp only [List.cons_append, List.nil_append, cells]
    have := kept_end x y hxy l (p + rsz r) f true hR' h1 (by omega)
    rw [show (x - (p + rsz r)).toNat = (x - p).toNat by omega] at this
    exact this
   ·rw [cells_run g r _ hr (by omega)]
    have hlen := crow_len g r hr
    have := kept_end x y hxy l (p + rsz r) f false hR' h1 (by omega)
    rw [this]
    simp only
    rw [List.drop_append, @List.drop_eq_nil_of_le _ (crow g r) _ (by omega), List.nil_append, show (x - p).toNat - (crow g r).length = (x - (p + rsz r)).toNat by omega]
  ·have hz : 0 < rsz r := by omega
   rw [rAts_cons, cells_run g r _ hr hz]
   have hlen := crow_len g r hr
   have hal := kept_all x y l (p + rsz r) hR' (by omega) (by omega)
   have hsl := sum_pos l hR'
   simp only [keptS]
   rw [if_pos (by omega), if_neg (fun h => by omega), List.nil_append, show max (x - p) 0 = x - p by omega, hal]
   have hca := cells_again (rAts l) false false
   by_cases h2 : p + rsz r = x
   ·rw [if_neg (by omega), List.nil_append, List.drop_append, @List.drop_eq_nil_of_le _ (crow g r) _ (by omega), List.nil_append, show (x - p).toNat - (crow g r).length = 0 by omega, List.drop_zero]
    have := cells_again (rAts l) f false
    rw [Bool.or_false] at this
    rw [this]
   ·rw [List.drop_append_of_le_length (by omega), if_pos (by omega), show min (y - p) (rsz r) = rsz r by omega]
    have := piece_cells r hr (x - p) (rsz r) (by omega) (by omega) (Int.le_refl _) f g (rAts l) (cAts (cells false (rAts l)).1 ++ fAt (cells false (rAts l)).2) (by rw [hca]; rfl)
    rw [if_neg (by omega)] at this
    rw [rAts_append, rAts_cons]
    simp only [rAts, List.flatMap_nil, List.append_nil, List.append_assoc] at this ⊢
    rw [this]
    have hdl : ((crow g r).drop (x - p).toNat).length = (rsz r - (x - p)).toNat := by rw [List.length_drop]; omega
    rw [List.take_of_length_le (l := (crow g r).drop (x - p).toNat) (i := (rsz r - (x - p)).toNat) (by omega)]
    have e : ∀ (A B : List Cl), cAts (A ++ B) = cAts A ++ cAts B := fun A B => by simp [cAts]
    rw [e, List.append_assoc]
def Sd (size : Int) : Int → List S42 → Prop
 | p, [] => p ≤ size
 | p, e :: t => p ≤ e.f0 ∧ e.f0 ≤ e.f1 ∧ Sd size e.f1 t
theorem doneC_cells (l : List S86) (size : Int) (hR : ∀ r ∈ l, Rn r) (hs : sum_ l = size) : ∀ (es : List S42) (p : Int) (f : Bool), 0 ≤ p → Sd size p es →
  sC (cells f (rAts (doneC l size p es))) = sC (cells f (cmp p ((cells false (rAts l)).1.drop p.toNat, (cells false (rAts l)).2) (es.map edOf)))
 | [], p, f, hp, h => by
  have hp2 : p ≤ size := h
  simp only [doneC, List.map_nil, cmp]
  by_cases hz : p = 0
  ·subst hz
   rw [kept_all 0 size l 0 hR (Int.le_refl _) (by omega)]
   simp only [Int.toNat_zero, List.drop_zero]
   have := cells_again (rAts l) f false
   rw [Bool.or_false] at this
   rw [this]
  ·have := kept_end p size hp2 l 0 f false hR (by omega) (by omega)
   rw [Int.sub_zero] at this
   exact this
 | e :: t, p, f, hp, h => by
  obtain ⟨h1, h2, h3⟩ := h
  have ih := fun g => doneC_cells l size hR hs t e.f1 g (by omega) h3
  simp only [doneC, List.map_cons, cmp]
  rw [rAts_append, rAts_cons]
  have er : rAt ⟨false, 0, 0, e.f2⟩ = .mark :: news e.f2.data.toList := rfl
  rw [er]
  have ed : ((cells false (rAts l)).1.drop p.toNat).drop ((edOf e).b - p).toNat = (cells false (rAts l)).1.drop e.f1.toNat := by
   rw [List.drop_drop]
   congr 1
   show p.toNat + (e.f1 - p).toNat = e.f1.toNat
   omega
  rw [ed]
  have step : sC (cells f (rAts (keptS 0 p e.f0 l) ++ .mark :: (news e.f2.data.toList ++ rAts (doneC l size e.f1 t)))) = sC (cells f (cAts (((cells false (rAts l)).1.drop p.toNat).take (e.f0 - p).toNat) ++ .mark :: (news e.f2.data.toList ++ rAts (doneC l size e.f1 t)))) := by
   by_cases hz : p = 0
   ·subst hz
    have := kept_one_ 0 e.f0 (news e.f2.data.toList ++ rAts (doneC l size e.f1 t)) l 0 f false hR (Int.le_refl _)
    rw [Bool.or_false] at this
    simpa using this
   ·have := kept_two p e.f0 h1 (news e.f2.data.toList ++ rAts (doneC l size e.f1 t)) l 0 f false hR (by omega)
    rw [Int.sub_zero] at this
    exact this
  have e5 : rAts (keptS 0 p e.f0 l) ++ (At.mark :: news e.f2.data.toList ++ rAts (doneC l size e.f1 t)) = rAts (keptS 0 p e.f0 l) ++ .mark :: (news e.f2.data.toList ++ rAts (doneC l size e.f1 t)) := by simp
  rw [e5, step]
  have e6 : ∀ X, cAts (((cells false (rAts l)).1.drop p.toNat).take (e.f0 - p).toNat) ++ At.mark :: (news e.f2.data.toList ++ X) = (cAts (((cells false (rAts l)).1.drop p.toNat).take (e.f0 - p).toNat) ++ .mark :: news e.f2.data.toList) ++ X := fun X => by simp
  show _ = sC (cells f (cAts (((cells false (rAts l)).1.drop p.toNat).take (e.f0 - p).toNat) ++ At.mark :: (news e.f2.data.toList ++ cmp e.f1 ((cells false (rAts l)).1.drop e.f1.toNat, (cells false (rAts l)).2) (t.map edOf))))
  rw [e6, e6]
  exact sC_right _ _ _ f ih
theorem idr_take (p q n : Int) (h : q ≤ n) : (idr p n).1.take (q - p).toNat = oCs p q := by
 apply List.ext_getElem
 ·simp [idr, oCs]; omega
 ·intro i h3 h4
  simp [idr, oCs] at h3 h4 ⊢
theorem segs_at (n : Int) : ∀ (es : List S42) (p : Int), Cz n p (es.map edOf) → p ≤ n → rAts (segs n p es) = cmp p (idr p n) (es.map edOf)
 | [], p, h, hp => by
  simp only [segs, List.map_nil]
  rw [cmp_nil]
  have e : (idr p n).1 = oCs p n := by
   rw [← idr_take p n n (Int.le_refl _), List.take_of_length_le (by simp [idr])]
  unfold kp
  by_cases hl : p < n
  ·rw [if_pos hl, e, ← oAt_cAts]
   simp [rAts, rAt]
  ·rw [if_neg hl, idr_nil p n (by omega)]
   rfl
 | e :: t, p, h, hp => by
  obtain ⟨c1, c2, c3, c4⟩ := h
  have c1' : p ≤ e.f0 := c1
  have c2' : e.f0 ≤ e.f1 := c2
  have c3' : e.f1 ≤ n := c3
  have ih := segs_at n t e.f1 (Ch.cz c4 c3) c3
  simp only [segs, List.map_cons]
  rw [cmp_cons p n (edOf e) _ (by show p ≤ e.f1; omega)]
  show _ = cAts ((idr p n).1.take (e.f0 - p).toNat) ++ At.mark :: (news e.f2.data.toList ++ cmp e.f1 (idr e.f1 n) (t.map edOf))
  rw [idr_take p e.f0 n (by omega), ← oAt_cAts, rAts_append, rAts_cons, ih]
  have er : rAt ⟨false, 0, 0, e.f2⟩ = .mark :: news e.f2.data.toList := rfl
  rw [er]
  unfold kp
  by_cases hl : p < e.f0
  ·rw [if_pos hl]
   simp [rAts, rAt]
  ·rw [if_neg hl]
   have : oAt p e.f0 = [] := by unfold oAt; rw [show (e.f0 - p).toNat = 0 by omega]; rfl
   rw [this]
   simp [rAts]
end Go.Proofs.YtaihajmdngoeiaaDoor.QE
namespace Go.Proofs.YtaihajmdngoeiaaDoor.QE
open Go.RowKit Go.Proofs.YtaihajmdngoeiaaDoorW.PrintWords Go.Proofs.YtaihajmdngoeiaaDoorW.PrintLast Go.Proofs.YtaihajmdngoeiaaDoorW.PrintMore
open Go.Proofs.YtaihajmdngoeiaaDoor.F
set_option linter.unusedVariables false
set_option linter.unusedSimpArgs false
theorem grw_ed (e : S42) : grw (edOf e) = grow e := by
 unfold grw edOf grow
 have : e.f2.data.toList.length = e.f2.size := by simp
 show (e.f2.data.toList.length : Int) - (e.f1 - e.f0) = _
 rw [this]
structure GS where
 lo : Int
 hi : Int
 sh : Int
 first : List S92
 second : List S42
 a : List S42
 b : List S42
def P67 (x : Int) (e : S42) : S92 := ⟨x, e.f0, e.f1, e.f2⟩
def takesA (lo hi sh : Int) (e : S42) (b : List S42) : Bool :=
 (decide (lo < 0) && (match b with | [] => true | f :: _ => decide (e.f0 + sh ≤ f.f0))) || (decide (0 ≤ lo) && decide (e.f0 + sh ≤ hi))
def nextA (s : GS) (e : S42) (r : List S42) : GS :=
 ⟨if s.lo < 0 then e.f0 + s.sh else s.lo, max s.hi (e.f0 + s.sh + e.f2.size), s.sh + grow e, s.first ++ [P67 (e.f0 + s.sh) e], s.second, r, s.b⟩
def nextB (s : GS) (f : S42) (t : List S42) : GS := ⟨if s.lo < 0 then f.f0 else s.lo, max s.hi f.f1, s.sh, s.first, s.second ++ [f], s.a, t⟩
def stepB (s : GS) : Option GS := match s.b with
 | [] => none
 | f :: t => if s.lo < 0 ∨ f.f0 ≤ s.hi then some (nextB s f t) else none
def stepG (s : GS) : Option GS := match s.a with
 | [] => stepB s
 | e :: r => if takesA s.lo s.hi s.sh e s.b = true then some (nextA s e r) else stepB s
def gS : Nat → GS → GS
 | 0, s => s
 | k + 1, s => match stepG s with
  | none => s
  | some s' => gS k s'
def place : Int → List S42 → List S92
 | _, [] => []
 | sh, e :: r => P67 (e.f0 + sh) e :: place (sh + grow e) r
theorem place_snoc : ∀ (l : List S42) (sh : Int) (e : S42), place sh (l ++ [e]) = place sh l ++ [P67 (e.f0 + (sh + sumG l)) e]
 | [], sh, e => by simp [place, sumG]
 | x :: l, sh, e => by
  simp only [List.cons_append, place, sumG, place_snoc l]
  rw [show sh + grow x + sumG l = sh + (grow x + sumG l) by omega]
theorem gS_gatL (sh0 : Int) : ∀ (k : Nat) (s : GS) (A1 : List S42), 0 ≤ s.lo → s.first = place sh0 A1 → s.sh = sh0 + sumG A1 →
  ∃ A2, (gS k s).first = place sh0 A2 ∧ (gS k s).sh = sh0 + sumG A2 ∧ (gS k s).lo = s.lo ∧
   gatL k s.hi (A1.map edOf) (s.second.map edOf) (s.a.map edOf) (s.b.map edOf) s.sh = ((gS k s).hi, A2.map edOf, (gS k s).second.map edOf, (gS k s).a.map edOf, (gS k s).b.map edOf)
 | 0, s, A1, h0, h1, h2 => ⟨A1, h1, h2, rfl, by simp only [gatL]; rfl⟩
 | k + 1, s, A1, h0, h1, h2 => by
  obtain ⟨lo, hi, sh, first, second, a, b⟩ := s
  simp only at h0 h1 h2
  have n0 : ¬ lo < 0 := by omega
  have hB : ∀ (a : List S42), (∀ e r, a = e :: r → ¬ e.f0 + sh ≤ hi) → ∃ A2, (match stepB ⟨lo, hi, sh, first, second, a, b⟩ with | none => (⟨lo, hi, sh, first, second, a, b⟩ : GS) | some s' => gS k s').first = place sh0 A2 ∧ (match stepB ⟨lo, hi, sh, first, second, a, b⟩ with | none => (⟨lo, hi, sh, first, second, a, b⟩ : GS) | some s' => gS k s').sh = sh0 + sumG A2 ∧ (match stepB ⟨lo, hi, sh, first, second, a, b⟩ with | none => (⟨lo, hi, sh, first, second, a, b⟩ : GS) | some s' => gS k s').lo = lo ∧
    gatL (k + 1) hi (A1.map edOf) (second.map edOf) (a.map edOf) (b.map edOf) sh = ((match stepB ⟨lo, hi, sh, first, second, a, b⟩ with | none => (⟨lo, hi, sh, first, second, a, b⟩ : GS) | some s' => gS k s').hi, A2.map edOf, (match stepB ⟨lo, hi, sh, first, second, a, b⟩ with | none => (⟨lo, hi, sh, first, second, a, b⟩ : GS) | some s' => gS k s').second.map edOf, (match stepB ⟨lo, hi, sh, first, second, a, b⟩ with | none => (⟨lo, hi, sh, first, second, a, b⟩ : GS) | some s' => gS k s').a.map edOf, (match stepB ⟨lo, hi, sh, first, second, a, b⟩ with | none => (⟨lo, hi, sh, first, second, a, b⟩ : GS) | some s' => gS k s').b.map edOf) := by
   intro a hna
   have hg : ∀ (Y : Int × List Ed × List Ed × List Ed × List Ed), (match b.map edOf with | [] => (hi, A1.map edOf, second.map edOf, a.map edOf, b.map edOf) | f :: s => if f.a ≤ hi then gatL k (max hi f.b) (A1.map edOf) (second.map edOf ++ [f]) (a.map edOf) s sh else (hi, A1.map edOf, second.map edOf, a.map edOf, b.map edOf)) = Y → gatL (k + 1) hi (A1.map edOf) (second.map edOf) (a.map edOf) (b.map edOf) sh = Y := by
    intro Y hY
    rw [← hY]
    cases a with
    | nil => cases b <;> simp only [List.map_nil, List.map_cons, gatL]
    | cons e r =>
     have hne := hna e r rfl
     have : ¬ (edOf e).a + sh ≤ hi := hne
     cases b with
     | nil => simp only [List.map_nil, List.map_cons, gatL, if_neg this]
     | cons f t => simp only [List.map_nil, List.map_cons, gatL, if_neg this]
   cases b with
   | nil => exact ⟨A1, h1, h2, rfl, hg _ rfl⟩
   | cons f t =>
    by_cases hf : f.f0 ≤ hi
    ·have e1 : stepB ⟨lo, hi, sh, first, second, a, f :: t⟩ = some (nextB ⟨lo, hi, sh, first, second, a, f :: t⟩ f t) := by
      show (if lo < 0 ∨ f.f0 ≤ hi then some _ else none) = _
      rw [if_pos (Or.inr hf)]
     simp only [e1]
     obtain ⟨A2, i1, i2, i3, i4⟩ := gS_gatL sh0 k (nextB ⟨lo, hi, sh, first, second, a, f :: t⟩ f t) A1 (by show 0 ≤ if lo < 0 then f.f0 else lo; rw [if_neg n0]; exact h0) h1 h2
     refine ⟨A2, i1, i2, by rw [i3]; show (if lo < 0 then f.f0 else lo) = lo; rw [if_neg n0], hg _ ?_⟩
     simp only [List.map_cons]
     rw [if_pos (show (edOf f).a ≤ hi from hf), ← i4]
     show gatL k (max hi f.f1) _ _ _ _ _ = gatL k (max hi f.f1) _ ((second ++ [f]).map edOf) _ _ _
     rw [List.map_append]
     rfl
    ·have e1 : stepB ⟨lo, hi, sh, first, second, a, f :: t⟩ = none := by
      show (if lo < 0 ∨ f.f0 ≤ hi then some _ else none) = _
      rw [if_neg (by omega)]
     simp only [e1]
     refine ⟨A1, h1, h2, trivial, hg _ ?_⟩
     simp only [List.map_cons]
     rw [if_neg (show ¬ (edOf f).a ≤ hi from hf)]
  cases a with
  | nil =>
   have := hB [] (fun e r h => by cases h)
   exact this
  | cons e r =>
   by_cases he : e.f0 + sh ≤ hi
   ·have e1 : stepG ⟨lo, hi, sh, first, second, e :: r, b⟩ = some (nextA ⟨lo, hi, sh, first, second, e :: r, b⟩ e r) := by
     show (if takesA lo hi sh e b = true then some _ else _) = _
     rw [if_pos]
     unfold takesA
     rw [decide_eq_true h0, decide_eq_true he]
     simp
    simp only [gS, e1]
    obtain ⟨A2, i1, i2, i3, i4⟩ := gS_gatL sh0 k (nextA ⟨lo, hi, sh, first, second, e :: r, b⟩ e r) (A1 ++ [e]) (by show 0 ≤ if lo < 0 then e.f0 + sh else lo; rw [if_neg n0]; exact h0)
     (by show first ++ [P67 (e.f0 + sh) e] = _; rw [place_snoc, h1, h2]) (by show sh + grow e = _; rw [sumG_append, h2]; simp only [sumG]; omega)
    refine ⟨A2, i1, i2, by rw [i3]; show (if lo < 0 then e.f0 + sh else lo) = lo; rw [if_neg n0], ?_⟩
    rw [← i4]
    simp only [List.map_cons, gatL]
    rw [if_pos (show (edOf e).a + sh ≤ hi from he), grw_ed]
    show gatL k (max hi (e.f0 + sh + (e.f2.data.toList.length : Int))) _ _ _ _ _ = gatL k (max hi (e.f0 + sh + (e.f2.size : Int))) ((A1 ++ [e]).map edOf) _ _ _ _
    rw [List.map_append, show e.f2.data.toList.length = e.f2.size by simp]
    rfl
   ·have e1 : stepG ⟨lo, hi, sh, first, second, e :: r, b⟩ = stepB ⟨lo, hi, sh, first, second, e :: r, b⟩ := by
     show (if takesA lo hi sh e b = true then some _ else _) = _
     rw [if_neg]
     unfold takesA
     rw [decide_eq_false n0, decide_eq_false he]
     simp
    simp only [gS, e1]
    exact hB (e :: r) (fun e' r' h => by cases h; exact he)
end Go.Proofs.YtaihajmdngoeiaaDoor.QE
namespace Go.Proofs.YtaihajmdngoeiaaDoor.QE
open Go.RowKit Go.Proofs.YtaihajmdngoeiaaDoorW.PrintWords Go.Proofs.YtaihajmdngoeiaaDoorW.PrintLast Go.Proofs.YtaihajmdngoeiaaDoorW.PrintMore
open Go.Proofs.YtaihajmdngoeiaaDoor.F
theorem chain_drop {size : Int} : ∀ {l : List S42} {p : Option Int}, Chain size p l → ∀ j, ∃ q, Chain size q (l.drop j)
 | [], p, _, j => ⟨none, by simp [Chain]⟩
 | e :: t, p, h, 0 => ⟨p, h⟩
 | e :: t, p, ⟨c1, c2, c3, c4, c5⟩, j + 1 => by simpa using chain_drop c5 j
theorem chain_at {size : Int} {l : List S42} {p : Option Int} (h : Chain size p l) (j : Nat) (hj : j < l.length) : 0 ≤ (l[j]).f0 ∧ (l[j]).f0 ≤ (l[j]).f1 ∧ (l[j]).f1 ≤ size := by
 obtain ⟨q, hq⟩ := chain_drop h j
 rw [List.drop_eq_getElem_cons hj] at hq
 exact ⟨hq.1, hq.2.1, hq.2.2.1⟩
theorem shift_step (s : Int) (e : S42) : wrap64 (wrap64 s + growsOf e) = wrap64 (s + grow e) := by unfold growsOf grow wrap64; omega
end Go.Proofs.YtaihajmdngoeiaaDoor.QE
namespace Go.Proofs.YtaihajmdngoeiaaDoor.QE
open Go.RowKit Go.Proofs.YtaihajmdngoeiaaDoorW.PrintWords Go.Proofs.YtaihajmdngoeiaaDoorW.PrintLast Go.Proofs.YtaihajmdngoeiaaDoorW.PrintMore
open Go.Proofs.YtaihajmdngoeiaaDoor.F
set_option linter.unusedSimpArgs false
theorem sn_bytes (s : ByteArray) : strOfNums (bytesOf s) = s := by
 unfold strOfNums bytesOf
 apply ByteArray.ext
 rw [List.map_map]
 apply Array.ext'
 simp only [List.toList_toArray]
 conv => rhs; rw [← List.map_id s.data.toList]
 apply List.map_congr_left
 intro b _
 simp
theorem bo_append (a b : ByteArray) : bytesOf (a ++ b) = bytesOf a ++ bytesOf b := by
 unfold bytesOf
 rw [ByteArray.data_append]
 simp
def apGo (text : ByteArray) : Int → List S42 → ByteArray
 | a, [] => text.extract a.toNat text.size
 | a, e :: t => text.extract a.toNat e.f0.toNat ++ e.f2 ++ apGo text e.f1 t
theorem ex_none (s : ByteArray) (a b : Nat) (h : b ≤ a) : s.extract a b = ⟨#[]⟩ := by
 have : (s.extract a b).size = 0 := by rw [ByteArray.size_extract]; omega
 apply ByteArray.ext
 exact Array.eq_empty_of_size_eq_zero this
theorem saidB_kp_eq (text : ByteArray) (a b : Int) (ha : 0 ≤ a) : saidB text (kp a b) = text.extract a.toNat b.toNat := by
 unfold kp
 split
 ·simp only [saidB, piece, if_true]
  exact ByteArray.append_empty
 ·rw [ex_none _ _ _ (by omega)]
  rfl
theorem saidB_segs (text : ByteArray) : ∀ (es : List S42) (a : Int), 0 ≤ a → (∀ e ∈ es, 0 ≤ e.f1) → saidB text (segs text.size a es) = apGo text a es
 | [], a, ha, _ => by simp only [segs, apGo]; rw [saidB_kp_eq _ _ _ ha]; simp
 | e :: t, a, ha, h => by
  simp only [segs, apGo]
  rw [saidB_append, saidB_kp_eq _ _ _ ha]
  simp only [saidB, piece, Bool.false_eq_true, if_false]
  rw [saidB_segs text t e.f1 (h e List.mem_cons_self) (fun x hx => h x (List.mem_cons_of_mem _ hx)), ByteArray.append_assoc]
theorem left_loop (l : List S42) (hl : l.length ≤ 65536) (d : Nat) : ∀ (i : Nat) (s : Int), i ≤ l.length → l.length - i = d →
  Ev (fun k => edits_left.l0 k (wrap64 s) l (l.length : Int) (i : Int)) (wrap64 (s + sumG (l.drop i))) := by
 induction d with
 | zero =>
  intro i s h1 h2
  refine ⟨1, fun n hn => ?_⟩
  obtain ⟨k, rfl⟩ : ∃ m, n = m + 1 := ⟨n - 1, by omega⟩
  simp only [edits_left.l0]
  rw [if_neg (by omega), List.drop_eq_nil_of_le (by omega)]
  simp [sumG]
 | succ d ih =>
  intro i s h1 h2
  have hi : i < l.length := by omega
  have hw : wrap64 ((i : Int) + 1) = ((i + 1 : Nat) : Int) := by rw [w64] <;> omega
  obtain ⟨K, hK⟩ := ih (i + 1) (s + grow l[i]) (by omega) (by omega)
  refine ⟨K + 1, fun n hn => ?_⟩
  obtain ⟨k, rfl⟩ : ∃ m, n = m + 1 := ⟨n - 1, by omega⟩
  have g := hK k (by omega)
  simp only at g
  simp only [edits_left.l0]
  rw [rd_at l i hi, if_pos (by omega), if_pos (by omega), if_pos (by omega), grows_is]
  simp only [Option.bind_some]
  rw [shift_step, hw, g, List.drop_eq_getElem_cons hi]
  simp only [sumG]
  congr 2
  omega
theorem left_is (size : Int) (h0 : 0 ≤ size) (h1 : size ≤ 4611686018427387904) (l : List S42) (hl : l.length ≤ 65536) : Ev (fun k => edits_left.f k size l) (wrap64 (size + sumG l)) := by
 unfold edits_left.f
 have := left_loop l hl l.length 0 size (by omega) (by omega)
 rw [w64 (x := size) (by omega) (by omega)] at this
 simpa using this
theorem apGo_size (text : ByteArray) (es : List S42) (a : Int) (p : Option Int) (hc : Chain text.size p es) (h0 : 0 ≤ a) (ha : a ≤ text.size) (hp : ∀ e t, es = e :: t → a ≤ e.f0) :
  ((apGo text a es).size : Int) = text.size - a + sumG es := by
 have hne : ∀ e ∈ es, 0 ≤ e.f1 := by
  intro e he
  obtain ⟨j, hj, rfl⟩ := List.mem_iff_getElem.1 he
  have := chain_at hc j hj
  omega
 rw [← saidB_segs text es a h0 hne]
 exact saidB_size text text.size rfl es a p hc h0 ha hp
theorem ap_loop (text : ByteArray) (l : List S42) (hl : l.length ≤ 65536) (hc : Chain text.size none l) (d : Nat) : ∀ (i : Nat) (a : Int) (out : List Int), i ≤ l.length → l.length - i = d → 0 ≤ a → a ≤ text.size → (∀ e t, l.drop i = e :: t → a ≤ e.f0) → out.length + (apGo text a (l.drop i)).size < 140737488355328 →
  Ev (fun k => edits_Apply.l0 k text out a l (l.length : Int) (i : Int)) (strOfNums (out ++ bytesOf (apGo text a (l.drop i))), 0) := by
 induction d with
 | zero =>
  intro i a out h1 h2 ha0 ha1 hp hs
  refine ⟨1, fun n hn => ?_⟩
  obtain ⟨k, rfl⟩ : ∃ m, n = m + 1 := ⟨n - 1, by omega⟩
  rw [List.drop_eq_nil_of_le (by omega)] at hs ⊢
  simp only [edits_Apply.l0, apGo] at hs ⊢
  rw [if_neg (by omega), if_pos ha0, if_pos ha1, if_pos hs]
 | succ d ih =>
  intro i a out h1 h2 ha0 ha1 hp hs
  have hi : i < l.length := by omega
  have hw : wrap64 ((i : Int) + 1) = ((i + 1 : Nat) : Int) := by rw [w64] <;> omega
  rw [List.drop_eq_getElem_cons hi] at hp hs ⊢
  have hae := hp _ _ rfl
  obtain ⟨e1, e2, e3⟩ := chain_at hc i hi
  simp only [apGo] at hs ⊢
  rw [ByteArray.size_append, ByteArray.size_append] at hs
  have hnext : ∀ e t, l.drop (i + 1) = e :: t → (l[i]).f1 ≤ e.f0 := by
   intro e t he
   obtain ⟨q, hq⟩ := chain_drop hc i
   rw [List.drop_eq_getElem_cons hi, he] at hq
   have := hq.2.2.2.2.2.2.2.1 _ rfl
   omega
  have hlen : (out ++ bytesOf (text.extract a.toNat (l[i]).f0.toNat) ++ bytesOf (l[i]).f2).length + (apGo text (l[i]).f1 (l.drop (i + 1))).size < 140737488355328 := by
   simp only [List.length_append, bytesOf_length]
   generalize (apGo text (l[i]).f1 (l.drop (i + 1))).size = T at hs ⊢
   generalize (text.extract a.toNat (l[i]).f0.toNat).size = X at hs ⊢
   omega
  have hlim : out.length + (text.extract a.toNat (l[i]).f0.toNat).size < 140737488355328 ∧ out.length + (text.extract a.toNat (l[i]).f0.toNat).size + (l[i]).f2.size < 140737488355328 := by
   generalize (apGo text (l[i]).f1 (l.drop (i + 1))).size = T at hs
   generalize (text.extract a.toNat (l[i]).f0.toNat).size = X at hs ⊢
   omega
  clear hs
  obtain ⟨K, hK⟩ := ih (i + 1) (l[i]).f1 (out ++ bytesOf (text.extract a.toNat (l[i]).f0.toNat) ++ bytesOf (l[i]).f2) (by omega) (by omega) (by omega) e3 hnext hlen
  clear hlen
  refine ⟨K + 1, fun n hn => ?_⟩
  obtain ⟨k, rfl⟩ : ∃ m, n = m + 1 := ⟨n - 1, by omega⟩
  have g := hK k (by omega)
  simp only at g
  simp only [edits_Apply.l0]
  rw [rd_at l i hi, if_pos (by omega), if_pos (by omega), if_pos (by omega), if_pos ha0, if_pos hae, if_pos (by omega), if_pos hlim.1]
  simp only [Option.bind_some]
  rw [if_pos (by simp only [List.length_append, bytesOf_length]; exact hlim.2), hw, g]
  simp only [bo_append, List.append_assoc]
def Apspec (text : ByteArray) (l : List S42) : ByteArray × Int := if vspec text.size l = 0 then (apGo text 0 l, 0) else (⟨#[]⟩, vspec text.size l)
theorem ap_first {size : Int} {p : Option Int} {l : List S42} (hc : Chain size p l) : ∀ e t, l = e :: t → 0 ≤ e.f0 := by
 rintro e t rfl
 exact hc.1
def tot : List S42 → Nat
 | [] => 0
 | e :: t => e.f2.size + tot t
theorem sumG_tot {size : Int} : ∀ {l : List S42} {p : Option Int}, Chain size p l → sumG l ≤ tot l
 | [], _, _ => by simp [sumG, tot]
 | e :: t, p, ⟨c1, c2, c3, c4, c5⟩ => by
  have := sumG_tot c5
  simp only [sumG, tot, grow]
  omega
theorem sumG_low {size : Int} : ∀ {l : List S42} {p : Option Int} (a : Int), Chain size p l → 0 ≤ a → a ≤ size → (∀ e t, l = e :: t → a ≤ e.f0) → a - size ≤ sumG l
 | [], _, a, _, _, h, _ => by simp only [sumG]; omega
 | e :: t, p, a, ⟨c1, c2, c3, c4, c5⟩, h0, h, hp => by
  have h1 := hp _ _ rfl
  have := sumG_low e.f1 c5 (by omega) c3 (fun e' t' he => by subst he; have := c5.2.2.2.1 _ rfl; omega)
  simp only [sumG, grow]
  omega
theorem ap_size (text : ByteArray) (l : List S42) (h : vspec text.size l = 0) : ((apGo text 0 l).size : Int) = text.size + sumG l := by
 obtain ⟨hl, hc⟩ := vspec_zero h
 have := apGo_size text l 0 none hc (by omega) (by omega) (ap_first hc)
 omega
theorem ap_le (text : ByteArray) (l : List S42) (h : vspec text.size l = 0) : (apGo text 0 l).size ≤ text.size + tot l := by
 have h1 := ap_size text l h
 have h2 := sumG_tot (vspec_zero h).2
 omega
theorem Apply_is (text : ByteArray) (l : List S42) (hb : text.size + tot l < 140737488355328) : Ev (fun k => edits_Apply.f k text l) (Apspec text l) := by
 unfold edits_Apply.f Apspec
 refine (valid_is _ l).bind ?_
 by_cases h : vspec text.size l = 0
 ·simp only [if_pos h]
  obtain ⟨hl, hc⟩ := vspec_zero h
  have hle := ap_le text l h
  have hsz := ap_size text l h
  refine (left_is text.size (by omega) (by omega) l hl).bind ?_
  have hw : wrap64 ((text.size : Int) + sumG l) = ((apGo text 0 l).size : Int) := by rw [← hsz, w64] <;> omega
  rw [hw]
  simp only [if_pos (show (0 : Int) ≤ ((apGo text 0 l).size : Int) by omega), if_pos (show ((apGo text 0 l).size : Int).toNat ≤ 281474976710656 by omega)]
  have := ap_loop text l hl hc l.length 0 0 [] (by omega) (by omega) (by omega) (by omega) (by simpa using ap_first hc) (by simpa using by omega)
  simpa [sn_bytes] using this
 ·simp only [if_neg h]; exact Ev.now _
theorem RApply_is (text : ByteArray) (ht : text.size ≤ 140737488351232) (l : List S42) (hb : text.size + tot l < 140737488355328) : Ev (fun k => monikerref1_Apply.f k text l) (Apspec text l) := by
 unfold monikerref1_Apply.f Apspec
 refine (rvalid_is _ l).bind ?_
 by_cases h : vspec text.size l = 0
 ·simp only [if_pos h]
  obtain ⟨hl, hc⟩ := vspec_zero h
  have hle := ap_le text l h
  have hne : ∀ e ∈ l, 0 ≤ e.f1 := by
   intro e he
   obtain ⟨j, hj, rfl⟩ := List.mem_iff_getElem.1 he
   have := chain_at hc j hj
   omega
  have hs := saidB_segs text l 0 (by omega) hne
  rw [Whole_is]
  simp only [Option.bind_some]
  refine (Done_is text.size (by omega) (by omega) l hl hc).bind ?_
  have hlen := segs_len text.size l 0
  have hsaid := said_is text (segs text.size 0 l) (by omega) (segs_old text.size (by omega) l 0 none hc (by omega)) (by rw [hs]; omega)
  rw [hs] at hsaid
  exact hsaid.bind (Ev.now _)
 ·simp only [if_neg h]; exact Ev.now _
end Go.Proofs.YtaihajmdngoeiaaDoor.QE
namespace Go.Proofs.YtaihajmdngoeiaaDoor.QE
open Go.RowKit Go.Proofs.YtaihajmdngoeiaaDoorW.PrintWords Go.Proofs.YtaihajmdngoeiaaDoorW.PrintLast Go.Proofs.YtaihajmdngoeiaaDoorW.PrintMore
open Go.Proofs.YtaihajmdngoeiaaDoor.F
set_option linter.unusedVariables false
set_option linter.unusedSimpArgs false
theorem stepG_a (lo hi sh : Int) (fi : List S92) (se : List S42) (e : S42) (r b : List S42) : stepG ⟨lo, hi, sh, fi, se, e :: r, b⟩ = if takesA lo hi sh e b = true then some (nextA ⟨lo, hi, sh, fi, se, e :: r, b⟩ e r) else stepB ⟨lo, hi, sh, fi, se, e :: r, b⟩ := rfl
theorem gS_gat0 (sh : Int) (a b : List S42) (hne : ¬ (a = [] ∧ b = [])) (ha : ∀ e r, a = e :: r → 0 ≤ e.f0 + sh) (hb : ∀ f t, b = f :: t → 0 ≤ f.f0) :
  ∃ A2, (gS (a.length + b.length + 1) ⟨-1, 0, sh, [], [], a, b⟩).first = place sh A2 ∧ (gS (a.length + b.length + 1) ⟨-1, 0, sh, [], [], a, b⟩).sh = sh + sumG A2 ∧
   gat0 sh (a.map edOf) (b.map edOf) = ((gS (a.length + b.length + 1) ⟨-1, 0, sh, [], [], a, b⟩).lo, ((gS (a.length + b.length + 1) ⟨-1, 0, sh, [], [], a, b⟩).hi, A2.map edOf, (gS (a.length + b.length + 1) ⟨-1, 0, sh, [], [], a, b⟩).second.map edOf, (gS (a.length + b.length + 1) ⟨-1, 0, sh, [], [], a, b⟩).a.map edOf, (gS (a.length + b.length + 1) ⟨-1, 0, sh, [], [], a, b⟩).b.map edOf)) := by
 have n1 : (-1 : Int) < 0 := by decide
 have hA : ∀ (k : Nat) (e : S42) (r b : List S42), 0 ≤ e.f0 + sh → ∃ A2, (gS k (nextA ⟨-1, 0, sh, [], [], e :: r, b⟩ e r)).first = place sh A2 ∧ (gS k (nextA ⟨-1, 0, sh, [], [], e :: r, b⟩ e r)).sh = sh + sumG A2 ∧ (gS k (nextA ⟨-1, 0, sh, [], [], e :: r, b⟩ e r)).lo = e.f0 + sh ∧
   gatL k (max 0 ((edOf e).a + sh + (edOf e).t.length)) [edOf e] [] (r.map edOf) (b.map edOf) (sh + grw (edOf e)) = ((gS k (nextA ⟨-1, 0, sh, [], [], e :: r, b⟩ e r)).hi, A2.map edOf, (gS k (nextA ⟨-1, 0, sh, [], [], e :: r, b⟩ e r)).second.map edOf, (gS k (nextA ⟨-1, 0, sh, [], [], e :: r, b⟩ e r)).a.map edOf, (gS k (nextA ⟨-1, 0, sh, [], [], e :: r, b⟩ e r)).b.map edOf) := by
  intro k e r b h0
  obtain ⟨A2, i1, i2, i3, i4⟩ := gS_gatL sh k (nextA ⟨-1, 0, sh, [], [], e :: r, b⟩ e r) [e] (by show 0 ≤ if (-1 : Int) < 0 then e.f0 + sh else -1; rw [if_pos n1]; exact h0) rfl (by show sh + grow e = _; simp [sumG])
  refine ⟨A2, i1, i2, by rw [i3]; show (if (-1 : Int) < 0 then e.f0 + sh else -1) = _; rw [if_pos n1], ?_⟩
  rw [← i4, grw_ed]
  show gatL k (max 0 (e.f0 + sh + (e.f2.data.toList.length : Int))) _ _ _ _ _ = gatL k (max 0 (e.f0 + sh + (e.f2.size : Int))) _ _ _ _ _
  rw [show e.f2.data.toList.length = e.f2.size by simp]
  rfl
 have hB : ∀ (k : Nat) (f : S42) (t a : List S42), 0 ≤ f.f0 → ∃ A2, (gS k (nextB ⟨-1, 0, sh, [], [], a, f :: t⟩ f t)).first = place sh A2 ∧ (gS k (nextB ⟨-1, 0, sh, [], [], a, f :: t⟩ f t)).sh = sh + sumG A2 ∧ (gS k (nextB ⟨-1, 0, sh, [], [], a, f :: t⟩ f t)).lo = f.f0 ∧
   gatL k (max 0 (edOf f).b) [] [edOf f] (a.map edOf) (t.map edOf) sh = ((gS k (nextB ⟨-1, 0, sh, [], [], a, f :: t⟩ f t)).hi, A2.map edOf, (gS k (nextB ⟨-1, 0, sh, [], [], a, f :: t⟩ f t)).second.map edOf, (gS k (nextB ⟨-1, 0, sh, [], [], a, f :: t⟩ f t)).a.map edOf, (gS k (nextB ⟨-1, 0, sh, [], [], a, f :: t⟩ f t)).b.map edOf) := by
  intro k f t a h0
  obtain ⟨A2, i1, i2, i3, i4⟩ := gS_gatL sh k (nextB ⟨-1, 0, sh, [], [], a, f :: t⟩ f t) [] (by show 0 ≤ if (-1 : Int) < 0 then f.f0 else -1; rw [if_pos n1]; exact h0) rfl (by show sh = _; simp [sumG])
  exact ⟨A2, i1, i2, by rw [i3]; show (if (-1 : Int) < 0 then f.f0 else -1) = _; rw [if_pos n1], i4⟩
 have sB : ∀ (k : Nat) (f : S42) (t a : List S42), stepB ⟨-1, 0, sh, [], [], a, f :: t⟩ = some (nextB ⟨-1, 0, sh, [], [], a, f :: t⟩ f t) := fun k f t a => by
  show (if (-1 : Int) < 0 ∨ f.f0 ≤ 0 then some _ else none) = _
  rw [if_pos (Or.inl n1)]
 cases a with
 | nil =>
  cases b with
  | nil => exact absurd ⟨rfl, rfl⟩ hne
  | cons f t =>
   have e1 : gS (([] : List S42).length + (f :: t).length + 1) ⟨-1, 0, sh, [], [], [], f :: t⟩ = gS (t.length + 1) (nextB ⟨-1, 0, sh, [], [], [], f :: t⟩ f t) := by
    show gS (0 + (t.length + 1) + 1) _ = _
    rw [Nat.zero_add]
    show (match stepB ⟨-1, 0, sh, [], [], [], f :: t⟩ with | none => (⟨-1, 0, sh, [], [], [], f :: t⟩ : GS) | some s' => gS (t.length + 1) s') = _
    rw [sB 0]
   rw [e1]
   obtain ⟨A2, i1, i2, i3, i4⟩ := hB (t.length + 1) f t [] (hb f t rfl)
   refine ⟨A2, i1, i2, ?_⟩
   rw [i3, ← i4]
   simp only [List.map_nil, List.map_cons, gat0, List.length_map]
   rfl
 | cons e r =>
  cases b with
  | nil =>
   have e1 : gS ((e :: r).length + ([] : List S42).length + 1) ⟨-1, 0, sh, [], [], e :: r, []⟩ = gS (r.length + 1) (nextA ⟨-1, 0, sh, [], [], e :: r, []⟩ e r) := by
    show (match stepG ⟨-1, 0, sh, [], [], e :: r, []⟩ with | none => (⟨-1, 0, sh, [], [], e :: r, []⟩ : GS) | some s' => gS (r.length + 1) s') = _
    have : stepG ⟨-1, 0, sh, [], [], e :: r, []⟩ = some (nextA ⟨-1, 0, sh, [], [], e :: r, []⟩ e r) := by
     rw [stepG_a, if_pos (by unfold takesA; simp)]
    rw [this]
   rw [e1]
   obtain ⟨A2, i1, i2, i3, i4⟩ := hA (r.length + 1) e r [] (ha e r rfl)
   refine ⟨A2, i1, i2, ?_⟩
   rw [i3, ← i4]
   simp only [List.map_nil, List.map_cons, gat0, List.length_map]
   rfl
  | cons f t =>
   by_cases c : e.f0 + sh ≤ f.f0
   ·have e1 : gS ((e :: r).length + (f :: t).length + 1) ⟨-1, 0, sh, [], [], e :: r, f :: t⟩ = gS (r.length + (t.length + 1) + 1) (nextA ⟨-1, 0, sh, [], [], e :: r, f :: t⟩ e r) := by
     rw [show (e :: r).length + (f :: t).length + 1 = (r.length + (t.length + 1) + 1) + 1 by simp only [List.length_cons]; omega]
     show (match stepG ⟨-1, 0, sh, [], [], e :: r, f :: t⟩ with | none => (⟨-1, 0, sh, [], [], e :: r, f :: t⟩ : GS) | some s' => gS (r.length + (t.length + 1) + 1) s') = _
     have : stepG ⟨-1, 0, sh, [], [], e :: r, f :: t⟩ = some (nextA ⟨-1, 0, sh, [], [], e :: r, f :: t⟩ e r) := by
      rw [stepG_a, if_pos (by unfold takesA; simp [c])]
     rw [this]
    rw [e1]
    obtain ⟨A2, i1, i2, i3, i4⟩ := hA (r.length + (t.length + 1) + 1) e r (f :: t) (ha e r rfl)
    refine ⟨A2, i1, i2, ?_⟩
    rw [i3, ← i4]
    simp only [List.map_cons, gat0, List.length_map]
    rw [if_pos (show (edOf e).a + sh ≤ (edOf f).a from c)]
    rfl
   ·have e1 : gS ((e :: r).length + (f :: t).length + 1) ⟨-1, 0, sh, [], [], e :: r, f :: t⟩ = gS ((r.length + 1) + t.length + 1) (nextB ⟨-1, 0, sh, [], [], e :: r, f :: t⟩ f t) := by
     rw [show (e :: r).length + (f :: t).length + 1 = ((r.length + 1) + t.length + 1) + 1 by simp only [List.length_cons]; omega]
     show (match stepG ⟨-1, 0, sh, [], [], e :: r, f :: t⟩ with | none => (⟨-1, 0, sh, [], [], e :: r, f :: t⟩ : GS) | some s' => gS ((r.length + 1) + t.length + 1) s') = _
     have : stepG ⟨-1, 0, sh, [], [], e :: r, f :: t⟩ = some (nextB ⟨-1, 0, sh, [], [], e :: r, f :: t⟩ f t) := by
      rw [stepG_a, if_neg (by unfold takesA; simp [c]), sB 0]
     rw [this]
    rw [e1]
    obtain ⟨A2, i1, i2, i3, i4⟩ := hB ((r.length + 1) + t.length + 1) f t (e :: r) (hb f t rfl)
    refine ⟨A2, i1, i2, ?_⟩
    rw [i3, ← i4]
    simp only [List.map_cons, gat0, List.length_map]
    rw [if_neg (show ¬ (edOf e).a + sh ≤ (edOf f).a from c)]
    rfl
def ints (l : List UInt8) : List Int := l.map fun b => (b.toNat : Int)
theorem bytesOf_mk (l : List UInt8) : bytesOf ⟨l.toArray⟩ = ints l := by unfold bytesOf ints; simp
theorem put_ints (x y : Int) : ∀ (A : List S42) (sh : Int), putG (place sh A) x y = ints (putS (fsOf sh (A.map edOf)) x y)
 | [], sh => rfl
 | e :: r, sh => by
  simp only [place, putG, List.map_cons, fsOf, putS, put_ints x y r, grw_ed]
  have hl : e.f2.data.toList.length = e.f2.size := by simp
  have hx : mxx x (e.f0 + sh) = max x (e.f0 + sh) := by unfold mxx; split <;> omega
  have hy : mnn y (e.f0 + sh + (e.f2.size : Int)) = min y (e.f0 + sh + (e.f2.size : Int)) := by unfold mnn; split <;> omega
  have key : bytesOf (putOne (P67 (e.f0 + sh) e) x y) = ints (if max x ((edOf e).a + sh) < min y ((edOf e).a + sh + ((edOf e).t.length : Int)) then ((edOf e).t.drop (max x ((edOf e).a + sh) - ((edOf e).a + sh)).toNat).take (min y ((edOf e).a + sh + ((edOf e).t.length : Int)) - max x ((edOf e).a + sh)).toNat else []) := by
   show bytesOf (if mxx x (e.f0 + sh) < mnn y (e.f0 + sh + (e.f2.size : Int)) then e.f2.extract (mxx x (e.f0 + sh) - (e.f0 + sh)).toNat (mnn y (e.f0 + sh + (e.f2.size : Int)) - (e.f0 + sh)).toNat else ⟨#[]⟩) = ints (if max x (e.f0 + sh) < min y (e.f0 + sh + (e.f2.data.toList.length : Int)) then (e.f2.data.toList.drop (max x (e.f0 + sh) - (e.f0 + sh)).toNat).take (min y (e.f0 + sh + (e.f2.data.toList.length : Int)) - max x (e.f0 + sh)).toNat else [])
   rw [hx, hy, hl]
   by_cases c : max x (e.f0 + sh) < min y (e.f0 + sh + (e.f2.size : Int))
   ·rw [if_pos c, if_pos c]
    unfold bytesOf ints
    congr 1
    rw [ByteArray.data_extract, Array.toList_extract, List.extract_eq_take_drop]
    congr 1
    omega
   ·rw [if_neg c, if_neg c]
    rfl
  rw [key]
  unfold ints
  rw [← List.map_append]
theorem writ_ints (sh : Int) (A : List S42) (hi : Int) : ∀ (ss : List S42) (x : Int), writG (place sh A) hi ss x = ints (writS x (ss.map edOf) (fsOf sh (A.map edOf)) hi)
 | [], x => put_ints x hi A sh
 | e :: t, x => by
  simp only [writG, List.map_cons, writS, put_ints, writ_ints sh A hi t e.f1]
  unfold ints
  rw [List.map_append, List.map_append, List.append_assoc]
  rfl
theorem writ_str (sh : Int) (A : List S42) (hi : Int) (ss : List S42) (x : Int) : strOfNums (writG (place sh A) hi ss x) = ⟨(writS x (ss.map edOf) (fsOf sh (A.map edOf)) hi).toArray⟩ := by
 rw [writ_ints, ← bytesOf_mk, sn_bytes]
end Go.Proofs.YtaihajmdngoeiaaDoor.QE
namespace Go.Proofs.YtaihajmdngoeiaaDoor.F
open Go.RowKit Go.Proofs.YtaihajmdngoeiaaDoorW.PrintWords Go.Proofs.YtaihajmdngoeiaaDoorW.PrintLast Go.Proofs.YtaihajmdngoeiaaDoorW.PrintMore
open Go.Proofs.YtaihajmdngoeiaaDoor.QE
set_option linter.unusedVariables false
set_option linter.unusedSimpArgs false
def CBx (w0 W : World) (g : Nat) (a b : List S42) (sh : Int) (vo : Value) : Prop := ∃ Aa ca Ab cb, W.heap[g]? = some (.cells #[.slice Aa a.length ca, .slice Ab b.length cb, .int .i64 sh, vo] 77 (0, 0)) ∧ Kd.C k42 w0 Aa a.length a ∧ a.length ≤ ca ∧ Kd.C k42 w0 Ab b.length b ∧ b.length ≤ cb
def Pl (n m sh : Int) (a : List S42) : Prop := ∀ A e B, a = A ++ e :: B → 0 ≤ e.f0 + (sh + sumG A) ∧ e.f0 + (sh + sumG A) + e.f2.size ≤ m ∧ 0 ≤ e.f0 ∧ e.f0 ≤ e.f1 ∧ e.f1 ≤ n
theorem Pl.tail {n m sh : Int} {e : S42} {r : List S42} (h : Pl n m sh (e :: r)) : Pl n m (sh + grow e) r := by
 intro A x B hr
 have := h (e :: A) x B (by rw [hr]; rfl)
 simp only [sumG] at this
 rw [show sh + grow e + sumG A = sh + (grow e + sumG A) by omega]
 exact this
theorem Pl.head {n m sh : Int} {e : S42} {r : List S42} (h : Pl n m sh (e :: r)) : 0 ≤ e.f0 + sh ∧ e.f0 + sh + e.f2.size ≤ m ∧ 0 ≤ e.f0 ∧ e.f0 ≤ e.f1 ∧ e.f1 ≤ n := by
 have := h [] e r rfl
 simpa [sumG] using this
structure SR (n m : Int) (s : GS) : Prop where
 pa : Pl n m s.sh s.a
 pb : ∀ f ∈ s.b, 0 ≤ f.f0 ∧ f.f0 ≤ f.f1 ∧ f.f1 ≤ m
 fp : ∀ p ∈ s.first, 0 ≤ p.f0 ∧ p.f0 ≤ 5000000000000000000 ∧ p.f3.size ≤ 1048576
 sp : ∀ e ∈ s.second, (0 ≤ e.f0 ∧ e.f0 ≤ 5000000000000000000) ∧ 0 ≤ e.f1 ∧ e.f1 ≤ 5000000000000000000
 sa : ∀ e ∈ s.a, e.f2.size ≤ 1048576
 sl : -1 ≤ s.lo ∧ s.lo ≤ 4700000000000000000
 sh_ : 0 ≤ s.hi ∧ s.hi ≤ 4700000000000000000
 ss : -4700000000000000000 ≤ s.sh ∧ s.sh ≤ 4700000000000000000
 ln : s.first.length + s.a.length ≤ 100000 ∧ s.second.length + s.b.length ≤ 100000
theorem SR.nextA {n m lo hi sh : Int} {first : List S92} {second : List S42} {e : S42} {r b : List S42} (hm : m ≤ 4700000000000000000) (hn : n ≤ 4700000000000000000) (h : SR n m ⟨lo, hi, sh, first, second, e :: r, b⟩) : SR n m (nextA ⟨lo, hi, sh, first, second, e :: r, b⟩ e r) := by
 obtain ⟨pa, pb, fp, sp, sa, sl, sh_, ss, ln⟩ := h
 simp only at pa pb fp sp sa sl sh_ ss ln
 obtain ⟨p1, p2, p3, p4, p5⟩ := Pl.head pa
 have hg : grow e = (e.f2.size : Int) - (e.f1 - e.f0) := rfl
 refine ⟨pa.tail, pb, ?_, sp, fun x hx => sa x (List.mem_cons_of_mem _ hx), ?_, ?_, ?_, ?_⟩
 ·intro p hp
  rcases List.mem_append.1 hp with hp | hp
  ·exact fp p hp
  ·rw [List.mem_singleton.1 hp]
   exact ⟨p1, by show e.f0 + sh ≤ _; omega, sa e List.mem_cons_self⟩
 ·show -1 ≤ (if lo < 0 then e.f0 + sh else lo) ∧ (if lo < 0 then e.f0 + sh else lo) ≤ _
  split <;> omega
 ·show 0 ≤ max hi (e.f0 + sh + e.f2.size) ∧ max hi (e.f0 + sh + e.f2.size) ≤ _
  omega
 ·show _ ≤ sh + grow e ∧ sh + grow e ≤ _
  rw [hg]
  omega
 ·refine ⟨?_, ln.2⟩
  show (first ++ [P67 (e.f0 + sh) e]).length + r.length ≤ _
  rw [List.length_append]
  simp only [List.length_cons, List.length_nil] at ln ⊢
  omega
theorem SR.nextB {n m lo hi sh : Int} {first : List S92} {second : List S42} {f : S42} {t a : List S42} (hm : m ≤ 4700000000000000000) (h : SR n m ⟨lo, hi, sh, first, second, a, f :: t⟩) : SR n m (nextB ⟨lo, hi, sh, first, second, a, f :: t⟩ f t) := by
 obtain ⟨pa, pb, fp, sp, sa, sl, sh_, ss, ln⟩ := h
 simp only at pa pb fp sp sa sl sh_ ss ln
 obtain ⟨p1, p2, p3⟩ := pb f List.mem_cons_self
 refine ⟨pa, fun x hx => pb x (List.mem_cons_of_mem _ hx), fp, ?_, sa, ?_, ?_, ss, ?_⟩
 ·intro p hp
  rcases List.mem_append.1 hp with hp | hp
  ·exact sp p hp
  ·rw [List.mem_singleton.1 hp]
   omega
 ·show -1 ≤ (if lo < 0 then f.f0 else lo) ∧ (if lo < 0 then f.f0 else lo) ≤ _
  split <;> omega
 ·show 0 ≤ max hi f.f1 ∧ max hi f.f1 ≤ _
  omega
 ·refine ⟨ln.1, ?_⟩
  show (second ++ [f]).length + t.length ≤ _
  rw [List.length_append]
  simp only [List.length_cons, List.length_nil] at ln ⊢
  omega
structure MR (w0 w W : World) (g : Nat) (a b : List S42) (sh : Int) (first : List S92) (second : List S42) (v5 v6 vo : Value) (out : List S42) : Prop where
 bx : CBx w0 W g a b sh vo
 r5 : Kd.R k92 92 W w.heap.size (fun k => k ≠ g) v5 first
 r6 : Kd.R k42 42 W w.heap.size (fun k => k ≠ g ∧ some k ≠ v5.ownBlock) v6 second
 ro : Kd.R k42 42 W w0.heap.size (fun k => k ≠ g ∧ k < w.heap.size) vo out
 hb : Below w0.heap.size w0 W
 g0 : w0.heap.size ≤ g
 gw : g < w.heap.size
 sz : w.heap.size ≤ W.heap.size
section
variable {w0 w W W1 : World} {g : Nat} {a b : List S42} {sh : Int} {first : List S92} {second : List S42} {v5 v6 vo : Value} {out : List S42}
theorem CBx.below {a b : List S42} {sh : Int} (h : CBx w0 W g a b sh vo) (hb : Below W.heap.size W W1) : CBx w0 W1 g a b sh vo := by
 obtain ⟨Aa, ca, Ab, cb, x, y⟩ := h
 exact ⟨Aa, ca, Ab, cb, blk_below x hb, y⟩
theorem MR.below (h : MR w0 w W g a b sh first second v5 v6 vo out) (hb : Below W.heap.size W W1) : MR w0 w W1 g a b sh first second v5 v6 vo out :=
 ⟨h.bx.below hb, Kd.R_below h.r5 hb, Kd.R_below h.r6 hb, Kd.R_below h.ro hb, below_step h.hb hb, h.g0, h.gw, Nat.le_trans h.sz hb.size⟩
theorem MR.set (h : MR w0 w W g a b sh first second v5 v6 vo out) {a2 b2 : List S42} {sh2 : Int} (i : Nat) (u : Value) (hx : CBx w0 (W.setCell ⟨g, i, none⟩ u) g a2 b2 sh2 vo) : MR w0 w (W.setCell ⟨g, i, none⟩ u) g a2 b2 sh2 first second v5 v6 vo out :=
 ⟨hx, Kd.R_far (p := ⟨g, i, none⟩) h.r5 (fun k hk => hk) u, Kd.R_far (p := ⟨g, i, none⟩) h.r6 (fun k hk => hk.1) u, Kd.R_far (p := ⟨g, i, none⟩) h.ro (fun k hk => hk.1) u, below_set h.hb h.g0, h.g0, h.gw, by have := h.sz; simp only [World.setCell]; simpa using this⟩
theorem MR.gne (h : MR w0 w W g a b sh first second v5 v6 vo out) : some g ≠ v5.ownBlock ∧ some g ≠ v6.ownBlock := ⟨Kd.R_away h.r5 (fun _ hk => hk), Kd.R_away h.r6 (fun _ hk => hk.1)⟩
theorem MR.app5 (h : MR w0 w W g a b sh first second v5 v6 vo out) {p : S92} {v : Value} (hr : Kd.R k92 92 W1 w.heap.size (fun k => k ≠ g) v (first ++ [p])) (hg : W.grownBy W1 v5.ownBlock) (hat : v.ownBlock = v5.ownBlock ∨ ∃ b, v.ownBlock = some b ∧ W.heap.size ≤ b) : MR w0 w W1 g a b sh (first ++ [p]) second v v6 vo out := by
 have h5 : ∀ k, v5.ownBlock = some k → w.heap.size ≤ k := fun k hk => ((Kd.R_bound h.r5).1 k hk).2.1
 refine ⟨?_, hr, ?_, ?_, h.hb.grown hg (Nat.le_trans h.hb.size (Nat.le_refl _)) (fun k hk => by have := h5 k hk; have := h.g0; have := h.gw; omega), h.g0, h.gw, Nat.le_trans h.sz hg.size⟩
 ·obtain ⟨Aa, ca, Ab, cb, x, y⟩ := h.bx
  exact ⟨Aa, ca, Ab, cb, blk_grown x hg h.gne.1, y⟩
 ·have h6 : Kd.R k42 42 W1 w.heap.size (fun k => (k ≠ g ∧ some k ≠ v5.ownBlock) ∧ k < W.heap.size) v6 second := Kd.R_mono (Kd.R_step (Kd.R_bound h.r6) (fun k ho hk => hg.block k hk ho.1.2)) (fun k hk => ⟨hk.1, hk.2.2.1⟩)
  refine Kd.R_mono h6 (fun k hk => ⟨hk.1.1, ?_⟩)
  rcases hat with e | ⟨q, e, hq⟩
  ·rw [e]; exact hk.1.2
  ·rw [e]; intro e2; injection e2 with e2; omega
 ·exact Kd.R_step h.ro (fun k ho hk => hg.block k hk (fun e => by have := h5 k e.symm; omega))
theorem MR.app6 (h : MR w0 w W g a b sh first second v5 v6 vo out) {p : S42} {v : Value} (hr : Kd.R k42 42 W1 w.heap.size (fun k => k ≠ g ∧ some k ≠ v5.ownBlock) v (second ++ [p])) (hg : W.grownBy W1 v6.ownBlock) : MR w0 w W1 g a b sh first (second ++ [p]) v5 v vo out := by
 have h6 : ∀ k, v6.ownBlock = some k → w.heap.size ≤ k := fun k hk => ((Kd.R_bound h.r6).1 k hk).2.1
 refine ⟨?_, ?_, hr, ?_, h.hb.grown hg (Nat.le_trans h.hb.size (Nat.le_refl _)) (fun k hk => by have := h6 k hk; have := h.g0; have := h.gw; omega), h.g0, h.gw, Nat.le_trans h.sz hg.size⟩
 ·obtain ⟨Aa, ca, Ab, cb, x, y⟩ := h.bx
  exact ⟨Aa, ca, Ab, cb, blk_grown x hg h.gne.2, y⟩
 ·have h5 : ∀ k, v5.ownBlock = some k → some k ≠ v6.ownBlock := fun k hk e => (h.r6.1 k e.symm).2 hk.symm
  have : Kd.R k92 92 W w.heap.size (fun k => k ≠ g ∧ some k ≠ v6.ownBlock) v5 first := by
   cases h6o : v6.ownBlock with
   | none => exact Kd.R_mono h.r5 (fun k hk => ⟨hk, by simp⟩)
   | some q => exact Kd.R_mono (Kd.R_far1 h.r5 rfl (g := q) (fun e => h5 q e.symm (by rw [h6o]))) (fun k hk => ⟨hk.1, fun e => hk.2 (by injection e)⟩)
  exact Kd.R_mono (Kd.R_step this (fun k ho hk => hg.block k hk ho.2)) (fun k hk => hk.1)
 ·exact Kd.R_step h.ro (fun k ho hk => hg.block k hk (fun e => by have := h6 k e.symm; omega))
end
end Go.Proofs.YtaihajmdngoeiaaDoor.F
namespace Go.Proofs.YtaihajmdngoeiaaDoor.F
open Go.RowKit Go.Proofs.YtaihajmdngoeiaaDoorW.PrintWords Go.Proofs.YtaihajmdngoeiaaDoorW.PrintLast Go.Proofs.YtaihajmdngoeiaaDoorW.PrintMore
open Go.Proofs.YtaihajmdngoeiaaDoor.QE
attribute [local go_sem] max2_int min2_int max_two min_two
set_option linter.unusedVariables false
set_option linter.unusedSimpArgs false
def group.T11 : Bool × List (List Nat × List Nat) := (true, [([], []), ([0], [0]), ([1], [1]), ([2], [2]), ([], []), ([4], [4]), ([3, 5], [3, 5]), ([0, 0, 1, 2, 3, 4, 5, 6], [0]), ([7, 0, 1, 2, 3, 4, 5, 6], [7]), ([8, 6, 5, 0, 1, 2, 3, 4, 5, 6], [6, 8])])
def group.B11 : List Nat := [0, 1, 3, 7, 0, 16, 63, 127, 255, 511]
theorem group.tab11 : rtab .any (opsOf Tryd.f40 11) = group.T11 := by kernel_rfl
theorem group.bits11 : waitsOk group.T11.2 group.B11 = true := by kernel_rfl
def group.T22 : Bool × List (List Nat × List Nat) := (true, [([], []), ([], []), ([1], [1]), ([2], [2]), ([3], [3]), ([], []), ([], []), ([5, 6], [5, 6]), ([], []), ([], []), ([9], [9]), ([10], [10]), ([11], [11]), ([8, 12], [8, 12]), ([], []), ([], []), ([], []), ([], []), ([14, 15, 16, 17], [14, 15, 16, 17]), ([7, 13, 18], [7, 13, 18]), ([19], [19]), ([4, 20, 18], [4, 20]), ([0, 0, 1, 2, 3, 4, 5, 6, 7, 8, 9, 10, 11, 12, 13, 14, 15, 16, 17, 18, 19, 20, 21], [0]), ([22, 0, 1, 2, 3, 4, 5, 6, 7, 8, 9, 10, 11, 12, 13, 14, 15, 16, 17, 18, 19, 20, 21], [22]), ([23, 21, 21, 0, 1, 2, 3, 4, 5, 6, 7, 8, 9, 10, 11, 12, 13, 14, 15, 16, 17, 18, 19, 20, 21], [21, 23])])
def group.B22 : List Nat := [0, 0, 2, 6, 14, 0, 0, 96, 0, 0, 512, 1536, 3584, 7936, 0, 0, 0, 0, 245760, 524256, 1048544, 2097150, 4194303, 8388607, 16777215]
theorem group.tab22 : rtab .any (opsOf Tryd.f40 22) = group.T22 := by kernel_rfl
theorem group.bits22 : waitsOk group.T22.2 group.B22 = true := by kernel_rfl
set_option maxRecDepth 100000 in
set_option maxHeartbeats 20000000 in
theorem group.calls (g : Nat) (a b : List S42) (sh : Int) (vo : Value) (out : List S42) (n m : Int) (w0 w : World) (hm : m ≤ 4700000000000000000) (hn : n ≤ 4700000000000000000)
  (h0 : MR w0 w w g a b sh [] [] (.slice none 0 0) (.slice none 0 0) vo out) (hs0 : SR n m ⟨-1, 0, sh, [], [], a, b⟩) (hol : out.length ≤ 200000) (S : GS) (hS : gS (a.length + b.length + 1) ⟨-1, 0, sh, [], [], a, b⟩ = S)
  (hf : -9000000000000000000 ≤ S.lo - sh ∧ S.lo - sh ≤ 9000000000000000000 ∧ -9000000000000000000 ≤ S.hi - S.sh ∧ S.hi - S.sh ≤ 9000000000000000000) (hwl : (writG S.first S.hi S.second S.lo).length ≤ 140737488355328) (hlo : 0 ≤ S.lo) :
  Calls Tryd.prog 40 #[.pointer (some ⟨g, 0, none⟩)] w fun e w' => (∃ x, e = .returned x) ∧ ∃ vo', CBx w0 w' g S.a S.b S.sh vo' ∧ Kd.R k42 42 w' w0.heap.size (fun k => k ≠ g) vo' (out ++ [⟨S.lo - sh, S.hi - S.sh, strOfNums (writG S.first S.hi S.second S.lo)⟩]) ∧ Below w0.heap.size w0 w' := by
 have hu22 := Tryd.underlying22
 have hu42 := Tryd.underlying42
 have hu90 := Tryd.underlying90
 have hu92 := Tryd.underlying92
 have HM0 := Aside0.mk hm
 have HN0 := Aside0.mk hn
 have H0 := Aside0.mk h0
 have HS0 := Aside0.mk hs0
 have HOL := Aside0.mk hol
 have HGS := Aside0.mk hS
 have HF := Aside0.mk hf
 have HWL := Aside0.mk hwl
 have HLO := Aside0.mk hlo
 obtain ⟨Aa, ca, Ab, cb, xg, CA, la, CB, lb⟩ := h0.bx
 have mg : w.cell? ⟨g, 2, none⟩ = some (.int .i64 sh) := (blk_cell xg 2).trans rfl
 clear hm hn h0 hs0 hol hS hf hwl hlo xg CA CB la lb
 go_enter Tryd.func40, Tryd.ntmps40
 go_upto_block 0 with (fail)
 go_cut [2, 3, 5, 6] (fun v2 v3 v5 v6 wc => v2 = .int .i64 S.lo ∧ v3 = .int .i64 S.hi ∧ Aside0 (MR w0 w wc g S.a S.b S.sh S.first S.second v5 v6 vo out) ∧ Aside0 (SR n m S))
 case first =>
  as_aux_lemma =>
   clear mg
   go_wp2_with (fail)
   go_loopg [2, 3, 5, 6] (a.length + b.length + 1) (fun kq v2 v3 v5 v6 w' => ∃ (s : GS), v2 = .int .i64 s.lo ∧ v3 = .int .i64 s.hi ∧ Aside0 (s.a.length + s.b.length + 1 = kq) ∧ Aside0 (gS kq s = S) ∧ Aside0 (MR w0 w w' g s.a s.b s.sh s.first s.second v5 v6 vo out) ∧ Aside0 (SR n m s))
   case atStart => exact ⟨_, rfl, rfl, ⟨rfl⟩, HGS, H0, HS0⟩
   case round =>
    clear H0 HGS HS0
    obtain ⟨s, rfl, rfl, HK, HS, HMR, HSR⟩ := hrel
    obtain ⟨lo, hi, sh1, first, second, a1, b1⟩ := s
    go_step
    go_step
    go_cut [2, 3, 5] (fun v2 v3 v5 wc => v2 = .int .i64 lo ∧ v3 = .int .i64 hi ∧ v5 = u5 ∧ Aside0 (MR w0 w wc g a1 b1 sh1 first second u5 u6 vo out) ∧ Aside0 (∀ e r, a1 = e :: r → takesA lo hi sh1 e b1 = false))
    case first =>
     as_aux_lemma =>
      obtain ⟨Aa, ca, Ab, cb, xg, CA, la, CB, lb⟩ := HMR.out.bx
      simp only at xg CA la CB lb
      obtain ⟨na, hna⟩ : ∃ n, n = a1.length := ⟨_, rfl⟩
      obtain ⟨nb, hnb⟩ : ∃ n, n = b1.length := ⟨_, rfl⟩
      rw [← hna, ← hnb] at xg
      have m0 : wr.cell? ⟨g, 0, none⟩ = some (.slice Aa na ca) := (blk_cell xg 0).trans rfl
      have m1 : wr.cell? ⟨g, 1, none⟩ = some (.slice Ab nb cb) := (blk_cell xg 1).trans rfl
      have m2 : wr.cell? ⟨g, 2, none⟩ = some (.int .i64 sh1) := (blk_cell xg 2).trans rfl
      have XCA := Aside0.mk CA
      have XCB := Aside0.mk CB
      have NA := Aside0.mk hna
      have NB := Aside0.mk hnb
      clear xg CA CB la lb hna hnb
      cases a1 with
      | nil =>
       have hna := NA.out
       simp only [List.length_nil] at hna
       subst hna
       go_wp2
       go_meet
       case rel => exact ⟨rfl, rfl, rfl, HMR, ⟨fun e r h => by cases h⟩⟩
      | cons e r =>
       have hna := NA.out
       have d1 : decide (0 < na) = true := decide_eq_true (by rw [hna]; simp)
       have d2 : decide (0 < (na : Int)) = true := decide_eq_true (by rw [hna]; simp only [List.length_cons]; omega)
       obtain ⟨ada, ea, xa0, xa1, xa2⟩ := at_T42 (Kd.C_below XCA.out HMR.out.hb) 0 (by omega) (by simp)
       subst ea
       have qa : (0 < na) = True := eq_true (by rw [hna]; simp)
       have ra : rd_T42 (e :: r) 0 = e := rfl
       simp only [ra, Int.toNat_zero, Nat.zero_mul, Addr.add_zero'] at xa0 xa1 xa2
       obtain ⟨p1, p2, p3, p4, p5⟩ := Pl.head (show Pl n m sh1 (e :: r) from HSR.out.pa)
       have hw : wrap64 (e.f0 + sh1) = e.f0 + sh1 := by have := HM0.out; rw [w64] <;> omega
       have PH := Aside0.mk (show 0 ≤ e.f0 + sh1 ∧ e.f0 + sh1 + e.f2.size ≤ m ∧ 0 ≤ e.f0 ∧ e.f0 ≤ e.f1 ∧ e.f1 ≤ n from ⟨p1, p2, p3, p4, p5⟩)
       clear hna ra p1 p2 p3 p4 p5
       go_upto_region 6 with (fail)
       go_quiet (fail)
       go_upto_region 7 with (fail)
       rw [hw]
       go_cut [61] (fun v61 wc => v61 = .bool (takesA lo hi sh1 e b1) ∧ ∃ k, wc = wr.drewN k)
       case first =>
        as_aux_lemma =>
         by_cases l : lo < 0
         ·have c1 : decide (lo < 0) = true := decide_eq_true l
          have c2 : decide (0 ≤ lo) = false := decide_eq_false (by omega)
          cases b1 with
          | nil =>
           have hnb := NB.out
           simp only [List.length_nil] at hnb
           subst hnb
           have HT := Aside0.mk (show takesA lo hi sh1 e [] = true by simp [takesA, l])
           clear l xa0 xa1 xa2 hw qa
           go_wp2
           go_meet
           case rel => exact ⟨by rw [HT.out], _, rfl⟩
          | cons f t =>
           have hnb := NB.out
           obtain ⟨adb, eb, xb0, xb1, xb2⟩ := at_T42 (Kd.C_below XCB.out HMR.out.hb) 0 (by omega) (by simp)
           subst eb
           have qb : (0 < nb) = True := eq_true (by rw [hnb]; simp)
           have dn : ((nb : Int) == 0) = false := beq_eq_false_iff_ne.mpr (by rw [hnb]; simp only [List.length_cons]; omega)
           have rb : rd_T42 (f :: t) 0 = f := rfl
           simp only [rb, Int.toNat_zero, Nat.zero_mul, Addr.add_zero'] at xb0 xb1 xb2
           by_cases c : e.f0 + sh1 ≤ f.f0
           ·have d3 : decide (e.f0 + sh1 ≤ f.f0) = true := decide_eq_true c
            have HT := Aside0.mk (show takesA lo hi sh1 e (f :: t) = true by simp [takesA, l, c])
            clear l xa0 xa1 xa2 hw qa rb hnb c
            go_wp2
            go_meet
            case rel => exact ⟨by rw [HT.out], _, rfl⟩
           ·have d3 : decide (e.f0 + sh1 ≤ f.f0) = false := decide_eq_false c
            have HT := Aside0.mk (show takesA lo hi sh1 e (f :: t) = false by simp [takesA, l, c]; omega)
            clear l xa0 xa1 xa2 hw qa rb hnb c
            go_wp2
            go_meet
            case rel => exact ⟨by rw [HT.out], _, rfl⟩
         ·have c1 : decide (lo < 0) = false := decide_eq_false l
          have c2 : decide (0 ≤ lo) = true := decide_eq_true (by omega)
          have HT := Aside0.mk (show takesA lo hi sh1 e b1 = decide (e.f0 + sh1 ≤ hi) by simp [takesA, l]; omega)
          clear l xa0 xa1 xa2 hw qa
          go_wp2
          go_meet
          case rel => exact ⟨by rw [HT.out], _, rfl⟩
       case rest =>
        as_aux_lemma =>
         obtain ⟨rfl, kd, rfl⟩ := hcut
         have HM1 := Aside0.mk (HMR.out.below (pw_below_drewN (Below.refl _ _) kd))
         by_cases ht : takesA lo hi sh1 e b1 = true
         ·rw [ht]
          have HTK := Aside0.mk ht
          clear ht HMR m0 m1 m2 xa0 xa1 xa2 hw d1 d2 qa XCA XCB NA NB
          generalize wr.drewN kd = wd at HM1 ⊢
          clear Aa ca Ab cb na nb ada
          obtain ⟨Aa, ca, Ab, cb, xg, CA, la, CB, lb⟩ := HM1.out.bx
          obtain ⟨na, hna⟩ : ∃ n, n = (e :: r).length := ⟨_, rfl⟩
          rw [← hna] at xg la
          have m0 : wd.cell? ⟨g, 0, none⟩ = some (.slice Aa na ca) := (blk_cell xg 0).trans rfl
          obtain ⟨ada, ea, xa0, xa1, xa2⟩ := at_T42 (Kd.C_below CA HM1.out.hb) 0 (by omega) (by simp)
          subst ea
          have qa : (0 < na) = True := eq_true (by rw [hna]; simp)
          have ra : rd_T42 (e :: r) 0 = e := rfl
          simp only [ra, Int.toNat_zero, Nat.zero_mul, Addr.add_zero'] at xa0 xa1 xa2
          have XCA := Aside0.mk CA
          have XCB := Aside0.mk CB
          have XG := Aside0.mk xg
          have NA := Aside0.mk hna
          have LA := Aside0.mk la
          have LB := Aside0.mk lb
          clear xg CA CB la lb hna ra
          go_upto_region 9 with (fail)
          obtain ⟨gE, hgE⟩ : ∃ g, wd.heap.size = g := ⟨_, rfl⟩
          obtain ⟨W2, hW2⟩ : ∃ W, W = wd.alloc (Obj.cells #[Value.int IntKind.i64 e.f0, Value.int IntKind.i64 e.f1, Value.string e.f2] 42) := ⟨_, rfl⟩
          rw [← hW2, hgE]
          have BE := Aside0.mk (show W2.heap[gE]? = some (.cells #[.int .i64 e.f0, .int .i64 e.f1, .string e.f2] 42 (0, 0)) by rw [hW2, ← hgE]; exact blk_new _ _)
          have XG2 := Aside0.mk (show W2.heap[g]? = some (.cells #[.slice (some ada) na ca, .slice Ab b1.length cb, .int .i64 sh1, vo] 77 (0, 0)) by rw [hW2]; exact blk_alloc XG.out _)
          have HM2 := Aside0.mk (show MR w0 w W2 g (e :: r) b1 sh1 first second u5 u6 vo out by rw [hW2]; exact HM1.out.below (below_alloc (Below.refl _ _) _))
          have h5E : ∀ k, u5.ownBlock = some k → k < gE := fun k hk => by rw [← hgE]; exact Kd.R_lt HM1.out.r5 k hk
          have h6E : ∀ k, u6.ownBlock = some k → k < gE := fun k hk => by rw [← hgE]; exact Kd.R_lt HM1.out.r6 k hk
          have hgE' : g < gE := by rw [← hgE]; exact blk_lt XG.out
          have H5E := Aside0.mk h5E
          have H6E := Aside0.mk h6E
          have GE := Aside0.mk hgE'
          clear h5E h6E hgE' hgE hW2 HM1 XG m0 xa0 xa1 xa2
          have m0 : W2.cell? ⟨g, 0, none⟩ = some (.slice (some ada) na ca) := (blk_cell XG2.out 0).trans rfl
          have mf := blk_frozen XG2.out 0
          have s1 : (1 ≤ (na : Int)) = True := eq_true (by rw [NA.out]; simp only [List.length_cons]; omega)
          go_upto_region 10 with (fail)
          have hCr := Kd.C_drop (m := 1) (c := ca) (by rw [← NA.out]; have := XCA.out; rw [← NA.out] at this; exact this) (by simp) (by rw [← NA.out]; exact LA.out)
          have hna1 : na - 1 = r.length := by rw [NA.out]; simp
          have XG3 := Aside0.mk (show (W2.setCell ⟨g, 0, none⟩ (.slice (if ca = 1 then some ada else some ⟨ada.block, ada.off + 3, none⟩) (na - 1) (ca - 1))).heap[g]? = some (.cells #[.slice (if ca = 1 then some ada else some ⟨ada.block, ada.off + 3, none⟩) r.length (ca - 1), .slice Ab b1.length cb, .int .i64 sh1, vo] 77 (0, 0)) by rw [hna1]; exact blk_put XG2.out 0 _ rfl)
          have HM3 := Aside0.mk (HM2.out.set (a2 := r) (b2 := b1) (sh2 := sh1) 0 (.slice (if ca = 1 then some ada else some ⟨ada.block, ada.off + 3, none⟩) (na - 1) (ca - 1)) ⟨_, _, _, _, XG3.out, hCr, by rw [← hna1]; have := LA.out; omega, XCB.out, LB.out⟩)
          have BE3 := Aside0.mk ((Below.heap_setCell W2 ⟨g, 0, none⟩ (.slice (if ca = 1 then some ada else some ⟨ada.block, ada.off + 3, none⟩) (na - 1) (ca - 1)) gE (show gE ≠ g by have := GE.out; omega)).trans BE.out)
          generalize W2.setCell ⟨g, 0, none⟩ (.slice (if ca = 1 then some ada else some ⟨ada.block, ada.off + 3, none⟩) (na - 1) (ca - 1)) = W3 at XG3 HM3 BE3 ⊢
          clear HM2 BE XG2 hCr hna1 m0 mf s1
          have e0 : W3.cell? ⟨gE, 0, none⟩ = some (.int .i64 e.f0) := (blk_cell BE3.out 0).trans rfl
          have e1 : W3.cell? ⟨gE, 1, none⟩ = some (.int .i64 e.f1) := (blk_cell BE3.out 1).trans rfl
          have e2 : W3.cell? ⟨gE, 2, none⟩ = some (.string e.f2) := (blk_cell BE3.out 2).trans rfl
          have LF := Aside0.mk (show first.length ≤ 100000 by have := HSR.out.ln.1; simp only at this; omega)
          go_upto_region 11 with (first | ((with_reducible refine gate_builtin (b := .append) (xs := #[.tmp 76, .tmp 80]) rfl ?_); at_builtin; refine Kd.R_append k92 (w0 := W3) w.heap.size rfl (.tmp 76) (.tmp 80) 90 92 (.agg #[(.int .i64 0), (.int .i64 0), (.int .i64 0), (.string ⟨#[]⟩)]) 40 rfl hu90 info92 rfl (by decide) (by omega) u5 first (P67 (e.f0 + sh1) e) [.int .i64 (e.f0 + sh1), .int .i64 e.f0, .int .i64 e.f1, .string e.f2] (fun k => k ≠ g) (fun _ => False) rfl rfl ?aP (fun _ hk => hk.elim) ?aF ?aO ?aB ?aS ?aL ?_; (case aP => exact k92_mkM _ _ _ (P67 (e.f0 + sh1) e)); (case aB => exact Below.refl _ _); (case aF => exact fun k hk => by have := HM3.out.gw; have := HM3.out.sz; omega); (case aO => exact HM3.out.r5); (case aS => exact HM3.out.sz); (case aL => have := LF.out; omega); intro v9 W4 ho hb hg hat; have HM4 := Aside0.mk (HM3.out.app5 ho hg hat); have BE4 := Aside0.mk (blk_grown BE3.out hg (fun q => by have := H5E.out gE q.symm; omega)); have BG := Aside0.mk (blk_grown XG3.out hg HM3.out.gne.1); clear ho hb hg hat e0 e1 e2; have m2 : W4.cell? ⟨g, 2, none⟩ = some (.int .i64 sh1) := (blk_cell BG.out 2).trans rfl; have e0 : W4.cell? ⟨gE, 0, none⟩ = some (.int .i64 e.f0) := (blk_cell BE4.out 0).trans rfl; have e1 : W4.cell? ⟨gE, 1, none⟩ = some (.int .i64 e.f1) := (blk_cell BE4.out 1).trans rfl; have e2 : W4.cell? ⟨gE, 2, none⟩ = some (.string e.f2) := (blk_cell BE4.out 2).trans rfl))
          clear HM3 BE3 XG3
          obtain ⟨hP1, hP2, hP3, hP4, hP5⟩ := PH.out
          have hwg : wrap64 (sh1 + wrap64 ((e.f2.size : Int) - wrap64 (e.f1 - e.f0))) = sh1 + grow e := by
           have h1 := HM0.out
           have h2 := HN0.out
           have h3 := HSR.out.ss
           have h4 := HSR.out.sa e List.mem_cons_self
           simp only at h3
           show wrap64 (sh1 + wrap64 ((e.f2.size : Int) - wrap64 (e.f1 - e.f0))) = sh1 + ((e.f2.size : Int) - (e.f1 - e.f0))
           rw [w64 (x := e.f1 - e.f0) (by omega) (by omega), w64 (x := (e.f2.size : Int) - (e.f1 - e.f0)) (by omega) (by omega), w64 (by omega) (by omega)]
          have hwt : wrap64 (e.f0 + sh1 + (e.f2.size : Int)) = e.f0 + sh1 + (e.f2.size : Int) := by have h1 := HM0.out; rw [w64] <;> omega
          have HWG := Aside0.mk hwg
          have HWT := Aside0.mk hwt
          have hgS : gS (r.length + b1.length + 1) (nextA ⟨lo, hi, sh1, first, second, e :: r, b1⟩ e r) = S := by
           have h1 := HS.out
           have h2 := HK.out
           simp only [List.length_cons] at h2
           rw [← h2, show r.length + 1 + b1.length + 1 = (r.length + b1.length + 1) + 1 by omega] at h1
           simp only [gS, stepG_a, HTK.out, if_true] at h1
           exact h1
          have HGN := Aside0.mk hgS
          clear hP1 hP2 hP3 hP4 hP5 hwg hwt hgS HS
          refine start_ (n := 10) (S := fun w' => Below W4.heap.size W4 w') (ds := [9]) #[false, false, false, false, false, false, false, false, false, false] (by kernel_rfl) rfl rfl (below_drew1 (Below.refl _ _)) (fun hHeld => ?_)
          refine with_tabW group.tab11 group.bits11 (fun HT_ HW_ => ?_)
          generalize W4.drew = wa at hHeld ⊢
          refine pure_ (i := 0) (N := some 82) (v := ?_) (a' := ?_) #[true, false, false, false, false, false, false, false, false, false] rfl rfl (any_of HT_.out (by kernel_rfl)) (fun _ _ _ h => h) (Or.inl ⟨by rfl, ?_⟩) ?_ ?_
          rotate_left
          ·intro w'
           go_simp
           with_reducible rfl
          rotate_left
          ·simp only [Act.put, List.setIfInBounds_toArray, List.set_cons_zero, List.set_cons_succ, i64_w, i32_w]
           rfl
          refine pure_ (i := 1) (N := some 83) (v := ?_) (a' := ?_) #[true, true, false, false, false, false, false, false, false, false] rfl rfl (any_of HT_.out (by kernel_rfl)) (fun _ _ _ h => h) (Or.inl ⟨by rfl, ?_⟩) ?_ ?_
          rotate_left
          ·intro w'
           go_simp
           with_reducible rfl
          rotate_left
          ·simp only [Act.put, List.setIfInBounds_toArray, List.set_cons_zero, List.set_cons_succ, i64_w, i32_w]
           rfl
          refine pure_ (i := 2) (N := some 84) (v := ?_) (a' := ?_) #[true, true, true, false, false, false, false, false, false, false] rfl rfl (any_of HT_.out (by kernel_rfl)) (fun _ _ _ h => h) (Or.inl ⟨by rfl, ?_⟩) ?_ ?_
          rotate_left
          ·intro w'
           go_simp
           with_reducible rfl
          rotate_left
          ·simp only [Act.put, List.setIfInBounds_toArray, List.set_cons_zero, List.set_cons_succ, i64_w, i32_w]
           rfl
          refine take_ (i := 3) (N := some 85) (v := ?_) (a' := ?_) #[true, true, true, true, false, false, false, false, false, false] rfl rfl (take_ofW HT_.out HW_.out (by kernel_rfl)) (fun _ _ _ h => h) (Or.inl ⟨by rfl, ?_⟩) hHeld ?_ ?_
          rotate_left
          ·intro w' hS
           have h0 := (hS.cell (World.block_lt_of_cell? _ _ m2)).trans m2
           have h1 := (hS.cell (World.block_lt_of_cell? _ _ e0)).trans e0
           have h2 := (hS.cell (World.block_lt_of_cell? _ _ e1)).trans e1
           have h3 := (hS.cell (World.block_lt_of_cell? _ _ e2)).trans e2
           clear hS
           go_simp
           with_reducible rfl
          rotate_left
          ·simp only [Act.put, List.setIfInBounds_toArray, List.set_cons_zero, List.set_cons_succ, i64_w, i32_w]
           rfl
          refine take_ (i := 4) (N := some 86) (v := ?_) (a' := ?_) #[true, true, true, true, true, false, false, false, false, false] rfl rfl (take_ofW HT_.out HW_.out (by kernel_rfl)) (fun _ _ _ h => h) (Or.inl ⟨by rfl, ?_⟩) hHeld ?_ ?_
          rotate_left
          ·intro w' hS
           have h0 := (hS.cell (World.block_lt_of_cell? _ _ m2)).trans m2
           have h1 := (hS.cell (World.block_lt_of_cell? _ _ e0)).trans e0
           have h2 := (hS.cell (World.block_lt_of_cell? _ _ e1)).trans e1
           have h3 := (hS.cell (World.block_lt_of_cell? _ _ e2)).trans e2
           clear hS
           go_simp
           with_reducible rfl
          rotate_left
          ·simp only [Act.put, List.setIfInBounds_toArray, List.set_cons_zero, List.set_cons_succ, i64_w, i32_w]
           rfl
          refine one_ (i := 5) (N := some 87) #[true, true, true, true, true, true, false, false, false, false] rfl rfl (one_of HT_.out (by kernel_rfl)) (by decide) (fun K hK => ?_)
          refine goes_ Tryd.func44 (by kernel_rfl) rfl #[.agg #[.int .i64 e.f0, .int .i64 e.f1, .string e.f2]] (by rfl) rfl rfl (by (try simp only [List.map_toArray, List.map_cons, List.map_nil]); first | done | rfl) ?_
          refine (edits_grows.calls e.f0 e.f1 e.f2 _ _ rfl).mono ?_
          rintro e' w5 ⟨rfl, hb5⟩
          refine ⟨_, rfl, ?_⟩
          refine hK.out _ _ (below_step hHeld hb5) (fun hHeld => ?_)
          clear hb5
          clear hK K
          refine norm_ (a' := ?_) ?_ ?_
          rotate_left
          ·show Act.put _ (some 87) _ = _
           simp only [Act.put, List.setIfInBounds_toArray, List.set_cons_zero, List.set_cons_succ, i64_w, i32_w]
           rfl
          refine pure_ (i := 6) (N := some 88) (v := ?_) (a' := ?_) #[true, true, true, true, true, true, true, false, false, false] rfl rfl (any_of HT_.out (by kernel_rfl)) (fun _ _ _ h => h) (Or.inl ⟨by rfl, ?_⟩) ?_ ?_
          rotate_left
          ·intro w'
           go_simp
           with_reducible rfl
          rotate_left
          ·simp only [Act.put, List.setIfInBounds_toArray, List.set_cons_zero, List.set_cons_succ, i64_w, i32_w]
           rfl
          refine pure_ (i := 7) (N := some 89) (v := ?_) (a' := ?_) #[true, true, true, true, true, true, true, true, false, false] rfl rfl (any_of HT_.out (by kernel_rfl)) (fun _ _ _ h => h) (Or.inl ⟨by rfl, ?_⟩) ?_ ?_
          rotate_left
          ·intro w'
           go_simp
           with_reducible rfl
          rotate_left
          ·simp only [Act.put, List.setIfInBounds_toArray, List.set_cons_zero, List.set_cons_succ, i64_w, i32_w]
           rfl
          refine pure_ (i := 8) (N := some 90) (v := ?_) (a' := ?_) #[true, true, true, true, true, true, true, true, true, false] rfl rfl (any_of HT_.out (by kernel_rfl)) (fun _ _ _ h => h) (Or.inl ⟨by rfl, ?_⟩) ?_ ?_
          rotate_left
          ·intro w'
           go_simp
           with_reducible rfl
          rotate_left
          ·simp only [Act.put, List.setIfInBounds_toArray, List.set_cons_zero, List.set_cons_succ, i64_w, i32_w]
           rfl
          refine last_ (i := 9) (N := none) #[true, true, true, true, true, true, true, true, true, true] rfl rfl (one_of HT_.out (by kernel_rfl)) (by decide) (fun K hK => ?_)
          have hf0 := blk_frozen (blk_below BG.out hHeld) 2
          have h0 := (blk_cell (blk_below BG.out hHeld) 2)
          refine skip_ (w1 := ?_) (by rfl) rfl ?_ ?_
          rotate_left
          ·go_simp
           rfl
          refine hK.out _ _ ?_
          clear hK K
          refine done_ (done_of HT_.out (by kernel_rfl)) ?_
          have HM5 := HM4.out.below hHeld
          have BE5 := blk_below BE4.out hHeld
          rw [HWG.out]
          obtain ⟨Aq, cq, Ar, cr, xq, Cq, lq, Cr, lr⟩ := HM5.bx
          have HM6 := Aside0.mk (HM5.set (a2 := r) (b2 := b1) (sh2 := sh1 + grow e) 2 (.int .i64 (sh1 + grow e)) ⟨Aq, cq, Ar, cr, blk_put xq 2 _ rfl, Cq, lq, Cr, lr⟩)
          have BE6 := Aside0.mk ((Below.heap_setCell w5 ⟨g, 2, none⟩ (.int .i64 (sh1 + grow e)) gE (show gE ≠ g by have := GE.out; omega)).trans BE5)
          generalize w5.setCell ⟨g, 2, none⟩ (.int .i64 (sh1 + grow e)) = W6 at HM6 BE6 ⊢
          clear HM5 BE5 xq Cq lq Cr lr hHeld hf0 h0 HM4 BG BE4 m2 e0 e1 e2
          have e2 : W6.cell? ⟨gE, 2, none⟩ = some (.string e.f2) := (blk_cell BE6.out 2).trans rfl
          have hwt := HWT.out
          by_cases l : lo < 0
          ·have c1 : decide (lo < 0) = true := decide_eq_true l
           have HL := Aside0.mk l
           clear l
           go_wp2
           all_goals
            go_roundg (r.length + b1.length + 1)
            case measure => have := HK.out; simp only [List.length_cons] at this; omega
            case rel =>
             refine ⟨nextA ⟨lo, hi, sh1, first, second, e :: r, b1⟩ e r, ?_, ?_, ⟨rfl⟩, HGN, HM6, ⟨SR.nextA HM0.out HN0.out HSR.out⟩⟩
             ·show Value.int .i64 (e.f0 + sh1) = .int .i64 (if lo < 0 then e.f0 + sh1 else lo)
              rw [if_pos HL.out]
             ·show Value.int .i64 _ = Value.int .i64 (max hi (e.f0 + sh1 + (e.f2.size : Int)))
              congr 1
              omega
          ·have c1 : decide (lo < 0) = false := decide_eq_false l
           have HL := Aside0.mk l
           clear l
           go_wp2
           all_goals
            go_roundg (r.length + b1.length + 1)
            case measure => have := HK.out; simp only [List.length_cons] at this; omega
            case rel =>
             refine ⟨nextA ⟨lo, hi, sh1, first, second, e :: r, b1⟩ e r, ?_, ?_, ⟨rfl⟩, HGN, HM6, ⟨SR.nextA HM0.out HN0.out HSR.out⟩⟩
             ·show Value.int .i64 lo = .int .i64 (if lo < 0 then e.f0 + sh1 else lo)
              rw [if_neg (show ¬ lo < 0 by have := HL.out; omega)]
             ·show Value.int .i64 _ = Value.int .i64 (max hi (e.f0 + sh1 + (e.f2.size : Int)))
              congr 1
              omega
         ·rw [Bool.not_eq_true] at ht
          rw [ht]
          have HTK := Aside0.mk ht
          clear ht
          go_wp2
          go_meet
          case rel => exact ⟨rfl, rfl, rfl, HM1, ⟨fun e' r' h => by injection h with h1 h2; rw [← h1]; exact HTK.out⟩⟩
    case rest =>
     as_aux_lemma =>
      obtain ⟨rfl, rfl, rfl, HM1, HNT⟩ := hcut
      clear HMR
      obtain ⟨Aa, ca, Ab, cb, xg, CA, la, CB, lb⟩ := HM1.out.bx
      obtain ⟨nb, hnb⟩ : ∃ n, n = b1.length := ⟨_, rfl⟩
      rw [← hnb] at xg lb
      have m1 : wc.cell? ⟨g, 1, none⟩ = some (.slice Ab nb cb) := (blk_cell xg 1).trans rfl
      have hend : stepB ⟨lo, hi, sh1, first, second, a1, b1⟩ = none → S = ⟨lo, hi, sh1, first, second, a1, b1⟩ := by
       intro hb
       have h1 := HS.out
       rw [← HK.out] at h1
       have h2 : QE.stepG ⟨lo, hi, sh1, first, second, a1, b1⟩ = none := by
        cases a1 with
        | nil => exact hb
        | cons e r => rw [stepG_a, HNT.out e r rfl]; simpa using hb
       simp only [gS, h2] at h1
       exact h1.symm
      have HEND := Aside0.mk hend
      have XCA := Aside0.mk CA
      have XCB := Aside0.mk CB
      have XG := Aside0.mk xg
      have NB := Aside0.mk hnb
      have LA := Aside0.mk la
      have LB := Aside0.mk lb
      clear xg CA CB la lb hnb hend
      cases b1 with
      | nil =>
       have hnb := NB.out
       simp only [List.length_nil] at hnb
       subst hnb
       have hSe := HEND.out rfl
       have HSE := Aside0.mk hSe
       clear hSe
       go_wp2
       go_meet
       case rel => rw [HSE.out]; exact ⟨rfl, rfl, HM1, HSR⟩
      | cons f t =>
       have hnb := NB.out
       have d1 : decide (0 < nb) = true := decide_eq_true (by rw [hnb]; simp)
       have d2 : decide (0 < (nb : Int)) = true := decide_eq_true (by rw [hnb]; simp only [List.length_cons]; omega)
       obtain ⟨adb, eb, xb0, xb1, xb2⟩ := at_T42 (Kd.C_below XCB.out HM1.out.hb) 0 (by omega) (by simp)
       subst eb
       have qb : (0 < nb) = True := eq_true (by rw [hnb]; simp)
       have rb : rd_T42 (f :: t) 0 = f := rfl
       simp only [rb, Int.toNat_zero, Nat.zero_mul, Addr.add_zero'] at xb0 xb1 xb2
       clear rb hnb
       go_upto_region 15 with (fail)
       go_cut [121] (fun v121 w' => v121 = .bool (decide (lo < 0 ∨ f.f0 ≤ hi)) ∧ w' = wc)
       case first =>
        as_aux_lemma =>
         by_cases l : lo < 0
         ·have c1 : decide (lo < 0) = true := decide_eq_true l
          have HT := Aside0.mk (show decide (lo < 0 ∨ f.f0 ≤ hi) = true from decide_eq_true (Or.inl l))
          clear l
          go_wp2
          go_meet
          case rel => exact ⟨by rw [HT.out], rfl⟩
         ·have c1 : decide (lo < 0) = false := decide_eq_false l
          have HT := Aside0.mk (show decide (lo < 0 ∨ f.f0 ≤ hi) = decide (f.f0 ≤ hi) by simp [l])
          clear l
          go_wp2
          go_meet
          case rel => exact ⟨by rw [HT.out], rfl⟩
       case rest =>
        as_aux_lemma =>
         obtain ⟨rfl, rfl⟩ := hcut
         by_cases ht : lo < 0 ∨ f.f0 ≤ hi
         ·rw [decide_eq_true ht]
          have HTK := Aside0.mk (show stepB ⟨lo, hi, sh1, first, second, a1, f :: t⟩ = some (nextB ⟨lo, hi, sh1, first, second, a1, f :: t⟩ f t) by show (if lo < 0 ∨ f.f0 ≤ hi then some _ else none) = _; rw [if_pos ht])
          clear ht
          go_upto_region 17 with (fail)
          obtain ⟨gE, hgE⟩ : ∃ g, wc.heap.size = g := ⟨_, rfl⟩
          obtain ⟨W2, hW2⟩ : ∃ W, W = wc.alloc (Obj.cells #[Value.int IntKind.i64 f.f0, Value.int IntKind.i64 f.f1, Value.string f.f2] 42) := ⟨_, rfl⟩
          rw [← hW2, hgE]
          have BE := Aside0.mk (show W2.heap[gE]? = some (.cells #[.int .i64 f.f0, .int .i64 f.f1, .string f.f2] 42 (0, 0)) by rw [hW2, ← hgE]; exact blk_new _ _)
          have XG2 := Aside0.mk (show W2.heap[g]? = some (.cells #[.slice Aa a1.length ca, .slice (some adb) nb cb, .int .i64 sh1, vo] 77 (0, 0)) by rw [hW2]; exact blk_alloc XG.out _)
          have HM2 := Aside0.mk (show MR w0 w W2 g a1 (f :: t) sh1 first second u5 u6 vo out by rw [hW2]; exact HM1.out.below (below_alloc (Below.refl _ _) _))
          have h6E : ∀ k, u6.ownBlock = some k → k < gE := fun k hk => by rw [← hgE]; exact Kd.R_lt HM1.out.r6 k hk
          have hgE' : g < gE := by rw [← hgE]; exact blk_lt XG.out
          have H6E := Aside0.mk h6E
          have GE := Aside0.mk hgE'
          clear h6E hgE' hgE hW2 HM1 XG m1 xb0 xb1 xb2
          have m1 : W2.cell? ⟨g, 1, none⟩ = some (.slice (some adb) nb cb) := (blk_cell XG2.out 1).trans rfl
          have mf := blk_frozen XG2.out 1
          have s1 : (1 ≤ (nb : Int)) = True := eq_true (by rw [NB.out]; simp only [List.length_cons]; omega)
          go_upto_region 18 with (fail)
          have hCr := Kd.C_drop (m := 1) (c := cb) (by rw [← NB.out]; have := XCB.out; rw [← NB.out] at this; exact this) (by simp) (by rw [← NB.out]; exact LB.out)
          have hna1 : nb - 1 = t.length := by rw [NB.out]; simp
          have HM3 := Aside0.mk (HM2.out.set (a2 := a1) (b2 := t) (sh2 := sh1) 1 (.slice (if cb = 1 then some adb else some ⟨adb.block, adb.off + 3, none⟩) (nb - 1) (cb - 1)) ⟨_, _, _, _, (show (W2.setCell ⟨g, 1, none⟩ (.slice (if cb = 1 then some adb else some ⟨adb.block, adb.off + 3, none⟩) (nb - 1) (cb - 1))).heap[g]? = some (.cells #[.slice Aa a1.length ca, .slice (if cb = 1 then some adb else some ⟨adb.block, adb.off + 3, none⟩) t.length (cb - 1), .int .i64 sh1, vo] 77 (0, 0)) by rw [hna1]; exact blk_put XG2.out 1 _ rfl), XCA.out, LA.out, hCr, by rw [← hna1]; have := LB.out; omega⟩)
          have BE3 := Aside0.mk ((Below.heap_setCell W2 ⟨g, 1, none⟩ (.slice (if cb = 1 then some adb else some ⟨adb.block, adb.off + 3, none⟩) (nb - 1) (cb - 1)) gE (show gE ≠ g by have := GE.out; omega)).trans BE.out)
          generalize W2.setCell ⟨g, 1, none⟩ (.slice (if cb = 1 then some adb else some ⟨adb.block, adb.off + 3, none⟩) (nb - 1) (cb - 1)) = W3 at HM3 BE3 ⊢
          clear HM2 BE XG2 hCr hna1 m1 mf s1
          have e0 : W3.cell? ⟨gE, 0, none⟩ = some (.int .i64 f.f0) := (blk_cell BE3.out 0).trans rfl
          have e1 : W3.cell? ⟨gE, 1, none⟩ = some (.int .i64 f.f1) := (blk_cell BE3.out 1).trans rfl
          have e2 : W3.cell? ⟨gE, 2, none⟩ = some (.string f.f2) := (blk_cell BE3.out 2).trans rfl
          have LF := Aside0.mk (show second.length ≤ 100000 by have := HSR.out.ln.2; simp only at this; omega)
          have hgS : gS (a1.length + t.length + 1) (nextB ⟨lo, hi, sh1, first, second, a1, f :: t⟩ f t) = S := by
           have h1 := HS.out
           rw [← HK.out] at h1
           have h2 : QE.stepG ⟨lo, hi, sh1, first, second, a1, f :: t⟩ = some (nextB ⟨lo, hi, sh1, first, second, a1, f :: t⟩ f t) := by
            cases a1 with
            | nil => exact HTK.out
            | cons e r => rw [stepG_a, HNT.out e r rfl]; simpa using HTK.out
           simp only [gS, h2, List.length_cons] at h1
           exact h1
          have HGN := Aside0.mk hgS
          clear hgS HS HEND
          go_upto_region 19 with (first | ((with_reducible refine gate_builtin (b := .append) (xs := #[.tmp 136, .tmp 138]) rfl ?_); at_builtin; refine Kd.R_append k42 (w0 := W3) w.heap.size rfl (.tmp 136) (.tmp 138) 22 42 (.agg #[(.int .i64 0), (.int .i64 0), (.string ⟨#[]⟩)]) 32 rfl hu22 info42 rfl (by decide) (by omega) u6 second f [.int .i64 f.f0, .int .i64 f.f1, .string f.f2] (fun k => k ≠ g ∧ some k ≠ u5.ownBlock) (fun _ => False) rfl rfl ?aP (fun _ hk => hk.elim) ?aF ?aO ?aB ?aS ?aL ?_; (case aP => exact k42_mkM _ _ _ f); (case aB => exact Below.refl _ _); (case aF => exact fun k hk => ⟨by have := HM3.out.gw; have := HM3.out.sz; omega, fun q => by have := Kd.R_lt HM3.out.r5 k q.symm; omega⟩); (case aO => exact HM3.out.r6); (case aS => exact HM3.out.sz); (case aL => have := LF.out; omega); intro v9 W4 ho hb hg hat; have HM4 := Aside0.mk (HM3.out.app6 ho hg); have BE4 := Aside0.mk (blk_grown BE3.out hg (fun q => by have := H6E.out gE q.symm; omega)); clear ho hb hg hat e0 e1 e2; have e0 : W4.cell? ⟨gE, 0, none⟩ = some (.int .i64 f.f0) := (blk_cell BE4.out 0).trans rfl; have e1 : W4.cell? ⟨gE, 1, none⟩ = some (.int .i64 f.f1) := (blk_cell BE4.out 1).trans rfl; have e2 : W4.cell? ⟨gE, 2, none⟩ = some (.string f.f2) := (blk_cell BE4.out 2).trans rfl))
          clear HM3 BE3
          by_cases l : lo < 0
          ·have c1 : decide (lo < 0) = true := decide_eq_true l
           have HL := Aside0.mk l
           clear l
           go_wp2
           all_goals
            go_roundg (a1.length + t.length + 1)
            case measure => have := HK.out; simp only [List.length_cons] at this; omega
            case rel =>
             refine ⟨nextB ⟨lo, hi, sh1, first, second, a1, f :: t⟩ f t, ?_, ?_, ⟨rfl⟩, HGN, HM4, ⟨SR.nextB HM0.out HSR.out⟩⟩
             ·show Value.int .i64 f.f0 = .int .i64 (if lo < 0 then f.f0 else lo)
              rw [if_pos HL.out]
             ·show Value.int .i64 _ = Value.int .i64 (max hi f.f1)
              congr 1
              omega
          ·have c1 : decide (lo < 0) = false := decide_eq_false l
           have HL := Aside0.mk l
           clear l
           go_wp2
           all_goals
            go_roundg (a1.length + t.length + 1)
            case measure => have := HK.out; simp only [List.length_cons] at this; omega
            case rel =>
             refine ⟨nextB ⟨lo, hi, sh1, first, second, a1, f :: t⟩ f t, ?_, ?_, ⟨rfl⟩, HGN, HM4, ⟨SR.nextB HM0.out HSR.out⟩⟩
             ·show Value.int .i64 lo = .int .i64 (if lo < 0 then f.f0 else lo)
              rw [if_neg (show ¬ lo < 0 by have := HL.out; omega)]
             ·show Value.int .i64 _ = Value.int .i64 (max hi f.f1)
              congr 1
              omega
         ·rw [decide_eq_false ht]
          have hSe := HEND.out (by show (if lo < 0 ∨ f.f0 ≤ hi then some _ else none) = _; rw [if_neg ht])
          have HSE := Aside0.mk hSe
          clear hSe ht
          go_wp2
          go_meet
          case rel => rw [HSE.out]; exact ⟨rfl, rfl, HM1, HSR⟩
 case rest =>
  as_aux_lemma =>
   obtain ⟨rfl, rfl, HM1, HS1⟩ := hcut
   clear H0 HGS HS0
   obtain ⟨Aa, ca, Ab, cb, xg, CA, la, CB, lb⟩ := HM1.out.bx
   obtain ⟨A5, c5, e5, hc5, hC5⟩ := Kd.R_reads HM1.out.r5
   obtain ⟨A6, c6, e6, hc6, hC6⟩ := Kd.R_reads HM1.out.r6
   subst e5
   subst e6
   have HC5 := Aside0.mk hC5
   have HC6 := Aside0.mk hC6
   have XG := Aside0.mk xg
   have CA := Aside0.mk CA
   have CB := Aside0.mk CB
   have LA := Aside0.mk la
   have LB := Aside0.mk lb
   have m2 : wc.cell? ⟨g, 2, none⟩ = some (.int .i64 S.sh) := (blk_cell xg 2).trans rfl
   have m3 : wc.cell? ⟨g, 3, none⟩ = some vo := (blk_cell xg 3).trans rfl
   have hw1 : wrap64 (S.lo - sh) = S.lo - sh := by have := HF.out; rw [w64] <;> omega
   have hw2 : wrap64 (S.hi - S.sh) = S.hi - S.sh := by have := HF.out; rw [w64] <;> omega
   clear xg la lb hC5 hC6 hc5 hc6 mg
   go_upto_region 22 with (fail)
   refine start_ (n := 25) (S := fun w' => Below wc.heap.size wc w') (ds := [21, 24]) #[false, false, false, false, false, false, false, false, false, false, false, false, false, false, false, false, false, false, false, false, false, false, false, false, false] (by kernel_rfl) rfl rfl (below_drew1 (Below.refl _ _)) (fun hHeld => ?_)
   refine with_tabW group.tab22 group.bits22 (fun HT_ HW_ => ?_)
   generalize wc.drew = wa at hHeld ⊢
   refine pure_ (i := 0) (N := some 148) (v := ?_) (a' := ?_) #[true, false, false, false, false, false, false, false, false, false, false, false, false, false, false, false, false, false, false, false, false, false, false, false, false] rfl rfl (any_of HT_.out (by kernel_rfl)) (fun _ _ _ h => h) (Or.inl ⟨by rfl, ?_⟩) ?_ ?_
   rotate_left
   ·intro w'
    go_simp
    with_reducible rfl
   rotate_left
   ·simp only [Act.put, List.setIfInBounds_toArray, List.set_cons_zero, List.set_cons_succ, i64_w, i32_w]
    rfl
   refine pure_ (i := 1) (N := some 149) (v := ?_) (a' := ?_) #[true, true, false, false, false, false, false, false, false, false, false, false, false, false, false, false, false, false, false, false, false, false, false, false, false] rfl rfl (any_of HT_.out (by kernel_rfl)) (fun _ _ _ h => h) (Or.inl ⟨by rfl, ?_⟩) ?_ ?_
   rotate_left
   ·intro w'
    go_simp
    with_reducible rfl
   rotate_left
   ·simp only [Act.put, List.setIfInBounds_toArray, List.set_cons_zero, List.set_cons_succ, i64_w, i32_w]
    rfl
   refine pure_ (i := 2) (N := some 150) (v := ?_) (a' := ?_) #[true, true, true, false, false, false, false, false, false, false, false, false, false, false, false, false, false, false, false, false, false, false, false, false, false] rfl rfl (any_of HT_.out (by kernel_rfl)) (fun _ _ _ h => h) (Or.inl ⟨by rfl, ?_⟩) ?_ ?_
   rotate_left
   ·intro w'
    go_simp
    with_reducible rfl
   rotate_left
   ·simp only [Act.put, List.setIfInBounds_toArray, List.set_cons_zero, List.set_cons_succ, i64_w, i32_w]
    rfl
   refine pure_ (i := 3) (N := some 151) (v := ?_) (a' := ?_) #[true, true, true, true, false, false, false, false, false, false, false, false, false, false, false, false, false, false, false, false, false, false, false, false, false] rfl rfl (any_of HT_.out (by kernel_rfl)) (fun _ _ _ h => h) (Or.inl ⟨by rfl, ?_⟩) ?_ ?_
   rotate_left
   ·intro w'
    go_simp
    with_reducible rfl
   rotate_left
   ·simp only [Act.put, List.setIfInBounds_toArray, List.set_cons_zero, List.set_cons_succ, i64_w, i32_w]
    rfl
   refine pure_ (i := 5) (N := some 153) (v := ?_) (a' := ?_) #[true, true, true, true, false, true, false, false, false, false, false, false, false, false, false, false, false, false, false, false, false, false, false, false, false] rfl rfl (any_of HT_.out (by kernel_rfl)) (fun _ _ _ h => h) (Or.inl ⟨by rfl, ?_⟩) ?_ ?_
   rotate_left
   ·intro w'
    go_simp
    with_reducible rfl
   rotate_left
   ·simp only [Act.put, List.setIfInBounds_toArray, List.set_cons_zero, List.set_cons_succ, i64_w, i32_w]
    rfl
   refine pure_ (i := 6) (N := some 154) (v := ?_) (a' := ?_) #[true, true, true, true, false, true, true, false, false, false, false, false, false, false, false, false, false, false, false, false, false, false, false, false, false] rfl rfl (any_of HT_.out (by kernel_rfl)) (fun _ _ _ h => h) (Or.inl ⟨by rfl, ?_⟩) ?_ ?_
   rotate_left
   ·intro w'
    go_simp
    with_reducible rfl
   rotate_left
   ·simp only [Act.put, List.setIfInBounds_toArray, List.set_cons_zero, List.set_cons_succ, i64_w, i32_w]
    rfl
   refine pure_ (i := 7) (N := some 155) (v := ?_) (a' := ?_) #[true, true, true, true, false, true, true, true, false, false, false, false, false, false, false, false, false, false, false, false, false, false, false, false, false] rfl rfl (any_of HT_.out (by kernel_rfl)) (fun _ _ _ h => h) (Or.inl ⟨by rfl, ?_⟩) ?_ ?_
   rotate_left
   ·intro w'
    go_simp
    with_reducible rfl
   rotate_left
   ·simp only [Act.put, List.setIfInBounds_toArray, List.set_cons_zero, List.set_cons_succ, i64_w, i32_w]
    rfl
   refine pure_ (i := 8) (N := some 156) (v := ?_) (a' := ?_) #[true, true, true, true, false, true, true, true, true, false, false, false, false, false, false, false, false, false, false, false, false, false, false, false, false] rfl rfl (any_of HT_.out (by kernel_rfl)) (fun _ _ _ h => h) (Or.inl ⟨by rfl, ?_⟩) ?_ ?_
   rotate_left
   ·intro w'
    go_simp
    with_reducible rfl
   rotate_left
   ·simp only [Act.put, List.setIfInBounds_toArray, List.set_cons_zero, List.set_cons_succ, i64_w, i32_w]
    rfl
   refine pure_ (i := 9) (N := some 157) (v := ?_) (a' := ?_) #[true, true, true, true, false, true, true, true, true, true, false, false, false, false, false, false, false, false, false, false, false, false, false, false, false] rfl rfl (any_of HT_.out (by kernel_rfl)) (fun _ _ _ h => h) (Or.inl ⟨by rfl, ?_⟩) ?_ ?_
   rotate_left
   ·intro w'
    go_simp
    with_reducible rfl
   rotate_left
   ·simp only [Act.put, List.setIfInBounds_toArray, List.set_cons_zero, List.set_cons_succ, i64_w, i32_w]
    rfl
   refine pure_ (i := 10) (N := some 158) (v := ?_) (a' := ?_) #[true, true, true, true, false, true, true, true, true, true, true, false, false, false, false, false, false, false, false, false, false, false, false, false, false] rfl rfl (any_of HT_.out (by kernel_rfl)) (fun _ _ _ h => h) (Or.inl ⟨by rfl, ?_⟩) ?_ ?_
   rotate_left
   ·intro w'
    go_simp
    with_reducible rfl
   rotate_left
   ·simp only [Act.put, List.setIfInBounds_toArray, List.set_cons_zero, List.set_cons_succ, i64_w, i32_w]
    rfl
   refine pure_ (i := 11) (N := some 159) (v := ?_) (a' := ?_) #[true, true, true, true, false, true, true, true, true, true, true, true, false, false, false, false, false, false, false, false, false, false, false, false, false] rfl rfl (any_of HT_.out (by kernel_rfl)) (fun _ _ _ h => h) (Or.inl ⟨by rfl, ?_⟩) ?_ ?_
   rotate_left
   ·intro w'
    go_simp
    with_reducible rfl
   rotate_left
   ·simp only [Act.put, List.setIfInBounds_toArray, List.set_cons_zero, List.set_cons_succ, i64_w, i32_w]
    rfl
   refine pure_ (i := 14) (N := some 162) (v := ?_) (a' := ?_) #[true, true, true, true, false, true, true, true, true, true, true, true, false, false, true, false, false, false, false, false, false, false, false, false, false] rfl rfl (any_of HT_.out (by kernel_rfl)) (fun _ _ _ h => h) (Or.inl ⟨by rfl, ?_⟩) ?_ ?_
   rotate_left
   ·intro w'
    go_simp
    with_reducible rfl
   rotate_left
   ·simp only [Act.put, List.setIfInBounds_toArray, List.set_cons_zero, List.set_cons_succ, i64_w, i32_w]
    rfl
   refine pure_ (i := 15) (N := some 163) (v := ?_) (a' := ?_) #[true, true, true, true, false, true, true, true, true, true, true, true, false, false, true, true, false, false, false, false, false, false, false, false, false] rfl rfl (any_of HT_.out (by kernel_rfl)) (fun _ _ _ h => h) (Or.inl ⟨by rfl, ?_⟩) ?_ ?_
   rotate_left
   ·intro w'
    go_simp
    with_reducible rfl
   rotate_left
   ·simp only [Act.put, List.setIfInBounds_toArray, List.set_cons_zero, List.set_cons_succ, i64_w, i32_w]
    rfl
   refine pure_ (i := 16) (N := some 164) (v := ?_) (a' := ?_) #[true, true, true, true, false, true, true, true, true, true, true, true, false, false, true, true, true, false, false, false, false, false, false, false, false] rfl rfl (any_of HT_.out (by kernel_rfl)) (fun _ _ _ h => h) (Or.inl ⟨by rfl, ?_⟩) ?_ ?_
   rotate_left
   ·intro w'
    go_simp
    with_reducible rfl
   rotate_left
   ·simp only [Act.put, List.setIfInBounds_toArray, List.set_cons_zero, List.set_cons_succ, i64_w, i32_w]
    rfl
   refine pure_ (i := 17) (N := some 165) (v := ?_) (a' := ?_) #[true, true, true, true, false, true, true, true, true, true, true, true, false, false, true, true, true, true, false, false, false, false, false, false, false] rfl rfl (any_of HT_.out (by kernel_rfl)) (fun _ _ _ h => h) (Or.inl ⟨by rfl, ?_⟩) ?_ ?_
   rotate_left
   ·intro w'
    go_simp
    with_reducible rfl
   rotate_left
   ·simp only [Act.put, List.setIfInBounds_toArray, List.set_cons_zero, List.set_cons_succ, i64_w, i32_w]
    rfl
   refine take_ (i := 4) (N := some 152) (v := ?_) (a' := ?_) #[true, true, true, true, true, true, true, true, true, true, true, true, false, false, true, true, true, true, false, false, false, false, false, false, false] rfl rfl (take_ofW HT_.out HW_.out (by kernel_rfl)) (fun _ _ _ h => h) (Or.inl ⟨by rfl, ?_⟩) hHeld ?_ ?_
   rotate_left
   ·intro w' hS
    have h0 := (hS.cell (World.block_lt_of_cell? _ _ m2)).trans m2
    have h1 := (hS.cell (World.block_lt_of_cell? _ _ m3)).trans m3
    clear hS
    go_simp
    with_reducible rfl
   rotate_left
   ·simp only [Act.put, List.setIfInBounds_toArray, List.set_cons_zero, List.set_cons_succ, i64_w, i32_w]
    rfl
   refine take_ (i := 12) (N := some 160) (v := ?_) (a' := ?_) #[true, true, true, true, true, true, true, true, true, true, true, true, true, false, true, true, true, true, false, false, false, false, false, false, false] rfl rfl (take_ofW HT_.out HW_.out (by kernel_rfl)) (fun _ _ _ h => h) (Or.inl ⟨by rfl, ?_⟩) hHeld ?_ ?_
   rotate_left
   ·intro w' hS
    have h0 := (hS.cell (World.block_lt_of_cell? _ _ m2)).trans m2
    have h1 := (hS.cell (World.block_lt_of_cell? _ _ m3)).trans m3
    clear hS
    go_simp
    with_reducible rfl
   rotate_left
   ·simp only [Act.put, List.setIfInBounds_toArray, List.set_cons_zero, List.set_cons_succ, i64_w, i32_w]
    rfl
   refine pure_ (i := 13) (N := some 161) (v := ?_) (a' := ?_) #[true, true, true, true, true, true, true, true, true, true, true, true, true, true, true, true, true, true, false, false, false, false, false, false, false] rfl rfl (any_of HT_.out (by kernel_rfl)) (fun _ _ _ h => h) (Or.inl ⟨by rfl, ?_⟩) ?_ ?_
   rotate_left
   ·intro w'
    go_simp
    with_reducible rfl
   rotate_left
   ·simp only [Act.put, List.setIfInBounds_toArray, List.set_cons_zero, List.set_cons_succ, i64_w, i32_w]
    rfl
   refine one_ (i := 18) (N := some 166) #[true, true, true, true, true, true, true, true, true, true, true, true, true, true, true, true, true, true, true, false, false, false, false, false, false] rfl rfl (one_of HT_.out (by kernel_rfl)) (by decide) (fun K hK => ?_)
   refine goes_ Tryd.func56 (by kernel_rfl) rfl #[.slice A5 S.first.length c5, .slice A6 S.second.length c6, .int .i64 S.lo, .int .i64 S.hi] (by rfl) rfl rfl (by (try simp only [List.map_toArray, List.map_cons, List.map_nil]); first | done | rfl) ?_
   refine (written.calls S.first S.second A5 c5 A6 c6 S.lo S.hi _ (Kd.C_below HC5.out hHeld) (Kd.C_below HC6.out hHeld) HS1.out.fp HS1.out.sp ⟨HLO.out, by have := HS1.out.sl; omega⟩ ⟨HS1.out.sh_.1, by have := HS1.out.sh_; omega⟩ (by have := HS1.out.ln; omega) (by have := HS1.out.ln; omega) HWL.out).mono ?_
   rintro e' w5 ⟨rfl, hb5⟩
   refine ⟨_, rfl, ?_⟩
   have HW5 := Aside0.mk (below_step hHeld hb5)
   refine hK.out _ _ HW5.out (fun hHeld => ?_)
   clear hb5
   clear hK K
   refine norm_ (a' := ?_) ?_ ?_
   rotate_left
   ·show Act.put _ (some 166) _ = _
    simp only [Act.put, List.setIfInBounds_toArray, List.set_cons_zero, List.set_cons_succ, i64_w, i32_w]
    rfl
   refine pure_ (i := 19) (N := some 167) (v := ?_) (a' := ?_) #[true, true, true, true, true, true, true, true, true, true, true, true, true, true, true, true, true, true, true, true, false, false, false, false, false] rfl rfl (any_of HT_.out (by kernel_rfl)) (fun _ _ _ h => h) (Or.inl ⟨by rfl, ?_⟩) ?_ ?_
   rotate_left
   ·intro w'
    go_simp
    with_reducible rfl
   rotate_left
   ·simp only [Act.put, List.setIfInBounds_toArray, List.set_cons_zero, List.set_cons_succ, i64_w, i32_w]
    rfl
   refine one_ (i := 20) (N := some 168) #[true, true, true, true, true, true, true, true, true, true, true, true, true, true, true, true, true, true, true, true, true, false, false, false, false] rfl rfl (one_of HT_.out (by kernel_rfl)) (by decide) (fun K hK => ?_)
   refine value_ (w1 := ?_) (v := ?_) (by rfl) rfl ?_ ?_
   rotate_left 2
   ·go_simp
    constructor
    ·rfl
    ·rfl
   refine hK.out _ _ (below_alloc HW5.out _) (fun hHeld => ?_)
   clear hK K
   refine norm_ (a' := ?_) ?_ ?_
   rotate_left
   ·show Act.put _ (some 168) _ = _
    simp only [Act.put, List.setIfInBounds_toArray, List.set_cons_zero, List.set_cons_succ, i64_w, i32_w]
    rfl
   refine last_ (i := 21) (N := some 169) #[true, true, true, true, true, true, true, true, true, true, true, true, true, true, true, true, true, true, true, true, true, true, false, false, false] rfl rfl (one_of HT_.out (by kernel_rfl)) (by decide) (fun K hK => ?_)
   refine Kd.R_append_step k42 (w0 := w0) w0.heap.size (by rfl) (.tmp 152) (.tmp 168) 22 42 (.agg #[(.int .i64 0), (.int .i64 0), (.string ⟨#[]⟩)]) 32 rfl Tryd.underlying22 info42 rfl (by decide) (by omega) vo out (⟨S.lo - sh, S.hi - S.sh, strOfNums (writG S.first S.hi S.second S.lo)⟩ : S42) [.int .i64 (S.lo - sh), .int .i64 (S.hi - S.sh), .string (strOfNums (writG S.first S.hi S.second S.lo))] (fun k => k ≠ g) (fun _ => False) rfl rfl ?aP (fun _ hk => hk.elim) ?aF ?aO ?aB ?aS ?aL ?_
   case aP => exact k42_mkM _ _ _ (⟨S.lo - sh, S.hi - S.sh, strOfNums (writG S.first S.hi S.second S.lo)⟩ : S42)
   case aB => exact below_step HM1.out.hb HW5.out
   case aF => exact fun k hk => by have := HM1.out.gw; have := HM1.out.sz; have := HW5.out.size; omega
   case aO => exact Kd.R_mono (Kd.R_below HM1.out.ro HW5.out) (fun k hk => hk.1)
   case aS => exact Nat.le_trans HM1.out.hb.size HW5.out.size
   case aL => have := HOL.out; omega
   intro v9 W7 ho hb hg hat
   obtain ⟨A9, c9, e9⟩ := Kd.R_slice ho
   obtain ⟨nO, hnO⟩ : ∃ k, k = (out ++ [(⟨S.lo - sh, S.hi - S.sh, strOfNums (writG S.first S.hi S.second S.lo)⟩ : S42)]).length := ⟨_, rfl⟩
   rw [← hnO] at e9
   subst e9
   clear hnO
   have BG7 := Aside0.mk (blk_grown (blk_below XG.out HW5.out) hg (Kd.R_away HM1.out.ro (fun _ hk => hk.1)))
   have HO7 := Aside0.mk ho
   have HB7 := Aside0.mk hb
   clear ho hb hg hat
   refine hK.out _ _ ?_
   clear hK K
   refine norm_ (a' := ?_) ?_ ?_
   rotate_left
   ·show Act.put _ (some 169) _ = _
    simp only [Act.put, List.setIfInBounds_toArray, List.set_cons_zero, List.set_cons_succ, i64_w, i32_w]
    rfl
   refine pure_ (i := 22) (N := some 170) (v := ?_) (a' := ?_) #[true, true, true, true, true, true, true, true, true, true, true, true, true, true, true, true, true, true, true, true, true, true, true, false, false] rfl rfl (any_of HT_.out (by kernel_rfl)) (fun _ _ _ h => h) (Or.inl ⟨by rfl, ?_⟩) ?_ ?_
   rotate_left
   ·intro w'
    go_simp
    with_reducible rfl
   rotate_left
   ·simp only [Act.put, List.setIfInBounds_toArray, List.set_cons_zero, List.set_cons_succ, i64_w, i32_w]
    rfl
   refine pure_ (i := 23) (N := some 171) (v := ?_) (a' := ?_) #[true, true, true, true, true, true, true, true, true, true, true, true, true, true, true, true, true, true, true, true, true, true, true, true, false] rfl rfl (any_of HT_.out (by kernel_rfl)) (fun _ _ _ h => h) (Or.inl ⟨by rfl, ?_⟩) ?_ ?_
   rotate_left
   ·intro w'
    go_simp
    with_reducible rfl
   rotate_left
   ·simp only [Act.put, List.setIfInBounds_toArray, List.set_cons_zero, List.set_cons_succ, i64_w, i32_w]
    rfl
   refine last_ (i := 24) (N := none) #[true, true, true, true, true, true, true, true, true, true, true, true, true, true, true, true, true, true, true, true, true, true, true, true, true] rfl rfl (one_of HT_.out (by kernel_rfl)) (by decide) (fun K hK => ?_)
   have hf0 := blk_frozen BG7.out 3
   have h0 := (blk_cell BG7.out 3)
   refine skip_ (w1 := ?_) (by rfl) rfl ?_ ?_
   rotate_left
   ·go_simp
    rfl
   refine hK.out _ _ ?_
   clear hK K
   refine done_ (done_of HT_.out (by kernel_rfl)) ?_
   go_wp2
   (try simp only [Exit.inBlock, Exit.then])
   refine Go.Great.bodyPost_end0 (fn := Tryd.f40) ?_ ?_ ?_
   ·rfl
   ·rfl
   refine ⟨⟨_, rfl⟩, .slice A9 nO c9, ⟨Aa, ca, Ab, cb, blk_put BG7.out 3 _ rfl, CA.out, LA.out, CB.out, LB.out⟩, ?_, ?_⟩
   ·exact Kd.R_far (p := ⟨g, 3, none⟩) HO7.out (fun k hk => hk) _
   ·exact below_set HB7.out HM1.out.g0
end Go.Proofs.YtaihajmdngoeiaaDoor.F
namespace Go.Proofs.YtaihajmdngoeiaaDoor.QE
open Go.RowKit Go.Proofs.YtaihajmdngoeiaaDoorW.PrintWords Go.Proofs.YtaihajmdngoeiaaDoorW.PrintLast Go.Proofs.YtaihajmdngoeiaaDoorW.PrintMore
open Go.Proofs.YtaihajmdngoeiaaDoor.F
set_option linter.unusedVariables false
set_option linter.unusedSimpArgs false
def Rb (r : S86) : Prop := (r.f0 = true → 0 ≤ r.f1 ∧ r.f2 ≤ 5000000000000000000) ∧ (r.f3.size : Int) ≤ 5000000000000000000
theorem size_run (r : S86) (h : Rn r) (hb : Rb r) : monikerref1_Run_size.f r.f0 r.f1 r.f2 r.f3 = some (rsz r) := by
 unfold monikerref1_Run_size.f rsz
 unfold Rn at h
 by_cases e : r.f0 = true
 ·rw [if_pos e] at h
  have := hb.1 e
  rw [if_pos e, if_pos e, w64] <;> omega
 ·rw [if_neg e, if_neg e]
theorem rsz_le (r : S86) (h : Rn r) (hb : Rb r) : 0 ≤ rsz r ∧ rsz r ≤ 5000000000000000000 := by
 unfold rsz
 unfold Rn at h
 by_cases e : r.f0 = true
 ·rw [if_pos e] at h ⊢
  have := hb.1 e
  omega
 ·rw [if_neg e]
  have := hb.2
  omega
set_option maxHeartbeats 1000000 in
theorem part_run (r : S86) (h : Rn r) (hb : Rb r) (a b : Int) (h0 : 0 ≤ a) (h1 : a < b) (h2 : b ≤ rsz r) : monikerref1_Run_part.f r.f0 r.f1 r.f2 r.f3 a b = some ((partS r a b).f0, (partS r a b).f1, (partS r a b).f2, (partS r a b).f3) := by
 unfold monikerref1_Run_part.f partS
 unfold Rn at h
 unfold rsz at h2
 by_cases e : r.f0 = true
 ·rw [if_pos e] at h h2
  have := hb.1 e
  rw [if_pos e, if_pos e, w64 (x := r.f1 + a) (by omega) (by omega), w64 (x := r.f1 + b) (by omega) (by omega)]
 ·rw [if_neg e] at h2
  rw [if_neg e, if_neg e, if_pos h0, if_pos (by omega), if_pos h2]
theorem mx_is (x y : Int) : mx x y = max x y := by unfold mx; omega
theorem mn_is (x y : Int) : mn x y = min x y := by unfold mn; omega
attribute [local irreducible] rsz sum_ keptS doneC
set_option maxHeartbeats 1000000 in
theorem kept_loop (l : List S86) (hR : ∀ r ∈ l, Rn r) (hRb : ∀ r ∈ l, Rb r) (hlen : l.length ≤ 1000000000) (x y : Int) (hx : 0 ≤ x ∧ x ≤ 5000000000000000000) (hy : 0 ≤ y ∧ y ≤ 5000000000000000000) (d : Nat) : ∀ (i : Nat) (p : Int) (out : List S86), i ≤ l.length → l.length - i = d → 0 ≤ p → p + sum_ (l.drop i) ≤ 5000000000000000000 → out.length + 2 * d ≤ 3000000000 →
  Ev (fun k => monikerref1_kept.l0 k l p x y out (i : Int)) (out ++ keptS p x y (l.drop i)) := by
 induction d with
 | zero =>
  intro i p out h1 h2 hp hs ho
  have A1 : ((i : Int) < (l.length : Int)) = False := eq_false (by omega)
  rw [List.drop_eq_nil_of_le (by omega)]
  refine ⟨2, fun k hk => ?_⟩
  obtain ⟨k, rfl⟩ : ∃ m, k = m + 2 := ⟨k - 2, by omega⟩
  simp only [monikerref1_kept.l0, monikerref1_kept.j1, A1, Bool.false_eq_true, if_false, keptS, List.append_nil]
 | succ d ih =>
  intro i p out h1 h2 hp hs ho
  have hi : i < l.length := by omega
  have hm : l[i] ∈ l := List.getElem_mem hi
  have A1 : ((i : Int) < (l.length : Int)) = True := eq_true (by omega)
  have A2 : ((0 : Int) ≤ (i : Int)) = True := eq_true (by omega)
  have A3 : (out.length < 3518437208883) = True := eq_true (by omega)
  have hw : wrap64 ((i : Int) + 1) = ((i + 1 : Nat) : Int) := by rw [w64] <;> omega
  rw [List.drop_eq_getElem_cons hi] at hs ⊢
  simp only [sum_] at hs
  have hsz := size_run _ (hR _ hm) (hRb _ hm)
  obtain ⟨z0, z1⟩ := rsz_le _ (hR _ hm) (hRb _ hm)
  have hpos := sum_pos (l.drop (i + 1)) (fun r hr => hR r (List.mem_of_mem_drop hr))
  have w1 : wrap64 (x - p) = x - p := by rw [w64] <;> omega
  have w2 : wrap64 (y - p) = y - p := by rw [w64] <;> omega
  have w3 : wrap64 (p + rsz l[i]) = p + rsz l[i] := by rw [w64] <;> omega
  have IH := fun out' ho' => ih (i + 1) (p + rsz l[i]) out' (by omega) (by omega) (by omega) (by omega) ho'
  by_cases hpy : p ≤ y
  ·have hcond : ∀ k, monikerref1_kept.l0 (k + 2) l p x y out (i : Int) = monikerref1_kept.j2 k l p x y out (i : Int) (rsz l[i]) (decide (rsz l[i] = 0 ∧ x ≤ p)) := by
    intro k
    simp only [monikerref1_kept.l0, monikerref1_kept.j1, A1, A2, if_true, hpy, decide_true]
    rw [rd86_at l i hi, hsz]
    simp only [Option.bind_some]
    by_cases c1 : rsz l[i] = 0
    ·rw [if_pos c1]
     by_cases c2 : p ≥ x
     ·rw [if_pos c2, decide_eq_true (show rsz l[i] = 0 ∧ x ≤ p from ⟨c1, c2⟩)]
     ·rw [if_neg c2, decide_eq_false (fun h => c2 h.2)]
    ·rw [if_neg c1, decide_eq_false (fun h => c1 h.1)]
   simp only [keptS]
   rw [if_pos hpy]
   by_cases c : rsz l[i] = 0 ∧ x ≤ p
   ·have hnp : ¬ (max (x - p) 0 < min (y - p) (rsz l[i])) := by omega
    rw [if_pos c, if_neg hnp]
    obtain ⟨K, hK⟩ := IH (out ++ [l[i]]) (by rw [List.length_append, List.length_singleton]; omega)
    refine ⟨K + 3, fun k hk => ?_⟩
    obtain ⟨k, rfl⟩ : ∃ m, k = m + 3 := ⟨k - 3, by omega⟩
    refine (hcond (k + 1)).trans ?_
    rw [decide_eq_true c]
    simp only [monikerref1_kept.j2, if_true, A1, A2, A3, Option.bind_some, w1, w2, w3, hw]
    rw [mx_is, mn_is, if_neg hnp, rd86_at l i hi]
    have := hK k (by omega)
    simpa using this
   ·rw [if_neg c]
    by_cases hq : max (x - p) 0 < min (y - p) (rsz l[i])
    ·rw [if_pos hq]
     have hpr := part_run _ (hR _ hm) (hRb _ hm) (max (x - p) 0) (min (y - p) (rsz l[i])) (by omega) hq (by omega)
     obtain ⟨K, hK⟩ := IH (out ++ [partS l[i] (max (x - p) 0) (min (y - p) (rsz l[i]))]) (by rw [List.length_append, List.length_singleton]; omega)
     refine ⟨K + 3, fun k hk => ?_⟩
     obtain ⟨k, rfl⟩ : ∃ m, k = m + 3 := ⟨k - 3, by omega⟩
     refine (hcond (k + 1)).trans ?_
     rw [decide_eq_false c]
     simp only [monikerref1_kept.j2, Bool.false_eq_true, if_false, if_true, A1, A2, A3, w1, w2, w3, hw]
     rw [mx_is, mn_is, if_pos hq, rd86_at l i hi, hpr]
     simp only [Option.bind_some]
     have := hK k (by omega)
     simpa using this
    ·rw [if_neg hq]
     obtain ⟨K, hK⟩ := IH out (by omega)
     refine ⟨K + 3, fun k hk => ?_⟩
     obtain ⟨k, rfl⟩ : ∃ m, k = m + 3 := ⟨k - 3, by omega⟩
     refine (hcond (k + 1)).trans ?_
     rw [decide_eq_false c]
     simp only [monikerref1_kept.j2, Bool.false_eq_true, if_false, w1, w2, w3, hw]
     rw [mx_is, mn_is, if_neg hq]
     have := hK k (by omega)
     simpa using this
  ·simp only [keptS]
   rw [if_neg hpy]
   refine ⟨2, fun k hk => ?_⟩
   obtain ⟨k, rfl⟩ : ∃ m, k = m + 2 := ⟨k - 2, by omega⟩
   simp only [monikerref1_kept.l0, monikerref1_kept.j1, A1, if_true, decide_eq_false hpy, Bool.false_eq_true, if_false, List.append_nil]
theorem kept_is (l : List S86) (hR : ∀ r ∈ l, Rn r) (hRb : ∀ r ∈ l, Rb r) (hlen : l.length ≤ 1000000000) (p x y : Int) (hx : 0 ≤ x ∧ x ≤ 5000000000000000000) (hy : 0 ≤ y ∧ y ≤ 5000000000000000000) (hp : 0 ≤ p) (hs : p + sum_ l ≤ 5000000000000000000) : Ev (fun k => monikerref1_kept.f k l p x y) (keptS p x y l) := by
 unfold monikerref1_kept.f
 have := kept_loop l hR hRb hlen x y hx hy l.length 0 p [] (by omega) (by omega) hp (by simpa using hs) (by simp; omega)
 simpa using this
theorem keptS_len (x y : Int) : ∀ (l : List S86) (p : Int), (keptS p x y l).length ≤ 2 * l.length
 | [], p => by simp [keptS]
 | r :: l, p => by
  have := keptS_len x y l (p + rsz r)
  simp only [keptS]
  split
  ·simp only [List.length_append, List.length_cons]
   have h1 : (if rsz r = 0 ∧ x ≤ p then [r] else []).length ≤ 1 := by split <;> simp
   have h2 : (if max (x - p) 0 < min (y - p) (rsz r) then [partS r (max (x - p) 0) (min (y - p) (rsz r))] else []).length ≤ 1 := by split <;> simp
   omega
  ·simp
set_option maxHeartbeats 1000000 in
theorem size_loop (l : List S86) (hR : ∀ r ∈ l, Rn r) (hRb : ∀ r ∈ l, Rb r) (hlen : l.length ≤ 1000000000) (d : Nat) : ∀ (i : Nat) (p : Int), i ≤ l.length → l.length - i = d → 0 ≤ p → p + sum_ (l.drop i) ≤ 5000000000000000000 →
  Ev (fun k => monikerref1_Size.l0 k l p (i : Int)) (p + sum_ (l.drop i)) := by
 induction d with
 | zero =>
  intro i p h1 h2 hp hs
  have A1 : ((i : Int) < (l.length : Int)) = False := eq_false (by omega)
  rw [List.drop_eq_nil_of_le (by omega)]
  refine ⟨1, fun k hk => ?_⟩
  obtain ⟨k, rfl⟩ : ∃ m, k = m + 1 := ⟨k - 1, by omega⟩
  simp only [monikerref1_Size.l0, A1, if_false, sum_, Int.add_zero]
 | succ d ih =>
  intro i p h1 h2 hp hs
  have hi : i < l.length := by omega
  have hm : l[i] ∈ l := List.getElem_mem hi
  have A1 : ((i : Int) < (l.length : Int)) = True := eq_true (by omega)
  have A2 : ((0 : Int) ≤ (i : Int)) = True := eq_true (by omega)
  have hw : wrap64 ((i : Int) + 1) = ((i + 1 : Nat) : Int) := by rw [w64] <;> omega
  rw [List.drop_eq_getElem_cons hi] at hs ⊢
  simp only [sum_] at hs ⊢
  have hsz := size_run _ (hR _ hm) (hRb _ hm)
  obtain ⟨z0, z1⟩ := rsz_le _ (hR _ hm) (hRb _ hm)
  have hpos := sum_pos (l.drop (i + 1)) (fun r hr => hR r (List.mem_of_mem_drop hr))
  have w3 : wrap64 (p + rsz l[i]) = p + rsz l[i] := by rw [w64] <;> omega
  obtain ⟨K, hK⟩ := ih (i + 1) (p + rsz l[i]) (by omega) (by omega) (by omega) (by omega)
  refine ⟨K + 1, fun k hk => ?_⟩
  obtain ⟨k, rfl⟩ : ∃ m, k = m + 1 := ⟨k - 1, by omega⟩
  have g := hK k (by omega)
  simp only at g
  simp only [monikerref1_Size.l0, A1, A2, if_true]
  rw [rd86_at l i hi, hsz]
  simp only [Option.bind_some, w3, hw]
  rw [g]
  congr 1
  omega
end Go.Proofs.YtaihajmdngoeiaaDoor.QE
namespace Go.Proofs.YtaihajmdngoeiaaDoor.QE
open Go.RowKit Go.Proofs.YtaihajmdngoeiaaDoorW.PrintWords Go.Proofs.YtaihajmdngoeiaaDoorW.PrintLast Go.Proofs.YtaihajmdngoeiaaDoorW.PrintMore
open Go.Proofs.YtaihajmdngoeiaaDoor.F
set_option linter.unusedVariables false
set_option linter.unusedSimpArgs false
theorem ar_sub {n i d : Nat} (h : n - i = d + 1) : n - (i + 1) = d := by omega
theorem ar_len {o k c q L N : Nat} (h : o + (q + c) ≤ N) (hk : k ≤ 2 * L) (hc : 2 * L + 2 ≤ c) : o + k + 1 + q ≤ N := by omega
theorem ar_lt {o k c q L : Nat} (h : o + (q + c) ≤ 200000000000) (hk : k ≤ 2 * L) (hc : 2 * L + 2 ≤ c) : o + k < 3518437208883 := by omega
theorem ar_rng {x y s : Int} (h0 : 0 ≤ x) (h1 : x ≤ y) (h2 : y ≤ s) (h3 : s ≤ 4900000000000000000) : 0 ≤ x ∧ x ≤ 5000000000000000000 := by omega
theorem ar_cap {x s : Int} (h1 : x = s) (h3 : s ≤ 4900000000000000000) : x ≤ 5000000000000000000 := by omega
theorem ar_wrap {b r s t : Int} (h0 : 0 ≤ b) (h1 : 0 ≤ r) (h2 : 0 ≤ t) (h3 : b + (r + t) = s) (h4 : s ≤ 4900000000000000000) : wrap64 (b + r) = b + r := by rw [w64] <;> omega
theorem ar_cons {k L : Nat} (h : k + 1 ≤ L) : k ≤ L := by omega
theorem ar_big {k : Nat} (h : k ≤ 1000000) : k ≤ 1000000000 := by omega
attribute [local irreducible] rsz sum_ keptS doneC
set_option maxRecDepth 10000
set_option maxHeartbeats 1000000 in
theorem done_gen (l : List S86) (size : Int) (es : List S42) (hR0 : ∀ r ∈ l, Rn r) (hsz0 : sum_ l = size) (hsb : size ≤ 4900000000000000000) (hlen0 : l.length ≤ 1000000) (hes : es.length ≤ 65536) (c : Nat) (hc : 2 * l.length + 2 ≤ c) : ∀ (d : Nat) (i : Nat) (q : List S86) (beh p : Int) (out : List S86), i ≤ es.length → es.length - i = d → (∀ r ∈ q, Rn r) → (∀ r ∈ q, Rb r) → q.length ≤ l.length → 0 ≤ beh → beh + sum_ q = size → 0 ≤ p → Sd size p (es.drop i) → (∀ x y, p ≤ x → x ≤ y → keptS beh x y q = keptS 0 x y l) → out.length + c * (d + 1) ≤ 200000000000 →
  Ev (fun k => monikerref1_Done.l0 k q es out p size beh (i : Int)) (out ++ doneC l size p (es.drop i)) := by
 have sd_le : ∀ (es : List S42) (p : Int), Sd size p es → p ≤ size := by
  intro es
  induction es with
  | nil => intro p h; exact h
  | cons e t ih => intro p h; have := ih e.f1 h.2.2; have := h.1; have := h.2.1; omega
 intro d
 induction d with
 | zero =>
  intro i q beh p out h1 h2 hR hRb hql hb hsum hp hSd hk ho0
  have ho : out.length + c ≤ 200000000000 := by simpa using ho0
  clear ho0
  have A1 : ((i : Int) < (es.length : Int)) = False := eq_false (by omega)
  rw [List.drop_eq_nil_of_le (by omega)] at hSd ⊢
  have hSd' : p ≤ size := hSd
  simp only [doneC]
  have hkk := kept_is q hR hRb (by omega) beh p size (by omega) (by omega) hb (by omega)
  rw [hk p size (Int.le_refl _) hSd'] at hkk
  obtain ⟨K, hK⟩ := hkk
  have hl := keptS_len p size l 0
  refine ⟨K + 1, fun k hk => ?_⟩
  obtain ⟨k, rfl⟩ : ∃ m, k = m + 1 := ⟨k - 1, by omega⟩
  have g := hK k (by omega)
  simp only at g
  simp only [monikerref1_Done.l0, A1, if_false]
  rw [g]
  simp only [Option.bind_some]
  rw [if_pos (by omega)]
 | succ d ih =>
  intro i q beh p out h1 h2 hR hRb hql hb hsum hp hSd hk ho0
  have ho : out.length + (c * (d + 1) + c) ≤ 200000000000 := by rw [← Nat.mul_succ]; exact ho0
  clear ho0
  have hi : i < es.length := by omega
  have A1 : ((i : Int) < (es.length : Int)) = True := eq_true (by omega)
  have A2 : ((0 : Int) ≤ (i : Int)) = True := eq_true (by omega)
  have hw : wrap64 ((i : Int) + 1) = ((i + 1 : Nat) : Int) := by rw [w64] <;> omega
  rw [List.drop_eq_getElem_cons hi] at hSd ⊢
  obtain ⟨s1, s2, s3⟩ := hSd
  have hle := sd_le _ _ s3
  simp only [doneC]
  have e2 := ar_sub h2
  have e3 : 0 ≤ es[i].f1 := Int.le_trans hp (Int.le_trans s1 s2)
  have e4 : ∀ x, es[i].f1 ≤ x → p ≤ x := fun x h => Int.le_trans s1 (Int.le_trans s2 h)
  have e5 := ar_rng hp (Int.le_trans s1 s2) hle hsb
  have e6 := ar_rng (Int.le_trans hp s1) s2 hle hsb
  have hl := keptS_len p es[i].f0 l 0
  have e7 : (out ++ keptS 0 p es[i].f0 l ++ [(⟨false, 0, 0, es[i].f2⟩ : S86)]).length + c * (d + 1) ≤ 200000000000 := by
   rw [List.length_append, List.length_append, List.length_singleton]
   exact ar_len ho hl hc
  have e8 : (out ++ keptS 0 p es[i].f0 l).length < 3518437208883 := by
   rw [List.length_append]
   exact ar_lt ho hl hc
  have e9 : (out.length + (keptS 0 p es[i].f0 l).length) < 3518437208883 := ar_lt ho hl hc
  clear hl ho
  have inner : ∀ (n : Nat) (q : List S86) (beh : Int), q.length = n → (∀ r ∈ q, Rn r) → (∀ r ∈ q, Rb r) → q.length ≤ l.length → 0 ≤ beh → beh + sum_ q = size → (∀ x y, p ≤ x → x ≤ y → keptS beh x y q = keptS 0 x y l) →
    Ev (fun k => monikerref1_Done.l1 k q es out p size beh (i : Int)) (out ++ (keptS 0 p es[i].f0 l ++ ⟨false, 0, 0, es[i].f2⟩ :: doneC l size es[i].f1 (es.drop (i + 1)))) := by
   intro n
   induction n with
   | zero =>
    intro q beh hn hR hRb hql hb hsum hk
    obtain rfl := List.eq_nil_of_length_eq_zero hn
    have hkk := kept_is [] hR hRb (by simp) beh p es[i].f0 e5 e6 hb (ar_cap hsum hsb)
    rw [hk p es[i].f0 (Int.le_refl _) s1] at hkk
    obtain ⟨K, hK⟩ := hkk
    obtain ⟨K2, hK2⟩ := ih (i + 1) [] beh es[i].f1 (out ++ keptS 0 p es[i].f0 l ++ [⟨false, 0, 0, es[i].f2⟩]) hi e2 hR hRb hql hb hsum e3 s3 (fun x y hx hy => hk x y (e4 x hx) hy) e7
    refine ⟨max K K2 + 1, fun k hk => ?_⟩
    obtain ⟨k, rfl⟩ : ∃ m, k = m + 1 := ⟨k - 1, by omega⟩
    have g := hK k (by omega)
    have g2 := hK2 k (by omega)
    simp only at g g2
    simp only [monikerref1_Done.l1, List.length_nil, A1, A2, if_true]
    rw [if_neg (by omega), rd_at es i hi, g]
    simp only [Option.bind_some]
    rw [if_pos (by omega)]
    try simp only [Option.bind_some]
    rw [if_pos e8, hw, g2]
    simp
   | succ n ihn =>
    intro q beh hn hR hRb hql hb hsum hk
    cases q with
    | nil => simp at hn
    | cons r q =>
     have hr := hR r List.mem_cons_self
     have hrb := hRb r List.mem_cons_self
     have hsz := size_run r hr hrb
     obtain ⟨z0, z1⟩ := rsz_le r hr hrb
     have hR' := fun z hz => hR z (List.mem_cons_of_mem r hz)
     have hRb' := fun z hz => hRb z (List.mem_cons_of_mem r hz)
     have hsum0 := hsum
     simp only [sum_] at hsum
     have hpos := sum_pos q hR'
     have w1 : wrap64 (beh + rsz r) = beh + rsz r := ar_wrap hb z0 hpos hsum hsb
     have B1 : (((r :: q).length : Int) > 0) = True := eq_true (by simp only [List.length_cons]; omega)
     have B2 : ((0 : Int) < ((r :: q).length : Int)) = True := eq_true (by simp only [List.length_cons]; omega)
     have B3 : ((1 : Int) ≤ ((r :: q).length : Int)) = True := eq_true (by simp only [List.length_cons]; omega)
     have hrd : rd_T86 (r :: q) 0 = r := rfl
     by_cases hc' : beh + rsz r < p
     ·obtain ⟨K, hK⟩ := ihn q (beh + rsz r) (by simpa using hn) hR' hRb' (ar_cons hql) (Int.add_nonneg hb z0) ((Int.add_assoc _ _ _).trans hsum) (fun x y hx hy => by
       have := hk x y hx hy
       rw [kept_skip x y r q beh hr (Int.lt_of_lt_of_le hc' hx) hy] at this
       exact this)
      refine ⟨K + 1, fun k hk => ?_⟩
      obtain ⟨k, rfl⟩ : ∃ m, k = m + 1 := ⟨k - 1, by omega⟩
      have g := hK k (by omega)
      simp only at g
      simp only [monikerref1_Done.l1, B1, B2, B3, if_true, hrd]
      rw [hsz]
      simp only [Option.bind_some, w1]
      rw [if_pos hc']
      exact g
     ·have hkk := kept_is (r :: q) hR hRb (ar_big (Nat.le_trans hql hlen0)) beh p es[i].f0 e5 e6 hb (ar_cap hsum0 hsb)
      rw [hk p es[i].f0 (Int.le_refl _) s1] at hkk
      obtain ⟨K, hK⟩ := hkk
      obtain ⟨K2, hK2⟩ := ih (i + 1) (r :: q) beh es[i].f1 (out ++ keptS 0 p es[i].f0 l ++ [⟨false, 0, 0, es[i].f2⟩]) hi e2 hR hRb hql hb hsum0 e3 s3 (fun x y hx hy => hk x y (e4 x hx) hy) e7
      refine ⟨max K K2 + 1, fun k hk => ?_⟩
      obtain ⟨k, rfl⟩ : ∃ m, k = m + 1 := ⟨k - 1, by omega⟩
      have g := hK k (by omega)
      have g2 := hK2 k (by omega)
      simp only at g g2
      simp only [monikerref1_Done.l1, B1, B2, if_true, hrd]
      rw [hsz]
      simp only [Option.bind_some, w1]
      rw [if_neg hc']
      simp only [A1, A2, if_true]
      rw [rd_at es i hi, g]
      simp only [Option.bind_some]
      rw [if_pos (by omega)]
      try simp only [Option.bind_some]
      rw [if_pos e8, hw, g2]
      simp
  obtain ⟨K, hK⟩ := inner q.length q beh rfl hR hRb hql hb hsum hk
  refine ⟨K + 1, fun k hk => ?_⟩
  obtain ⟨k, rfl⟩ : ∃ m, k = m + 1 := ⟨k - 1, by omega⟩
  simp only [monikerref1_Done.l0, A1, if_true]
  exact hK k (by omega)
theorem Done_gen (l : List S86) (es : List S42) (hR : ∀ r ∈ l, Rn r) (hRb : ∀ r ∈ l, Rb r) (hsb : sum_ l ≤ 4900000000000000000) (hlen : l.length ≤ 1000000) (hes : es.length ≤ 65536) (hSd : Sd (sum_ l) 0 es) : Ev (fun k => monikerref1_Done.f k l es) (doneC l (sum_ l) 0 es) := by
 unfold monikerref1_Done.f
 have h1 := size_loop l hR hRb (by omega) l.length 0 0 (by omega) (by omega) (by omega) (by simpa using by omega)
 have hm : (2 * l.length + 2) * (es.length + 1) ≤ 2000002 * 65537 := Nat.mul_le_mul (by omega) (by omega)
 have h2 := done_gen l (sum_ l) es hR rfl hsb hlen hes (2 * l.length + 2) (Nat.le_refl _) es.length 0 l 0 0 [] (by omega) (by omega) hR hRb (Nat.le_refl _) (by omega) (by omega) (by omega) hSd (fun x y _ _ => rfl) (by simp only [List.length_nil]; omega)
 refine Ev.bind (a := sum_ l) ?_ ?_
 ·have e : (0 : Int) + sum_ (l.drop 0) = sum_ l := by simp
  rw [e] at h1
  exact h1
 ·simpa using h2
end Go.Proofs.YtaihajmdngoeiaaDoor.QE
namespace Go.Proofs.YtaihajmdngoeiaaDoor.QE
open Go.RowKit Go.Proofs.YtaihajmdngoeiaaDoorW.PrintWords Go.Proofs.YtaihajmdngoeiaaDoorW.PrintLast Go.Proofs.YtaihajmdngoeiaaDoorW.PrintMore
open Go.Proofs.YtaihajmdngoeiaaDoor.F
set_option linter.unusedVariables false
set_option linter.unusedSimpArgs false
def texts_ : List S86 → Nat
 | [] => 0
 | r :: l => r.f3.size + texts_ l
def lstR (n : Int) : Int → Bool → ByteArray → List S86 → List S42
 | last, op, tx, [] => if op = true ∨ last < n then [⟨last, n, tx⟩] else []
 | last, op, tx, r :: l => if r.f0 = true then (if op = true ∨ last < r.f1 then [⟨last, r.f1, tx⟩] else []) ++ lstR n r.f2 false ⟨#[]⟩ l else lstR n last true (tx ++ r.f3) l
theorem list_loop (l : List S86) (n : Int) (hlen : l.length ≤ 1000000000000) (d : Nat) : ∀ (i : Nat) (last : Int) (op : Bool) (tx : ByteArray) (out : List S42), i ≤ l.length → l.length - i = d → tx.size + texts_ (l.drop i) ≤ 9223372036854775807 → out.length + d + 1 ≤ 2000000000000 →
  Ev (fun k => monikerref1_List.l0 k l n out last op tx (i : Int)) (out ++ lstR n last op tx (l.drop i)) := by
 induction d with
 | zero =>
  intro i last op tx out h1 h2 ht ho
  have A1 : ((i : Int) ≤ (l.length : Int)) = True := eq_true (by omega)
  have A2 : ((i : Int) < (l.length : Int)) = False := eq_false (by omega)
  have A3 : (out.length < 4398046511104) = True := eq_true (by omega)
  have hw : wrap64 ((i : Int) + 1) = (i : Int) + 1 := by rw [w64] <;> omega
  have A4 : ((i : Int) + 1 ≤ (l.length : Int)) = False := eq_false (by omega)
  rw [List.drop_eq_nil_of_le (by omega)]
  refine ⟨4, fun k hk => ?_⟩
  obtain ⟨k, rfl⟩ : ∃ m, k = m + 4 := ⟨k - 4, by omega⟩
  simp only [monikerref1_List.l0, monikerref1_List.j1, monikerref1_List.j2, A1, A2, A3, A4, if_true, if_false, hw, Option.bind_some, lstR]
  cases op with
  | true => simp
  | false =>
   by_cases c : last < n
   ·have c2 : decide (n > last) = true := decide_eq_true c
    simp [c2, c]
   ·have c2 : decide (n > last) = false := decide_eq_false c
    simp [c2, c]
 | succ d ih =>
  intro i last op tx out h1 h2 ht ho
  have hi : i < l.length := by omega
  have A1 : ((i : Int) ≤ (l.length : Int)) = True := eq_true (by omega)
  have A2 : ((i : Int) < (l.length : Int)) = True := eq_true (by omega)
  have A5 : ((0 : Int) ≤ (i : Int)) = True := eq_true (by omega)
  have A3 : (out.length < 4398046511104) = True := eq_true (by omega)
  have hw : wrap64 ((i : Int) + 1) = ((i + 1 : Nat) : Int) := by rw [w64] <;> omega
  rw [List.drop_eq_getElem_cons hi] at ht ⊢
  simp only [texts_] at ht
  have hrd := rd86_at l i hi
  have IH := fun last op tx out => ih (i + 1) last op tx out (by omega) (by omega)
  clear ih
  generalize l[i] = r at hrd ht ⊢
  simp only [lstR]
  by_cases e : r.f0 = true
  ·rw [if_pos e]
   by_cases c : op = true ∨ last < r.f1
   ·rw [if_pos c]
    obtain ⟨K, hK⟩ := IH r.f2 false ⟨#[]⟩ (out ++ [⟨last, r.f1, tx⟩]) (by show (0 : Nat) + _ ≤ _; omega) (by simp; omega)
    refine ⟨K + 3, fun k hk => ?_⟩
    obtain ⟨k, rfl⟩ : ∃ m, k = m + 3 := ⟨k - 3, by omega⟩
    have g := hK k (by omega)
    simp only at g
    simp only [monikerref1_List.l0, monikerref1_List.j1, A1, A2, A5, if_true, hrd, e]
    have hj : (if op = true then monikerref1_List.j2 (k + 1) l n out last tx (i : Int) r.f1 true else monikerref1_List.j2 (k + 1) l n out last tx (i : Int) r.f1 (decide (r.f1 > last))) = monikerref1_List.j2 (k + 1) l n out last tx (i : Int) r.f1 true := by
     by_cases ho : op = true
     ·rw [if_pos ho]
     ·rw [if_neg ho, decide_eq_true (show r.f1 > last from c.resolve_left ho)]
    rw [hj]
    simp only [monikerref1_List.j2, if_true, A2, A3, A5, Option.bind_some, hrd, hw]
    rw [g]
    simp
   ·rw [if_neg c]
    obtain ⟨K, hK⟩ := IH r.f2 false ⟨#[]⟩ out (by show (0 : Nat) + _ ≤ _; omega) (by omega)
    refine ⟨K + 3, fun k hk => ?_⟩
    obtain ⟨k, rfl⟩ : ∃ m, k = m + 3 := ⟨k - 3, by omega⟩
    have g := hK k (by omega)
    simp only at g
    simp only [monikerref1_List.l0, monikerref1_List.j1, A1, A2, A5, if_true, hrd, e]
    rw [if_neg (fun h => c (Or.inl h)), decide_eq_false (show ¬ r.f1 > last from fun h => c (Or.inr h))]
    simp only [monikerref1_List.j2, Bool.false_eq_true, if_false, A2, A5, if_true, hrd, hw]
    rw [g]
    simp
  ·rw [if_neg e]
   obtain ⟨K, hK⟩ := IH last true (tx ++ r.f3) out (by rw [ByteArray.size_append]; omega) (by omega)
   refine ⟨K + 1, fun k hk => ?_⟩
   obtain ⟨k, rfl⟩ : ∃ m, k = m + 1 := ⟨k - 1, by omega⟩
   have g := hK k (by omega)
   simp only at g
   have A6 : (tx.size + r.f3.size ≤ 9223372036854775807) = True := eq_true (by omega)
   simp only [monikerref1_List.l0, A1, A2, A5, if_true, hrd, if_neg e, A6, hw]
   exact g
theorem List_is (l : List S86) (n : Int) (hlen : l.length ≤ 1000000000000) (ht : texts_ l ≤ 9223372036854775807) : Ev (fun k => monikerref1_List.f k l n) (lstR n 0 false ⟨#[]⟩ l) := by
 unfold monikerref1_List.f
 have := list_loop l n hlen l.length 0 0 false ⟨#[]⟩ [] (by omega) (by omega) (by show (0 : Nat) + _ ≤ _; simpa using ht) (by simp; omega)
 simpa using this
theorem lstR_cells (n : Int) : ∀ (l : List S86) (last : Int) (op : Bool) (g : Bool) (tx : ByteArray), (∀ r ∈ l, Rn r) → (∀ r ∈ l, r.f0 = true → r.f2 ≤ n) →
  lstR n last (op || g) tx l = (lstC n last op tx.data.toList (cells g (rAts l)).1 (cells g (rAts l)).2).map toS
 | [], last, op, g, tx, _, _ => by
  simp only [lstR, rAts, List.flatMap_nil, cells, lstC]
  cases op <;> cases g <;> simp [toS] <;> split <;> simp [toS]
 | r :: l, last, op, g, tx, hR, hN => by
  have hr := hR r List.mem_cons_self
  have hR' := fun z hz => hR z (List.mem_cons_of_mem r hz)
  have hN' := fun z hz => hN z (List.mem_cons_of_mem r hz)
  rw [rAts_cons]
  simp only [lstR]
  by_cases e : r.f0 = true
  ·have hn := hN r List.mem_cons_self e
   have hlt : r.f1 < r.f2 := by unfold Rn at hr; rw [if_pos e] at hr; exact hr.1
   rw [if_pos e]
   have ih := lstR_cells n l r.f2 false false ⟨#[]⟩ hR' hN'
   have hrun : ∀ (d : Nat) (x : Int) (X : Rw), (r.f2 - x).toNat = d → x ≤ r.f2 → lstC n x false [] (oCs x r.f2 ++ X.1) X.2 = lstC n r.f2 false [] X.1 X.2 := by
    intro d
    induction d with
    | zero =>
     intro x X h1 h2
     have : oCs x r.f2 = [] := by unfold oCs; rw [h1]; rfl
     rw [this, show x = r.f2 by omega]
     rfl
    | succ d ihd =>
     intro x X h1 h2
     rw [oCs_cons x r.f2 (by omega)]
     simp only [List.cons_append, lstC]
     rw [if_neg (by simp), ihd (x + 1) X (by omega) (by omega)]
   have hat : rAt r = cAts (oCs r.f1 r.f2) := by unfold rAt; rw [if_pos e, oAt_cAts]
   rw [hat, oCs_cons r.f1 r.f2 hlt]
   have e2 : cAts ((false, By.old r.f1) :: oCs (r.f1 + 1) r.f2) ++ rAts l = .by (.old r.f1) :: (cAts (oCs (r.f1 + 1) r.f2) ++ rAts l) := by simp [cAts, cAt]
   rw [e2]
   simp only [cells, lstC]
   have e3 : cells false (cAts (oCs (r.f1 + 1) r.f2) ++ rAts l) = (oCs (r.f1 + 1) r.f2 ++ (cells false (rAts l)).1, (cells false (rAts l)).2) := by
    rw [cells_cAts]
    by_cases hz : r.f1 + 1 < r.f2
    ·rw [oCs_cons _ _ hz]
     simp
    ·have : oCs (r.f1 + 1) r.f2 = [] := by unfold oCs; rw [show (r.f2 - (r.f1 + 1)).toNat = 0 by omega]; rfl
     rw [this]
     rfl
   rw [e3]
   simp only
   rw [hrun _ (r.f1 + 1) (cells false (rAts l)) rfl (by omega)]
   have ih' : lstR n r.f2 false ⟨#[]⟩ l = (lstC n r.f2 false [] (cells false (rAts l)).1 (cells false (rAts l)).2).map toS := ih
   rw [ih']
   have hc : ((op || g) = true ∨ last < r.f1) ↔ (op = true ∨ g = true ∨ last < r.f1) := by cases op <;> cases g <;> simp
   by_cases c : (op || g) = true ∨ last < r.f1
   ·rw [if_pos c, if_pos (hc.1 c)]
    rfl
   ·rw [if_neg c, if_neg (fun h => c (hc.2 h))]
    rfl
  ·rw [if_neg e]
   have hat : rAt r = .mark :: news r.f3.data.toList := by unfold rAt; rw [if_neg e]
   rw [hat]
   simp only [List.cons_append, cells]
   rw [cells_news]
   simp only
   rw [lst_news]
   have ih := lstR_cells n l last (op || !r.f3.data.toList.isEmpty) (true && r.f3.data.toList.isEmpty) (tx ++ r.f3) hR' hN'
   have hb : ((op || !r.f3.data.toList.isEmpty) || (true && r.f3.data.toList.isEmpty)) = true := by cases r.f3.data.toList.isEmpty <;> simp
   rw [hb] at ih
   rw [ih, ByteArray.data_append, Array.toList_append]
end Go.Proofs.YtaihajmdngoeiaaDoor.QE
namespace Go.Proofs.YtaihajmdngoeiaaDoor.QE
open Go.RowKit Go.Proofs.YtaihajmdngoeiaaDoorW.PrintWords Go.Proofs.YtaihajmdngoeiaaDoorW.PrintLast Go.Proofs.YtaihajmdngoeiaaDoorW.PrintMore
open Go.Proofs.YtaihajmdngoeiaaDoor.F
set_option linter.unusedVariables false
set_option linter.unusedSimpArgs false
theorem texts_app : ∀ (a b : List S86), texts_ (a ++ b) = texts_ a + texts_ b
 | [], b => by simp [texts_]
 | r :: a, b => by
  simp only [List.cons_append, texts_, texts_app a b]
  omega
theorem part_text (r : S86) (a b : Int) : (partS r a b).f3.size ≤ r.f3.size := by
 unfold partS
 split
 ·exact Nat.zero_le _
 ·simp only [ByteArray.size_extract]
  omega
theorem keptS_texts (x y : Int) : ∀ (l : List S86) (p : Int), texts_ (keptS p x y l) ≤ 2 * texts_ l
 | [], p => by simp [keptS, texts_]
 | r :: l, p => by
  have := keptS_texts x y l (p + rsz r)
  simp only [keptS]
  split
  ·simp only [texts_app, texts_]
   have h1 : texts_ (if rsz r = 0 ∧ x ≤ p then [r] else []) ≤ r.f3.size := by split <;> simp [texts_]
   have h2 : texts_ (if max (x - p) 0 < min (y - p) (rsz r) then [partS r (max (x - p) 0) (min (y - p) (rsz r))] else []) ≤ r.f3.size := by
    have := part_text r (max (x - p) 0) (min (y - p) (rsz r))
    split <;> simp [texts_] <;> exact this
   omega
  ·simp [texts_]
theorem doneC_texts (l : List S86) (size : Int) : ∀ (es : List S42) (p : Int), texts_ (doneC l size p es) ≤ (es.length + 1) * (2 * texts_ l) + tot es
 | [], p => by
  have := keptS_texts p size l 0
  simp only [doneC, List.length_nil, tot]
  omega
 | e :: t, p => by
  have h1 := keptS_texts p e.f0 l 0
  have h2 := doneC_texts l size t e.f1
  simp only [doneC, texts_app, texts_, tot, List.length_cons]
  have h3 : (t.length + 1 + 1) * (2 * texts_ l) = (t.length + 1) * (2 * texts_ l) + 2 * texts_ l := by rw [Nat.add_mul (t.length + 1) 1, Nat.one_mul]
  omega
theorem doneC_len (l : List S86) (size : Int) : ∀ (es : List S42) (p : Int), (doneC l size p es).length ≤ (es.length + 1) * (2 * l.length) + es.length
 | [], p => by
  have := keptS_len p size l 0
  simp only [doneC, List.length_nil]
  omega
 | e :: t, p => by
  have h1 := keptS_len p e.f0 l 0
  have h2 := doneC_len l size t e.f1
  simp only [doneC, List.length_append, List.length_cons]
  have h3 : (t.length + 1 + 1) * (2 * l.length) = (t.length + 1) * (2 * l.length) + 2 * l.length := by rw [Nat.add_mul (t.length + 1) 1, Nat.one_mul]
  omega
def In_ (n : Int) (r : S86) : Prop := Rn r ∧ (r.f0 = true → 0 ≤ r.f1 ∧ r.f2 ≤ n)
theorem part_in {n : Int} {r : S86} (h : In_ n r) (a b : Int) (h0 : 0 ≤ a) (h1 : a < b) (h2 : b ≤ rsz r) : In_ n (partS r a b) := by
 obtain ⟨hR, hI⟩ := h
 unfold partS
 by_cases e : r.f0 = true
 ·rw [if_pos e]
  have := hI e
  unfold rsz at h2
  rw [if_pos e] at h2
  refine ⟨?_, fun _ => ?_⟩
  ·unfold Rn
   simp only [if_true]
   exact ⟨by omega, trivial⟩
  ·exact ⟨by show 0 ≤ r.f1 + a; omega, by show r.f1 + b ≤ n; omega⟩
 ·rw [if_neg e]
  refine ⟨?_, fun h => by cases h⟩
  unfold Rn
  simp
theorem keptS_in {n : Int} (x y : Int) : ∀ (l : List S86) (p : Int), (∀ r ∈ l, In_ n r) → ∀ r ∈ keptS p x y l, In_ n r
 | [], p, _, r, hr => by simp [keptS] at hr
 | q :: l, p, h, r, hr => by
  simp only [keptS] at hr
  split at hr
  ·rcases List.mem_append.1 hr with hr | hr
   ·rcases List.mem_append.1 hr with hr | hr
    ·split at hr
     ·rw [List.mem_singleton.1 hr]; exact h q List.mem_cons_self
     ·cases hr
    ·split at hr
     ·rename_i hlt
      rw [List.mem_singleton.1 hr]
      exact part_in (h q List.mem_cons_self) _ _ (by omega) hlt (by omega)
     ·cases hr
   ·exact keptS_in x y l _ (fun z hz => h z (List.mem_cons_of_mem _ hz)) r hr
  ·cases hr
theorem new_in (n : Int) (t : ByteArray) : In_ n ⟨false, 0, 0, t⟩ := ⟨by unfold Rn; simp, fun h => by cases h⟩
theorem doneC_in {n : Int} (l : List S86) (size : Int) (h : ∀ r ∈ l, In_ n r) : ∀ (es : List S42) (p : Int), ∀ r ∈ doneC l size p es, In_ n r
 | [], p => keptS_in p size l 0 h
 | e :: t, p => by
  intro r hr
  rcases List.mem_append.1 hr with hr | hr
  ·exact keptS_in p e.f0 l 0 h r hr
  ·rcases List.mem_cons.1 hr with rfl | hr
   ·exact new_in n _
   ·exact doneC_in l size h t e.f1 r hr
theorem sd_end {F : Int} : ∀ {es : List S42} {p : Int}, Sd F p es → p ≤ F
 | [], p, h => h
 | e :: t, p, ⟨h1, h2, h3⟩ => by have := sd_end h3; omega
theorem chain_sd {F : Int} : ∀ {es : List S42} {p : Option Int} {a : Int}, Chain F p es → a ≤ F → (∀ e t, es = e :: t → a ≤ e.f0) → Sd F a es
 | [], p, a, _, ha, _ => ha
 | e :: t, p, a, ⟨c1, c2, c3, c4, c5⟩, ha, h => ⟨h e t rfl, c2, chain_sd c5 c3 (fun x y he => by subst he; have := c5.2.2.2.1 _ rfl; omega)⟩
theorem kp_in (n a b : Int) (h0 : 0 ≤ a) (hb : b ≤ n) : ∀ r ∈ kp a b, In_ n r := by
 intro r hr
 unfold kp at hr
 split at hr
 ·rw [List.mem_singleton.1 hr]
  refine ⟨?_, fun _ => ⟨h0, hb⟩⟩
  unfold Rn
  simp
  assumption
 ·cases hr
theorem segs_in (F : Int) : ∀ (es : List S42) (a : Int), 0 ≤ a → Sd F a es → ∀ r ∈ segs F a es, In_ F r
 | [], a, h0, hs => kp_in F a F h0 (Int.le_refl _)
 | e :: t, a, h0, ⟨h1, h2, h3⟩ => by
  intro r hr
  rcases List.mem_append.1 hr with hr | hr
  ·exact kp_in F a e.f0 h0 (by have := sd_end h3; omega) r hr
  ·rcases List.mem_cons.1 hr with rfl | hr
   ·exact new_in F _
   ·exact segs_in F t e.f1 (by omega) h3 r hr
theorem kp_text (a b : Int) : texts_ (kp a b) = 0 := by unfold kp; split <;> rfl
theorem segs_text (F : Int) : ∀ (es : List S42) (a : Int), texts_ (segs F a es) = tot es
 | [], a => kp_text a F
 | e :: t, a => by
  simp only [segs, texts_app, texts_, kp_text, segs_text F t e.f1, tot]
  omega
theorem sum_app : ∀ (a b : List S86), sum_ (a ++ b) = sum_ a + sum_ b
 | [], b => by simp [sum_]
 | r :: a, b => by
  simp only [List.cons_append, sum_, sum_app a b]
  omega
theorem kp_sum (a b : Int) (h : a ≤ b) : sum_ (kp a b) = b - a := by
 unfold kp
 split
 ·simp [sum_, rsz]
 ·simp only [sum_]; omega
theorem segs_sum (F : Int) : ∀ (es : List S42) (a : Int), Sd F a es → sum_ (segs F a es) = F - a + sumG es
 | [], a, h => by
  simp only [segs, sumG]
  rw [kp_sum a F h]
  omega
 | e :: t, a, ⟨h1, h2, h3⟩ => by
  simp only [segs, sum_app, sum_, sumG, grow, segs_sum F t e.f1 h3, kp_sum a e.f0 h1]
  have : rsz ⟨false, 0, 0, e.f2⟩ = (e.f2.size : Int) := by simp [rsz]
  omega
theorem mem_text : ∀ (l : List S86) (r : S86), r ∈ l → r.f3.size ≤ texts_ l
 | q :: l, r, h => by
  rcases List.mem_cons.1 h with rfl | h
  ·simp only [texts_]; omega
  ·have := mem_text l r h
   simp only [texts_]; omega
theorem chain_ch {n : Int} : ∀ {es : List S42} {q : Int}, Chain n (some q) es → Ch n q (es.map edOf)
 | [], q, _ => trivial
 | e :: t, q, ⟨c1, c2, c3, c4, c5⟩ => ⟨c4 q rfl, c2, c3, chain_ch c5⟩
theorem chain_ok {n : Int} {es : List S42} {p : Option Int} (h : Chain n p es) : Ok n (es.map edOf) := by
 cases es with
 | nil => trivial
 | cons e t =>
  obtain ⟨c1, c2, c3, c4, c5⟩ := h
  exact ⟨c1, c2, c3, chain_ch c5⟩
theorem grw_edOf (e : S42) : grw (edOf e) = grow e := by
 unfold grw edOf grow
 have : e.f2.data.toList.length = e.f2.size := by simp
 show (e.f2.data.toList.length : Int) - (e.f1 - e.f0) = _
 rw [this]
theorem shOf_edOf : ∀ (l : List S42) (sh : Int), shOf sh (l.map edOf) = sh + sumG l
 | [], sh => by simp [shOf, sumG]
 | e :: t, sh => by
  simp only [List.map_cons, shOf, sumG, shOf_edOf t, grw_edOf]
  omega
theorem rowE_len (n : Int) (h0 : 0 ≤ n) (l : List S42) (p : Option Int) (h : Chain n p l) : ((rowE n (l.map edOf)).1.length : Int) = n + sumG l := by
 have := row_len n (l.map edOf) 0 0 false (Ok.cz (chain_ok h) h0)
 rw [shOf_edOf] at this
 unfold rowE
 omega
theorem Left_loop (l : List S42) (hl : l.length ≤ 65536) (d : Nat) : ∀ (i : Nat) (s : Int), i ≤ l.length → l.length - i = d →
  Ev (fun k => monikerref1_Left.l0 k (wrap64 s) l (i : Int)) (wrap64 (s + sumG (l.drop i))) := by
 induction d with
 | zero =>
  intro i s h1 h2
  refine ⟨1, fun n hn => ?_⟩
  obtain ⟨k, rfl⟩ : ∃ m, n = m + 1 := ⟨n - 1, by omega⟩
  simp only [monikerref1_Left.l0]
  rw [if_neg (by omega), List.drop_eq_nil_of_le (by omega)]
  simp [sumG]
 | succ d ih =>
  intro i s h1 h2
  have hi : i < l.length := by omega
  have hw : wrap64 ((i : Int) + 1) = ((i + 1 : Nat) : Int) := by rw [w64] <;> omega
  obtain ⟨K, hK⟩ := ih (i + 1) (s + grow l[i]) (by omega) (by omega)
  refine ⟨K + 1, fun n hn => ?_⟩
  obtain ⟨k, rfl⟩ : ∃ m, n = m + 1 := ⟨n - 1, by omega⟩
  have g := hK k (by omega)
  simp only at g
  simp only [monikerref1_Left.l0]
  rw [rd_at l i hi, if_pos (by omega), if_pos (by omega)]
  have hs := shift_step s l[i]
  unfold growsOf at hs
  rw [hs, hw, g, List.drop_eq_getElem_cons hi]
  simp only [sumG]
  congr 2
  omega
theorem Left_is (size : Int) (h0 : 0 ≤ size) (h1 : size ≤ 4611686018427387904) (l : List S42) (hl : l.length ≤ 65536) : Ev (fun k => monikerref1_Left.f k size l) (wrap64 (size + sumG l)) := by
 unfold monikerref1_Left.f
 have := Left_loop l hl l.length 0 size (by omega) (by omega)
 rw [w64 (x := size) (by omega) (by omega)] at this
 simpa using this
theorem sub_is (n : Int) (a b : List Ed) (hb : Ok (rowE n a).1.length b) : sub (rowE n a) (rowE (rowE n a).1.length b) = cells false (cmp 0 ((rowE n a).1.drop (0 : Int).toNat, (rowE n a).2) b) := by
 have hall : (∀ e ∈ b, 0 ≤ e.a ∧ e.a ≤ e.b ∧ e.b ≤ ((rowE n a).1.length : Int)) ∧ List.Pairwise (fun x y => x.b ≤ y.a) b := by
  cases b with
  | nil => exact ⟨(fun e he => by cases he), List.Pairwise.nil⟩
  | cons e t =>
   obtain ⟨c1, c2, c3, c4⟩ := hb
   obtain ⟨i1, i2⟩ := ok_pair t e.b c4
   refine ⟨fun x hx => ?_, List.pairwise_cons.2 ⟨fun x hx => by have := (i1 x hx).1; omega, i2⟩⟩
   rcases List.mem_cons.1 hx with rfl | hx
   ·exact ⟨c1, c2, c3⟩
   ·have := i1 x hx
    exact ⟨by omega, this.2⟩
 have := cmp_sub (rowE n a) b 0 false (Nat.zero_le _) hall.1 (fun e t he => by have := (hall.1 e (by rw [he]; exact List.mem_cons_self)).1; simpa using this) hall.2
 simp only [List.drop_zero, Int.ofNat_zero] at this
 exact this.symm
def compL (n : Int) (a b : List S42) : List S42 := (cmpE n (a.map edOf) (b.map edOf)).map toS
def compSpec (n : Int) (a b : List S42) : List S42 × Int :=
 if Vspec n a = 0 then (if vspec (wrap64 (n + sumG a)) b = 0 then (if ((compL n a b).length : Int) > 65536 then ([], 2) else (compL n a b, 0)) else ([], vspec (wrap64 (n + sumG a)) b)) else ([], Vspec n a)
theorem Vspec_zero {n : Int} {l : List S42} (h : Vspec n l = 0) : 0 ≤ n ∧ n ≤ 4611686018427387904 ∧ l.length ≤ 65536 ∧ Chain n none l := by
 unfold Vspec at h
 by_cases h1 : n < 0
 ·rw [if_pos h1] at h; cases h
 ·rw [if_neg h1] at h
  by_cases h2 : n > 4611686018427387904
  ·rw [if_pos h2] at h; cases h
  ·rw [if_neg h2] at h
   have := vspec_zero h
   exact ⟨by omega, by omega, this⟩
theorem new_size (n : Int) (h0 : 0 ≤ n) (hn : n ≤ 4611686018427387904) (a : List S42) (ha : Chain n none a) (ht : tot a ≤ 100000000000000000) : 0 ≤ n + sumG a ∧ n + sumG a ≤ 4800000000000000000 ∧ wrap64 (n + sumG a) = n + sumG a := by
 have h1 := sumG_low 0 ha (Int.le_refl _) h0 (ap_first ha)
 have h2 := sumG_tot ha
 have h3 : 0 ≤ n + sumG a := by omega
 have h4 : n + sumG a ≤ 4800000000000000000 := by omega
 exact ⟨h3, h4, w64 (by omega) (by omega)⟩
theorem Compose_is (n : Int) (a b : List S42) (hta : tot a ≤ 1048576) (htb : tot b ≤ 1048576) : Ev (fun k => monikerref1_Compose.f k n a b) (compSpec n a b) := by
 unfold monikerref1_Compose.f compSpec
 refine (RValid_is n a).bind ?_
 by_cases h : Vspec n a = 0
 ·simp only [if_pos h]
  obtain ⟨h0, hn, hla, hca⟩ := Vspec_zero h
  obtain ⟨z0, z1, z2⟩ := new_size n h0 hn a hca (by omega)
  refine (Left_is n h0 hn a hla).bind ?_
  rw [z2]
  refine (rvalid_is (n + sumG a) b).bind ?_
  by_cases hb : vspec (n + sumG a) b = 0
  ·simp only [if_pos hb]
   obtain ⟨hlb, hcb⟩ := vspec_zero hb
   rw [Whole_is]
   simp only [Option.bind_some]
   refine (Done_is n h0 hn a hla hca).bind ?_
   have hsd : Sd n 0 a := chain_sd hca h0 (ap_first hca)
   have hsum : sum_ (segs n 0 a) = n + sumG a := by rw [segs_sum n a 0 hsd]; omega
   have hin := segs_in n a 0 (Int.le_refl _) hsd
   have htx := segs_text n a 0
   have hln := segs_len n a 0
   have hD := Done_gen (segs n 0 a) b (fun r hr => (hin r hr).1) (fun r hr => ⟨fun e => by have := (hin r hr).2 e; omega, by have := mem_text _ r hr; omega⟩) (by omega) (by omega) hlb (by rw [hsum]; exact chain_sd hcb z0 (ap_first hcb))
   rw [hsum] at hD
   refine hD.bind ?_
   have hdl := doneC_len (segs n 0 a) (n + sumG a) b 0
   have hdt := doneC_texts (segs n 0 a) (n + sumG a) b 0
   have m1 : (b.length + 1) * (2 * (segs n 0 a).length) ≤ 65537 * 262146 := Nat.mul_le_mul (by omega) (by omega)
   have m2 : (b.length + 1) * (2 * texts_ (segs n 0 a)) ≤ 65537 * 2097152 := Nat.mul_le_mul (by omega) (by omega)
   have hdin := doneC_in (n := n) (segs n 0 a) (n + sumG a) hin b 0
   refine (List_is (doneC (segs n 0 a) (n + sumG a) 0 b) n (by omega) (by omega)).bind ?_
   have hlist : lstR n 0 false ⟨#[]⟩ (doneC (segs n 0 a) (n + sumG a) 0 b) = compL n a b := by
    have h1 := lstR_cells n (doneC (segs n 0 a) (n + sumG a) 0 b) 0 false false ⟨#[]⟩ (fun r hr => (hdin r hr).1) (fun r hr e => ((hdin r hr).2 e).2)
    have h2 := doneC_cells (segs n 0 a) (n + sumG a) (fun r hr => (hin r hr).1) hsum b 0 false (Int.le_refl _) (chain_sd hcb z0 (ap_first hcb))
    have hrow : cells false (rAts (segs n 0 a)) = rowE n (a.map edOf) := by
     rw [segs_at n a 0 (Ok.cz (chain_ok hca) h0) h0]
     rfl
    have hlen := rowE_len n h0 a none hca
    rw [hrow] at h2
    have hob : Ok (rowE n (a.map edOf)).1.length (b.map edOf) := by rw [hlen]; exact chain_ok hcb
    rw [← sub_is n (a.map edOf) (b.map edOf) hob] at h2
    simp only [Bool.or_false] at h1
    rw [h1]
    unfold compL cmpE lst
    rw [lst_sC n 0 false _ _ _ h2]
   rw [hlist]
   by_cases hbig : ((compL n a b).length : Int) > 65536
   ·simp only [if_pos hbig]; exact Ev.now _
   ·simp only [if_neg hbig]; exact Ev.now _
  ·simp only [if_neg hb]; exact Ev.now _
 ·simp only [if_neg h]; exact Ev.now _
end Go.Proofs.YtaihajmdngoeiaaDoor.QE
namespace Go.Proofs.YtaihajmdngoeiaaDoor.QE
open Go.RowKit Go.Proofs.YtaihajmdngoeiaaDoorW.PrintWords Go.Proofs.YtaihajmdngoeiaaDoorW.PrintLast Go.Proofs.YtaihajmdngoeiaaDoorW.PrintMore
open Go.Proofs.YtaihajmdngoeiaaDoor.F
set_option linter.unusedVariables false
set_option linter.unusedSimpArgs false
theorem cz_mem {n : Int} : ∀ (l : List Ed) (q : Int), Cz n q l → ∀ e ∈ l, q ≤ e.a ∧ e.a ≤ e.b ∧ e.b ≤ n
 | [], q, _, e, he => by cases he
 | x :: t, q, ⟨c1, c2, c3, c4⟩, e, he => by
  rcases List.mem_cons.1 he with rfl | he
  ·exact ⟨c1, c2, c3⟩
  ·have := cz_mem t x.b (Ch.cz c4 c3) e he
   exact ⟨by omega, this.2⟩
theorem map_edOf_inj {a b : List S42} (h : a.map edOf = b.map edOf) : a = b := by
 have := congrArg (List.map toS) h
 simpa [List.map_map, Function.comp_def, toS_edOf] using this
theorem edLen (e : S42) : ((edOf e).t.length : Int) = e.f2.size := by
 show (e.f2.data.toList.length : Int) = _
 simp
structure CI (n m : Int) (a b : List S42) (sh : Int) : Prop where
 q : ∃ q, Cz n q (a.map edOf) ∧ 0 ≤ q ∧ q ≤ n ∧ Cz m (q + sh) (b.map edOf) ∧ 0 ≤ q + sh
 hm : m = n + shOf sh (a.map edOf)
theorem tot_mem : ∀ (l : List S42) (e : S42), e ∈ l → e.f2.size ≤ tot l
 | x :: l, e, h => by
  rcases List.mem_cons.1 h with rfl | h
  ·simp only [tot]; omega
  ·have := tot_mem l e h
   simp only [tot]; omega
theorem tot_both : ∀ (a b : List S42), tot (a ++ b) = tot a + tot b
 | [], b => by simp [tot]
 | x :: a, b => by simp only [List.cons_append, tot, tot_both a b]; omega
theorem CI.sr {n m : Int} {a b : List S42} {sh : Int} (h : CI n m a b sh) (hn : n ≤ 4700000000000000000) (hm : m ≤ 4700000000000000000) (ht : tot a ≤ 1048576) (hl : a.length ≤ 100000 ∧ b.length ≤ 100000) : SR n m ⟨-1, 0, sh, [], [], a, b⟩ := by
 obtain ⟨q, h1, h2, h3, h4, h5⟩ := h.q
 have hend := cz_end n (a.map edOf) q sh h1
 refine ⟨?_, ?_, (fun p hp => by cases hp), (fun e he => by cases he), (fun e he => Nat.le_trans (tot_mem a e he) ht), (show (-1 : Int) ≤ -1 ∧ (-1 : Int) ≤ 4700000000000000000 by decide), (show (0 : Int) ≤ 0 ∧ (0 : Int) ≤ 4700000000000000000 by decide), ?_, ?_⟩
 ·intro A e B he
  subst he
  have hmap : (A ++ e :: B).map edOf = A.map edOf ++ edOf e :: B.map edOf := by simp
  rw [hmap] at h1
  have c1 := cz_next n (A.map edOf) q sh (edOf e) (B.map edOf) h1
  have c2 := cz_text n (A.map edOf) q sh (edOf e) (B.map edOf) h1
  have c3 := cz_mem _ q h1 (edOf e) (by simp)
  have hmm := h.hm
  rw [hmap] at hmm
  rw [← hmm, edLen, shOf_edOf] at c2
  rw [shOf_edOf] at c1
  have d1 : (edOf e).a = e.f0 := rfl
  have d2 : (edOf e).b = e.f1 := rfl
  rw [d1] at c1 c2 c3
  rw [d2] at c1 c3
  show 0 ≤ e.f0 + (sh + sumG A) ∧ e.f0 + (sh + sumG A) + e.f2.size ≤ m ∧ 0 ≤ e.f0 ∧ e.f0 ≤ e.f1 ∧ e.f1 ≤ n
  exact ⟨by omega, by omega, by omega, by omega, by omega⟩
 ·intro f hf
  have c3 := cz_mem _ _ h4 (edOf f) (List.mem_map_of_mem hf)
  have d1 : (edOf f).a = f.f0 := rfl
  have d2 : (edOf f).b = f.f1 := rfl
  rw [d1, d2] at c3
  exact ⟨by omega, by omega, by omega⟩
 ·show _ ≤ sh ∧ sh ≤ _
  have := h.hm
  omega
 ·show 0 + a.length ≤ _ ∧ 0 + b.length ≤ _
  omega
theorem putG_len : ∀ (A : List S42) (sh x y : Int), (putG (place sh A) x y).length ≤ tot A
 | [], _, _, _ => by simp [place, putG]
 | e :: r, sh, x, y => by
  have := putG_len r (sh + grow e) x y
  simp only [place, putG, List.length_append, tot]
  have h : (bytesOf (putOne (P67 (e.f0 + sh) e) x y)).length ≤ e.f2.size := by
   rw [bytesOf_length]
   unfold putOne
   split
   ·show (e.f2.extract _ _).size ≤ _
    simp only [ByteArray.size_extract]
    omega
   ·exact Nat.zero_le _
  omega
theorem writG_len (A : List S42) (sh hi : Int) : ∀ (ss : List S42) (x : Int), (writG (place sh A) hi ss x).length ≤ (ss.length + 1) * tot A + tot ss
 | [], x => by
  have := putG_len A sh x hi
  simp only [writG, List.length_nil, tot]
  omega
 | e :: t, x => by
  have h1 := putG_len A sh x e.f0
  have h2 := writG_len A sh hi t e.f1
  simp only [writG, List.length_append, bytesOf_length, tot, List.length_cons]
  have h3 : (t.length + 1 + 1) * tot A = (t.length + 1) * tot A + tot A := by rw [Nat.add_mul (t.length + 1) 1, Nat.one_mul]
  omega
structure CStep (n m : Int) (a b : List S42) (sh : Int) (S : GS) : Prop where
 lo0 : 0 ≤ S.lo
 lo : 0 ≤ S.lo - sh ∧ S.lo - sh ≤ n
 hi : 0 ≤ S.hi - S.sh ∧ S.hi - S.sh ≤ n
 ci : CI n m S.a S.b S.sh
 ln : S.a.length + S.b.length + 1 ≤ a.length + b.length ∧ S.a.length ≤ a.length ∧ S.b.length ≤ b.length
 ta : tot S.a ≤ tot a
 tb : tot S.b ≤ tot b
 tx : (writG S.first S.hi S.second S.lo).length ≤ (b.length + 1) * tot a + tot b
 gr : ∀ k, groups (k + 1) (a.map edOf) (b.map edOf) sh = edOf ⟨S.lo - sh, S.hi - S.sh, strOfNums (writG S.first S.hi S.second S.lo)⟩ :: groups k (S.a.map edOf) (S.b.map edOf) S.sh
theorem CI.step {n m : Int} {a b : List S42} {sh : Int} (h : CI n m a b sh) (hne : ¬ (a = [] ∧ b = [])) (S : GS) (hS : gS (a.length + b.length + 1) ⟨-1, 0, sh, [], [], a, b⟩ = S) : CStep n m a b sh S := by
 obtain ⟨q, h1, h2, h3, h4, h5⟩ := h.q
 have hm := h.hm
 have hne' : ¬ (a.map edOf = [] ∧ b.map edOf = []) := by simpa using hne
 obtain ⟨lo, hlo, hla, hlb⟩ := next_lo (a.map edOf) (b.map edOf) sh hne'
 have ha0 : ∀ e r, a = e :: r → 0 ≤ e.f0 + sh := by
  intro e r he
  have := cz_mem _ q h1 (edOf e) (by rw [he]; simp)
  have d1 : (edOf e).a = e.f0 := rfl
  rw [d1] at this
  omega
 have hb0 : ∀ f t, b = f :: t → 0 ≤ f.f0 := by
  intro f t hf
  have := cz_mem _ _ h4 (edOf f) (by rw [hf]; simp)
  have d1 : (edOf f).a = f.f0 := rfl
  rw [d1] at this
  omega
 obtain ⟨A2, g1, g2, g3⟩ := gS_gat0 sh a b hne ha0 hb0
 rw [hS] at g1 g2 g3
 have hqlo : q + sh ≤ lo := by
  rcases hlo with ⟨e, t, h, h6⟩ | ⟨f, s, h, h6, _⟩
  ·rw [h] at h1
   have := h1.1
   omega
  ·rw [h] at h4
   have := h4.1
   omega
 have hln : lo - sh ≤ n := by
  rcases hlo with ⟨e, t, h, h6⟩ | ⟨f, s, h, h6, h7⟩
  ·rw [h] at h1
   have := h1.2.1
   have := h1.2.2.1
   omega
  ·rw [h] at h4
   have b1 := h4.2.1
   have b2 := h4.2.2.1
   cases haa : a.map edOf with
   | nil =>
    rw [haa] at hm
    simp only [shOf] at hm
    omega
   | cons e t =>
    rw [haa] at h1
    have := h7 e t haa
    have := h1.2.1
    have := h1.2.2.1
    omega
 have hA : Cz n (lo - sh) (a.map edOf) := by
  cases haa : a.map edOf with
  | nil => exact hln
  | cons e t =>
   rw [haa] at h1
   have := hla e t haa
   exact ⟨by omega, h1.2⟩
 have hB : Cz m lo (b.map edOf) := by
  cases hbb : b.map edOf with
  | nil =>
   rcases hlo with ⟨e, t, h, h6⟩ | ⟨f, s, h, _⟩
   ·have := cz_end n (a.map edOf) (lo - sh) sh hA
    show lo ≤ m
    omega
   ·rw [hbb] at h; cases h
  | cons f t =>
   rw [hbb] at h4
   have := hlb f t hbb
   exact ⟨by omega, h4.2⟩
 obtain ⟨s1, s2, s3⟩ := gat0_spec n m (lo - sh) sh lo (by omega) (by omega) (a.map edOf) (b.map edOf) hA hB hm hlo
 have s2a := s2.ha
 have s2b := s2.hb
 have s2m := s2.hm
 have s2g := s2.gat
 have s2sA := s2.stopA
 have s2sB := s2.stopB
 rw [g3] at s1 s2a s2b s2m s2g s2sA s2sB s3
 simp only at s1 s2a s2b s2m s2g s2sA s2sB s3
 have haa : A2 ++ S.a = a := map_edOf_inj (by rw [List.map_append]; exact s2a)
 have hbb : S.second ++ S.b = b := map_edOf_inj (by rw [List.map_append]; exact s2b)
 have hsh : shOf sh (A2.map edOf) = S.sh := by rw [shOf_edOf, g2]
 rw [hsh] at s2sA
 have hql := q_le n (A2.map edOf) (lo - sh) sh S.hi (by rw [← s2a] at hA; exact Cz.left hA hln) (fun f t hm => (s2g.fs_ f t hm).2) (by have := s2g.le_; omega)
 rw [hsh] at hql
 have hmS : m = n + shOf S.sh (S.a.map edOf) := by rw [hm, ← s2a, shOf_append, hsh]
 have hhi : S.hi - S.sh ≤ n := by
  cases hsa : S.a.map edOf with
  | nil =>
   rw [hsa] at hmS
   simp only [shOf] at hmS
   omega
  | cons e t =>
   have := s2sA e t hsa
   have := cz_mem _ _ hA e (by rw [← s2a, hsa]; simp)
   omega
 have e1 : a.length = A2.length + S.a.length := by rw [← haa, List.length_append]
 have e2 : b.length = S.second.length + S.b.length := by rw [← hbb, List.length_append]
 have t1 : tot a = tot A2 + tot S.a := by rw [← haa, tot_both]
 have t2 : tot b = tot S.second + tot S.b := by rw [← hbb, tot_both]
 simp only [List.length_map] at s3
 have hle := s2g.le_
 refine ⟨by omega, by omega, by omega, ⟨⟨S.hi - S.sh, ?_, by omega, hhi, ?_, by omega⟩, hmS⟩, by omega, by omega, by omega, ?_, ?_⟩
 ·have hr := cz_right n (A2.map edOf) (S.a.map edOf) (lo - sh) (by rw [s2a]; exact hA)
  exact Ch.cz (ch_from n _ (lo - sh) _ hr (fun e t he => by have := s2sA e t he; omega)) hhi
 ·rw [show S.hi - S.sh + S.sh = S.hi by omega]
  have hr := cz_right m (S.second.map edOf) (S.b.map edOf) lo (by rw [s2b]; exact hB)
  exact Ch.cz (ch_from m _ lo _ hr (fun e t he => s2sB e t he)) s2m
 ·rw [g1]
  have := writG_len A2 sh S.hi S.second S.lo
  have h6 : (S.second.length + 1) * tot A2 ≤ (b.length + 1) * tot a := Nat.mul_le_mul (by omega) (by omega)
  omega
 ·intro k
  simp only [groups]
  rw [if_neg hne', g3, hsh]
  congr 1
  rw [g1, writ_str]
  rfl
end Go.Proofs.YtaihajmdngoeiaaDoor.QE
namespace Go.Proofs.YtaihajmdngoeiaaDoor.F
open Go.RowKit Go.Proofs.YtaihajmdngoeiaaDoorW.PrintWords Go.Proofs.YtaihajmdngoeiaaDoorW.PrintLast Go.Proofs.YtaihajmdngoeiaaDoorW.PrintMore
open Go.Proofs.YtaihajmdngoeiaaDoor.QE
set_option linter.unusedVariables false
set_option linter.unusedSimpArgs false
structure CO (w0 W : World) (g : Nat) (n m : Int) (L : List S42) (kq : Nat) (a b : List S42) (sh : Int) (vo : Value) (out : List S42) : Prop where
 bx : CBx w0 W g a b sh vo
 ro : Kd.R k42 42 W w0.heap.size (fun k => k ≠ g) vo out
 hb : Below w0.heap.size w0 W
 g0 : w0.heap.size ≤ g
 ci : CI n m a b sh
 ta : tot a ≤ 1048576
 tb : tot b ≤ 1048576
 la : a.length ≤ 65536
 lb : b.length ≤ 65536
 lo : out.length + kq ≤ 131073
 lk : a.length + b.length + 1 ≤ kq
 sp : out ++ (groups kq (a.map edOf) (b.map edOf) sh).map toS = L
theorem CBx.lt {w0 W : World} {g : Nat} {a b : List S42} {sh : Int} {vo : Value} (h : CBx w0 W g a b sh vo) : g < W.heap.size := by
 obtain ⟨Aa, ca, Ab, cb, x, _⟩ := h
 exact blk_lt x
theorem CO.mr {w0 W : World} {g : Nat} {n m : Int} {L : List S42} {kq : Nat} {a b : List S42} {sh : Int} {vo : Value} {out : List S42} (h : CO w0 W g n m L kq a b sh vo out) : MR w0 W W g a b sh [] [] (.slice none 0 0) (.slice none 0 0) vo out :=
 ⟨h.bx, Kd.R_nil _ _ _ _ _, Kd.R_nil _ _ _ _ _, Kd.R_mono (Kd.R_bound h.ro) (fun k hk => ⟨hk.1, hk.2.2.1⟩), h.hb, h.g0, h.bx.lt, Nat.le_refl _⟩
theorem CO.next {w0 W W1 : World} {g : Nat} {n m : Int} {L : List S42} {kq : Nat} {a b : List S42} {sh : Int} {vo vo1 : Value} {out : List S42} (h : CO w0 W g n m L (kq + 1) a b sh vo out) {S : GS} (hs : CStep n m a b sh S)
  (hx : CBx w0 W1 g S.a S.b S.sh vo1) (hr : Kd.R k42 42 W1 w0.heap.size (fun k => k ≠ g) vo1 (out ++ [⟨S.lo - sh, S.hi - S.sh, strOfNums (writG S.first S.hi S.second S.lo)⟩])) (hb : Below w0.heap.size w0 W1) :
  CO w0 W1 g n m L kq S.a S.b S.sh vo1 (out ++ [⟨S.lo - sh, S.hi - S.sh, strOfNums (writG S.first S.hi S.second S.lo)⟩]) := by
 have h1 := h.lo
 have h2 := h.lk
 have h3 := hs.ln
 refine ⟨hx, hr, hb, h.g0, hs.ci, Nat.le_trans hs.ta h.ta, Nat.le_trans hs.tb h.tb, Nat.le_trans h3.2.1 h.la, Nat.le_trans h3.2.2 h.lb, ?_, by omega, ?_⟩
 ·rw [List.length_append, List.length_singleton]
  omega
 ·have := h.sp
  rw [hs.gr, List.map_cons, toS_edOf] at this
  rw [← this]
  simp
theorem CO.end_ {w0 W : World} {g : Nat} {n m : Int} {L : List S42} {kq : Nat} {sh : Int} {vo : Value} {out : List S42} (h : CO w0 W g n m L kq [] [] sh vo out) : out = L := by
 have h1 := h.sp
 have h2 := h.lk
 obtain ⟨k, rfl⟩ : ∃ k, kq = k + 1 := ⟨kq - 1, by simp only [List.length_nil] at h2; omega⟩
 simpa [groups] using h1
def edits_Compose.f (k : Nat) (a0 : Int) (a b : List S42) : Option (List S42 × Int) := if tot a ≤ 1048576 ∧ tot b ≤ 1048576 then some (compSpec a0 a b) else none
set_option maxRecDepth 100000 in
set_option maxHeartbeats 20000000 in
theorem edits_Compose.calls (k : Nat) (a0 : Int) (A1 : Option Addr) (c1 : Nat) (l1 : List S42) (A2 : Option Addr) (c2 : Nat) (l2 : List S42) (r1 : List S42) (r2 : Int) (w : World) (hr1 : Kd.C k42 w A1 l1.length l1) (hc1 : l1.length ≤ c1) (hr2 : Kd.C k42 w A2 l2.length l2) (hc2 : l2.length ≤ c2) (h : edits_Compose.f k a0 l1 l2 = some (r1, r2)) :
  Calls Tryd.prog 16 #[.int .i64 a0, .slice A1 l1.length c1, .slice A2 l2.length c2] w fun e w' => ∃ v0_ : Value, e = .returned (.tuple #[v0_, .int .i64 r2]) ∧ Kd.R k42 42 w' w.heap.size (fun _ => True) v0_ r1 ∧ Below w.heap.size w w' := by
 have hu22 := Tryd.underlying22
 have hu42 := Tryd.underlying42
 unfold edits_Compose.f at h
 have hsz : tot l1 ≤ 1048576 ∧ tot l2 ≤ 1048576 := Classical.byContradiction fun hh => by rw [if_neg hh] at h; cases h
 rw [if_pos hsz] at h
 have h' := Option.some.inj h
 clear h
 unfold compSpec at h'
 have HS := Aside0.mk hsz
 have HR1 := Aside0.mk hr1
 have HC1 := Aside0.mk hc1
 have HR2 := Aside0.mk hr2
 have HC2 := Aside0.mk hc2
 obtain ⟨k1, hk1⟩ := (Valid_is a0 l1).rounds
 have HV1 := Aside0.mk hk1
 clear hsz hr1 hc1 hr2 hc2 hk1
 by_cases q1 : Vspec a0 l1 = 0
 ·rw [if_pos q1] at h'
  rw [q1] at HV1
  obtain ⟨z0, zn, zl, zc⟩ := Vspec_zero q1
  obtain ⟨y0, y1, y2⟩ := new_size a0 z0 zn l1 zc (by have := HS.out.1; omega)
  obtain ⟨k2, hk2⟩ := (left_is a0 z0 zn l1 zl).rounds
  rw [y2] at hk2 h'
  obtain ⟨k3, hk3⟩ := (valid_is (a0 + sumG l1) l2).rounds
  have HV2 := Aside0.mk hk2
  have HV3 := Aside0.mk hk3
  clear hk2 hk3
  by_cases q2 : vspec (a0 + sumG l1) l2 = 0
  ·rw [if_pos q2] at h'
   rw [q2] at HV3
   obtain ⟨xl, xc⟩ := vspec_zero q2
   have hco : ∀ (W : World) (g : Nat), CBx w W g l1 l2 0 (.slice none 0 0) → Below w.heap.size w W → w.heap.size ≤ g → CO w W g a0 (a0 + sumG l1) (compL a0 l1 l2) (l1.length + l2.length + 1) l1 l2 0 (.slice none 0 0) [] := by
    intro W g hx hb hg
    have hA := Ok.cz (chain_ok zc) z0
    have hob : Ok (rowE a0 (l1.map edOf)).1.length (l2.map edOf) := by rw [rowE_len a0 z0 l1 none zc]; exact chain_ok xc
    refine ⟨hx, Kd.R_nil _ _ _ _ _, hb, hg, ⟨⟨0, hA, Int.le_refl _, z0, Ok.cz (chain_ok xc) y0, by omega⟩, by rw [shOf_edOf]; omega⟩, HS.out.1, HS.out.2, zl, xl, by simp only [List.length_nil]; omega, Nat.le_refl _, ?_⟩
    unfold compL
    rw [cmpE_groups a0 z0 (l1.map edOf) (l2.map edOf) (chain_ok zc) hob (l1.length + l2.length) (by simp only [List.length_map]; omega)]
    rfl
   have HCO := Aside0.mk hco
   have HM := Aside0.mk h'
   have HY := Aside0.mk (show a0 + sumG l1 ≤ 4700000000000000000 by have h1 := sumG_tot zc; have h2 := HS.out.1; omega)
   have HZ := Aside0.mk (show a0 ≤ 4700000000000000000 by omega)
   clear h' hco q1 q2 z0 zn zl zc y0 y1 y2 xl xc
   obtain ⟨L, hL⟩ : ∃ L, compL a0 l1 l2 = L := ⟨_, rfl⟩
   obtain ⟨m, hm⟩ : ∃ m, a0 + sumG l1 = m := ⟨_, rfl⟩
   rw [hL] at HCO HM
   rw [hm] at HCO HV2 HV3 HY
   clear hL hm
   go_enter Tryd.func16, Tryd.ntmps16
   go_wp2_with fail
   refine (edits_Valid.calls k1 a0 A1 c1 l1 0 _ HR1.out HC1.out HV1.out).mono ?_
   rintro e w1 ⟨rfl, hb1⟩
   have HB1 := Aside0.mk hb1
   clear hb1
   go_wp2_with fail
   refine (edits_left.calls k2 a0 A1 c1 l1 _ _ (Kd.C_below HR1.out HB1.out) HC1.out HV2.out).mono ?_
   rintro e w2 ⟨rfl, hb2⟩
   have HB2 := Aside0.mk (below_step HB1.out hb2)
   clear hb2
   go_wp2_with fail
   refine (edits_valid.calls k3 m A2 c2 l2 0 _ (Kd.C_below HR2.out HB2.out) HC2.out HV3.out).mono ?_
   rintro e w3 ⟨rfl, hb3⟩
   have HB3 := Aside0.mk (below_step HB2.out hb3)
   clear hb3 HB1 HB2
   go_upto_block 0 with (fail)
   obtain ⟨g, hg⟩ : ∃ g, w3.heap.size = g := ⟨_, rfl⟩
   obtain ⟨W, hW⟩ : ∃ W, W = w3.alloc (Obj.cells #[Value.slice A1 l1.length c1, Value.slice A2 l2.length c2, Value.int IntKind.i64 0, Value.slice none 0 0] 77) := ⟨_, rfl⟩
   rw [← hW, hg]
   have HC := Aside0.mk (HCO.out W g ⟨A1, c1, A2, c2, by rw [hW, ← hg]; exact blk_new _ _, HR1.out, HC1.out, HR2.out, HC2.out⟩ (by rw [hW]; exact below_alloc HB3.out _) (by rw [← hg]; exact HB3.out.size))
   clear hW hg HCO HB3 HV1 HV2 HV3 HS HR1 HR2
   go_wp2_with fail
   go_loopg [] (l1.length + l2.length + 1) (fun kq w' => Aside0 (∃ a b sh vo out, CO w w' g a0 m L kq a b sh vo out))
   case atStart => exact ⟨⟨_, _, _, _, _, HC.out⟩⟩
   case round =>
    clear HC
    have HC := hrel
    obtain ⟨a, b, sh, vo, out, hC⟩ := HC.out
    clear HC
    obtain ⟨Aa, ca, Ab, cb, xg, CA, la, CB, lb⟩ := hC.bx
    obtain ⟨na, hna⟩ : ∃ n, n = a.length := ⟨_, rfl⟩
    obtain ⟨nb, hnb⟩ : ∃ n, n = b.length := ⟨_, rfl⟩
    rw [← hna, ← hnb] at xg
    have m0 : wr.cell? ⟨g, 0, none⟩ = some (.slice Aa na ca) := (blk_cell xg 0).trans rfl
    have m1 : wr.cell? ⟨g, 1, none⟩ = some (.slice Ab nb cb) := (blk_cell xg 1).trans rfl
    have m3 : wr.cell? ⟨g, 3, none⟩ = some vo := (blk_cell xg 3).trans rfl
    have HC := Aside0.mk hC
    have NA := Aside0.mk hna
    have NB := Aside0.mk hnb
    clear hC xg CA la CB lb hna hnb
    by_cases hab : a = [] ∧ b = []
    ·obtain ⟨rfl, rfl⟩ := hab
     have h1 := NA.out
     have h2 := NB.out
     simp only [List.length_nil] at h1 h2
     subst h1
     subst h2
     have hL := HC.out.end_
     subst hL
     obtain ⟨Ao, co, eo, hco, hCo⟩ := Kd.R_reads HC.out.ro
     subst eo
     obtain ⟨no, hno⟩ : ∃ n, n = out.length := ⟨_, rfl⟩
     have hm := HM.out
     rw [← hno] at m3 hm
     by_cases hbig : (no : Int) > 65536
     ·have d1 : decide ((65536 : Int) < (no : Int)) = true := decide_eq_true hbig
      have d2 : decide (65536 < no) = true := decide_eq_true (by omega)
      rw [if_pos hbig] at hm
      obtain ⟨rfl, rfl⟩ := Prod.mk.inj hm
      clear hm hbig hno
      go_wp2
      go_ret2
      exact ⟨_, rfl, Kd.R_nil _ _ _ _ _, HC.out.hb⟩
     ·have d1 : decide ((65536 : Int) < (no : Int)) = false := decide_eq_false hbig
      have d2 : decide (65536 < no) = false := decide_eq_false (by omega)
      rw [if_neg hbig] at hm
      obtain ⟨rfl, rfl⟩ := Prod.mk.inj hm
      have HNO := Aside0.mk hno
      clear hm hbig hno
      go_wp2
      go_ret2
      refine ⟨_, rfl, ?_, HC.out.hb⟩
      rw [HNO.out]
      exact Kd.R_mono HC.out.ro (fun _ _ => trivial)
    ·have hz := CI.step HC.out.ci hab _ rfl
     obtain ⟨S, hS⟩ : ∃ S, gS (a.length + b.length + 1) ⟨-1, 0, sh, [], [], a, b⟩ = S := ⟨_, rfl⟩
     rw [hS] at hz
     have hx : ∃ k, gk = k + 1 := ⟨gk - 1, by have := HC.out.lk; omega⟩
     have hsr := HC.out.ci.sr HZ.out HY.out HC.out.ta ⟨by have := HC.out.la; omega, by have := HC.out.lb; omega⟩
     have hgr := group.calls g a b sh vo out a0 m w wr HY.out HZ.out HC.out.mr hsr (by have := HC.out.lo; omega) S hS
      (by have h1 := hz.lo; have h2 := hz.hi; have h3 := HZ.out; exact ⟨by omega, by omega, by omega, by omega⟩)
      (by
       have h1 := hz.tx
       have h2 : (b.length + 1) * tot a ≤ 65537 * 1048576 := Nat.mul_le_mul (by have := HC.out.lb; omega) HC.out.ta
       have h3 := HC.out.tb
       omega) hz.lo0
     have HG := Aside0.mk hgr
     have HX := Aside0.mk hz
     have HK := Aside0.mk hx
     have HAB := Aside0.mk hab
     clear hgr hz hx hS hsr
     by_cases ha : 0 < na
     ·have d1 : decide (0 < na) = true := decide_eq_true ha
      have d2 : decide (0 < (na : Int)) = true := decide_eq_true (by omega)
      clear ha hab
      go_wp2_with fail
      refine HG.out.mono ?_
      rintro e W1 ⟨⟨x, rfl⟩, vo1, hx1, hr1, hb1⟩
      obtain ⟨k', rfl⟩ := HK.out
      have HN := Aside0.mk (HC.out.next HX.out hx1 hr1 hb1)
      clear hx1 hr1 hb1 m0 m1 m3
      go_wp2
      go_roundg k'
      case measure => omega
      case rel => exact ⟨⟨_, _, _, _, _, HN.out⟩⟩
     ·have hna0 : na = 0 := by omega
      have hb0 : 0 < nb := by
       rcases Nat.eq_zero_or_pos nb with h | h
       ·exact absurd ⟨List.eq_nil_of_length_eq_zero (by rw [← NA.out, hna0]), List.eq_nil_of_length_eq_zero (by rw [← NB.out, h])⟩ hab
       ·exact h
      have NA0 := Aside0.mk hna0
      have d1 : decide (0 < na) = false := decide_eq_false ha
      have d2 : decide (0 < (na : Int)) = false := decide_eq_false (by omega)
      have d3 : decide (0 < nb) = true := decide_eq_true hb0
      have d4 : decide (0 < (nb : Int)) = true := decide_eq_true (by omega)
      clear ha hab hna0 hb0
      go_wp2_with fail
      refine HG.out.mono ?_
      rintro e W1 ⟨⟨x, rfl⟩, vo1, hx1, hr1, hb1⟩
      obtain ⟨k', rfl⟩ := HK.out
      have HN := Aside0.mk (HC.out.next HX.out hx1 hr1 hb1)
      clear hx1 hr1 hb1 m0 m1 m3
      go_wp2
      go_roundg k'
      case measure => omega
      case rel => exact ⟨⟨_, _, _, _, _, HN.out⟩⟩
  ·rw [if_neg q2] at h'
   obtain ⟨rfl, rfl⟩ := Prod.mk.inj h'
   obtain ⟨m, hm⟩ : ∃ m, a0 + sumG l1 = m := ⟨_, rfl⟩
   rw [hm] at HV2 HV3 q2 ⊢
   obtain ⟨e2, he2⟩ : ∃ e, vspec m l2 = e := ⟨_, rfl⟩
   rw [he2] at HV3 q2 ⊢
   have cc2 : (e2 != 0) = true := bne_iff_ne.mpr q2
   clear h' q1 q2 z0 zn zl zc y0 y1 y2 hm he2 HS
   go_enter Tryd.func16, Tryd.ntmps16
   go_wp2_with fail
   refine (edits_Valid.calls k1 a0 A1 c1 l1 0 _ HR1.out HC1.out HV1.out).mono ?_
   rintro e w1 ⟨rfl, hb1⟩
   have HB1 := Aside0.mk hb1
   clear hb1
   go_wp2_with fail
   refine (edits_left.calls k2 a0 A1 c1 l1 _ _ (Kd.C_below HR1.out HB1.out) HC1.out HV2.out).mono ?_
   rintro e w2 ⟨rfl, hb2⟩
   have HB2 := Aside0.mk (below_step HB1.out hb2)
   clear hb2
   go_wp2_with fail
   refine (edits_valid.calls k3 m A2 c2 l2 _ _ (Kd.C_below HR2.out HB2.out) HC2.out HV3.out).mono ?_
   rintro e w3 ⟨rfl, hb3⟩
   have HB3 := Aside0.mk (below_step HB2.out hb3)
   clear hb3
   go_wp2
   go_ret2
   exact ⟨_, rfl, Kd.R_nil _ _ _ _ _, HB3.out⟩
 ·rw [if_neg q1] at h'
  obtain ⟨rfl, rfl⟩ := Prod.mk.inj h'
  obtain ⟨e1, he1⟩ : ∃ e, Vspec a0 l1 = e := ⟨_, rfl⟩
  rw [he1] at HV1 q1 ⊢
  have cc1 : (e1 != 0) = true := bne_iff_ne.mpr q1
  clear h' q1 he1 HS
  go_enter Tryd.func16, Tryd.ntmps16
  go_wp2_with fail
  refine (edits_Valid.calls k1 a0 A1 c1 l1 _ _ HR1.out HC1.out HV1.out).mono ?_
  rintro e w1 ⟨rfl, hb1⟩
  have HB1 := Aside0.mk hb1
  clear hb1
  go_wp2
  go_ret2
  exact ⟨_, rfl, Kd.R_nil _ _ _ _ _, HB1.out⟩
end Go.Proofs.YtaihajmdngoeiaaDoor.F
/-
 DERIVED: THE SHELF's CONTRACTS AT THIS DUMP, IN PLAIN WORDS (tools/lay-plain.mjs out of 'TrydShelf.lean', which tools/lay-shelf.mjs wrote): THE SAME DECLARATIONS UNDER THE SAME NAMES: 'import', 'namespace', 'open', 'def', 'theorem' AND NOTHING ELSE: no command of the shelf's: FOR A HAND-IN. Each laying: the table of numbers ('.._ren') and one theorem, a field a fact of the dump's own or the kernel's comparison; each contract: ONE APPLICATION.
-/
namespace Go.Proofs
open Go.Shelf
def Tryd.laysM171_ren : Go.Shelf.Ren := ⟨fun | 171 => 28 | 243 => 52 | 246 => 66 | 283 => 71 | 284 => 72 | 285 => 73 | 286 => 74 | 129 => 78 | 317 => 77 | 318 => 79 | 319 => 80 | 320 => 81 | 337 => 87 | 338 => 88 | n => n, fun | 3 => 3 | 9 => 9 | 2 => 2 | 4 => 4 | 171 => 130 | 0 => 0 | 53 => 119 | 37 => 59 | 5 => 5 | 173 => 133 | 212 => 137 | 51 => 138 | 20 => 20 | 213 => 139 | 46 => 140 | 232 => 154 | 233 => 155 | n => n, fun | 17 => 0 | 18 => 3 | 19 => 4 | n => n⟩
theorem Tryd.laysM171 : Go.Proofs.LaysM.n171 Tryd.prog Tryd.laysM171_ren := {
 mixed := by kernel_rfl
 f129 := Tryd.func78.trans (congrArg some (by kernel_rfl))
 f171 := Tryd.func28.trans (congrArg some (by kernel_rfl))
 f243 := Tryd.func52.trans (congrArg some (by kernel_rfl))
 f246 := Tryd.func66.trans (congrArg some (by kernel_rfl))
 f283 := Tryd.func71.trans (congrArg some (by kernel_rfl))
 f284 := Tryd.func72.trans (congrArg some (by kernel_rfl))
 f285 := Tryd.func73.trans (congrArg some (by kernel_rfl))
 f286 := Tryd.func74.trans (congrArg some (by kernel_rfl))
 f317 := Tryd.func77.trans (congrArg some (by kernel_rfl))
 f318 := Tryd.func79.trans (congrArg some (by kernel_rfl))
 f319 := Tryd.func80.trans (congrArg some (by kernel_rfl))
 f320 := Tryd.func81.trans (congrArg some (by kernel_rfl))
 f337 := Tryd.func87.trans (congrArg some (by kernel_rfl))
 f338 := Tryd.func88.trans (congrArg some (by kernel_rfl))
 t0 := Tryd.underlying0
 a0 := Tryd.isAgg0
 z0 := Tryd.sizeOf0
 v0 := Tryd.zeroValue0
 t2 := Tryd.underlying2
 a2 := Tryd.isAgg2
 z2 := Tryd.sizeOf2
 v2 := Tryd.zeroValue2
 t3 := Tryd.underlying3
 a3 := Tryd.isAgg3
 z3 := Tryd.sizeOf3
 v3 := Tryd.zeroValue3
 t4 := Tryd.underlying4
 a4 := Tryd.isAgg4
 z4 := Tryd.sizeOf4
 v4 := Tryd.zeroValue4
 t5 := Tryd.underlying5
 a5 := Tryd.isAgg5
 z5 := Tryd.sizeOf5
 v5 := Tryd.zeroValue5
 t9 := Tryd.underlying9
 a9 := Tryd.isAgg9
 z9 := Tryd.sizeOf9
 v9 := Tryd.zeroValue9
 t20 := Tryd.underlying20
 a20 := Tryd.isAgg20
 z20 := Tryd.sizeOf20
 v20 := Tryd.zeroValue20
 t37 := Tryd.underlying59
 a37 := Tryd.isAgg59
 z37 := Tryd.sizeOf59
 v37 := Tryd.zeroValue59
 t46 := Tryd.underlying140
 a46 := Tryd.isAgg140
 z46 := Tryd.sizeOf140
 v46 := Tryd.zeroValue140
 t51 := Tryd.underlying138
 a51 := Tryd.isAgg138
 z51 := Tryd.sizeOf138
 v51 := Tryd.zeroValue138
 t53 := Tryd.underlying119
 a53 := Tryd.isAgg119
 z53 := Tryd.sizeOf119
 v53 := Tryd.zeroValue119
 t171 := Tryd.underlying130
 a171 := Tryd.isAgg130
 z171 := Tryd.sizeOf130
 v171 := Tryd.zeroValue130
 t173 := Tryd.underlying133
 a173 := Tryd.isAgg133
 z173 := Tryd.sizeOf133
 v173 := Tryd.zeroValue133
 t212 := Tryd.underlying137
 a212 := Tryd.isAgg137
 z212 := Tryd.sizeOf137
 v212 := Tryd.zeroValue137
 t213 := Tryd.underlying139
 a213 := Tryd.isAgg139
 z213 := Tryd.sizeOf139
 t232 := Tryd.underlying154
 a232 := Tryd.isAgg154
 z232 := Tryd.sizeOf154
 v232 := Tryd.zeroValue154
 t233 := Tryd.underlying155
 a233 := Tryd.isAgg155
 z233 := Tryd.sizeOf155
 v233 := Tryd.zeroValue155
 g17 := by kernel_rfl
 g18 := by kernel_rfl
 g19 := by kernel_rfl
 i0 := by kernel_rfl
 i2 := by kernel_rfl
 i3 := by kernel_rfl
 i4 := by kernel_rfl
 i5 := by kernel_rfl
 i9 := by kernel_rfl
 i20 := by kernel_rfl
 i37 := by kernel_rfl
 i46 := by kernel_rfl
 i51 := by kernel_rfl
 i53 := by kernel_rfl
 i171 := by kernel_rfl
 i173 := by kernel_rfl
 i212 := by kernel_rfl
 i232 := by kernel_rfl
 i233 := by kernel_rfl
 m17 := by kernel_rfl
 m18 := by kernel_rfl
 m19 := by kernel_rfl }
open Go.RowKit Go.Sort Go.Lib in
theorem Tryd.strconv_Itoa (n : Int) (h0 : -9223372036854775808 ≤ n) (h1 : n ≤ 9223372036854775807) (w : World) (htab : Lib.TabIs Tryd.prog w "internal/strconv.uint64pow10" .u64 Lib.pow10Tab) :
  Calls Tryd.prog 28 #[.int .i64 n] w fun e w' => e = .returned (.string ⟨(Lib.itoa n).toArray⟩) ∧ ∃ k os, w' = grow (w.drewN k) os := Any.strconv_Itoa Tryd.laysM171 n h0 h1 w htab
def Tryd.laysM176_ren : Go.Shelf.Ren := ⟨fun | 176 => 27 | 249 => 51 | 288 => 65 | 283 => 71 | 284 => 72 | 285 => 73 | 286 => 74 | 129 => 78 | 317 => 77 | 318 => 79 | 319 => 80 | 320 => 81 | 337 => 87 | 338 => 88 | n => n, fun | 37 => 59 | 2 => 2 | 3 => 3 | 53 => 119 | 4 => 4 | 9 => 9 | 171 => 130 | 0 => 0 | 173 => 133 | 212 => 137 | 51 => 138 | 5 => 5 | 20 => 20 | 213 => 139 | 46 => 140 | 232 => 154 | 233 => 155 | n => n, fun | 17 => 0 | 18 => 3 | 19 => 4 | n => n⟩
theorem Tryd.laysM176 : Go.Proofs.LaysM.n176 Tryd.prog Tryd.laysM176_ren := {
 mixed := by kernel_rfl
 f129 := Tryd.func78.trans (congrArg some (by kernel_rfl))
 f176 := Tryd.func27.trans (congrArg some (by kernel_rfl))
 f249 := Tryd.func51.trans (congrArg some (by kernel_rfl))
 f283 := Tryd.func71.trans (congrArg some (by kernel_rfl))
 f284 := Tryd.func72.trans (congrArg some (by kernel_rfl))
 f285 := Tryd.func73.trans (congrArg some (by kernel_rfl))
 f286 := Tryd.func74.trans (congrArg some (by kernel_rfl))
 f288 := Tryd.func65.trans (congrArg some (by kernel_rfl))
 f317 := Tryd.func77.trans (congrArg some (by kernel_rfl))
 f318 := Tryd.func79.trans (congrArg some (by kernel_rfl))
 f319 := Tryd.func80.trans (congrArg some (by kernel_rfl))
 f320 := Tryd.func81.trans (congrArg some (by kernel_rfl))
 f337 := Tryd.func87.trans (congrArg some (by kernel_rfl))
 f338 := Tryd.func88.trans (congrArg some (by kernel_rfl))
 t0 := Tryd.underlying0
 a0 := Tryd.isAgg0
 z0 := Tryd.sizeOf0
 v0 := Tryd.zeroValue0
 t2 := Tryd.underlying2
 a2 := Tryd.isAgg2
 z2 := Tryd.sizeOf2
 v2 := Tryd.zeroValue2
 t3 := Tryd.underlying3
 a3 := Tryd.isAgg3
 z3 := Tryd.sizeOf3
 v3 := Tryd.zeroValue3
 t4 := Tryd.underlying4
 a4 := Tryd.isAgg4
 z4 := Tryd.sizeOf4
 v4 := Tryd.zeroValue4
 t5 := Tryd.underlying5
 a5 := Tryd.isAgg5
 z5 := Tryd.sizeOf5
 v5 := Tryd.zeroValue5
 t9 := Tryd.underlying9
 a9 := Tryd.isAgg9
 z9 := Tryd.sizeOf9
 v9 := Tryd.zeroValue9
 t20 := Tryd.underlying20
 a20 := Tryd.isAgg20
 z20 := Tryd.sizeOf20
 v20 := Tryd.zeroValue20
 t37 := Tryd.underlying59
 a37 := Tryd.isAgg59
 z37 := Tryd.sizeOf59
 v37 := Tryd.zeroValue59
 t46 := Tryd.underlying140
 a46 := Tryd.isAgg140
 z46 := Tryd.sizeOf140
 v46 := Tryd.zeroValue140
 t51 := Tryd.underlying138
 a51 := Tryd.isAgg138
 z51 := Tryd.sizeOf138
 v51 := Tryd.zeroValue138
 t53 := Tryd.underlying119
 a53 := Tryd.isAgg119
 z53 := Tryd.sizeOf119
 v53 := Tryd.zeroValue119
 t171 := Tryd.underlying130
 a171 := Tryd.isAgg130
 z171 := Tryd.sizeOf130
 v171 := Tryd.zeroValue130
 t173 := Tryd.underlying133
 a173 := Tryd.isAgg133
 z173 := Tryd.sizeOf133
 v173 := Tryd.zeroValue133
 t212 := Tryd.underlying137
 a212 := Tryd.isAgg137
 z212 := Tryd.sizeOf137
 v212 := Tryd.zeroValue137
 t213 := Tryd.underlying139
 a213 := Tryd.isAgg139
 z213 := Tryd.sizeOf139
 t232 := Tryd.underlying154
 a232 := Tryd.isAgg154
 z232 := Tryd.sizeOf154
 v232 := Tryd.zeroValue154
 t233 := Tryd.underlying155
 a233 := Tryd.isAgg155
 z233 := Tryd.sizeOf155
 v233 := Tryd.zeroValue155
 g17 := by kernel_rfl
 g18 := by kernel_rfl
 g19 := by kernel_rfl
 i0 := by kernel_rfl
 i2 := by kernel_rfl
 i3 := by kernel_rfl
 i4 := by kernel_rfl
 i5 := by kernel_rfl
 i9 := by kernel_rfl
 i20 := by kernel_rfl
 i37 := by kernel_rfl
 i46 := by kernel_rfl
 i51 := by kernel_rfl
 i53 := by kernel_rfl
 i171 := by kernel_rfl
 i173 := by kernel_rfl
 i212 := by kernel_rfl
 i232 := by kernel_rfl
 i233 := by kernel_rfl
 m17 := by kernel_rfl
 m18 := by kernel_rfl
 m19 := by kernel_rfl }
open Go.RowKit Go.Sort Go.Lib in
theorem Tryd.strconv_AppendInt_10 (B n : Nat) (i : Int) (h0 : -9223372036854775808 ≤ i) (h1 : i ≤ 9223372036854775807) (sv : Value) (xs : List Value) (w : World) (hown : w.ownsRow B 5 1 sv n xs) (hBw : B ≤ w.heap.size) (hlim : n + 21 ≤ 140737488355328) (htab : Lib.TabBelow Tryd.prog B w "internal/strconv.uint64pow10" .u64 Lib.pow10Tab) :
  Calls Tryd.prog 27 #[sv, .int .i64 i, .int .i64 10] w fun e w' => ∃ v', e = .returned v' ∧ w'.ownsRow B 5 1 v' (n + (Lib.itoa i).length) (xs ++ Lib.byteCells (Lib.itoa i)) ∧ Below B w w' ∧ Lib.OthersKept 5 none w w' := Any.strconv_AppendInt_10 Tryd.laysM176 B n i h0 h1 sv xs w hown hBw hlim htab
end Go.Proofs
namespace Go.Proofs.YtaihajmdngoeiaaDoor.Q
set_option linter.unusedVariables false
set_option linter.unusedSimpArgs false
inductive NS where
 | start
 | minus
 | num (neg : Bool) (m : Int)
 deriving DecidableEq
def lim (neg : Bool) : Int := if neg then 9223372036854775808 else 9223372036854775807
def NS.step : NS → Int → Option NS
 | .start, c => if c = 45 then some .minus else if 48 ≤ c ∧ c ≤ 57 then some (.num false (c - 48)) else none
 | .minus, c => if 49 ≤ c ∧ c ≤ 57 then some (.num true (c - 48)) else none
 | .num neg m, c => if 48 ≤ c ∧ c ≤ 57 ∧ m ≠ 0 ∧ m * 10 + (c - 48) ≤ lim neg then some (.num neg (m * 10 + (c - 48))) else none
def NS.run : NS → List Int → Option NS
 | s, [] => some s
 | s, c :: r => (s.step c).bind fun t => t.run r
def ints (l : List UInt8) : List Int := l.map fun b => (b.toNat : Int)
def itoaI (n : Int) : List Int := ints (Lib.itoa n)
def isI64 (n : Int) : Prop := -9223372036854775808 ≤ n ∧ n ≤ 9223372036854775807
end Go.Proofs.YtaihajmdngoeiaaDoor.Q
namespace Go.Proofs.YtaihajmdngoeiaaDoor.F
open Go.RowKit Go.Proofs.YtaihajmdngoeiaaDoorW.PrintWords Go.Proofs.YtaihajmdngoeiaaDoorW.PrintLast Go.Proofs.YtaihajmdngoeiaaDoorW.PrintMore
set_option linter.unusedVariables false
set_option linter.unusedSimpArgs false
structure SG (w : World) : Prop where
 tab : Lib.TabIs Tryd.prog w "internal/strconv.uint64pow10" .u64 Lib.pow10Tab
theorem SG.below {w w' : World} (h : SG w) (hb : Below w.heap.size w w') : SG w' := ⟨Lib.tabBelow_of_tabIs h.tab w' hb⟩
theorem SG.far {w w' : World} {B : Nat} (h : SG w) (hb : Below w.heap.size w w') : Lib.TabBelow Tryd.prog w.heap.size w' "internal/strconv.uint64pow10" .u64 Lib.pow10Tab := (Lib.tabBelow_of_tabIs h.tab).on hb
def strconv_Itoa_28.f (k : Nat) (n : Int) : Option ByteArray := if -9223372036854775808 ≤ n ∧ n ≤ 9223372036854775807 then some ⟨(Lib.itoa n).toArray⟩ else none
theorem strconv_Itoa_28.calls (k : Nat) (n : Int) (r : ByteArray) (w : World) (h : strconv_Itoa_28.f k n = some r) (hs_ : SG w) :
  Calls Tryd.prog 28 #[.int .i64 n] w fun e w' => e = .returned (.string r) ∧ Below w.heap.size w w' := by
 unfold strconv_Itoa_28.f at h
 split at h
 ·next hn =>
  simp only [Option.some.injEq] at h
  subst h
  refine (Tryd.strconv_Itoa n hn.1 hn.2 w hs_.tab).mono ?_
  rintro e w' ⟨rfl, k, os, rfl⟩
  exact ⟨rfl, Lib.below_grow _ w (Nat.le_refl _) k os⟩
 ·cases h
def strconv_AppendInt_27.f (k : Nat) (l : List Int) (n : Int) (b : Int) : Option (List Int) :=
 if b = 10 ∧ (-9223372036854775808 ≤ n ∧ n ≤ 9223372036854775807) ∧ l.length + 21 ≤ 140737488355328 then some (l ++ Q.itoaI n) else none
theorem reps_ints {R : Int → List Value → Prop} (hR : ∀ x cs, R x cs ↔ cs = [.int .u8 x]) : ∀ (l : List Int) (inner : List Value), Reps R 1 l inner → inner = l.map (Value.int .u8) := by
 intro l inner h
 apply List.ext_getElem?
 intro j
 obtain ⟨h1, h2⟩ := h
 rcases Nat.lt_or_ge j l.length with hj | hj
 ·have := (hR _ _).1 (h2 j l[j] (List.getElem?_eq_getElem hj))
  have h3 : (inner.drop (j * 1)).take 1 = [inner[j]'(by omega)] := by
   rw [Nat.mul_one, List.drop_eq_getElem_cons (by omega)]
   rfl
  rw [h3] at this
  simp only [List.cons.injEq, and_true] at this
  rw [List.getElem?_eq_getElem (by omega), this, List.getElem?_map, List.getElem?_eq_getElem hj]
  rfl
 ·rw [List.getElem?_eq_none (by omega), List.getElem?_eq_none (by simp; omega)]
theorem ints_reps {R : Int → List Value → Prop} (hR : ∀ x cs, R x cs ↔ cs = [.int .u8 x]) : ∀ (l : List Int), Reps R 1 l (l.map (Value.int .u8)) := by
 intro l
 induction l with
 | nil => exact Reps.none _ _
 | cons c l ih => exact Reps.one ((hR _ _).2 rfl) ih
theorem cells_ints (n : Int) : Lib.byteCells (Lib.itoa n) = (Q.itoaI n).map (Value.int .u8) := by
 unfold Lib.byteCells Q.itoaI Q.ints
 rw [List.map_map]
 rfl
theorem itoaI_length (n : Int) : (Q.itoaI n).length = (Lib.itoa n).length := by
 unfold Q.itoaI Q.ints
 simp
theorem appendInt_own (k : Nat) (l : List Int) (n : Int) (r : List Int) (v : Value) (base : Nat) (w : World) (h : strconv_AppendInt_27.f k l n 10 = some r) (ho : Kd.R (Kd.int .u8) 5 w base (fun _ => True) v l) (hb : base ≤ w.heap.size)
  (ht : Lib.TabBelow Tryd.prog base w "internal/strconv.uint64pow10" .u64 Lib.pow10Tab) :
  Calls Tryd.prog 27 #[v, .int .i64 n, .int .i64 10] w fun e w' => ∃ v', e = .returned v' ∧ Kd.R (Kd.int .u8) 5 w' base (fun _ => True) v' r ∧ Below base w w' ∧ Lib.OthersKept 5 none w w' := by
 unfold strconv_AppendInt_27.f at h
 split at h
 ·next hn =>
  simp only [Option.some.injEq] at h
  subst h
  obtain ⟨_, inner, hw, hi⟩ := ho
  obtain rfl := reps_ints (fun x cs => Iff.rfl) l inner hi
  refine (Tryd.strconv_AppendInt_10 base l.length n hn.2.1.1 hn.2.1.2 v _ w hw hb hn.2.2 ht).mono ?_
  rintro e w' ⟨v', rfl, hw', hb', hk⟩
  refine ⟨v', rfl, ⟨fun _ _ => trivial, _, ?_, ints_reps (fun x cs => Iff.rfl) _⟩, hb', hk⟩
  rw [List.length_append, itoaI_length, List.map_append, ← cells_ints]
  exact hw'
 ·cases h
end Go.Proofs.YtaihajmdngoeiaaDoor.F
namespace Go.Proofs.YtaihajmdngoeiaaDoor.F
open Go.RowKit Go.Proofs.YtaihajmdngoeiaaDoorW.PrintWords Go.Proofs.YtaihajmdngoeiaaDoorW.PrintLast Go.Proofs.YtaihajmdngoeiaaDoorW.PrintMore
attribute [local go_sem] max2_int min2_int max_two min_two max_three min_three max_four min_four   -- for this text's walks alone
set_option linter.unusedVariables false
set_option linter.unusedSimpArgs false
/-! ### edits_Print: function 9 -/
mutual
def edits_Print.l0 : Nat → List Int → List (S42) → Int → Int → Option (ByteArray)
 | 0, _, _, _, _ => none
 | k + 1, x3, x11, x12, x13 => if x13 < x12 then (if 0 ≤ x13 then (if x13 < (x11.length : Int) then ((strconv_AppendInt_27.f k x3 ((rd_T42 x11 x13).f0) 10).bind fun t143 => (if t143.length < 140737488355328 then ((strconv_AppendInt_27.f k (t143 ++ [44]) ((rd_T42 x11 x13).f1) 10).bind fun t149 => ((some (([32, 34] : List Int) : List Int)).bind fun y152 => (if t149.length + y152.length < 140737488355328 then (edits_Print.l1 k (t149 ++ y152) x11 x12 x13 (((rd_T42 x11 x13).f2).size : Int) 0 ((rd_T42 x11 x13).f0) ((rd_T42 x11 x13).f1) ((rd_T42 x11 x13).f2)) else (none)))) else (none))) else (none)) else (none)) else (some (strOfNums x3))
def edits_Print.l1 : Nat → List Int → List (S42) → Int → Int → Int → Int → Int → Int → ByteArray → Option (ByteArray)
 | 0, _, _, _, _, _, _, _, _, _ => none
 | k + 1, x3, x11, x12, x13, x33, x34, x143000, x143001, x143002 => if x34 < x33 then (if 0 ≤ x34 then (if x34 < (x143002.size : Int) then (if (bt x143002 x34) = 34 then (edits_Print.j2 k x3 (bt x143002 x34) x11 x12 x13 x33 x34 (bt x143002 x34) ((bt x143002 x34) == 34) x143000 x143001 x143002) else (edits_Print.j2 k x3 (bt x143002 x34) x11 x12 x13 x33 x34 (bt x143002 x34) ((bt x143002 x34) == 92) x143000 x143001 x143002)) else (none)) else (none)) else ((some (([34, 10] : List Int) : List Int)).bind fun y158 => (if x3.length + y158.length < 140737488355328 then (edits_Print.l0 k (x3 ++ y158) x11 x12 (wrap64 (x13 + 1))) else (none)))
def edits_Print.j2 : Nat → List Int → Int → List (S42) → Int → Int → Int → Int → Int → Bool → Int → Int → ByteArray → Option (ByteArray)
 | 0, _, _, _, _, _, _, _, _, _, _, _, _ => none
 | k + 1, x3, x7, x11, x12, x13, x33, x34, x41, x46, x143000, x143001, x143002 => if x46 = true then ((some (([92, x7] : List Int) : List Int)).bind fun y164 => (if x3.length + y164.length < 140737488355328 then (edits_Print.l1 k (x3 ++ y164) x11 x12 x13 x33 (wrap64 (x34 + 1)) x143000 x143001 x143002) else (none))) else (if x41 = 10 then ((some (([92, 110] : List Int) : List Int)).bind fun y170 => (if x3.length + y170.length < 140737488355328 then (edits_Print.l1 k (x3 ++ y170) x11 x12 x13 x33 (wrap64 (x34 + 1)) x143000 x143001 x143002) else (none))) else (if x3.length < 140737488355328 then (edits_Print.l1 k (x3 ++ [x7]) x11 x12 x13 x33 (wrap64 (x34 + 1)) x143000 x143001 x143002) else (none)))
end
def edits_Print.f (k : Nat) (l0 : List (S42)) : Option (ByteArray) := if (l0.length : Int) > 65536 then (some (⟨#[]⟩ : ByteArray)) else (edits_Print.l0 k ([] : List Int) l0 (l0.length : Int) 0)
set_option maxHeartbeats 8000000 in
set_option maxRecDepth 100000 in
theorem edits_Print.calls (k : Nat) (A0 : Option Addr) (c0 : Nat) (l0 : List (S42)) (r : ByteArray) (w : World) (hr0 : Kd.C k42 w A0 l0.length l0) (hc0 : l0.length ≤ c0) (h : edits_Print.f k l0 = some r) (hs_ : SG w) :
  Calls Tryd.prog 9 #[.slice A0 l0.length c0] w fun e w' => e = .returned (.string r) ∧ Below w.heap.size w w' := by
 have hu42 := Tryd.underlying42
 have HR0 := Aside0.mk hr0
 have HC0 := Aside0.mk hc0
 clear hr0 hc0
 have HSG := Aside0.mk hs_
 clear hs_
 have HB := Aside0.mk (Below.refl w.heap.size w)
 have H : (if (l0.length : Int) > 65536 then (some (⟨#[]⟩ : ByteArray)) else (edits_Print.l0 k ([] : List Int) l0 (l0.length : Int) 0)) = some r := h
 clear h
 by_cases c2 : (l0.length : Int) > 65536
 ·rw [if_pos c2] at H
  have c2b0 : decide (65536 < (l0.length : Int)) = true := decide_eq_true c2
  have c2b1 : decide (65536 < l0.length) = true := decide_eq_true (by omega)
  clear c2
  obtain rfl := Option.some.inj H
  go_enter Tryd.func9, Tryd.ntmps9
  go_wp2
  go_ret
  exact ⟨by first | rfl | (simp [errW_none, errW_some] <;> rfl) | (simp [*, errW_none, errW_some] <;> rfl), by repeat (first | (with_reducible first | exact HB.out | apply below_alloc | apply pw_below_drewN | apply below_drew1) | exact HB.out)⟩
 ·rw [if_neg c2] at H
  have c2b0 : decide (65536 < (l0.length : Int)) = false := decide_eq_false c2
  have c2b1 : decide (65536 < l0.length) = false := decide_eq_false (by omega)
  clear c2
  have H' := Aside0.mk H
  clear H
  go_enter Tryd.func9, Tryd.ntmps9
  go_wp2
  go_loopg [3, 13] k (fun kq v3 v13 w' => ∃ (x3_1 : List Int) (x13_1 : Int), v13 = .int .i64 x13_1 ∧ Aside0 (edits_Print.l0 kq x3_1 l0 (l0.length : Int) x13_1 = some r) ∧ Aside0 (kq ≤ k) ∧ Aside0 (Kd.R (Kd.int .u8) 5 w' w.heap.size (fun _ => True) v3 x3_1) ∧ Aside0 (Below w.heap.size w w'))
  case atStart => exact ⟨(([] : List Int)), (0), (by first | rfl | (simp; done) | (simp [*]; done)), H', ⟨Nat.le_refl _⟩, ⟨by first | exact Kd.R_nil _ _ _ _ _ | exact Kd.N_nil _ _ _ _ _ | exact Kd.V_nil _ _ _ _ _ | exact Kd.Q_nil _ _ _ _ _ | exact Kd.S_nil _ _ _ _ _⟩, ⟨by repeat (first | (with_reducible first | exact HB.out | apply below_alloc | apply pw_below_drewN | apply below_drew1) | exact HB.out)⟩⟩
  case round =>
   clear H'
   try clear c2
   try clear c2b0
   try clear c2b1
   try clear p2
   obtain ⟨x3_1, x13_1, rfl, HA, HK1, HO_3, HB⟩ := hrel
   cases gk with
   | zero => exact absurd HA.out (by simp [edits_Print.l0])
   | succ k1 =>
    have H := HA.out
    clear HA
    simp only [edits_Print.l0] at H
    by_cases c3 : x13_1 < (l0.length : Int)
    ·rw [if_pos c3] at H
     have c3b0 : decide (x13_1 < (l0.length : Int)) = true := decide_eq_true c3
     clear c3
     by_cases c4 : 0 ≤ x13_1
     ·rw [if_pos c4] at H
      have c4b0 : decide (0 ≤ x13_1) = true := decide_eq_true c4
      clear c4
      by_cases c5 : x13_1 < (l0.length : Int)
      ·rw [if_pos c5] at H
       have c5b0 : decide (x13_1 < (l0.length : Int)) = true := decide_eq_true c5
       clear c5
       replace H := Option.bind_eq_some_iff.mp H
       obtain ⟨t143, A60, H⟩ := H
       replace H : (if t143.length < 140737488355328 then ((strconv_AppendInt_27.f k1 (t143 ++ [44]) ((rd_T42 l0 x13_1).f1) 10).bind fun t149 => ((some (([32, 34] : List Int) : List Int)).bind fun y152 => (if t149.length + y152.length < 140737488355328 then (edits_Print.l1 k1 (t149 ++ y152) l0 (l0.length : Int) x13_1 (((rd_T42 l0 x13_1).f2).size : Int) 0 ((rd_T42 l0 x13_1).f0) ((rd_T42 l0 x13_1).f1) ((rd_T42 l0 x13_1).f2)) else (none)))) else (none)) = some r := H
       have A6 := Aside0.mk A60
       clear A60
       by_cases c7 : t143.length < 140737488355328
       ·rw [if_pos c7] at H
        have LMc7 := Aside0.mk c7
        clear c7
        obtain ⟨y146, hy146⟩ : ∃ y_ : List Int, y_ = (t143 ++ [44]) := ⟨_, rfl⟩
        replace H : ((strconv_AppendInt_27.f k1 y146 ((rd_T42 l0 x13_1).f1) 10).bind fun t149 => ((some (([32, 34] : List Int) : List Int)).bind fun y152 => (if t149.length + y152.length < 140737488355328 then (edits_Print.l1 k1 (t149 ++ y152) l0 (l0.length : Int) x13_1 (((rd_T42 l0 x13_1).f2).size : Int) 0 ((rd_T42 l0 x13_1).f0) ((rd_T42 l0 x13_1).f1) ((rd_T42 l0 x13_1).f2)) else (none)))) = some r := by first | (rw [hy146]; with_reducible exact H) | (have H2_ := (Option.bind_some _ _).symm.trans H; rw [hy146]; with_reducible exact H2_) | (have H2_ := (Option.bind_some _ _).symm.trans H; with_reducible exact H2_) | with_reducible exact H | (rw [hy146]; exact H) | exact H
        have Ny146 := Aside0.mk hy146
        clear hy146
        replace H := Option.bind_eq_some_iff.mp H
        obtain ⟨t149, A80, H⟩ := H
        replace H : ((some (([32, 34] : List Int) : List Int)).bind fun y152 => (if t149.length + y152.length < 140737488355328 then (edits_Print.l1 k1 (t149 ++ y152) l0 (l0.length : Int) x13_1 (((rd_T42 l0 x13_1).f2).size : Int) 0 ((rd_T42 l0 x13_1).f0) ((rd_T42 l0 x13_1).f1) ((rd_T42 l0 x13_1).f2)) else (none))) = some r := H
        have A8 := Aside0.mk A80
        clear A80
        obtain ⟨y152, hy152⟩ : ∃ y_ : List Int, y_ = (([32, 34] : List Int)) := ⟨_, rfl⟩
        replace H : (if t149.length + y152.length < 140737488355328 then (edits_Print.l1 k1 (t149 ++ y152) l0 (l0.length : Int) x13_1 (((rd_T42 l0 x13_1).f2).size : Int) 0 ((rd_T42 l0 x13_1).f0) ((rd_T42 l0 x13_1).f1) ((rd_T42 l0 x13_1).f2)) else (none)) = some r := by first | (rw [hy152]; with_reducible exact H) | (have H2_ := (Option.bind_some _ _).symm.trans H; rw [hy152]; with_reducible exact H2_) | (have H2_ := (Option.bind_some _ _).symm.trans H; with_reducible exact H2_) | with_reducible exact H | (rw [hy152]; exact H) | exact H
        have Ny152 := Aside0.mk hy152
        clear hy152
        by_cases c9 : t149.length + y152.length < 140737488355328
        ·rw [if_pos c9] at H
         have LMc9 := Aside0.mk c9
         clear c9
         obtain ⟨y155, hy155⟩ : ∃ y_ : List Int, y_ = (t149 ++ y152) := ⟨_, rfl⟩
         replace H : (edits_Print.l1 k1 y155 l0 (l0.length : Int) x13_1 (((rd_T42 l0 x13_1).f2).size : Int) 0 ((rd_T42 l0 x13_1).f0) ((rd_T42 l0 x13_1).f1) ((rd_T42 l0 x13_1).f2)) = some r := by first | (rw [hy155]; with_reducible exact H) | (have H2_ := (Option.bind_some _ _).symm.trans H; rw [hy155]; with_reducible exact H2_) | (have H2_ := (Option.bind_some _ _).symm.trans H; with_reducible exact H2_) | with_reducible exact H | (rw [hy155]; exact H) | exact H
         have Ny155 := Aside0.mk hy155
         clear hy155
         have H' := Aside0.mk H
         clear H
         have p141 : 0 ≤ (x13_1 : Int) := of_decide_eq_true (by first | (with_reducible assumption) | assumption)
         have q141 : x13_1 < (l0.length : Int) := of_decide_eq_true (by first | (with_reducible assumption) | assumption)
         obtain ⟨ad141, e141, hx141_0, hx141_1, hx141_2⟩ := at_T42 HR0.out x13_1 p141 q141
         cases e141
         replace hx141_0 := (HB.out.cell (World.block_lt_of_cell? w _ hx141_0)).trans hx141_0
         replace hx141_1 := (HB.out.cell (World.block_lt_of_cell? w _ hx141_1)).trans hx141_1
         replace hx141_2 := (HB.out.cell (World.block_lt_of_cell? w _ hx141_2)).trans hx141_2
         replace p141 := eq_true p141
         replace q141 := eq_true q141
         go_wp2_with (first | ((with_reducible refine gate_dst (N := 5) rfl ?_); refine box_event ?hg (N := 5) ?hd (cs := #[.int .i64 0, .int .i64 0, .string (⟨#[]⟩ : ByteArray)]) (t := 42) ?hr ?_; (case hd => rfl); (case hg => rfl); (case hr => first | (go_simp; done) | (go_simp; rfl)); intro gb142 hg w10 hbox hb; have n0_ := Aside0.mk (Kd.R_below (by (with_reducible repeat (first | apply Kd.R_alloc | apply Kd.R_drewN | apply Kd.R_drew)); exact HO_3.out) hb); have n1_ := Aside0.mk (below_step (by repeat (first | (with_reducible first | exact HB.out | apply below_alloc | apply pw_below_drewN | apply below_drew1) | exact HB.out)) hb); have n2_ := Aside0.mk (hbox); have n3_ := Aside0.mk ((by rw [hg]; exact (below_size (by repeat (first | (with_reducible first | exact HB.out | apply below_alloc | apply pw_below_drewN | apply below_drew1) | exact HB.out))) : w.heap.size ≤ gb142)); have n4_ := Aside0.mk ((by rw [hg]; exact (below_size (by repeat (first | (with_reducible first | exact HB.out | apply below_alloc | apply pw_below_drewN | apply below_drew1) | exact HB.out))) : w.heap.size ≤ gb142)); clear HO_3; clear HB; have HO_3 := n0_; have HB := n1_; have BK142 := n2_; have GW142 := n3_; have GE142 := n4_; clear n0_ n1_ n2_ n3_ n4_; clear hb hbox hg; have hcz11_0 : w10.cell? ⟨gb142, 0, none⟩ = some (.int .i64 0) := (blk_cell BK142.out 0).trans rfl; have hcz11_1 : w10.cell? ⟨gb142, 1, none⟩ = some (.int .i64 0) := (blk_cell BK142.out 1).trans rfl; have hcz11_2 : w10.cell? ⟨gb142, 2, none⟩ = some (.string (⟨#[]⟩ : ByteArray)) := (blk_cell BK142.out 2).trans rfl; have hfz11_0 := blk_frozen BK142.out 0; have hfz11_1 := blk_frozen BK142.out 1; have hfz11_2 := blk_frozen BK142.out 2; obtain ⟨Ao12, co12, eo12⟩ := Kd.R_slice HO_3.out; subst eo12) | ((with_reducible refine gate_callee (f := 27) rfl ?_); refine goesL_ (some 20) rfl rfl Tryd.func27 (by kernel_rfl) rfl #[.slice Ao12 x3_1.length co12, .int .i64 ((rd_T42 l0 x13_1).f0), .int .i64 10] rfl (by (try simp only [List.map_toArray, List.map_cons, List.map_nil]); first | done | rfl | (simp only [List.length_drop, List.length_take]; rfl)) ?_; (with_reducible refine (appendInt_own k1 x3_1 ((rd_T42 l0 x13_1).f0) t143 (.slice Ao12 x3_1.length co12) w.heap.size _ A6.out ?side1 ?side2 ?side3).mono ?_); (case side1 => exact (by (with_reducible repeat (first | apply Kd.R_alloc | apply Kd.R_drewN | apply Kd.R_drew)); exact (Kd.R_mono (Kd.R_far (p := ⟨gb142, 2, none⟩) (Kd.R_far (p := ⟨gb142, 1, none⟩) (Kd.R_far (p := ⟨gb142, 0, none⟩) (Kd.R_types HO_3.out BK142.out (by decide)) (fun _ hk => hk.2) (.int .i64 ((rd_T42 l0 x13_1).f0))) (fun _ hk => hk.2) (.int .i64 ((rd_T42 l0 x13_1).f1))) (fun _ hk => hk.2) (.string ((rd_T42 l0 x13_1).f2))) (fun _ h_ => h_.1)))); (case side2 => exact (below_size (by repeat (first | (with_reducible first | exact HB.out | apply below_alloc | apply pw_below_drewN | apply below_drew1 | refine below_set ?_ GE142.out) | exact HB.out)))); (case side3 => exact SG.far (B := 0) HSG.out (by repeat (first | (with_reducible first | exact HB.out | apply below_alloc | apply pw_below_drewN | apply below_drew1 | refine below_set ?_ GE142.out) | exact HB.out))); rintro e w13 ⟨v144, rfl, ho0, hb, hk⟩; refine ⟨_, rfl, ?_⟩; have n0_ := Aside0.mk ho0; have n1_ := Aside0.mk (hk gb142 (.cells #[.int .i64 ((rd_T42 l0 x13_1).f0), .int .i64 ((rd_T42 l0 x13_1).f1), .string ((rd_T42 l0 x13_1).f2)] 42 (0, 0)) (by (with_reducible repeat (first | refine blk_drewN ?_ _ | refine blk_drew ?_ | refine blk_alloc ?_ _)); refine blk_put (cs := #[.int .i64 ((rd_T42 l0 x13_1).f0), .int .i64 ((rd_T42 l0 x13_1).f1), .string (⟨#[]⟩ : ByteArray)]) ?_ 2 _ rfl; (with_reducible repeat (first | refine blk_drewN ?_ _ | refine blk_drew ?_ | refine blk_alloc ?_ _)); refine blk_put (cs := #[.int .i64 ((rd_T42 l0 x13_1).f0), .int .i64 0, .string (⟨#[]⟩ : ByteArray)]) ?_ 1 _ rfl; (with_reducible repeat (first | refine blk_drewN ?_ _ | refine blk_drew ?_ | refine blk_alloc ?_ _)); refine blk_put (cs := #[.int .i64 0, .int .i64 0, .string (⟨#[]⟩ : ByteArray)]) ?_ 0 _ rfl; (with_reducible repeat (first | refine blk_drewN ?_ _ | refine blk_drew ?_ | refine blk_alloc ?_ _)); exact BK142.out) (by simp) (by intro c fz h; injection h with _ h _; exact absurd h (by decide))); have n2_ := Aside0.mk (Below.trans (by repeat (first | (with_reducible first | exact HB.out | apply below_alloc | apply pw_below_drewN | apply below_drew1 | refine below_set ?_ GE142.out) | exact HB.out)) hb); clear HB; clear BK142; clear HO_3; have HO145 := n0_; have BK142 := n1_; have HB := n2_; clear n0_ n1_ n2_; clear ho0 hb hk) | ((with_reducible refine gate_builtin (b := .append) (xs := #[.tmp 21, .tmp 22]) rfl ?_); at_builtin; refine Kd.R_append (Kd.int .u8) (w0 := w) w.heap.size rfl (.tmp 21) (.tmp 22) 59 5 (.int .u8 0) 1 rfl Tryd.underlying59 info5 rfl (by decide) (by omega) v144 t143 44 [.int .u8 44] (fun _ => True) (fun _ => False) rfl rfl ?aP (fun _ hk => hk.elim) ?aF ?aO ?aB ?aS ?aL ?_; (case aP => exact rfl); (case aB => exact (by repeat (first | (with_reducible first | exact HB.out | apply below_alloc | apply pw_below_drewN | apply below_drew1 | refine below_set ?_ GE142.out) | exact HB.out))); (case aF => exact (fun _ _ => trivial)); (case aO => exact (by (with_reducible repeat (first | apply Kd.R_alloc | apply Kd.R_drewN | apply Kd.R_drew)); exact HO145.out)); (case aS => exact (below_size (by repeat (first | (with_reducible first | exact HB.out | apply below_alloc | apply pw_below_drewN | apply below_drew1 | refine below_set ?_ GE142.out) | exact HB.out)))); (case aL => have := LMc7.out; omega); intro v147 w14 ho hb hg hat; rw [← Ny146.out] at ho; have n0_ := Aside0.mk (blk_grown (g := gb142) (o := .cells #[.int .i64 ((rd_T42 l0 x13_1).f0), .int .i64 ((rd_T42 l0 x13_1).f1), .string ((rd_T42 l0 x13_1).f2)] 42 (0, 0)) (by (with_reducible repeat (first | refine blk_drewN ?_ _ | refine blk_drew ?_ | refine blk_alloc ?_ _)); exact BK142.out) hg (Kd.R_ne HO145.out BK142.out (by decide))); have n1_ := Aside0.mk (hb); have n2_ := Aside0.mk (ho); clear BK142; clear HB; clear HO145; have BK142 := n0_; have HB := n1_; have HO148 := n2_; clear n0_ n1_ n2_; clear ho hb hg hat; have hcz15_0 : w14.cell? ⟨gb142, 0, none⟩ = some (.int .i64 ((rd_T42 l0 x13_1).f0)) := (blk_cell BK142.out 0).trans rfl; have hcz15_1 : w14.cell? ⟨gb142, 1, none⟩ = some (.int .i64 ((rd_T42 l0 x13_1).f1)) := (blk_cell BK142.out 1).trans rfl; have hcz15_2 : w14.cell? ⟨gb142, 2, none⟩ = some (.string ((rd_T42 l0 x13_1).f2)) := (blk_cell BK142.out 2).trans rfl; have hfz15_0 := blk_frozen BK142.out 0; have hfz15_1 := blk_frozen BK142.out 1; have hfz15_2 := blk_frozen BK142.out 2; obtain ⟨Ao16, co16, eo16⟩ := Kd.R_slice HO148.out; subst eo16) | ((with_reducible refine gate_callee (f := 27) rfl ?_); refine goesL_ (some 27) rfl rfl Tryd.func27 (by kernel_rfl) rfl #[.slice Ao16 y146.length co16, .int .i64 ((rd_T42 l0 x13_1).f1), .int .i64 10] rfl (by (try simp only [List.map_toArray, List.map_cons, List.map_nil]); first | done | rfl | (simp only [List.length_drop, List.length_take]; rfl)) ?_; (with_reducible refine (appendInt_own k1 y146 ((rd_T42 l0 x13_1).f1) t149 (.slice Ao16 y146.length co16) w.heap.size _ A8.out ?side1 ?side2 ?side3).mono ?_); (case side1 => exact (by (with_reducible repeat (first | apply Kd.R_alloc | apply Kd.R_drewN | apply Kd.R_drew)); exact HO148.out)); (case side2 => exact (below_size (by repeat (first | (with_reducible first | exact HB.out | apply below_alloc | apply pw_below_drewN | apply below_drew1 | refine below_set ?_ GE142.out) | exact HB.out)))); (case side3 => exact SG.far (B := 0) HSG.out (by repeat (first | (with_reducible first | exact HB.out | apply below_alloc | apply pw_below_drewN | apply below_drew1 | refine below_set ?_ GE142.out) | exact HB.out))); rintro e w17 ⟨v150, rfl, ho0, hb, hk⟩; refine ⟨_, rfl, ?_⟩; have n0_ := Aside0.mk ho0; have n1_ := Aside0.mk (hk gb142 (.cells #[.int .i64 ((rd_T42 l0 x13_1).f0), .int .i64 ((rd_T42 l0 x13_1).f1), .string ((rd_T42 l0 x13_1).f2)] 42 (0, 0)) (by (with_reducible repeat (first | refine blk_drewN ?_ _ | refine blk_drew ?_ | refine blk_alloc ?_ _)); exact BK142.out) (by simp) (by intro c fz h; injection h with _ h _; exact absurd h (by decide))); have n2_ := Aside0.mk (Below.trans (by repeat (first | (with_reducible first | exact HB.out | apply below_alloc | apply pw_below_drewN | apply below_drew1 | refine below_set ?_ GE142.out) | exact HB.out)) hb); clear HB; clear BK142; clear HO148; have HO151 := n0_; have BK142 := n1_; have HB := n2_; clear n0_ n1_ n2_; clear ho0 hb hk) | ((with_reducible refine gate_dst (N := 29) rfl ?_); refine Kd.R_lit (Kd.int .u8) _ 5 ?hg (N := 29) ?hd (xs := ([32, 34] : List Int)) (inner := [.int .u8 32, .int .u8 34]) (ok := fun _ => True) (okp := fun _ => True) ?hr ?hp (fun _ hk => hk) trivial (Below.refl _ _) (Nat.le_refl _) (by simp) ?_; (case hd => rfl); (case hg => rfl); (case hr => first | (go_simp; done) | (go_simp; rfl)); (case hp => exact (Reps.one (show Kd.M (Kd.int .u8) _ _ _ 32 [.int .u8 32] from rfl) (Reps.one (show Kd.M (Kd.int .u8) _ _ _ 34 [.int .u8 34] from rfl) (Reps.none _ _)))); intro v153 w18 ho19 hb hg_ hnew_; clear hg_ hnew_; (first | rw [← Ny152.out] at ho19 | (simp only [Int.reduceToNat] at ho19; rw [← Ny152.out] at ho19)); have n0_ := Aside0.mk (Kd.R_elder' (by (with_reducible repeat (first | apply Kd.R_alloc | apply Kd.R_drewN | apply Kd.R_drew)); exact HO151.out) (Kd.R_base ho19) hb); have n1_ := Aside0.mk (Kd.R_lower (Kd.R_new' ho19 (Kd.R_lt (by (with_reducible repeat (first | apply Kd.R_alloc | apply Kd.R_drewN | apply Kd.R_drew)); exact HO151.out))) (below_size (by repeat (first | (with_reducible first | exact HB.out | apply below_alloc | apply pw_below_drewN | apply below_drew1 | refine below_set ?_ GE142.out) | exact HB.out)))); have n2_ := Aside0.mk (blk_below (g := gb142) (o := .cells #[.int .i64 ((rd_T42 l0 x13_1).f0), .int .i64 ((rd_T42 l0 x13_1).f1), .string ((rd_T42 l0 x13_1).f2)] 42 (0, 0)) (by (with_reducible repeat (first | refine blk_drewN ?_ _ | refine blk_drew ?_ | refine blk_alloc ?_ _)); exact BK142.out) hb); have n3_ := Aside0.mk (below_step (by repeat (first | (with_reducible first | exact HB.out | apply below_alloc | apply pw_below_drewN | apply below_drew1 | refine below_set ?_ GE142.out) | exact HB.out)) hb); clear HO151; clear BK142; clear HB; have HO151 := n0_; have HO154 := n1_; have BK142 := n2_; have HB := n3_; clear n0_ n1_ n2_ n3_; clear hb ho19; obtain ⟨Ao21, co21, eo21⟩ := Kd.R_slice HO154.out; subst eo21) | ((with_reducible refine gate_builtin (b := .append) (xs := #[.tmp 28, .tmp 29]) rfl ?_); at_builtin; refine Kd.R_append_rows (Kd.int .u8) (w0 := w) w.heap.size rfl (.tmp 28) (.tmp 29) 59 5 (.int .u8 0) 1 rfl Tryd.underlying59 info5 rfl (by decide) (by omega) v150 t149 y152 _ _ _ (fun k_ => some k_ ≠ (.slice Ao21 y152.length co21 : Value).ownBlock) (fun _ => False) rfl rfl ?aO ?aR (fun _ _ h => h) (fun _ h => h.elim) ?aF ?aB ?aS ?aL ?_; (case aR => repeat (first | exact (Kd.R_reads' HO154.out).2.2 | (with_reducible refine Kd.C_alloc ?_ _) | (with_reducible refine Kd.C_drewN ?_ _) | (with_reducible refine Kd.C_drew ?_))); (case aB => exact (by repeat (first | (with_reducible first | exact HB.out | apply below_alloc | apply pw_below_drewN | apply below_drew1 | refine below_set ?_ GE142.out) | exact HB.out))); (case aF => exact (fun k_ hk => Kd.fresh' (Kd.R_lt (by (with_reducible repeat (first | apply Kd.R_alloc | apply Kd.R_drewN | apply Kd.R_drew)); exact HO154.out)) k_ hk)); (case aO => exact (by (with_reducible repeat (first | apply Kd.R_alloc | apply Kd.R_drewN | apply Kd.R_drew)); exact Kd.R_mono HO151.out (fun _ hk => hk.2))); (case aS => exact (below_size (by repeat (first | (with_reducible first | exact HB.out | apply below_alloc | apply pw_below_drewN | apply below_drew1 | refine below_set ?_ GE142.out) | exact HB.out)))); (case aL => have := LMc9.out; omega); intro v156 w20 ho hb hg hat; rw [← Ny155.out] at ho; have n0_ := Aside0.mk (blk_grown (g := gb142) (o := .cells #[.int .i64 ((rd_T42 l0 x13_1).f0), .int .i64 ((rd_T42 l0 x13_1).f1), .string ((rd_T42 l0 x13_1).f2)] 42 (0, 0)) (by (with_reducible repeat (first | refine blk_drewN ?_ _ | refine blk_drew ?_ | refine blk_alloc ?_ _)); exact BK142.out) hg (Kd.R_ne HO151.out BK142.out (by decide))); have n1_ := Aside0.mk (hb); have n2_ := Aside0.mk (ho); clear BK142; clear HB; clear HO151; clear HO154; have BK142 := n0_; have HB := n1_; have HO157 := n2_; clear n0_ n1_ n2_; clear ho hb hg hat; have hcz22_0 : w20.cell? ⟨gb142, 0, none⟩ = some (.int .i64 ((rd_T42 l0 x13_1).f0)) := (blk_cell BK142.out 0).trans rfl; have hcz22_1 : w20.cell? ⟨gb142, 1, none⟩ = some (.int .i64 ((rd_T42 l0 x13_1).f1)) := (blk_cell BK142.out 1).trans rfl; have hcz22_2 : w20.cell? ⟨gb142, 2, none⟩ = some (.string ((rd_T42 l0 x13_1).f2)) := (blk_cell BK142.out 2).trans rfl; have hfz22_0 := blk_frozen BK142.out 0; have hfz22_1 := blk_frozen BK142.out 1; have hfz22_2 := blk_frozen BK142.out 2))
         go_loopg [3, 34] k1 (fun kq v3 v34 w' => ∃ (x3_2 : List Int) (x34_2 : Int), v34 = .int .i64 x34_2 ∧ Aside0 (edits_Print.l1 kq x3_2 l0 (l0.length : Int) x13_1 (((rd_T42 l0 x13_1).f2).size : Int) x34_2 ((rd_T42 l0 x13_1).f0) ((rd_T42 l0 x13_1).f1) ((rd_T42 l0 x13_1).f2) = some r) ∧ Aside0 (kq ≤ k1) ∧ Aside0 (Kd.R (Kd.int .u8) 5 w' w.heap.size (fun _ => True) v3 x3_2) ∧ Aside0 (w'.heap[gb142]? = some (.cells #[.int .i64 ((rd_T42 l0 x13_1).f0), .int .i64 ((rd_T42 l0 x13_1).f1), .string ((rd_T42 l0 x13_1).f2)] 42 (0, 0))) ∧ Aside0 (Below w.heap.size w w'))
         case atStart => exact ⟨(y155), (0), (by first | rfl | (simp; done) | (simp [*]; done)), H', ⟨Nat.le_refl _⟩, ⟨by (with_reducible repeat (first | apply Kd.R_alloc | apply Kd.R_drewN | apply Kd.R_drew)); exact Kd.R_mono HO157.out (fun _ hk => trivial)⟩, ⟨by (with_reducible repeat (first | refine blk_drewN ?_ _ | refine blk_drew ?_ | refine blk_alloc ?_ _)); exact BK142.out⟩, ⟨by repeat (first | (with_reducible first | exact HB.out | apply below_alloc | apply pw_below_drewN | apply below_drew1 | refine below_set ?_ GE142.out) | exact HB.out)⟩⟩
         case round =>
          clear H'
          try clear p1
          try clear q1
          try clear hx1
          try clear c2
          try clear c2b0
          try clear c2b1
          try clear p2
          try clear c3
          try clear c3b0
          try clear c4
          try clear c4b0
          try clear c5
          try clear c5b0
          try clear c7
          try clear c9
          try clear p14
          try clear q14
          try clear hx14
          try clear hcz11_0
          try clear hcz11_1
          try clear hcz11_2
          try clear hcz15_0
          try clear hcz15_1
          try clear hcz15_2
          try clear hcz22_0
          try clear hcz22_1
          try clear hcz22_2
          try clear hfz11_0
          try clear hfz11_1
          try clear hfz11_2
          try clear hfz15_0
          try clear hfz15_1
          try clear hfz15_2
          try clear hfz22_0
          try clear hfz22_1
          try clear hfz22_2
          try clear hx141_0
          try clear hx141_1
          try clear hx141_2
          try clear p141
          try clear p2
          try clear q141
          obtain ⟨x3_2, x34_2, rfl, HA, HK2, HO_3, BK142, HB⟩ := hrel
          cases gk with
          | zero => exact absurd HA.out (by simp [edits_Print.l1])
          | succ k2 =>
           have H := HA.out
           clear HA
           simp only [edits_Print.l1] at H
           by_cases c23 : x34_2 < (((rd_T42 l0 x13_1).f2).size : Int)
           ·rw [if_pos c23] at H
            have c23b0 : decide (x34_2 < (((rd_T42 l0 x13_1).f2).size : Int)) = true := decide_eq_true c23
            clear c23
            by_cases c24 : 0 ≤ x34_2
            ·rw [if_pos c24] at H
             have c24b0 : decide (0 ≤ x34_2) = true := decide_eq_true c24
             clear c24
             by_cases c25 : x34_2 < (((rd_T42 l0 x13_1).f2).size : Int)
             ·rw [if_pos c25] at H
              have c25b0 : decide (x34_2 < (((rd_T42 l0 x13_1).f2).size : Int)) = true := decide_eq_true c25
              clear c25
              have HC27 := Aside0.mk H
              clear H
              have hcz28_0 : wr.cell? ⟨gb142, 0, none⟩ = some (.int .i64 ((rd_T42 l0 x13_1).f0)) := (blk_cell BK142.out 0).trans rfl
              have hcz28_1 : wr.cell? ⟨gb142, 1, none⟩ = some (.int .i64 ((rd_T42 l0 x13_1).f1)) := (blk_cell BK142.out 1).trans rfl
              have hcz28_2 : wr.cell? ⟨gb142, 2, none⟩ = some (.string ((rd_T42 l0 x13_1).f2)) := (blk_cell BK142.out 2).trans rfl
              have hfz28_0 := blk_frozen BK142.out 0
              have hfz28_1 := blk_frozen BK142.out 1
              have hfz28_2 := blk_frozen BK142.out 2
              have p26 : 0 ≤ (x34_2 : Int) := of_decide_eq_true (by first | (with_reducible assumption) | assumption)
              have q26 : x34_2 < (((rd_T42 l0 x13_1).f2).size : Int) := of_decide_eq_true (by first | (with_reducible assumption) | assumption)
              have hx26 := bt_at ((rd_T42 l0 x13_1).f2) x34_2
              replace p26 := eq_true p26
              replace q26 := eq_true q26
              go_upto_if 46 with (fail)
              go_cut [46] (fun v46 wc => ∃ (kq : Nat) (x46_26 : Bool), v46 = .bool x46_26 ∧ Aside0 (edits_Print.j2 kq x3_2 (bt ((rd_T42 l0 x13_1).f2) x34_2) l0 (l0.length : Int) x13_1 (((rd_T42 l0 x13_1).f2).size : Int) x34_2 (bt ((rd_T42 l0 x13_1).f2) x34_2) x46_26 ((rd_T42 l0 x13_1).f0) ((rd_T42 l0 x13_1).f1) ((rd_T42 l0 x13_1).f2) = some r) ∧ Aside0 (kq ≤ k2) ∧ Aside0 (Kd.R (Kd.int .u8) 5 wc w.heap.size (fun _ => True) u3 x3_2) ∧ Aside0 (wc.heap[gb142]? = some (.cells #[.int .i64 ((rd_T42 l0 x13_1).f0), .int .i64 ((rd_T42 l0 x13_1).f1), .string ((rd_T42 l0 x13_1).f2)] 42 (0, 0))) ∧ Aside0 (Below w.heap.size w wc))
              case first =>
               have H := HC27.out
               clear HC27
               by_cases c29 : (bt ((rd_T42 l0 x13_1).f2) x34_2) = 34
               ·rw [if_pos c29] at H
                have c29b0 : ((bt ((rd_T42 l0 x13_1).f2) x34_2) == 34) = true := beq_iff_eq.mpr c29
                have c29b1 : ((bt ((rd_T42 l0 x13_1).f2) x34_2) != 34) = false := bne_eq_false_iff_eq.mpr c29
                clear c29
                (first | rw [c29b0] | (simp only [i64_w, i32_w]; rw [c29b0]) | skip)
                have H' := Aside0.mk H
                clear H
                go_wp2
                go_meet
                case rel => exact ⟨_, (((bt ((rd_T42 l0 x13_1).f2) x34_2) == 34)), (by first | rfl | (simp; done) | (simp [*]; done)), H', ⟨by have := HK1.out; have := HK2.out; first | omega | exact Nat.le_refl _⟩, ⟨by (with_reducible repeat (first | apply Kd.R_alloc | apply Kd.R_drewN | apply Kd.R_drew)); exact HO_3.out⟩, ⟨by (with_reducible repeat (first | refine blk_drewN ?_ _ | refine blk_drew ?_ | refine blk_alloc ?_ _)); exact BK142.out⟩, ⟨by repeat (first | (with_reducible first | exact HB.out | apply below_alloc | apply pw_below_drewN | apply below_drew1 | refine below_set ?_ GE142.out) | exact HB.out)⟩⟩
               ·rw [if_neg c29] at H
                have c29b0 : ((bt ((rd_T42 l0 x13_1).f2) x34_2) == 34) = false := beq_eq_false_iff_ne.mpr c29
                have c29b1 : ((bt ((rd_T42 l0 x13_1).f2) x34_2) != 34) = true := bne_iff_ne.mpr c29
                (first | rw [c29b0] | (simp only [i64_w, i32_w]; rw [c29b0]) | skip)
                have H' := Aside0.mk H
                clear H
                go_wp2
                go_meet
                case rel => exact ⟨_, (((bt ((rd_T42 l0 x13_1).f2) x34_2) == 92)), (by first | rfl | (simp; done) | (simp [*]; done)), H', ⟨by have := HK1.out; have := HK2.out; first | omega | exact Nat.le_refl _⟩, ⟨by (with_reducible repeat (first | apply Kd.R_alloc | apply Kd.R_drewN | apply Kd.R_drew)); exact HO_3.out⟩, ⟨by (with_reducible repeat (first | refine blk_drewN ?_ _ | refine blk_drew ?_ | refine blk_alloc ?_ _)); exact BK142.out⟩, ⟨by repeat (first | (with_reducible first | exact HB.out | apply below_alloc | apply pw_below_drewN | apply below_drew1 | refine below_set ?_ GE142.out) | exact HB.out)⟩⟩
              case rest =>
               clear HC27
               try clear p1
               try clear q1
               try clear hx1
               try clear c2
               try clear c2b0
               try clear c2b1
               try clear p2
               try clear q2
               try clear hx2
               try clear c3
               try clear c3b0
               try clear c4
               try clear c4b0
               try clear c5
               try clear c5b0
               try clear c7
               try clear c9
               try clear p14
               try clear q14
               try clear hx14
               try clear c23
               try clear c23b0
               try clear c24
               try clear c24b0
               try clear c25
               try clear c25b0
               try clear p26
               try clear q26
               try clear hx26
               try clear c27
               try clear c29
               try clear c29b0
               try clear c29b1
               try clear hcz11_0
               try clear hcz11_1
               try clear hcz11_2
               try clear hcz15_0
               try clear hcz15_1
               try clear hcz15_2
               try clear hcz22_0
               try clear hcz22_1
               try clear hcz22_2
               try clear hcz28_0
               try clear hcz28_1
               try clear hcz28_2
               try clear hfz11_0
               try clear hfz11_1
               try clear hfz11_2
               try clear hfz15_0
               try clear hfz15_1
               try clear hfz15_2
               try clear hfz22_0
               try clear hfz22_1
               try clear hfz22_2
               try clear hfz28_0
               try clear hfz28_1
               try clear hfz28_2
               try clear hx141_0
               try clear hx141_1
               try clear hx141_2
               try clear p1
               try clear p14
               try clear p141
               try clear p2
               try clear p26
               try clear q1
               try clear q14
               try clear q141
               try clear q26
               obtain ⟨kq, x46_26, rfl, HA, HJ26, HO_3, BK142, HB⟩ := hcut
               cases kq with
               | zero => exact absurd HA.out (by simp [edits_Print.j2])
               | succ kj26 =>
                have H := HA.out
                clear HA
                simp only [edits_Print.j2] at H
                by_cases c30 : x46_26 = true
                ·subst c30
                 have H1 : ((some (([92, (bt ((rd_T42 l0 x13_1).f2) x34_2)] : List Int) : List Int)).bind fun y164 => (if x3_2.length + y164.length < 140737488355328 then (edits_Print.l1 kj26 (x3_2 ++ y164) l0 (l0.length : Int) x13_1 (((rd_T42 l0 x13_1).f2).size : Int) (wrap64 (x34_2 + 1)) ((rd_T42 l0 x13_1).f0) ((rd_T42 l0 x13_1).f1) ((rd_T42 l0 x13_1).f2)) else (none))) = some r := by rw [if_pos rfl] at H; exact H
                 clear H
                 have H := H1
                 clear H1
                 obtain ⟨y164, hy164⟩ : ∃ y_ : List Int, y_ = (([92, (bt ((rd_T42 l0 x13_1).f2) x34_2)] : List Int)) := ⟨_, rfl⟩
                 replace H : (if x3_2.length + y164.length < 140737488355328 then (edits_Print.l1 kj26 (x3_2 ++ y164) l0 (l0.length : Int) x13_1 (((rd_T42 l0 x13_1).f2).size : Int) (wrap64 (x34_2 + 1)) ((rd_T42 l0 x13_1).f0) ((rd_T42 l0 x13_1).f1) ((rd_T42 l0 x13_1).f2)) else (none)) = some r := by first | (rw [hy164]; with_reducible exact H) | (have H2_ := (Option.bind_some _ _).symm.trans H; rw [hy164]; with_reducible exact H2_) | (have H2_ := (Option.bind_some _ _).symm.trans H; with_reducible exact H2_) | with_reducible exact H | (rw [hy164]; exact H) | exact H
                 have Ny164 := Aside0.mk hy164
                 clear hy164
                 by_cases c31 : x3_2.length + y164.length < 140737488355328
                 ·rw [if_pos c31] at H
                  have LMc31 := Aside0.mk c31
                  clear c31
                  obtain ⟨y167, hy167⟩ : ∃ y_ : List Int, y_ = (x3_2 ++ y164) := ⟨_, rfl⟩
                  replace H : (edits_Print.l1 kj26 y167 l0 (l0.length : Int) x13_1 (((rd_T42 l0 x13_1).f2).size : Int) (wrap64 (x34_2 + 1)) ((rd_T42 l0 x13_1).f0) ((rd_T42 l0 x13_1).f1) ((rd_T42 l0 x13_1).f2)) = some r := by first | (rw [hy167]; with_reducible exact H) | (have H2_ := (Option.bind_some _ _).symm.trans H; rw [hy167]; with_reducible exact H2_) | (have H2_ := (Option.bind_some _ _).symm.trans H; with_reducible exact H2_) | with_reducible exact H | (rw [hy167]; exact H) | exact H
                  have Ny167 := Aside0.mk hy167
                  clear hy167
                  have H' := Aside0.mk H
                  clear H
                  go_wp2_with (first | ((with_reducible refine gate_dst (N := 51) rfl ?_); refine Kd.R_lit (Kd.int .u8) _ 5 ?hg (N := 51) ?hd (xs := ([92, (bt ((rd_T42 l0 x13_1).f2) x34_2)] : List Int)) (inner := [.int .u8 92, .int .u8 (bt ((rd_T42 l0 x13_1).f2) x34_2)]) (ok := fun _ => True) (okp := fun _ => True) ?hr ?hp (fun _ hk => hk) trivial (Below.refl _ _) (Nat.le_refl _) (by simp) ?_; (case hd => rfl); (case hg => rfl); (case hr => first | (go_simp; done) | (go_simp; rfl)); (case hp => exact (Reps.one (show Kd.M (Kd.int .u8) _ _ _ 92 [.int .u8 92] from rfl) (Reps.one (show Kd.M (Kd.int .u8) _ _ _ (bt ((rd_T42 l0 x13_1).f2) x34_2) [.int .u8 (bt ((rd_T42 l0 x13_1).f2) x34_2)] from rfl) (Reps.none _ _)))); intro v165 w32 ho33 hb hg_ hnew_; clear hg_ hnew_; (first | rw [← Ny164.out] at ho33 | (simp only [Int.reduceToNat] at ho33; rw [← Ny164.out] at ho33)); have n0_ := Aside0.mk (Kd.R_elder' (by (with_reducible repeat (first | apply Kd.R_alloc | apply Kd.R_drewN | apply Kd.R_drew)); exact HO_3.out) (Kd.R_base ho33) hb); have n1_ := Aside0.mk (Kd.R_lower (Kd.R_new' ho33 (Kd.R_lt (by (with_reducible repeat (first | apply Kd.R_alloc | apply Kd.R_drewN | apply Kd.R_drew)); exact HO_3.out))) (below_size (by repeat (first | (with_reducible first | exact HB.out | apply below_alloc | apply pw_below_drewN | apply below_drew1 | refine below_set ?_ GE142.out) | exact HB.out)))); have n2_ := Aside0.mk (blk_below (g := gb142) (o := .cells #[.int .i64 ((rd_T42 l0 x13_1).f0), .int .i64 ((rd_T42 l0 x13_1).f1), .string ((rd_T42 l0 x13_1).f2)] 42 (0, 0)) (by (with_reducible repeat (first | refine blk_drewN ?_ _ | refine blk_drew ?_ | refine blk_alloc ?_ _)); exact BK142.out) hb); have n3_ := Aside0.mk (below_step (by repeat (first | (with_reducible first | exact HB.out | apply below_alloc | apply pw_below_drewN | apply below_drew1 | refine below_set ?_ GE142.out) | exact HB.out)) hb); clear HO_3; clear BK142; clear HB; have HO_3 := n0_; have HO166 := n1_; have BK142 := n2_; have HB := n3_; clear n0_ n1_ n2_ n3_; clear hb ho33; obtain ⟨Ao35, co35, eo35⟩ := Kd.R_slice HO166.out; subst eo35) | ((with_reducible refine gate_builtin (b := .append) (xs := #[.tmp 49, .tmp 51]) rfl ?_); at_builtin; refine Kd.R_append_rows (Kd.int .u8) (w0 := w) w.heap.size rfl (.tmp 49) (.tmp 51) 59 5 (.int .u8 0) 1 rfl Tryd.underlying59 info5 rfl (by decide) (by omega) u3 x3_2 y164 _ _ _ (fun k_ => some k_ ≠ (.slice Ao35 y164.length co35 : Value).ownBlock) (fun _ => False) rfl rfl ?aO ?aR (fun _ _ h => h) (fun _ h => h.elim) ?aF ?aB ?aS ?aL ?_; (case aR => repeat (first | exact (Kd.R_reads' HO166.out).2.2 | (with_reducible refine Kd.C_alloc ?_ _) | (with_reducible refine Kd.C_drewN ?_ _) | (with_reducible refine Kd.C_drew ?_))); (case aB => exact (by repeat (first | (with_reducible first | exact HB.out | apply below_alloc | apply pw_below_drewN | apply below_drew1 | refine below_set ?_ GE142.out) | exact HB.out))); (case aF => exact (fun k_ hk => Kd.fresh' (Kd.R_lt (by (with_reducible repeat (first | apply Kd.R_alloc | apply Kd.R_drewN | apply Kd.R_drew)); exact HO166.out)) k_ hk)); (case aO => exact (by (with_reducible repeat (first | apply Kd.R_alloc | apply Kd.R_drewN | apply Kd.R_drew)); exact Kd.R_mono HO_3.out (fun _ hk => hk.2))); (case aS => exact (below_size (by repeat (first | (with_reducible first | exact HB.out | apply below_alloc | apply pw_below_drewN | apply below_drew1 | refine below_set ?_ GE142.out) | exact HB.out)))); (case aL => have := LMc31.out; omega); intro v168 w34 ho hb hg hat; rw [← Ny167.out] at ho; have n0_ := Aside0.mk (blk_grown (g := gb142) (o := .cells #[.int .i64 ((rd_T42 l0 x13_1).f0), .int .i64 ((rd_T42 l0 x13_1).f1), .string ((rd_T42 l0 x13_1).f2)] 42 (0, 0)) (by (with_reducible repeat (first | refine blk_drewN ?_ _ | refine blk_drew ?_ | refine blk_alloc ?_ _)); exact BK142.out) hg (Kd.R_ne HO_3.out BK142.out (by decide))); have n1_ := Aside0.mk (Kd.R_after (ok := (fun _ => True)) (by (with_reducible repeat (first | apply Kd.R_alloc | apply Kd.R_drewN | apply Kd.R_drew)); exact HO166.out) hg hat); have n2_ := Aside0.mk (hb); have n3_ := Aside0.mk (ho); clear BK142; clear HO166; clear HB; clear HO_3; have BK142 := n0_; have HO166 := n1_; have HB := n2_; have HO169 := n3_; clear n0_ n1_ n2_ n3_; clear ho hb hg hat))
                  go_roundg kj26
                  case measure => have := HK1.out; have := HK2.out; have := HJ26.out; omega
                  case rel => exact ⟨(y167), (wrap64 (x34_2 + 1)), (by first | rfl | (simp; done) | (simp [*]; done)), H', ⟨by have := HK1.out; have := HK2.out; have := HJ26.out; omega⟩, ⟨by (with_reducible repeat (first | apply Kd.R_alloc | apply Kd.R_drewN | apply Kd.R_drew)); exact Kd.R_mono HO169.out (fun _ hk => trivial)⟩, ⟨by (with_reducible repeat (first | refine blk_drewN ?_ _ | refine blk_drew ?_ | refine blk_alloc ?_ _)); exact BK142.out⟩, ⟨by repeat (first | (with_reducible first | exact HB.out | apply below_alloc | apply pw_below_drewN | apply below_drew1 | refine below_set ?_ GE142.out) | exact HB.out)⟩⟩
                 ·rw [if_neg c31] at H
                  exact absurd H (by simp)
                ·replace c30 := Bool.eq_false_iff.mpr c30
                 subst c30
                 have H1 : (if (bt ((rd_T42 l0 x13_1).f2) x34_2) = 10 then ((some (([92, 110] : List Int) : List Int)).bind fun y170 => (if x3_2.length + y170.length < 140737488355328 then (edits_Print.l1 kj26 (x3_2 ++ y170) l0 (l0.length : Int) x13_1 (((rd_T42 l0 x13_1).f2).size : Int) (wrap64 (x34_2 + 1)) ((rd_T42 l0 x13_1).f0) ((rd_T42 l0 x13_1).f1) ((rd_T42 l0 x13_1).f2)) else (none))) else (if x3_2.length < 140737488355328 then (edits_Print.l1 kj26 (x3_2 ++ [(bt ((rd_T42 l0 x13_1).f2) x34_2)]) l0 (l0.length : Int) x13_1 (((rd_T42 l0 x13_1).f2).size : Int) (wrap64 (x34_2 + 1)) ((rd_T42 l0 x13_1).f0) ((rd_T42 l0 x13_1).f1) ((rd_T42 l0 x13_1).f2)) else (none))) = some r := by rw [if_neg (show ¬ (false = true) by decide)] at H; exact H
                 clear H
                 have H := H1
                 clear H1
                 by_cases c36 : (bt ((rd_T42 l0 x13_1).f2) x34_2) = 10
                 ·rw [if_pos c36] at H
                  have c36b0 : ((bt ((rd_T42 l0 x13_1).f2) x34_2) == 10) = true := beq_iff_eq.mpr c36
                  have c36b1 : ((bt ((rd_T42 l0 x13_1).f2) x34_2) != 10) = false := bne_eq_false_iff_eq.mpr c36
                  clear c36
                  obtain ⟨y170, hy170⟩ : ∃ y_ : List Int, y_ = (([92, 110] : List Int)) := ⟨_, rfl⟩
                  replace H : (if x3_2.length + y170.length < 140737488355328 then (edits_Print.l1 kj26 (x3_2 ++ y170) l0 (l0.length : Int) x13_1 (((rd_T42 l0 x13_1).f2).size : Int) (wrap64 (x34_2 + 1)) ((rd_T42 l0 x13_1).f0) ((rd_T42 l0 x13_1).f1) ((rd_T42 l0 x13_1).f2)) else (none)) = some r := by first | (rw [hy170]; with_reducible exact H) | (have H2_ := (Option.bind_some _ _).symm.trans H; rw [hy170]; with_reducible exact H2_) | (have H2_ := (Option.bind_some _ _).symm.trans H; with_reducible exact H2_) | with_reducible exact H | (rw [hy170]; exact H) | exact H
                  have Ny170 := Aside0.mk hy170
                  clear hy170
                  by_cases c37 : x3_2.length + y170.length < 140737488355328
                  ·rw [if_pos c37] at H
                   have LMc37 := Aside0.mk c37
                   clear c37
                   obtain ⟨y173, hy173⟩ : ∃ y_ : List Int, y_ = (x3_2 ++ y170) := ⟨_, rfl⟩
                   replace H : (edits_Print.l1 kj26 y173 l0 (l0.length : Int) x13_1 (((rd_T42 l0 x13_1).f2).size : Int) (wrap64 (x34_2 + 1)) ((rd_T42 l0 x13_1).f0) ((rd_T42 l0 x13_1).f1) ((rd_T42 l0 x13_1).f2)) = some r := by first | (rw [hy173]; with_reducible exact H) | (have H2_ := (Option.bind_some _ _).symm.trans H; rw [hy173]; with_reducible exact H2_) | (have H2_ := (Option.bind_some _ _).symm.trans H; with_reducible exact H2_) | with_reducible exact H | (rw [hy173]; exact H) | exact H
                   have Ny173 := Aside0.mk hy173
                   clear hy173
                   have H' := Aside0.mk H
                   clear H
                   go_wp2_with (first | ((with_reducible refine gate_dst (N := 56) rfl ?_); refine Kd.R_lit (Kd.int .u8) _ 5 ?hg (N := 56) ?hd (xs := ([92, 110] : List Int)) (inner := [.int .u8 92, .int .u8 110]) (ok := fun _ => True) (okp := fun _ => True) ?hr ?hp (fun _ hk => hk) trivial (Below.refl _ _) (Nat.le_refl _) (by simp) ?_; (case hd => rfl); (case hg => rfl); (case hr => first | (go_simp; done) | (go_simp; rfl)); (case hp => exact (Reps.one (show Kd.M (Kd.int .u8) _ _ _ 92 [.int .u8 92] from rfl) (Reps.one (show Kd.M (Kd.int .u8) _ _ _ 110 [.int .u8 110] from rfl) (Reps.none _ _)))); intro v171 w38 ho39 hb hg_ hnew_; clear hg_ hnew_; (first | rw [← Ny170.out] at ho39 | (simp only [Int.reduceToNat] at ho39; rw [← Ny170.out] at ho39)); have n0_ := Aside0.mk (Kd.R_elder' (by (with_reducible repeat (first | apply Kd.R_alloc | apply Kd.R_drewN | apply Kd.R_drew)); exact HO_3.out) (Kd.R_base ho39) hb); have n1_ := Aside0.mk (Kd.R_lower (Kd.R_new' ho39 (Kd.R_lt (by (with_reducible repeat (first | apply Kd.R_alloc | apply Kd.R_drewN | apply Kd.R_drew)); exact HO_3.out))) (below_size (by repeat (first | (with_reducible first | exact HB.out | apply below_alloc | apply pw_below_drewN | apply below_drew1 | refine below_set ?_ GE142.out) | exact HB.out)))); have n2_ := Aside0.mk (blk_below (g := gb142) (o := .cells #[.int .i64 ((rd_T42 l0 x13_1).f0), .int .i64 ((rd_T42 l0 x13_1).f1), .string ((rd_T42 l0 x13_1).f2)] 42 (0, 0)) (by (with_reducible repeat (first | refine blk_drewN ?_ _ | refine blk_drew ?_ | refine blk_alloc ?_ _)); exact BK142.out) hb); have n3_ := Aside0.mk (below_step (by repeat (first | (with_reducible first | exact HB.out | apply below_alloc | apply pw_below_drewN | apply below_drew1 | refine below_set ?_ GE142.out) | exact HB.out)) hb); clear HO_3; clear BK142; clear HB; have HO_3 := n0_; have HO172 := n1_; have BK142 := n2_; have HB := n3_; clear n0_ n1_ n2_ n3_; clear hb ho39; obtain ⟨Ao41, co41, eo41⟩ := Kd.R_slice HO172.out; subst eo41) | ((with_reducible refine gate_builtin (b := .append) (xs := #[.tmp 55, .tmp 56]) rfl ?_); at_builtin; refine Kd.R_append_rows (Kd.int .u8) (w0 := w) w.heap.size rfl (.tmp 55) (.tmp 56) 59 5 (.int .u8 0) 1 rfl Tryd.underlying59 info5 rfl (by decide) (by omega) u3 x3_2 y170 _ _ _ (fun k_ => some k_ ≠ (.slice Ao41 y170.length co41 : Value).ownBlock) (fun _ => False) rfl rfl ?aO ?aR (fun _ _ h => h) (fun _ h => h.elim) ?aF ?aB ?aS ?aL ?_; (case aR => repeat (first | exact (Kd.R_reads' HO172.out).2.2 | (with_reducible refine Kd.C_alloc ?_ _) | (with_reducible refine Kd.C_drewN ?_ _) | (with_reducible refine Kd.C_drew ?_))); (case aB => exact (by repeat (first | (with_reducible first | exact HB.out | apply below_alloc | apply pw_below_drewN | apply below_drew1 | refine below_set ?_ GE142.out) | exact HB.out))); (case aF => exact (fun k_ hk => Kd.fresh' (Kd.R_lt (by (with_reducible repeat (first | apply Kd.R_alloc | apply Kd.R_drewN | apply Kd.R_drew)); exact HO172.out)) k_ hk)); (case aO => exact (by (with_reducible repeat (first | apply Kd.R_alloc | apply Kd.R_drewN | apply Kd.R_drew)); exact Kd.R_mono HO_3.out (fun _ hk => hk.2))); (case aS => exact (below_size (by repeat (first | (with_reducible first | exact HB.out | apply below_alloc | apply pw_below_drewN | apply below_drew1 | refine below_set ?_ GE142.out) | exact HB.out)))); (case aL => have := LMc37.out; omega); intro v174 w40 ho hb hg hat; rw [← Ny173.out] at ho; have n0_ := Aside0.mk (blk_grown (g := gb142) (o := .cells #[.int .i64 ((rd_T42 l0 x13_1).f0), .int .i64 ((rd_T42 l0 x13_1).f1), .string ((rd_T42 l0 x13_1).f2)] 42 (0, 0)) (by (with_reducible repeat (first | refine blk_drewN ?_ _ | refine blk_drew ?_ | refine blk_alloc ?_ _)); exact BK142.out) hg (Kd.R_ne HO_3.out BK142.out (by decide))); have n1_ := Aside0.mk (Kd.R_after (ok := (fun _ => True)) (by (with_reducible repeat (first | apply Kd.R_alloc | apply Kd.R_drewN | apply Kd.R_drew)); exact HO172.out) hg hat); have n2_ := Aside0.mk (hb); have n3_ := Aside0.mk (ho); clear BK142; clear HO172; clear HB; clear HO_3; have BK142 := n0_; have HO172 := n1_; have HB := n2_; have HO175 := n3_; clear n0_ n1_ n2_ n3_; clear ho hb hg hat))
                   go_roundg kj26
                   case measure => have := HK1.out; have := HK2.out; have := HJ26.out; omega
                   case rel => exact ⟨(y173), (wrap64 (x34_2 + 1)), (by first | rfl | (simp; done) | (simp [*]; done)), H', ⟨by have := HK1.out; have := HK2.out; have := HJ26.out; omega⟩, ⟨by (with_reducible repeat (first | apply Kd.R_alloc | apply Kd.R_drewN | apply Kd.R_drew)); exact Kd.R_mono HO175.out (fun _ hk => trivial)⟩, ⟨by (with_reducible repeat (first | refine blk_drewN ?_ _ | refine blk_drew ?_ | refine blk_alloc ?_ _)); exact BK142.out⟩, ⟨by repeat (first | (with_reducible first | exact HB.out | apply below_alloc | apply pw_below_drewN | apply below_drew1 | refine below_set ?_ GE142.out) | exact HB.out)⟩⟩
                  ·rw [if_neg c37] at H
                   exact absurd H (by simp)
                 ·rw [if_neg c36] at H
                  have c36b0 : ((bt ((rd_T42 l0 x13_1).f2) x34_2) == 10) = false := beq_eq_false_iff_ne.mpr c36
                  have c36b1 : ((bt ((rd_T42 l0 x13_1).f2) x34_2) != 10) = true := bne_iff_ne.mpr c36
                  by_cases c42 : x3_2.length < 140737488355328
                  ·rw [if_pos c42] at H
                   have LMc42 := Aside0.mk c42
                   clear c42
                   obtain ⟨y176, hy176⟩ : ∃ y_ : List Int, y_ = (x3_2 ++ [(bt ((rd_T42 l0 x13_1).f2) x34_2)]) := ⟨_, rfl⟩
                   replace H : (edits_Print.l1 kj26 y176 l0 (l0.length : Int) x13_1 (((rd_T42 l0 x13_1).f2).size : Int) (wrap64 (x34_2 + 1)) ((rd_T42 l0 x13_1).f0) ((rd_T42 l0 x13_1).f1) ((rd_T42 l0 x13_1).f2)) = some r := by first | (rw [hy176]; with_reducible exact H) | (have H2_ := (Option.bind_some _ _).symm.trans H; rw [hy176]; with_reducible exact H2_) | (have H2_ := (Option.bind_some _ _).symm.trans H; with_reducible exact H2_) | with_reducible exact H | (rw [hy176]; exact H) | exact H
                   have Ny176 := Aside0.mk hy176
                   clear hy176
                   have H' := Aside0.mk H
                   clear H
                   go_wp2_with (first | ((with_reducible refine gate_builtin (b := .append) (xs := #[.tmp 42, .tmp 44]) rfl ?_); at_builtin; refine Kd.R_append (Kd.int .u8) (w0 := w) w.heap.size rfl (.tmp 42) (.tmp 44) 59 5 (.int .u8 0) 1 rfl Tryd.underlying59 info5 rfl (by decide) (by omega) u3 x3_2 (bt ((rd_T42 l0 x13_1).f2) x34_2) [.int .u8 (bt ((rd_T42 l0 x13_1).f2) x34_2)] (fun _ => True) (fun _ => False) rfl rfl ?aP (fun _ hk => hk.elim) ?aF ?aO ?aB ?aS ?aL ?_; (case aP => exact rfl); (case aB => exact (by repeat (first | (with_reducible first | exact HB.out | apply below_alloc | apply pw_below_drewN | apply below_drew1 | refine below_set ?_ GE142.out) | exact HB.out))); (case aF => exact (fun _ _ => trivial)); (case aO => exact (by (with_reducible repeat (first | apply Kd.R_alloc | apply Kd.R_drewN | apply Kd.R_drew)); exact HO_3.out)); (case aS => exact (below_size (by repeat (first | (with_reducible first | exact HB.out | apply below_alloc | apply pw_below_drewN | apply below_drew1 | refine below_set ?_ GE142.out) | exact HB.out)))); (case aL => have := LMc42.out; omega); intro v177 w43 ho hb hg hat; rw [← Ny176.out] at ho; have n0_ := Aside0.mk (blk_grown (g := gb142) (o := .cells #[.int .i64 ((rd_T42 l0 x13_1).f0), .int .i64 ((rd_T42 l0 x13_1).f1), .string ((rd_T42 l0 x13_1).f2)] 42 (0, 0)) (by (with_reducible repeat (first | refine blk_drewN ?_ _ | refine blk_drew ?_ | refine blk_alloc ?_ _)); exact BK142.out) hg (Kd.R_ne HO_3.out BK142.out (by decide))); have n1_ := Aside0.mk (hb); have n2_ := Aside0.mk (ho); clear BK142; clear HB; clear HO_3; have BK142 := n0_; have HB := n1_; have HO178 := n2_; clear n0_ n1_ n2_; clear ho hb hg hat))
                   go_roundg kj26
                   case measure => have := HK1.out; have := HK2.out; have := HJ26.out; omega
                   case rel => exact ⟨(y176), (wrap64 (x34_2 + 1)), (by first | rfl | (simp; done) | (simp [*]; done)), H', ⟨by have := HK1.out; have := HK2.out; have := HJ26.out; omega⟩, ⟨by (with_reducible repeat (first | apply Kd.R_alloc | apply Kd.R_drewN | apply Kd.R_drew)); exact HO178.out⟩, ⟨by (with_reducible repeat (first | refine blk_drewN ?_ _ | refine blk_drew ?_ | refine blk_alloc ?_ _)); exact BK142.out⟩, ⟨by repeat (first | (with_reducible first | exact HB.out | apply below_alloc | apply pw_below_drewN | apply below_drew1 | refine below_set ?_ GE142.out) | exact HB.out)⟩⟩
                  ·rw [if_neg c42] at H
                   exact absurd H (by simp)
             ·rw [if_neg c25] at H
              exact absurd H (by simp)
            ·rw [if_neg c24] at H
             exact absurd H (by simp)
           ·rw [if_neg c23] at H
            have c23b0 : decide (x34_2 < (((rd_T42 l0 x13_1).f2).size : Int)) = false := decide_eq_false c23
            clear c23
            obtain ⟨y158, hy158⟩ : ∃ y_ : List Int, y_ = (([34, 10] : List Int)) := ⟨_, rfl⟩
            replace H : (if x3_2.length + y158.length < 140737488355328 then (edits_Print.l0 k2 (x3_2 ++ y158) l0 (l0.length : Int) (wrap64 (x13_1 + 1))) else (none)) = some r := by first | (rw [hy158]; with_reducible exact H) | (have H2_ := (Option.bind_some _ _).symm.trans H; rw [hy158]; with_reducible exact H2_) | (have H2_ := (Option.bind_some _ _).symm.trans H; with_reducible exact H2_) | with_reducible exact H | (rw [hy158]; exact H) | exact H
            have Ny158 := Aside0.mk hy158
            clear hy158
            by_cases c44 : x3_2.length + y158.length < 140737488355328
            ·rw [if_pos c44] at H
             have LMc44 := Aside0.mk c44
             clear c44
             obtain ⟨y161, hy161⟩ : ∃ y_ : List Int, y_ = (x3_2 ++ y158) := ⟨_, rfl⟩
             replace H : (edits_Print.l0 k2 y161 l0 (l0.length : Int) (wrap64 (x13_1 + 1))) = some r := by first | (rw [hy161]; with_reducible exact H) | (have H2_ := (Option.bind_some _ _).symm.trans H; rw [hy161]; with_reducible exact H2_) | (have H2_ := (Option.bind_some _ _).symm.trans H; with_reducible exact H2_) | with_reducible exact H | (rw [hy161]; exact H) | exact H
             have Ny161 := Aside0.mk hy161
             clear hy161
             have H' := Aside0.mk H
             clear H
             go_wp2_with (first | ((with_reducible refine gate_dst (N := 60) rfl ?_); refine Kd.R_lit (Kd.int .u8) _ 5 ?hg (N := 60) ?hd (xs := ([34, 10] : List Int)) (inner := [.int .u8 34, .int .u8 10]) (ok := fun _ => True) (okp := fun _ => True) ?hr ?hp (fun _ hk => hk) trivial (Below.refl _ _) (Nat.le_refl _) (by simp) ?_; (case hd => rfl); (case hg => rfl); (case hr => first | (go_simp; done) | (go_simp; rfl)); (case hp => exact (Reps.one (show Kd.M (Kd.int .u8) _ _ _ 34 [.int .u8 34] from rfl) (Reps.one (show Kd.M (Kd.int .u8) _ _ _ 10 [.int .u8 10] from rfl) (Reps.none _ _)))); intro v159 w45 ho46 hb hg_ hnew_; clear hg_ hnew_; (first | rw [← Ny158.out] at ho46 | (simp only [Int.reduceToNat] at ho46; rw [← Ny158.out] at ho46)); have n0_ := Aside0.mk (Kd.R_elder' (by (with_reducible repeat (first | apply Kd.R_alloc | apply Kd.R_drewN | apply Kd.R_drew)); exact HO_3.out) (Kd.R_base ho46) hb); have n1_ := Aside0.mk (Kd.R_lower (Kd.R_new' ho46 (Kd.R_lt (by (with_reducible repeat (first | apply Kd.R_alloc | apply Kd.R_drewN | apply Kd.R_drew)); exact HO_3.out))) (below_size (by repeat (first | (with_reducible first | exact HB.out | apply below_alloc | apply pw_below_drewN | apply below_drew1 | refine below_set ?_ GE142.out) | exact HB.out)))); have n2_ := Aside0.mk (blk_below (g := gb142) (o := .cells #[.int .i64 ((rd_T42 l0 x13_1).f0), .int .i64 ((rd_T42 l0 x13_1).f1), .string ((rd_T42 l0 x13_1).f2)] 42 (0, 0)) (by (with_reducible repeat (first | refine blk_drewN ?_ _ | refine blk_drew ?_ | refine blk_alloc ?_ _)); exact BK142.out) hb); have n3_ := Aside0.mk (below_step (by repeat (first | (with_reducible first | exact HB.out | apply below_alloc | apply pw_below_drewN | apply below_drew1 | refine below_set ?_ GE142.out) | exact HB.out)) hb); clear HO_3; clear BK142; clear HB; have HO_3 := n0_; have HO160 := n1_; have BK142 := n2_; have HB := n3_; clear n0_ n1_ n2_ n3_; clear hb ho46; obtain ⟨Ao48, co48, eo48⟩ := Kd.R_slice HO160.out; subst eo48) | ((with_reducible refine gate_builtin (b := .append) (xs := #[.tmp 59, .tmp 60]) rfl ?_); at_builtin; refine Kd.R_append_rows (Kd.int .u8) (w0 := w) w.heap.size rfl (.tmp 59) (.tmp 60) 59 5 (.int .u8 0) 1 rfl Tryd.underlying59 info5 rfl (by decide) (by omega) u3 x3_2 y158 _ _ _ (fun k_ => some k_ ≠ (.slice Ao48 y158.length co48 : Value).ownBlock) (fun _ => False) rfl rfl ?aO ?aR (fun _ _ h => h) (fun _ h => h.elim) ?aF ?aB ?aS ?aL ?_; (case aR => repeat (first | exact (Kd.R_reads' HO160.out).2.2 | (with_reducible refine Kd.C_alloc ?_ _) | (with_reducible refine Kd.C_drewN ?_ _) | (with_reducible refine Kd.C_drew ?_))); (case aB => exact (by repeat (first | (with_reducible first | exact HB.out | apply below_alloc | apply pw_below_drewN | apply below_drew1 | refine below_set ?_ GE142.out) | exact HB.out))); (case aF => exact (fun k_ hk => Kd.fresh' (Kd.R_lt (by (with_reducible repeat (first | apply Kd.R_alloc | apply Kd.R_drewN | apply Kd.R_drew)); exact HO160.out)) k_ hk)); (case aO => exact (by (with_reducible repeat (first | apply Kd.R_alloc | apply Kd.R_drewN | apply Kd.R_drew)); exact Kd.R_mono HO_3.out (fun _ hk => hk.2))); (case aS => exact (below_size (by repeat (first | (with_reducible first | exact HB.out | apply below_alloc | apply pw_below_drewN | apply below_drew1 | refine below_set ?_ GE142.out) | exact HB.out)))); (case aL => have := LMc44.out; omega); intro v162 w47 ho hb hg hat; rw [← Ny161.out] at ho; have n0_ := Aside0.mk (blk_grown (g := gb142) (o := .cells #[.int .i64 ((rd_T42 l0 x13_1).f0), .int .i64 ((rd_T42 l0 x13_1).f1), .string ((rd_T42 l0 x13_1).f2)] 42 (0, 0)) (by (with_reducible repeat (first | refine blk_drewN ?_ _ | refine blk_drew ?_ | refine blk_alloc ?_ _)); exact BK142.out) hg (Kd.R_ne HO_3.out BK142.out (by decide))); have n1_ := Aside0.mk (Kd.R_after (ok := (fun _ => True)) (by (with_reducible repeat (first | apply Kd.R_alloc | apply Kd.R_drewN | apply Kd.R_drew)); exact HO160.out) hg hat); have n2_ := Aside0.mk (hb); have n3_ := Aside0.mk (ho); clear BK142; clear HO160; clear HB; clear HO_3; have BK142 := n0_; have HO160 := n1_; have HB := n2_; have HO163 := n3_; clear n0_ n1_ n2_ n3_; clear ho hb hg hat))
             go_roundg k2
             case measure => have := HK1.out; have := HK2.out; omega
             case rel => exact ⟨(y161), (wrap64 (x13_1 + 1)), (by first | rfl | (simp; done) | (simp [*]; done)), H', ⟨by have := HK1.out; have := HK2.out; omega⟩, ⟨by (with_reducible repeat (first | apply Kd.R_alloc | apply Kd.R_drewN | apply Kd.R_drew)); exact Kd.R_mono HO163.out (fun _ hk => trivial)⟩, ⟨by repeat (first | (with_reducible first | exact HB.out | apply below_alloc | apply pw_below_drewN | apply below_drew1 | refine below_set ?_ GE142.out) | exact HB.out)⟩⟩
            ·rw [if_neg c44] at H
             exact absurd H (by simp)
        ·rw [if_neg c9] at H
         exact absurd H (by simp)
       ·rw [if_neg c7] at H
        exact absurd H (by simp)
      ·rw [if_neg c5] at H
       exact absurd H (by simp)
     ·rw [if_neg c4] at H
      exact absurd H (by simp)
    ·rw [if_neg c3] at H
     have c3b0 : decide (x13_1 < (l0.length : Int)) = false := decide_eq_false c3
     clear c3
     obtain rfl := Option.some.inj H
     have hcv49 := own_string (P := Tryd.prog) Tryd.underlying59 Tryd.underlying5 Tryd.underlying9 (Kd.own_of_R HO_3.out)
     go_wp2
     go_ret
     exact ⟨by first | rfl | (simp [errW_none, errW_some] <;> rfl) | (simp [*, errW_none, errW_some] <;> rfl), by repeat (first | (with_reducible first | exact HB.out | apply below_alloc | apply pw_below_drewN | apply below_drew1) | exact HB.out)⟩
end Go.Proofs.YtaihajmdngoeiaaDoor.F
namespace Go.Proofs.YtaihajmdngoeiaaDoor.F
open Go.RowKit Go.Proofs.YtaihajmdngoeiaaDoorW.PrintWords Go.Proofs.YtaihajmdngoeiaaDoorW.PrintLast Go.Proofs.YtaihajmdngoeiaaDoorW.PrintMore
attribute [local go_sem] max2_int min2_int max_two min_two max_three min_three max_four min_four   -- for this text's walks alone
set_option linter.unusedVariables false
set_option linter.unusedSimpArgs false
/-! ### monikerref1_quoted: function 29 -/
mutual
def monikerref1_quoted.l0 : Nat → ByteArray → List Int → Int → Option (ByteArray)
 | 0, _, _, _ => none
 | k + 1, x0, x3, x4 => if x4 < (x0.size : Int) then (if 0 ≤ x4 then (if (bt x0 x4) = 34 then (monikerref1_quoted.j1 k x0 x3 x4 (bt x0 x4) ((bt x0 x4) == 34)) else (monikerref1_quoted.j1 k x0 x3 x4 (bt x0 x4) ((bt x0 x4) == 92))) else (none)) else (if x3.length < 140737488355328 then (some (strOfNums (x3 ++ [34]))) else (none))
def monikerref1_quoted.j1 : Nat → ByteArray → List Int → Int → Int → Bool → Option (ByteArray)
 | 0, _, _, _, _, _ => none
 | k + 1, x0, x3, x4, x14, x21 => if x21 = true then (if 0 ≤ x4 then (if x4 < (x0.size : Int) then ((some (([92, bt x0 x4] : List Int) : List Int)).bind fun y148 => (if x3.length + y148.length < 140737488355328 then (monikerref1_quoted.l0 k x0 (x3 ++ y148) (wrap64 (x4 + 1))) else (none))) else (none)) else (none)) else (if x14 = 10 then ((some (([92, 110] : List Int) : List Int)).bind fun y154 => (if x3.length + y154.length < 140737488355328 then (monikerref1_quoted.l0 k x0 (x3 ++ y154) (wrap64 (x4 + 1))) else (none))) else (if 0 ≤ x4 then (if x4 < (x0.size : Int) then (if x3.length < 140737488355328 then (monikerref1_quoted.l0 k x0 (x3 ++ [bt x0 x4]) (wrap64 (x4 + 1))) else (none)) else (none)) else (none)))
end
def monikerref1_quoted.f (k : Nat) (a0 : ByteArray) : Option (ByteArray) := monikerref1_quoted.l0 k a0 (([34] : List Int)) 0
set_option maxHeartbeats 8000000 in
set_option maxRecDepth 100000 in
theorem monikerref1_quoted.calls (k : Nat) (a0 : ByteArray) (r : ByteArray) (w : World) (h : monikerref1_quoted.f k a0 = some r) :
  Calls Tryd.prog 29 #[.string a0] w fun e w' => e = .returned (.string r) ∧ Below w.heap.size w w' := by
 have HB := Aside0.mk (Below.refl w.heap.size w)
 have H : (monikerref1_quoted.l0 k a0 (([34] : List Int)) 0) = some r := h
 clear h
 obtain ⟨y142, hy142⟩ : ∃ y_ : List Int, y_ = (([34] : List Int)) := ⟨_, rfl⟩
 replace H : (monikerref1_quoted.l0 k a0 y142 0) = some r := by first | (rw [hy142]; with_reducible exact H) | (have H2_ := (Option.bind_some _ _).symm.trans H; rw [hy142]; with_reducible exact H2_) | (have H2_ := (Option.bind_some _ _).symm.trans H; with_reducible exact H2_) | with_reducible exact H | (rw [hy142]; exact H) | exact H
 have Ny142 := Aside0.mk hy142
 clear hy142
 have H' := Aside0.mk H
 clear H
 go_enter Tryd.func29, Tryd.ntmps29
 go_wp2_with (first | ((with_reducible refine gate_dst (N := 5) rfl ?_); refine Kd.R_lit (Kd.int .u8) _ 5 ?hg (N := 5) ?hd (xs := ([34] : List Int)) (inner := [.int .u8 34]) (ok := fun _ => True) (okp := fun _ => True) ?hr ?hp (fun _ hk => hk) trivial (Below.refl _ _) (Nat.le_refl _) (by simp) ?_; (case hd => rfl); (case hg => rfl); (case hr => first | (go_simp; done) | (go_simp; rfl)); (case hp => exact (Reps.one (show Kd.M (Kd.int .u8) _ _ _ 34 [.int .u8 34] from rfl) (Reps.none _ _))); intro v143 w2 ho3 hb hg_ hnew_; clear hg_ hnew_; (first | rw [← Ny142.out] at ho3 | (simp only [Int.reduceToNat] at ho3; rw [← Ny142.out] at ho3)); have n0_ := Aside0.mk (Kd.R_lower ho3 (below_size (by repeat (first | (with_reducible first | exact HB.out | apply below_alloc | apply pw_below_drewN | apply below_drew1) | exact HB.out)))); have n1_ := Aside0.mk (below_step (by repeat (first | (with_reducible first | exact HB.out | apply below_alloc | apply pw_below_drewN | apply below_drew1) | exact HB.out)) hb); clear HB; have HO144 := n0_; have HB := n1_; clear n0_ n1_; clear hb ho3))
 go_loopg [3, 4] k (fun kq v3 v4 w' => ∃ (x3_1 : List Int) (x4_1 : Int), v4 = .int .i64 x4_1 ∧ Aside0 (monikerref1_quoted.l0 kq a0 x3_1 x4_1 = some r) ∧ Aside0 (kq ≤ k) ∧ Aside0 (Kd.R (Kd.int .u8) 5 w' w.heap.size (fun _ => True) v3 x3_1) ∧ Aside0 (Below w.heap.size w w'))
 case atStart => exact ⟨(y142), (0), (by first | rfl | (simp; done) | (simp [*]; done)), H', ⟨Nat.le_refl _⟩, ⟨by (with_reducible repeat (first | apply Kd.R_alloc | apply Kd.R_drewN | apply Kd.R_drew)); exact HO144.out⟩, ⟨by repeat (first | (with_reducible first | exact HB.out | apply below_alloc | apply pw_below_drewN | apply below_drew1) | exact HB.out)⟩⟩
 case round =>
  clear H'
  try clear c2
  try clear p2
  obtain ⟨x3_1, x4_1, rfl, HA, HK1, HO_3, HB⟩ := hrel
  cases gk with
  | zero => exact absurd HA.out (by simp [monikerref1_quoted.l0])
  | succ k1 =>
   have H := HA.out
   clear HA
   simp only [monikerref1_quoted.l0] at H
   by_cases c4 : x4_1 < (a0.size : Int)
   ·rw [if_pos c4] at H
    have c4b0 : decide (x4_1 < (a0.size : Int)) = true := decide_eq_true c4
    clear c4
    by_cases c5 : 0 ≤ x4_1
    ·rw [if_pos c5] at H
     have c5b0 : decide (0 ≤ x4_1) = true := decide_eq_true c5
     clear c5
     have HC7 := Aside0.mk H
     clear H
     have p6 : 0 ≤ (x4_1 : Int) := of_decide_eq_true (by first | (with_reducible assumption) | assumption)
     have q6 : x4_1 < (a0.size : Int) := of_decide_eq_true (by first | (with_reducible assumption) | assumption)
     have hx6 := bt_at a0 x4_1
     replace p6 := eq_true p6
     replace q6 := eq_true q6
     go_upto_if 21 with (fail)
     go_cut [21] (fun v21 wc => ∃ (kq : Nat) (x21_6 : Bool), v21 = .bool x21_6 ∧ Aside0 (monikerref1_quoted.j1 kq a0 x3_1 x4_1 (bt a0 x4_1) x21_6 = some r) ∧ Aside0 (kq ≤ k1) ∧ Aside0 (Kd.R (Kd.int .u8) 5 wc w.heap.size (fun _ => True) u3 x3_1) ∧ Aside0 (Below w.heap.size w wc))
     case first =>
      have H := HC7.out
      clear HC7
      by_cases c8 : (bt a0 x4_1) = 34
      ·rw [if_pos c8] at H
       have c8b0 : ((bt a0 x4_1) == 34) = true := beq_iff_eq.mpr c8
       have c8b1 : ((bt a0 x4_1) != 34) = false := bne_eq_false_iff_eq.mpr c8
       clear c8
       (first | rw [c8b0] | (simp only [i64_w, i32_w]; rw [c8b0]) | skip)
       have H' := Aside0.mk H
       clear H
       go_wp2
       go_meet
       case rel => exact ⟨_, (((bt a0 x4_1) == 34)), (by first | rfl | (simp; done) | (simp [*]; done)), H', ⟨by have := HK1.out; first | omega | exact Nat.le_refl _⟩, ⟨by (with_reducible repeat (first | apply Kd.R_alloc | apply Kd.R_drewN | apply Kd.R_drew)); exact HO_3.out⟩, ⟨by repeat (first | (with_reducible first | exact HB.out | apply below_alloc | apply pw_below_drewN | apply below_drew1) | exact HB.out)⟩⟩
      ·rw [if_neg c8] at H
       have c8b0 : ((bt a0 x4_1) == 34) = false := beq_eq_false_iff_ne.mpr c8
       have c8b1 : ((bt a0 x4_1) != 34) = true := bne_iff_ne.mpr c8
       (first | rw [c8b0] | (simp only [i64_w, i32_w]; rw [c8b0]) | skip)
       have H' := Aside0.mk H
       clear H
       go_wp2
       go_meet
       case rel => exact ⟨_, (((bt a0 x4_1) == 92)), (by first | rfl | (simp; done) | (simp [*]; done)), H', ⟨by have := HK1.out; first | omega | exact Nat.le_refl _⟩, ⟨by (with_reducible repeat (first | apply Kd.R_alloc | apply Kd.R_drewN | apply Kd.R_drew)); exact HO_3.out⟩, ⟨by repeat (first | (with_reducible first | exact HB.out | apply below_alloc | apply pw_below_drewN | apply below_drew1) | exact HB.out)⟩⟩
     case rest =>
      clear HC7
      try clear c2
      try clear p2
      try clear c4
      try clear c4b0
      try clear c5
      try clear c5b0
      try clear p6
      try clear q6
      try clear hx6
      try clear c8
      try clear c8b0
      try clear c8b1
      try clear p2
      try clear p6
      try clear q6
      obtain ⟨kq, x21_6, rfl, HA, HJ6, HO_3, HB⟩ := hcut
      cases kq with
      | zero => exact absurd HA.out (by simp [monikerref1_quoted.j1])
      | succ kj6 =>
       have H := HA.out
       clear HA
       simp only [monikerref1_quoted.j1] at H
       by_cases c9 : x21_6 = true
       ·subst c9
        have H1 : (if 0 ≤ x4_1 then (if x4_1 < (a0.size : Int) then ((some (([92, bt a0 x4_1] : List Int) : List Int)).bind fun y148 => (if x3_1.length + y148.length < 140737488355328 then (monikerref1_quoted.l0 kj6 a0 (x3_1 ++ y148) (wrap64 (x4_1 + 1))) else (none))) else (none)) else (none)) = some r := by rw [if_pos rfl] at H; exact H
        clear H
        have H := H1
        clear H1
        by_cases c10 : 0 ≤ x4_1
        ·rw [if_pos c10] at H
         have c10b0 : decide (0 ≤ x4_1) = true := decide_eq_true c10
         clear c10
         by_cases c11 : x4_1 < (a0.size : Int)
         ·rw [if_pos c11] at H
          have c11b0 : decide (x4_1 < (a0.size : Int)) = true := decide_eq_true c11
          clear c11
          obtain ⟨y148, hy148⟩ : ∃ y_ : List Int, y_ = (([92, bt a0 x4_1] : List Int)) := ⟨_, rfl⟩
          replace H : (if x3_1.length + y148.length < 140737488355328 then (monikerref1_quoted.l0 kj6 a0 (x3_1 ++ y148) (wrap64 (x4_1 + 1))) else (none)) = some r := by first | (rw [hy148]; with_reducible exact H) | (have H2_ := (Option.bind_some _ _).symm.trans H; rw [hy148]; with_reducible exact H2_) | (have H2_ := (Option.bind_some _ _).symm.trans H; with_reducible exact H2_) | with_reducible exact H | (rw [hy148]; exact H) | exact H
          have Ny148 := Aside0.mk hy148
          clear hy148
          by_cases c13 : x3_1.length + y148.length < 140737488355328
          ·rw [if_pos c13] at H
           have LMc13 := Aside0.mk c13
           clear c13
           obtain ⟨y151, hy151⟩ : ∃ y_ : List Int, y_ = (x3_1 ++ y148) := ⟨_, rfl⟩
           replace H : (monikerref1_quoted.l0 kj6 a0 y151 (wrap64 (x4_1 + 1))) = some r := by first | (rw [hy151]; with_reducible exact H) | (have H2_ := (Option.bind_some _ _).symm.trans H; rw [hy151]; with_reducible exact H2_) | (have H2_ := (Option.bind_some _ _).symm.trans H; with_reducible exact H2_) | with_reducible exact H | (rw [hy151]; exact H) | exact H
           have Ny151 := Aside0.mk hy151
           clear hy151
           have H' := Aside0.mk H
           clear H
           have p12 : 0 ≤ (x4_1 : Int) := of_decide_eq_true (by first | (with_reducible assumption) | assumption)
           have q12 : x4_1 < (a0.size : Int) := of_decide_eq_true (by first | (with_reducible assumption) | assumption)
           have hx12 := bt_at a0 x4_1
           replace p12 := eq_true p12
           replace q12 := eq_true q12
           go_wp2_with (first | ((with_reducible refine gate_dst (N := 28) rfl ?_); refine Kd.R_lit (Kd.int .u8) _ 5 ?hg (N := 28) ?hd (xs := ([92, bt a0 x4_1] : List Int)) (inner := [.int .u8 92, .int .u8 (bt a0 x4_1)]) (ok := fun _ => True) (okp := fun _ => True) ?hr ?hp (fun _ hk => hk) trivial (Below.refl _ _) (Nat.le_refl _) (by simp) ?_; (case hd => rfl); (case hg => rfl); (case hr => first | (go_simp; done) | (go_simp; rfl)); (case hp => exact (Reps.one (show Kd.M (Kd.int .u8) _ _ _ 92 [.int .u8 92] from rfl) (Reps.one (show Kd.M (Kd.int .u8) _ _ _ (bt a0 x4_1) [.int .u8 (bt a0 x4_1)] from rfl) (Reps.none _ _)))); intro v149 w14 ho15 hb hg_ hnew_; clear hg_ hnew_; (first | rw [← Ny148.out] at ho15 | (simp only [Int.reduceToNat] at ho15; rw [← Ny148.out] at ho15)); have n0_ := Aside0.mk (Kd.R_elder' (by (with_reducible repeat (first | apply Kd.R_alloc | apply Kd.R_drewN | apply Kd.R_drew)); exact HO_3.out) (Kd.R_base ho15) hb); have n1_ := Aside0.mk (Kd.R_lower (Kd.R_new' ho15 (Kd.R_lt (by (with_reducible repeat (first | apply Kd.R_alloc | apply Kd.R_drewN | apply Kd.R_drew)); exact HO_3.out))) (below_size (by repeat (first | (with_reducible first | exact HB.out | apply below_alloc | apply pw_below_drewN | apply below_drew1) | exact HB.out)))); have n2_ := Aside0.mk (below_step (by repeat (first | (with_reducible first | exact HB.out | apply below_alloc | apply pw_below_drewN | apply below_drew1) | exact HB.out)) hb); clear HO_3; clear HB; have HO_3 := n0_; have HO150 := n1_; have HB := n2_; clear n0_ n1_ n2_; clear hb ho15; obtain ⟨Ao17, co17, eo17⟩ := Kd.R_slice HO150.out; subst eo17) | ((with_reducible refine gate_builtin (b := .append) (xs := #[.tmp 24, .tmp 28]) rfl ?_); at_builtin; refine Kd.R_append_rows (Kd.int .u8) (w0 := w) w.heap.size rfl (.tmp 24) (.tmp 28) 59 5 (.int .u8 0) 1 rfl Tryd.underlying59 info5 rfl (by decide) (by omega) u3 x3_1 y148 _ _ _ (fun k_ => some k_ ≠ (.slice Ao17 y148.length co17 : Value).ownBlock) (fun _ => False) rfl rfl ?aO ?aR (fun _ _ h => h) (fun _ h => h.elim) ?aF ?aB ?aS ?aL ?_; (case aR => repeat (first | exact (Kd.R_reads' HO150.out).2.2 | (with_reducible refine Kd.C_alloc ?_ _) | (with_reducible refine Kd.C_drewN ?_ _) | (with_reducible refine Kd.C_drew ?_))); (case aB => exact (by repeat (first | (with_reducible first | exact HB.out | apply below_alloc | apply pw_below_drewN | apply below_drew1) | exact HB.out))); (case aF => exact (fun k_ hk => Kd.fresh' (Kd.R_lt (by (with_reducible repeat (first | apply Kd.R_alloc | apply Kd.R_drewN | apply Kd.R_drew)); exact HO150.out)) k_ hk)); (case aO => exact (by (with_reducible repeat (first | apply Kd.R_alloc | apply Kd.R_drewN | apply Kd.R_drew)); exact Kd.R_mono HO_3.out (fun _ hk => hk.2))); (case aS => exact (below_size (by repeat (first | (with_reducible first | exact HB.out | apply below_alloc | apply pw_below_drewN | apply below_drew1) | exact HB.out)))); (case aL => have := LMc13.out; omega); intro v152 w16 ho hb hg hat; rw [← Ny151.out] at ho; have n0_ := Aside0.mk (Kd.R_after (ok := (fun _ => True)) (by (with_reducible repeat (first | apply Kd.R_alloc | apply Kd.R_drewN | apply Kd.R_drew)); exact HO150.out) hg hat); have n1_ := Aside0.mk (hb); have n2_ := Aside0.mk (ho); clear HO150; clear HB; clear HO_3; have HO150 := n0_; have HB := n1_; have HO153 := n2_; clear n0_ n1_ n2_; clear ho hb hg hat))
           go_roundg kj6
           case measure => have := HK1.out; have := HJ6.out; omega
           case rel => exact ⟨(y151), (wrap64 (x4_1 + 1)), (by first | rfl | (simp; done) | (simp [*]; done)), H', ⟨by have := HK1.out; have := HJ6.out; omega⟩, ⟨by (with_reducible repeat (first | apply Kd.R_alloc | apply Kd.R_drewN | apply Kd.R_drew)); exact Kd.R_mono HO153.out (fun _ hk => trivial)⟩, ⟨by repeat (first | (with_reducible first | exact HB.out | apply below_alloc | apply pw_below_drewN | apply below_drew1) | exact HB.out)⟩⟩
          ·rw [if_neg c13] at H
           exact absurd H (by simp)
         ·rw [if_neg c11] at H
          exact absurd H (by simp)
        ·rw [if_neg c10] at H
         exact absurd H (by simp)
       ·replace c9 := Bool.eq_false_iff.mpr c9
        subst c9
        have H1 : (if (bt a0 x4_1) = 10 then ((some (([92, 110] : List Int) : List Int)).bind fun y154 => (if x3_1.length + y154.length < 140737488355328 then (monikerref1_quoted.l0 kj6 a0 (x3_1 ++ y154) (wrap64 (x4_1 + 1))) else (none))) else (if 0 ≤ x4_1 then (if x4_1 < (a0.size : Int) then (if x3_1.length < 140737488355328 then (monikerref1_quoted.l0 kj6 a0 (x3_1 ++ [bt a0 x4_1]) (wrap64 (x4_1 + 1))) else (none)) else (none)) else (none))) = some r := by rw [if_neg (show ¬ (false = true) by decide)] at H; exact H
        clear H
        have H := H1
        clear H1
        by_cases c18 : (bt a0 x4_1) = 10
        ·rw [if_pos c18] at H
         have c18b0 : ((bt a0 x4_1) == 10) = true := beq_iff_eq.mpr c18
         have c18b1 : ((bt a0 x4_1) != 10) = false := bne_eq_false_iff_eq.mpr c18
         clear c18
         obtain ⟨y154, hy154⟩ : ∃ y_ : List Int, y_ = (([92, 110] : List Int)) := ⟨_, rfl⟩
         replace H : (if x3_1.length + y154.length < 140737488355328 then (monikerref1_quoted.l0 kj6 a0 (x3_1 ++ y154) (wrap64 (x4_1 + 1))) else (none)) = some r := by first | (rw [hy154]; with_reducible exact H) | (have H2_ := (Option.bind_some _ _).symm.trans H; rw [hy154]; with_reducible exact H2_) | (have H2_ := (Option.bind_some _ _).symm.trans H; with_reducible exact H2_) | with_reducible exact H | (rw [hy154]; exact H) | exact H
         have Ny154 := Aside0.mk hy154
         clear hy154
         by_cases c19 : x3_1.length + y154.length < 140737488355328
         ·rw [if_pos c19] at H
          have LMc19 := Aside0.mk c19
          clear c19
          obtain ⟨y157, hy157⟩ : ∃ y_ : List Int, y_ = (x3_1 ++ y154) := ⟨_, rfl⟩
          replace H : (monikerref1_quoted.l0 kj6 a0 y157 (wrap64 (x4_1 + 1))) = some r := by first | (rw [hy157]; with_reducible exact H) | (have H2_ := (Option.bind_some _ _).symm.trans H; rw [hy157]; with_reducible exact H2_) | (have H2_ := (Option.bind_some _ _).symm.trans H; with_reducible exact H2_) | with_reducible exact H | (rw [hy157]; exact H) | exact H
          have Ny157 := Aside0.mk hy157
          clear hy157
          have H' := Aside0.mk H
          clear H
          go_wp2_with (first | ((with_reducible refine gate_dst (N := 33) rfl ?_); refine Kd.R_lit (Kd.int .u8) _ 5 ?hg (N := 33) ?hd (xs := ([92, 110] : List Int)) (inner := [.int .u8 92, .int .u8 110]) (ok := fun _ => True) (okp := fun _ => True) ?hr ?hp (fun _ hk => hk) trivial (Below.refl _ _) (Nat.le_refl _) (by simp) ?_; (case hd => rfl); (case hg => rfl); (case hr => first | (go_simp; done) | (go_simp; rfl)); (case hp => exact (Reps.one (show Kd.M (Kd.int .u8) _ _ _ 92 [.int .u8 92] from rfl) (Reps.one (show Kd.M (Kd.int .u8) _ _ _ 110 [.int .u8 110] from rfl) (Reps.none _ _)))); intro v155 w20 ho21 hb hg_ hnew_; clear hg_ hnew_; (first | rw [← Ny154.out] at ho21 | (simp only [Int.reduceToNat] at ho21; rw [← Ny154.out] at ho21)); have n0_ := Aside0.mk (Kd.R_elder' (by (with_reducible repeat (first | apply Kd.R_alloc | apply Kd.R_drewN | apply Kd.R_drew)); exact HO_3.out) (Kd.R_base ho21) hb); have n1_ := Aside0.mk (Kd.R_lower (Kd.R_new' ho21 (Kd.R_lt (by (with_reducible repeat (first | apply Kd.R_alloc | apply Kd.R_drewN | apply Kd.R_drew)); exact HO_3.out))) (below_size (by repeat (first | (with_reducible first | exact HB.out | apply below_alloc | apply pw_below_drewN | apply below_drew1) | exact HB.out)))); have n2_ := Aside0.mk (below_step (by repeat (first | (with_reducible first | exact HB.out | apply below_alloc | apply pw_below_drewN | apply below_drew1) | exact HB.out)) hb); clear HO_3; clear HB; have HO_3 := n0_; have HO156 := n1_; have HB := n2_; clear n0_ n1_ n2_; clear hb ho21; obtain ⟨Ao23, co23, eo23⟩ := Kd.R_slice HO156.out; subst eo23) | ((with_reducible refine gate_builtin (b := .append) (xs := #[.tmp 32, .tmp 33]) rfl ?_); at_builtin; refine Kd.R_append_rows (Kd.int .u8) (w0 := w) w.heap.size rfl (.tmp 32) (.tmp 33) 59 5 (.int .u8 0) 1 rfl Tryd.underlying59 info5 rfl (by decide) (by omega) u3 x3_1 y154 _ _ _ (fun k_ => some k_ ≠ (.slice Ao23 y154.length co23 : Value).ownBlock) (fun _ => False) rfl rfl ?aO ?aR (fun _ _ h => h) (fun _ h => h.elim) ?aF ?aB ?aS ?aL ?_; (case aR => repeat (first | exact (Kd.R_reads' HO156.out).2.2 | (with_reducible refine Kd.C_alloc ?_ _) | (with_reducible refine Kd.C_drewN ?_ _) | (with_reducible refine Kd.C_drew ?_))); (case aB => exact (by repeat (first | (with_reducible first | exact HB.out | apply below_alloc | apply pw_below_drewN | apply below_drew1) | exact HB.out))); (case aF => exact (fun k_ hk => Kd.fresh' (Kd.R_lt (by (with_reducible repeat (first | apply Kd.R_alloc | apply Kd.R_drewN | apply Kd.R_drew)); exact HO156.out)) k_ hk)); (case aO => exact (by (with_reducible repeat (first | apply Kd.R_alloc | apply Kd.R_drewN | apply Kd.R_drew)); exact Kd.R_mono HO_3.out (fun _ hk => hk.2))); (case aS => exact (below_size (by repeat (first | (with_reducible first | exact HB.out | apply below_alloc | apply pw_below_drewN | apply below_drew1) | exact HB.out)))); (case aL => have := LMc19.out; omega); intro v158 w22 ho hb hg hat; rw [← Ny157.out] at ho; have n0_ := Aside0.mk (Kd.R_after (ok := (fun _ => True)) (by (with_reducible repeat (first | apply Kd.R_alloc | apply Kd.R_drewN | apply Kd.R_drew)); exact HO156.out) hg hat); have n1_ := Aside0.mk (hb); have n2_ := Aside0.mk (ho); clear HO156; clear HB; clear HO_3; have HO156 := n0_; have HB := n1_; have HO159 := n2_; clear n0_ n1_ n2_; clear ho hb hg hat))
          go_roundg kj6
          case measure => have := HK1.out; have := HJ6.out; omega
          case rel => exact ⟨(y157), (wrap64 (x4_1 + 1)), (by first | rfl | (simp; done) | (simp [*]; done)), H', ⟨by have := HK1.out; have := HJ6.out; omega⟩, ⟨by (with_reducible repeat (first | apply Kd.R_alloc | apply Kd.R_drewN | apply Kd.R_drew)); exact Kd.R_mono HO159.out (fun _ hk => trivial)⟩, ⟨by repeat (first | (with_reducible first | exact HB.out | apply below_alloc | apply pw_below_drewN | apply below_drew1) | exact HB.out)⟩⟩
         ·rw [if_neg c19] at H
          exact absurd H (by simp)
        ·rw [if_neg c18] at H
         have c18b0 : ((bt a0 x4_1) == 10) = false := beq_eq_false_iff_ne.mpr c18
         have c18b1 : ((bt a0 x4_1) != 10) = true := bne_iff_ne.mpr c18
         by_cases c24 : 0 ≤ x4_1
         ·rw [if_pos c24] at H
          have c24b0 : decide (0 ≤ x4_1) = true := decide_eq_true c24
          clear c24
          by_cases c25 : x4_1 < (a0.size : Int)
          ·rw [if_pos c25] at H
           have c25b0 : decide (x4_1 < (a0.size : Int)) = true := decide_eq_true c25
           clear c25
           by_cases c27 : x3_1.length < 140737488355328
           ·rw [if_pos c27] at H
            have LMc27 := Aside0.mk c27
            clear c27
            obtain ⟨y160, hy160⟩ : ∃ y_ : List Int, y_ = (x3_1 ++ [bt a0 x4_1]) := ⟨_, rfl⟩
            replace H : (monikerref1_quoted.l0 kj6 a0 y160 (wrap64 (x4_1 + 1))) = some r := by first | (rw [hy160]; with_reducible exact H) | (have H2_ := (Option.bind_some _ _).symm.trans H; rw [hy160]; with_reducible exact H2_) | (have H2_ := (Option.bind_some _ _).symm.trans H; with_reducible exact H2_) | with_reducible exact H | (rw [hy160]; exact H) | exact H
            have Ny160 := Aside0.mk hy160
            clear hy160
            have H' := Aside0.mk H
            clear H
            have p26 : 0 ≤ (x4_1 : Int) := of_decide_eq_true (by first | (with_reducible assumption) | assumption)
            have q26 : x4_1 < (a0.size : Int) := of_decide_eq_true (by first | (with_reducible assumption) | assumption)
            have hx26 := bt_at a0 x4_1
            replace p26 := eq_true p26
            replace q26 := eq_true q26
            go_wp2_with (first | ((with_reducible refine gate_builtin (b := .append) (xs := #[.tmp 15, .tmp 19]) rfl ?_); at_builtin; refine Kd.R_append (Kd.int .u8) (w0 := w) w.heap.size rfl (.tmp 15) (.tmp 19) 59 5 (.int .u8 0) 1 rfl Tryd.underlying59 info5 rfl (by decide) (by omega) u3 x3_1 (bt a0 x4_1) [.int .u8 (bt a0 x4_1)] (fun _ => True) (fun _ => False) rfl rfl ?aP (fun _ hk => hk.elim) ?aF ?aO ?aB ?aS ?aL ?_; (case aP => exact rfl); (case aB => exact (by repeat (first | (with_reducible first | exact HB.out | apply below_alloc | apply pw_below_drewN | apply below_drew1) | exact HB.out))); (case aF => exact (fun _ _ => trivial)); (case aO => exact (by (with_reducible repeat (first | apply Kd.R_alloc | apply Kd.R_drewN | apply Kd.R_drew)); exact HO_3.out)); (case aS => exact (below_size (by repeat (first | (with_reducible first | exact HB.out | apply below_alloc | apply pw_below_drewN | apply below_drew1) | exact HB.out)))); (case aL => have := LMc27.out; omega); intro v161 w28 ho hb hg hat; rw [← Ny160.out] at ho; have n0_ := Aside0.mk (hb); have n1_ := Aside0.mk (ho); clear HB; clear HO_3; have HB := n0_; have HO162 := n1_; clear n0_ n1_; clear ho hb hg hat))
            go_roundg kj6
            case measure => have := HK1.out; have := HJ6.out; omega
            case rel => exact ⟨(y160), (wrap64 (x4_1 + 1)), (by first | rfl | (simp; done) | (simp [*]; done)), H', ⟨by have := HK1.out; have := HJ6.out; omega⟩, ⟨by (with_reducible repeat (first | apply Kd.R_alloc | apply Kd.R_drewN | apply Kd.R_drew)); exact HO162.out⟩, ⟨by repeat (first | (with_reducible first | exact HB.out | apply below_alloc | apply pw_below_drewN | apply below_drew1) | exact HB.out)⟩⟩
           ·rw [if_neg c27] at H
            exact absurd H (by simp)
          ·rw [if_neg c25] at H
           exact absurd H (by simp)
         ·rw [if_neg c24] at H
          exact absurd H (by simp)
    ·rw [if_neg c5] at H
     exact absurd H (by simp)
   ·rw [if_neg c4] at H
    have c4b0 : decide (x4_1 < (a0.size : Int)) = false := decide_eq_false c4
    clear c4
    by_cases c29 : x3_1.length < 140737488355328
    ·rw [if_pos c29] at H
     have LMc29 := Aside0.mk c29
     clear c29
     obtain ⟨y145, hy145⟩ : ∃ y_ : List Int, y_ = (x3_1 ++ [34]) := ⟨_, rfl⟩
     replace H : (some (strOfNums y145)) = some r := by first | (rw [hy145]; with_reducible exact H) | (have H2_ := (Option.bind_some _ _).symm.trans H; rw [hy145]; with_reducible exact H2_) | (have H2_ := (Option.bind_some _ _).symm.trans H; with_reducible exact H2_) | with_reducible exact H | (rw [hy145]; exact H) | exact H
     have Ny145 := Aside0.mk hy145
     clear hy145
     obtain rfl := Option.some.inj H
     go_wp2_with (first | ((with_reducible refine gate_builtin (b := .append) (xs := #[.tmp 35, .tmp 36]) rfl ?_); at_builtin; refine Kd.R_append (Kd.int .u8) (w0 := w) w.heap.size rfl (.tmp 35) (.tmp 36) 59 5 (.int .u8 0) 1 rfl Tryd.underlying59 info5 rfl (by decide) (by omega) u3 x3_1 34 [.int .u8 34] (fun _ => True) (fun _ => False) rfl rfl ?aP (fun _ hk => hk.elim) ?aF ?aO ?aB ?aS ?aL ?_; (case aP => exact rfl); (case aB => exact (by repeat (first | (with_reducible first | exact HB.out | apply below_alloc | apply pw_below_drewN | apply below_drew1) | exact HB.out))); (case aF => exact (fun _ _ => trivial)); (case aO => exact (by (with_reducible repeat (first | apply Kd.R_alloc | apply Kd.R_drewN | apply Kd.R_drew)); exact HO_3.out)); (case aS => exact (below_size (by repeat (first | (with_reducible first | exact HB.out | apply below_alloc | apply pw_below_drewN | apply below_drew1) | exact HB.out)))); (case aL => have := LMc29.out; omega); intro v146 w30 ho hb hg hat; rw [← Ny145.out] at ho; have n0_ := Aside0.mk (hb); have n1_ := Aside0.mk (ho); clear HB; clear HO_3; have HB := n0_; have HO147 := n1_; clear n0_ n1_; clear ho hb hg hat; have hcv31 := own_string (P := Tryd.prog) Tryd.underlying59 Tryd.underlying5 Tryd.underlying9 (Kd.own_of_R HO147.out)))
     go_ret
     exact ⟨by first | rfl | (simp [errW_none, errW_some] <;> rfl) | (simp [*, errW_none, errW_some] <;> rfl), by repeat (first | (with_reducible first | exact HB.out | apply below_alloc | apply pw_below_drewN | apply below_drew1) | exact HB.out)⟩
    ·rw [if_neg c29] at H
     exact absurd H (by simp)
end Go.Proofs.YtaihajmdngoeiaaDoor.F
