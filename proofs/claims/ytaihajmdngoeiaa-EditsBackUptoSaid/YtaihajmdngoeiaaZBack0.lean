/- Texts of the proof of one law (Back), part 0: functions printed as Lean functions with their walks, and what is proved of them. Conditions: those of each theorem. -/
import Derived.Lib.ItoaLen
import Derived.Test.YtaihajmdngoeiaaWMore
import Derived.Test.YtaihajmdngoeiaaProg
import Derived.Below
import Derived.Deep.Draws
import Derived.Deep.AppendLies
import Derived.Maps.AppendAt
import Derived.OwnWalk
import Derived.Laws.BytesArg
import Derived.Laws.MakeOwn
import Derived.Laws.OwnMore
import Derived.Deep.OwnRows
import Derived.Tactics
import Derived.Lib.ConvBytes
import Derived.Laws.Slices
import Derived.WalkKit
import Derived.KernelRfl
import Derived.RowKit3
import Derived.Deep.LoopGhost
import Derived.Deep.QuietTactic
import Derived.BigQuiet
import Derived.WideLaws
import Derived.Deep.DeepCutAuto
import Derived.Deep.CutBlock
import Derived.Deep.RegionHeld3
import Derived.Laws.Rows
import Derived.Lib.AppendStr
import Derived.ArgAppend
import Derived.Laws.IdiomCopy
import Derived.OrdersHeld
import Derived.Laws.BitsLemmas
import Derived.WalkMore
import Derived.RowKit
import Derived.Test.YtaihajmdngoeiaaWWords
import Derived.Test.YtaihajmdngoeiaaWLast
import Derived.Test.YtaihajmdngoeiaaWTab
import Derived.Test.YtaihajmdngoeiaaWFour
import Derived.Test.YtaihajmdngoeiaaWQPut
import Derived.Test.YtaihajmdngoeiaaWApart
import Derived.Test.YtaihajmdngoeiaaWArr
import Derived.Test.YtaihajmdngoeiaaWZeros
import Derived.Test.YtaihajmdngoeiaaWFoot
import Derived.Test.YtaihajmdngoeiaaWKept
import Derived.Test.YtaihajmdngoeiaaWShare
import Derived.Test.YtaihajmdngoeiaaWN
import Derived.Test.YtaihajmdngoeiaaWFootNe
import Derived.Test.YtaihajmdngoeiaaWAt
import Derived.Test.YtaihajmdngoeiaaWEqStruct
import Derived.Test.YtaihajmdngoeiaaWRepsOne
import Derived.Test.YtaihajmdngoeiaaWInv
import Derived.Test.YtaihajmdngoeiaaWInvWords
import Derived.Test.YtaihajmdngoeiaaWGuard
import Derived.Test.YtaihajmdngoeiaaWNEv
import Derived.BigRegion
import Derived.Great.Walk
namespace Go.Proofs.Ytaihajmdngoeiaa.Q
set_option linter.unusedVariables false
set_option linter.unusedSimpArgs false

/-- A byte of a text behind edits: an old one, by its place, or a new one. -/
inductive By where
  | old (k : Int)
  | new (c : UInt8)
  deriving DecidableEq
abbrev Cl := Bool × By
/-- A row of bytes, each told whether an edit lies just ahead of it; and whether one lies behind the last. -/
abbrev Rw := List Cl × Bool
inductive At where
  | by (b : By)
  | mark
/-- Marks are taken up by the byte behind. -/
def cells : Bool → List At → Rw
  | f, [] => ([], f)
  | _, .mark :: r => cells true r
  | f, .by b :: r => ((f, b) :: (cells false r).1, (cells false r).2)
structure Ed where
  a : Int
  b : Int
  t : List UInt8
  deriving DecidableEq
def cAt (c : Cl) : List At := if c.1 then [.mark, .by c.2] else [.by c.2]
def cAts (l : List Cl) : List At := l.flatMap cAt
def fAt (f : Bool) : List At := if f then [.mark] else []
def news (t : List UInt8) : List At := t.map fun c => .by (.new c)
def newc (f : Bool) : List UInt8 → List Cl
  | [] => []
  | c :: t => (f, .new c) :: newc false t
theorem cells_news (t : List UInt8) (r : List At) : ∀ f, cells f (news t ++ r) = (newc f t ++ (cells (f && t.isEmpty) r).1, (cells (f && t.isEmpty) r).2) := by
  induction t with
  | nil => intro f; simp [news, newc]
  | cons c t ih =>
    intro f
    simp only [news, List.map_cons, List.cons_append, cells, newc, List.isEmpty_cons, Bool.and_false] at ih ⊢
    rw [ih false]
    simp
/-- A row behind a list of edits, from a place on, at which R begins. -/
def cmp : Int → Rw → List Ed → List At
  | _, R, [] => cAts R.1 ++ fAt R.2
  | p, R, e :: t => cAts (R.1.take (e.a - p).toNat) ++ .mark :: (news e.t ++ cmp e.b (R.1.drop (e.b - p).toNat, R.2) t)
def idr (p n : Int) : Rw := ((List.range (n - p).toNat).map fun (i : Nat) => (false, By.old (p + (i : Int))), false)
/-- What a list of edits leaves of a text of that many bytes. -/
def rowE (n : Int) (es : List Ed) : Rw := cells false (cmp 0 (idr 0 n) es)
/-- A row's bytes in the places of another one's. -/
def sub1 (R : Rw) (c : Cl) : Cl := match c.2 with
  | .new x => (c.1, .new x)
  | .old j => match R.1[j.toNat]? with
    | none => (c.1, .new 0)
    | some d => (c.1 || d.1, d.2)
def sub (R S : Rw) : Rw := (S.1.map (sub1 R), S.2 || R.2)
theorem cells_cAts (l : List Cl) (r : List At) : ∀ f, cells f (cAts l ++ r) = (match l with | [] => cells f r | c :: t => ((f || c.1, c.2) :: t ++ (cells false r).1, (cells false r).2)) := by
  induction l with
  | nil => intro f; simp [cAts]
  | cons c t ih =>
    intro f
    have e : cAts (c :: t) = cAt c ++ cAts t := by simp [cAts]
    rw [e]
    obtain ⟨g, b⟩ := c
    have h2 := ih false
    cases g with
    | false =>
      simp only [cAt, Bool.false_eq_true, if_false, List.cons_append, List.nil_append, cells]
      rw [h2]
      cases t with
      | nil => simp
      | cons d t => simp
    | true =>
      simp only [cAt, if_true, List.cons_append, List.nil_append, cells]
      rw [h2]
      cases t with
      | nil => simp
      | cons d t => simp
theorem cells_fAt (f g : Bool) : cells f (fAt g) = ([], f || g) := by
  cases g <;> simp [fAt, cells]
/-- Edits put their texts into any row as into the row of the places. -/
theorem cmp_sub (R : Rw) : ∀ (es : List Ed) (p : Nat) (f : Bool), p ≤ R.1.length → (∀ e ∈ es, 0 ≤ e.a ∧ e.a ≤ e.b ∧ e.b ≤ R.1.length) → (∀ e t, es = e :: t → (p : Int) ≤ e.a) → List.Pairwise (fun x y => x.b ≤ y.a) es →
    cells f (cmp p (R.1.drop p, R.2) es) = sub R (cells f (cmp p (idr p R.1.length) es)) := by
  intro es
  have hid : ∀ p : Nat, p ≤ R.1.length → ∀ n, ((R.1.drop p).take n) = ((idr p R.1.length).1.take n).map (sub1 R) := by
    intro p hp n
    apply List.ext_getElem
    · simp [idr]
    · intro i h1 h2
      simp [idr] at h1 h2 ⊢
      have hi : ((p : Int) + (i : Int)).toNat = p + i := by omega
      simp only [sub1, hi]
      rw [List.getElem?_eq_getElem (by omega)]
      simp
  have hdrop : ∀ (p q : Nat), p ≤ q → q ≤ R.1.length → (idr p R.1.length).1.drop (q - p) = (idr q R.1.length).1 := by
    intro p q h1 h2
    apply List.ext_getElem
    · simp [idr]; omega
    · intro i h3 h4
      simp [idr] at h3 h4 ⊢
      omega
  induction es with
  | nil =>
    intro p f hp _ _ _
    simp only [cmp]
    have h := hid p hp (R.1.length - p)
    rw [List.take_of_length_le (by simp), List.take_of_length_le (by simp [idr])] at h
    rw [cells_cAts, cells_cAts]
    simp only [h]
    cases hc : (idr (p : Int) R.1.length).1 with
    | nil =>
      simp only [List.map_nil, cells_fAt]
      simp [sub, idr]
    | cons c t =>
      simp only [List.map_cons, cells_fAt, sub, List.append_nil, Bool.false_or, Prod.mk.injEq]
      refine ⟨?_, by simp [idr]⟩
      congr 1
      have hcm : c ∈ (idr (p : Int) R.1.length).1 := by rw [hc]; exact List.mem_cons_self
      simp only [idr, List.mem_map, List.mem_range] at hcm
      obtain ⟨i, hi, rfl⟩ := hcm
      simp only [sub1]
      have : ((p : Int) + (i : Int)).toNat = p + i := by omega
      rw [this, List.getElem?_eq_getElem (by omega)]
      simp
  | cons e es ih =>
    intro p f hp hes hh hpw
    have he := hes e List.mem_cons_self
    have hpe := hh e es rfl
    obtain ⟨ea, hea⟩ : ∃ n : Nat, e.a = n := ⟨e.a.toNat, by omega⟩
    obtain ⟨eb, heb⟩ : ∃ n : Nat, e.b = n := ⟨e.b.toNat, by omega⟩
    have hpw' := List.pairwise_cons.1 hpw
    have ih' := fun f => ih eb f (by omega) (fun x hx => hes x (List.mem_cons_of_mem _ hx)) (fun x t hx => by have := hpw'.1 x (by rw [hx]; exact List.mem_cons_self); omega) hpw'.2
    simp only [cmp]
    rw [hea, heb]
    have e1 : ((ea : Int) - (p : Int)).toNat = ea - p := by omega
    have e2 : ((eb : Int) - (p : Int)).toNat = eb - p := by omega
    rw [e1, e2, List.drop_drop, show p + (eb - p) = eb by omega]
    have e3 : ((idr (p : Int) R.1.length).1.drop (eb - p), (idr (p : Int) R.1.length).2) = idr (eb : Int) R.1.length := by
      rw [hdrop p eb (by omega) (by omega)]
      rfl
    rw [e3]
    have tail : ∀ g, cells g (At.mark :: (news e.t ++ cmp (eb : Int) (R.1.drop eb, R.2) es)) = sub R (cells g (At.mark :: (news e.t ++ cmp (eb : Int) (idr (eb : Int) R.1.length) es))) := by
      intro g
      simp only [cells]
      rw [cells_news, cells_news, ih']
      simp only [sub, List.map_append, Prod.mk.injEq, and_true]
      congr 1
      have : ∀ (l : List UInt8) (g : Bool), newc g l = (newc g l).map (sub1 R) := by
        intro l
        induction l with
        | nil => intro g; rfl
        | cons c l ih =>
          intro g
          simp only [newc, List.map_cons]
          rw [← ih]
          rfl
      exact this _ _
    rw [cells_cAts, cells_cAts, hid p hp (ea - p)]
    cases hc : (idr (p : Int) R.1.length).1.take (ea - p) with
    | nil =>
      simp only [List.map_nil]
      exact tail f
    | cons c t =>
      simp only [List.map_cons]
      rw [tail false]
      simp only [sub, List.map_append, List.map_cons, Prod.mk.injEq, and_true]
      congr 2
      have hcm : c ∈ (idr (p : Int) R.1.length).1.take (ea - p) := by rw [hc]; exact List.mem_cons_self
      have hcm := List.mem_of_mem_take hcm
      simp only [idr, List.mem_map, List.mem_range] at hcm
      obtain ⟨i, hi, rfl⟩ := hcm
      simp only [sub1]
      have : ((p : Int) + (i : Int)).toNat = p + i := by omega
      rw [this, List.getElem?_eq_getElem (by omega)]
      simp
end Go.Proofs.Ytaihajmdngoeiaa.Q

namespace Go.Proofs.Ytaihajmdngoeiaa.Q
set_option linter.unusedVariables false
set_option linter.unusedSimpArgs false

/-- The edits that make a row of bytes out of an old text of n bytes: last: behind the last old byte; op: something new stands behind it, tx. -/
def lstC (n : Int) : Int → Bool → List UInt8 → List Cl → Bool → List Ed
  | last, op, tx, [], fin => if op = true ∨ fin = true ∨ last < n then [⟨last, n, tx⟩] else []
  | last, op, tx, (f, .new c) :: r, fin => lstC n last true (tx ++ [c]) r fin
  | last, op, tx, (f, .old k) :: r, fin => if op = true ∨ f = true ∨ last < k then ⟨last, k, tx⟩ :: lstC n (k + 1) false [] r fin else lstC n (k + 1) false [] r fin
def lst (n : Int) (R : Rw) : List Ed := lstC n 0 false [] R.1 R.2
/-- The places are in order, with an old byte between any two edits. -/
def Ch (n : Int) : Int → List Ed → Prop
  | p, [] => True
  | p, e :: t => p < e.a ∧ e.a ≤ e.b ∧ e.b ≤ n ∧ Ch n e.b t
theorem idr_cons (p n : Int) (h : p < n) : (idr p n).1 = (false, .old p) :: (idr (p + 1) n).1 := by
  unfold idr
  obtain ⟨d, hd⟩ : ∃ d : Nat, (n - p).toNat = d + 1 := ⟨(n - p).toNat - 1, by omega⟩
  have hd2 : (n - (p + 1)).toNat = d := by omega
  simp only [hd, hd2, List.range_succ_eq_map, List.map_cons, List.map_map]
  congr 1
  · simp
  · apply List.map_congr_left
    intro i _
    simp only [Function.comp_apply, Prod.mk.injEq, By.old.injEq, true_and]
    omega
theorem idr_nil (p n : Int) (h : n ≤ p) : (idr p n).1 = [] := by
  unfold idr
  rw [show (n - p).toNat = 0 by omega]
  rfl
theorem idr_drop (p q n : Int) (h : p ≤ q) : (idr p n).1.drop (q - p).toNat = (idr q n).1 := by
  apply List.ext_getElem
  · simp [idr]; omega
  · intro i h3 h4
    simp [idr] at h3 h4 ⊢
    omega
theorem cmp_cons (p n : Int) (e : Ed) (t : List Ed) (hp : p ≤ e.b) : cmp p (idr p n) (e :: t) = cAts ((idr p n).1.take (e.a - p).toNat) ++ .mark :: (news e.t ++ cmp e.b (idr e.b n) t) := by
  simp only [cmp]
  rw [idr_drop p e.b n hp]
  rfl
theorem cmp_nil (p n : Int) : cmp p (idr p n) [] = cAts (idr p n).1 := by
  simp only [cmp, idr, fAt]
  simp
theorem lst_olds (n : Int) (X : List At) (d : Nat) : ∀ (p q : Int), (q - p).toNat = d → p < q → q ≤ n → ∀ (last : Int) (op : Bool) (tx : List UInt8) (g : Bool), last ≤ p →
    lstC n last op tx (cells g (cAts ((idr p n).1.take (q - p).toNat) ++ X)).1 (cells g (cAts ((idr p n).1.take (q - p).toNat) ++ X)).2 = (if op = true ∨ g = true ∨ last < p then [⟨last, p, tx⟩] else []) ++ lstC n q false [] (cells false X).1 (cells false X).2 := by
  induction d with
  | zero => intro p q h1 h2; omega
  | succ d ih =>
    intro p q h1 h2 h3 last op tx g hl
    rw [idr_cons p n (by omega), show (q - p).toNat = (q - (p + 1)).toNat + 1 by omega, List.take_succ_cons]
    have e : cAts ((false, By.old p) :: ((idr (p + 1) n).1.take (q - (p + 1)).toNat)) ++ X = .by (.old p) :: (cAts ((idr (p + 1) n).1.take (q - (p + 1)).toNat) ++ X) := by simp [cAts, cAt]
    rw [e]
    simp only [cells, lstC]
    have hrest : lstC n (p + 1) false [] (cells false (cAts ((idr (p + 1) n).1.take (q - (p + 1)).toNat) ++ X)).1 (cells false (cAts ((idr (p + 1) n).1.take (q - (p + 1)).toNat) ++ X)).2 = lstC n q false [] (cells false X).1 (cells false X).2 := by
      by_cases hq : p + 1 < q
      · rw [ih (p + 1) q (by omega) hq h3 (p + 1) false [] false (Int.le_refl _), if_neg (by simp)]
        rfl
      · rw [show (q - (p + 1)).toNat = 0 by omega, show p + 1 = q by omega]
        rfl
    split
    · rw [hrest]; rfl
    · rw [hrest]; rfl
theorem lst_news (n : Int) (t : List UInt8) : ∀ (last : Int) (op : Bool) (tx : List UInt8) (g : Bool) (Y : List Cl) (fin : Bool), lstC n last op tx (newc g t ++ Y) fin = lstC n last (op || !t.isEmpty) (tx ++ t) Y fin := by
  induction t with
  | nil => intro last op tx g Y fin; simp [newc]
  | cons c t ih =>
    intro last op tx g Y fin
    simp only [newc, List.cons_append, lstC]
    rw [ih]
    simp
theorem lst_back (n : Int) : ∀ (es : List Ed) (last b : Int) (op g : Bool) (tx t : List UInt8), (op = true ∨ g = true) → Ch n b es → last ≤ b → b ≤ n →
    lstC n last op tx (cells g (news t ++ cmp b (idr b n) es)).1 (cells g (news t ++ cmp b (idr b n) es)).2 = ⟨last, b, tx ++ t⟩ :: es := by
  intro es
  induction es with
  | nil =>
    intro last b op g tx t hog _ hl hb
    rw [cells_news, cmp_nil]
    simp only []
    rw [lst_news]
    have hor : (op || !t.isEmpty) = true ∨ (g && t.isEmpty) = true := by
      cases t <;> simp_all
    by_cases hbn : b < n
    · have h := lst_olds n [] _ b n rfl hbn (Int.le_refl _) last (op || !t.isEmpty) (tx ++ t) (g && t.isEmpty) hl
      rw [List.take_of_length_le (by simp [idr])] at h
      simp only [List.append_nil] at h
      rw [h, if_pos (hor.elim Or.inl (fun h => Or.inr (Or.inl h)))]
      simp [cells, lstC]
    · rw [idr_nil b n (by omega)]
      simp only [cAts, List.flatMap_nil, cells, lstC]
      rw [if_pos (hor.elim Or.inl (fun h => Or.inr (Or.inl h))), show n = b by omega]
  | cons e es ih =>
    intro last b op g tx t hog hch hl hb
    obtain ⟨c1, c2, c3, c4⟩ := hch
    rw [cells_news, cmp_cons b n e es (by omega)]
    simp only []
    rw [lst_news]
    have hor : (op || !t.isEmpty) = true ∨ (g && t.isEmpty) = true := by
      cases t <;> simp_all
    rw [lst_olds n _ _ b e.a rfl c1 (by omega) last (op || !t.isEmpty) (tx ++ t) (g && t.isEmpty) hl, if_pos (hor.elim Or.inl (fun h => Or.inr (Or.inl h)))]
    simp only [cells]
    rw [ih e.a e.b false true [] e.t (Or.inr rfl) c4 c2 c3]
    simp
def Ok (n : Int) : List Ed → Prop
  | [] => True
  | e :: t => 0 ≤ e.a ∧ e.a ≤ e.b ∧ e.b ≤ n ∧ Ch n e.b t
/-- The list of a list's row is the list. -/
theorem lst_rowE (n : Int) (h0 : 0 ≤ n) (es : List Ed) (h : Ok n es) : lst n (rowE n es) = es := by
  unfold lst rowE
  cases es with
  | nil =>
    rw [cmp_nil]
    by_cases hn : 0 < n
    · have h := lst_olds n [] _ 0 n rfl hn (Int.le_refl _) 0 false [] false (Int.le_refl _)
      rw [List.take_of_length_le (by simp [idr])] at h
      simp only [List.append_nil] at h
      rw [h]
      simp [cells, lstC]
    · rw [idr_nil 0 n (by omega)]
      simp [cAts, cells, lstC]
      omega
  | cons e es =>
    obtain ⟨c1, c2, c3, c4⟩ := h
    rw [cmp_cons 0 n e es (by omega)]
    by_cases ha : 0 < e.a
    · rw [lst_olds n _ _ 0 e.a rfl ha (by omega) 0 false [] false (Int.le_refl _)]
      simp only [cells]
      rw [lst_back n es e.a e.b false true [] e.t (Or.inr rfl) c4 c2 c3]
      simp
    · have hz : e.a = 0 := by omega
      rw [hz]
      simp only [Int.sub_self, Int.toNat_zero, List.take_zero, cAts, List.flatMap_nil, List.nil_append, cells]
      rw [lst_back n es 0 e.b false true [] e.t (Or.inr rfl) c4 (by omega) c3]
      cases e
      simp_all
/-- The old bytes stand in order. -/
def Mono (n : Int) : Int → List Cl → Prop
  | p, [] => p ≤ n
  | p, (_, .new _) :: r => Mono n p r
  | p, (_, .old k) :: r => p ≤ k ∧ k < n ∧ Mono n (k + 1) r
theorem Mono.le {n : Int} : ∀ {l : List Cl} {p : Int}, Mono n p l → p ≤ n
  | [], _, h => h
  | (_, .new _) :: r, p, h => Mono.le (l := r) h
  | (_, .old k) :: r, p, h => by have := h.1; have := h.2.1; omega
theorem lst_ge (n : Int) : ∀ (l : List Cl) (last : Int) (op : Bool) (tx : List UInt8) (fin : Bool), Mono n last l → (∀ e t, lstC n last op tx l fin = e :: t → last ≤ e.a ∧ e.a ≤ e.b ∧ e.b ≤ n ∧ Ch n e.b t) ∧ ((op = true) → ∃ e t, lstC n last op tx l fin = e :: t ∧ e.a = last)
  | [], last, op, tx, fin, h => by
    simp only [lstC]
    have hl : last ≤ n := h
    constructor
    · intro e t he
      split at he
      · injection he with h1 h2
        subst h1; subst h2
        exact ⟨Int.le_refl _, hl, Int.le_refl _, trivial⟩
      · cases he
    · intro hop
      rw [if_pos (Or.inl hop)]
      exact ⟨_, _, rfl, rfl⟩
  | (f, .new c) :: r, last, op, tx, fin, h => by
    simp only [lstC]
    have := lst_ge n r last true (tx ++ [c]) fin h
    exact ⟨this.1, fun _ => this.2 rfl⟩
  | (f, .old k) :: r, last, op, tx, fin, h => by
    simp only [lstC]
    have ih := lst_ge n r (k + 1) false [] fin h.2.2
    have h1 := h.1
    have h2 := h.2.1
    constructor
    · intro e t he
      split at he
      · injection he with e1 e2
        subst e1; subst e2
        refine ⟨Int.le_refl _, h1, by simp only; omega, ?_⟩
        cases hr : lstC n (k + 1) false [] r fin with
        | nil => trivial
        | cons x y =>
          obtain ⟨g1, g2, g3, g4⟩ := ih.1 x y hr
          exact ⟨by simp only; omega, g2, g3, g4⟩
      · obtain ⟨g1, g2, g3, g4⟩ := ih.1 e t he
        exact ⟨by omega, g2, g3, g4⟩
    · intro hop
      rw [if_pos (Or.inl hop)]
      exact ⟨_, _, rfl, rfl⟩
theorem lst_ok (n : Int) (R : Rw) (h : Mono n 0 R.1) : Ok n (lst n R) := by
  unfold lst
  cases hr : lstC n 0 false [] R.1 R.2 with
  | nil => trivial
  | cons e t => exact (lst_ge n R.1 0 false [] R.2 h).1 e t hr
end Go.Proofs.Ytaihajmdngoeiaa.Q

namespace Go.Proofs.Ytaihajmdngoeiaa.Q
set_option linter.unusedVariables false
set_option linter.unusedSimpArgs false

/-- A row as the list of its edits sees it; nx: the old byte that would go on without an edit. -/
def nrm (n : Int) : Option Int → List Cl → Bool → Rw
  | nx, [], fin => ([], fin || nx != some n)
  | nx, (f, .new c) :: r, fin => ((false, .new c) :: (nrm n none r fin).1, (nrm n none r fin).2)
  | nx, (f, .old k) :: r, fin => ((f || nx != some k, .old k) :: (nrm n (some (k + 1)) r fin).1, (nrm n (some (k + 1)) r fin).2)
theorem cmp_step (k n : Int) (L : List Ed) (hk : k < n) (h : ∀ e t, L = e :: t → k + 1 ≤ e.a ∧ e.a ≤ e.b) : cmp k (idr k n) L = .by (.old k) :: cmp (k + 1) (idr (k + 1) n) L := by
  cases L with
  | nil =>
    rw [cmp_nil, cmp_nil, idr_cons k n hk]
    simp [cAts, cAt]
  | cons e t =>
    obtain ⟨h1, h2⟩ := h e t rfl
    rw [cmp_cons k n e t (by omega), cmp_cons (k + 1) n e t (by omega), idr_cons k n hk, show (e.a - k).toNat = (e.a - (k + 1)).toNat + 1 by omega, List.take_succ_cons]
    simp [cAts, cAt]
theorem cmp_at (p n : Int) (e : Ed) (t : List Ed) (ha : e.a = p) (hb : p ≤ e.b) : cmp p (idr p n) (e :: t) = .mark :: (news e.t ++ cmp e.b (idr e.b n) t) := by
  rw [cmp_cons p n e t hb, ha]
  simp [cAts]
/-- The row of a row's list is the row, as the list sees it. -/
theorem nrm_back (n : Int) : ∀ (Q : List Cl) (last : Int) (fin : Bool), Mono n last Q →
    nrm n (some last) (cells false (cmp last (idr last n) (lstC n last false [] Q fin))).1 (cells false (cmp last (idr last n) (lstC n last false [] Q fin))).2 = nrm n (some last) Q fin ∧
    ∀ tx, ∃ k' t' rest, lstC n last true tx Q fin = ⟨last, k', tx ++ t'⟩ :: rest ∧ last ≤ k' ∧ ∀ g, nrm n none (cells g (news t' ++ cmp k' (idr k' n) rest)).1 (cells g (news t' ++ cmp k' (idr k' n) rest)).2 = nrm n none Q fin
  | [], last, fin, h => by
    have hl : last ≤ n := h
    have e0 : cmp n (idr n n) [] = [] := by rw [cmp_nil, idr_nil n n (Int.le_refl _)]; rfl
    constructor
    · simp only [lstC]
      split
      · next hc =>
        rw [cmp_at last n ⟨last, n, []⟩ [] rfl hl]
        simp only [news, List.map_nil, List.nil_append, e0, cells, nrm, Bool.true_or, Prod.mk.injEq, true_and]
        rcases hc with hc | hc | hc
        · cases hc
        · simp [hc]
        · have : (some last != some n) = true := by simp; omega
          rw [this]
          simp
      · next hc =>
        have hn : last = n := by omega
        have hf : fin = false := by cases fin <;> simp_all
        rw [hn, e0, hf]
        rfl
    · intro tx
      simp only [lstC]
      rw [if_pos (Or.inl trivial)]
      refine ⟨n, [], [], by simp, hl, fun g => ?_⟩
      have e1 : ((none : Option Int) != some n) = true := rfl
      simp only [news, List.map_nil, List.nil_append, e0, cells, nrm, e1, Bool.or_true]
  | (f, .new c) :: r, last, fin, h => by
    have hr : Mono n last r := h
    have ih := nrm_back n r last fin hr
    constructor
    · simp only [lstC]
      obtain ⟨k', t', rest, e1, e2, e3⟩ := ih.2 ([] ++ [c])
      rw [e1, cmp_at last n _ rest rfl e2]
      have e4 : news (([] ++ [c]) ++ t') ++ cmp k' (idr k' n) rest = .by (.new c) :: (news t' ++ cmp k' (idr k' n) rest) := by simp [news]
      simp only [e4, cells, nrm]
      rw [e3 false]
    · intro tx
      simp only [lstC]
      obtain ⟨k', t', rest, e1, e2, e3⟩ := ih.2 (tx ++ [c])
      refine ⟨k', c :: t', rest, by rw [e1]; simp, e2, fun g => ?_⟩
      have e4 : news (c :: t') ++ cmp k' (idr k' n) rest = .by (.new c) :: (news t' ++ cmp k' (idr k' n) rest) := by simp [news]
      simp only [e4, cells, nrm]
      rw [e3 false]
  | (f, .old k) :: r, last, fin, h => by
    obtain ⟨h1, h2, h3⟩ := h
    have ih := nrm_back n r (k + 1) fin h3
    have hge := (lst_ge n r (k + 1) false [] fin h3).1
    have hst := cmp_step k n (lstC n (k + 1) false [] r fin) h2 (fun e t he => by obtain ⟨a, b, _⟩ := hge e t he; exact ⟨a, b⟩)
    constructor
    · simp only [lstC]
      split
      · next hc =>
        rw [cmp_at last n ⟨last, k, []⟩ _ rfl h1]
        simp only [news, List.map_nil, List.nil_append]
        rw [hst]
        simp only [cells, nrm]
        rw [ih.1]
        have : (f || some last != some k) = true := by
          rcases hc with hc | hc | hc
          · cases hc
          · simp [hc]
          · have : (some last != some k) = true := by simp; omega
            rw [this]; simp
        rw [this]
        simp
      · next hc =>
        have hn : last = k := by omega
        have hf : f = false := by cases f <;> simp_all
        rw [hn, hst, hf]
        simp only [cells, nrm]
        rw [ih.1]
    · intro tx
      simp only [lstC]
      rw [if_pos (Or.inl trivial)]
      refine ⟨k, [], lstC n (k + 1) false [] r fin, by simp, h1, fun g => ?_⟩
      simp only [news, List.map_nil, List.nil_append]
      rw [hst]
      simp only [cells, nrm]
      rw [ih.1]
      have e1 : ((none : Option Int) != some k) = true := rfl
      rw [e1]
      simp
theorem nrm_rowE (n : Int) (R : Rw) (h : Mono n 0 R.1) : nrm n (some 0) (rowE n (lst n R)).1 (rowE n (lst n R)).2 = nrm n (some 0) R.1 R.2 := (nrm_back n R.1 0 R.2 h).1
/-- Where old bytes are left out an edit is told. -/
def WF (n : Int) : Option Int → List Cl → Bool → Prop
  | nx, [], fin => ∀ l, nx = some l → l ≠ n → fin = true
  | nx, (f, .new c) :: r, fin => WF n none r fin
  | nx, (f, .old k) :: r, fin => (∀ l, nx = some l → l ≠ k → f = true) ∧ WF n (some (k + 1)) r fin
/-- The old byte that would go on behind the first j of a row. -/
def stF (nx : Option Int) (l : List Cl) (j : Nat) : Option Int := match j with
  | 0 => nx
  | i + 1 => match l[i]? with
    | some (_, .old k) => some (k + 1)
    | _ => none
theorem stF_cons (nx : Option Int) (c : Cl) (r : List Cl) (j : Nat) : stF nx (c :: r) (j + 1) = stF (match c.2 with | .old k => some (k + 1) | .new _ => none) r j := by
  cases j with
  | zero =>
    obtain ⟨f, b⟩ := c
    cases b <;> rfl
  | succ j => simp [stF]
/-- What an index of S leads to in R. -/
theorem sub1_old (R : Rw) (f : Bool) (j : Int) (d : Cl) (h : R.1[j.toNat]? = some d) : sub1 R (f, .old j) = (f || d.1, d.2) := by
  simp only [sub1, h]
def rel (R : Rw) (nx ny : Option Int) : Prop := match nx with
  | none => ny = none
  | some j => 0 ≤ j ∧ ny = stF (some 0) R.1 j.toNat
theorem rel_next (R : Rw) (j : Int) (h0 : 0 ≤ j) (d : Cl) (h : R.1[j.toNat]? = some d) : rel R (some (j + 1)) (match d.2 with | .old k => some (k + 1) | .new _ => none) := by
  refine ⟨by omega, ?_⟩
  rw [show (j + 1).toNat = j.toNat + 1 by omega]
  simp only [stF, h]
  obtain ⟨g, b⟩ := d
  cases b <;> rfl
end Go.Proofs.Ytaihajmdngoeiaa.Q

namespace Go.Proofs.Ytaihajmdngoeiaa.Q
set_option linter.unusedVariables false
set_option linter.unusedSimpArgs false

theorem mono_news (n : Int) (t : List UInt8) : ∀ (p : Int) (g : Bool) (Y : List Cl), Mono n p Y → Mono n p (newc g t ++ Y) := by
  induction t with
  | nil => intro p g Y h; simpa [newc] using h
  | cons c t ih => intro p g Y h; exact ih p false Y h
theorem wf_news (n : Int) (t : List UInt8) : ∀ (nx : Option Int) (g : Bool) (Y : List Cl) (fin : Bool), WF n (if t.isEmpty = true then nx else none) Y fin → WF n nx (newc g t ++ Y) fin := by
  induction t with
  | nil => intro nx g Y fin h; simpa [newc] using h
  | cons c t ih =>
    intro nx g Y fin h
    show WF n none (newc false t ++ Y) fin
    refine ih none false Y fin ?_
    simp only [List.isEmpty_cons, Bool.false_eq_true, if_false] at h
    split <;> exact h
theorem mono_up (n : Int) : ∀ (l : List Cl) (p q : Int), q ≤ p → Mono n p l → Mono n q l
  | [], p, q, h, m => by have : p ≤ n := m; show q ≤ n; omega
  | (_, .new _) :: r, p, q, h, m => mono_up n r p q h m
  | (_, .old k) :: r, p, q, h, m => ⟨by have := m.1; omega, m.2⟩
theorem row_olds (n : Int) (X : List At) (d : Nat) : ∀ (p q : Int), (q - p).toNat = d → p < q → q ≤ n → ∀ (g : Bool),
    (Mono n q (cells false X).1 → Mono n p (cells g (cAts ((idr p n).1.take (q - p).toNat) ++ X)).1) ∧
    (∀ nx : Option Int, (g = true ∨ nx = some p ∨ nx = none) → WF n (some q) (cells false X).1 (cells false X).2 → WF n nx (cells g (cAts ((idr p n).1.take (q - p).toNat) ++ X)).1 (cells g (cAts ((idr p n).1.take (q - p).toNat) ++ X)).2) := by
  induction d with
  | zero => intro p q h1 h2; omega
  | succ d ih =>
    intro p q h1 h2 h3 g
    rw [idr_cons p n (by omega), show (q - p).toNat = (q - (p + 1)).toNat + 1 by omega, List.take_succ_cons]
    have e : cAts ((false, By.old p) :: ((idr (p + 1) n).1.take (q - (p + 1)).toNat)) ++ X = .by (.old p) :: (cAts ((idr (p + 1) n).1.take (q - (p + 1)).toNat) ++ X) := by simp [cAts, cAt]
    rw [e]
    simp only [cells, Mono, WF]
    have hflag : ∀ nx : Option Int, (g = true ∨ nx = some p ∨ nx = none) → ∀ l, nx = some l → l ≠ p → g = true := by
      intro nx h l hl hne
      rcases h with h | h | h
      · exact h
      · rw [h] at hl
        injection hl with hl
        exact absurd hl.symm hne
      · rw [h] at hl
        cases hl
    by_cases hq : p + 1 < q
    · obtain ⟨i1, i2⟩ := ih (p + 1) q (by omega) hq h3 false
      exact ⟨fun hm => ⟨Int.le_refl _, by omega, i1 hm⟩, fun nx h hw => ⟨hflag nx h, i2 (some (p + 1)) (Or.inr (Or.inl rfl)) hw⟩⟩
    · have hz : (q - (p + 1)).toNat = 0 := by omega
      have hq1 : p + 1 = q := by omega
      rw [hz]
      simp only [List.take_zero, cAts, List.flatMap_nil, List.nil_append]
      exact ⟨fun hm => ⟨Int.le_refl _, by omega, by rw [hq1]; exact hm⟩, fun nx h hw => ⟨hflag nx h, by rw [hq1]; exact hw⟩⟩
theorem row_back (n : Int) : ∀ (es : List Ed) (b : Int) (g : Bool), Ch n b es → b ≤ n →
    Mono n b (cells g (cmp b (idr b n) es)).1 ∧ ∀ nx : Option Int, (g = true ∨ nx = some b ∨ nx = none) → WF n nx (cells g (cmp b (idr b n) es)).1 (cells g (cmp b (idr b n) es)).2
  | [], b, g, _, hb => by
    rw [cmp_nil]
    by_cases hbn : b < n
    · have h := row_olds n [] _ b n rfl hbn (Int.le_refl _) g
      rw [List.take_of_length_le (by simp [idr])] at h
      simp only [List.append_nil] at h
      exact ⟨h.1 (Int.le_refl n), fun nx hx => h.2 nx hx (fun l hl hne => by injection hl with hl; exact absurd hl.symm hne)⟩
    · rw [idr_nil b n (by omega)]
      refine ⟨hb, fun nx hx => ?_⟩
      intro l hl hne
      rcases hx with h | h | h
      · exact h
      · rw [h] at hl
        injection hl with hl
        omega
      · rw [h] at hl
        cases hl
  | e :: es, b, g, hch, hb => by
    obtain ⟨c1, c2, c3, c4⟩ := hch
    have ih := fun g => row_back n es e.b g c4 c3
    rw [cmp_cons b n e es (by omega)]
    obtain ⟨o1, o2⟩ := row_olds n (.mark :: (news e.t ++ cmp e.b (idr e.b n) es)) _ b e.a rfl c1 (by omega) g
    have hcell : cells false (At.mark :: (news e.t ++ cmp e.b (idr e.b n) es)) = (newc true e.t ++ (cells (true && e.t.isEmpty) (cmp e.b (idr e.b n) es)).1, (cells (true && e.t.isEmpty) (cmp e.b (idr e.b n) es)).2) := by
      simp only [cells]
      rw [cells_news]
    rw [hcell] at o1 o2
    refine ⟨o1 (mono_news n e.t e.a true _ (mono_up n _ e.b e.a c2 (ih _).1)), fun nx hx => o2 nx hx ?_⟩
    refine wf_news n e.t (some e.a) true _ _ ((ih _).2 _ ?_)
    cases e.t with
    | nil => exact Or.inl rfl
    | cons x y => exact Or.inr (Or.inr rfl)
/-- A list's row: its old bytes are in order, and where some are left out an edit is told. -/
theorem row_ok (n : Int) (h0 : 0 ≤ n) (es : List Ed) (h : Ok n es) : Mono n 0 (rowE n es).1 ∧ WF n (some 0) (rowE n es).1 (rowE n es).2 := by
  unfold rowE
  cases es with
  | nil =>
    have := row_back n [] 0 false trivial h0
    exact ⟨this.1, this.2 (some 0) (Or.inr (Or.inl rfl))⟩
  | cons e es =>
    obtain ⟨c1, c2, c3, c4⟩ := h
    by_cases ha : 0 < e.a
    · have := row_back n (e :: es) 0 false ⟨ha, c2, c3, c4⟩ h0
      exact ⟨this.1, this.2 (some 0) (Or.inr (Or.inl rfl))⟩
    · have hz : e.a = 0 := by omega
      rw [cmp_at 0 n e es hz (by omega)]
      simp only [cells]
      rw [cells_news]
      have ih := fun g => row_back n es e.b g c4 c3
      refine ⟨mono_news n e.t 0 true _ (mono_up n _ e.b 0 (by omega) (ih _).1), wf_news n e.t (some 0) true _ _ ((ih _).2 _ ?_)⟩
      cases e.t with
      | nil => exact Or.inl rfl
      | cons x y => exact Or.inr (Or.inr rfl)
theorem mono_drop1 (n : Int) (c : Cl) (r : List Cl) (p : Int) (h : Mono n p (c :: r)) : Mono n p r := by
  obtain ⟨f, b⟩ := c
  cases b with
  | new x => exact h
  | old k => exact mono_up n r (k + 1) p (by have := h.1; omega) h.2.2
theorem mono_drop (n : Int) : ∀ (i : Nat) (l : List Cl) (p : Int), Mono n p l → Mono n p (l.drop i)
  | 0, l, p, h => h
  | i + 1, [], p, h => h
  | i + 1, c :: r, p, h => mono_drop n i r p (mono_drop1 n c r p h)
theorem sub_mono (n : Int) (R : Rw) : ∀ (S : List Cl) (j p : Int), 0 ≤ j → Mono R.1.length j S → Mono n p (R.1.drop j.toNat) → Mono n p (S.map (sub1 R))
  | [], j, p, hj, hS, hR => Mono.le hR
  | (f, .new x) :: r, j, p, hj, hS, hR => sub_mono n R r j p hj hS hR
  | (f, .old i) :: r, j, p, hj, hS, hR => by
    obtain ⟨m1, m2, m3⟩ := hS
    have hi : i.toNat < R.1.length := by omega
    have hd : R.1[i.toNat]? = some R.1[i.toNat] := List.getElem?_eq_getElem hi
    have hdr : Mono n p (R.1.drop i.toNat) := by
      have := mono_drop n (i.toNat - j.toNat) _ p hR
      rw [List.drop_drop, show j.toNat + (i.toNat - j.toNat) = i.toNat by omega] at this
      exact this
    rw [List.drop_eq_getElem_cons hi] at hdr
    simp only [List.map_cons, sub1_old R f i _ hd]
    have ei : (i + 1).toNat = i.toNat + 1 := by omega
    generalize R.1[i.toNat] = d at hdr
    obtain ⟨g, b⟩ := d
    cases b with
    | new x => exact sub_mono n R r (i + 1) p (by omega) m3 (by rw [ei]; exact hdr)
    | old k => exact ⟨hdr.1, hdr.2.1, sub_mono n R r (i + 1) (k + 1) (by omega) m3 (by rw [ei]; exact hdr.2.2)⟩
theorem wf_at (n : Int) : ∀ (l : List Cl) (nx : Option Int) (fin : Bool), WF n nx l fin → (∀ (j : Nat) (f : Bool) (k : Int), l[j]? = some (f, .old k) → ∀ x, stF nx l j = some x → x ≠ k → f = true) ∧ (∀ x, stF nx l l.length = some x → x ≠ n → fin = true)
  | [], nx, fin, h => ⟨fun j f k hj => by simp at hj, h⟩
  | (f, .new c) :: r, nx, fin, h => by
    obtain ⟨i1, i2⟩ := wf_at n r none fin h
    refine ⟨fun j g k hj => ?_, ?_⟩
    · cases j with
      | zero => simp at hj
      | succ j =>
        rw [stF_cons]
        exact i1 j g k (by simpa using hj)
    · rw [List.length_cons, stF_cons]
      exact i2
  | (f, .old k) :: r, nx, fin, h => by
    obtain ⟨i1, i2⟩ := wf_at n r (some (k + 1)) fin h.2
    refine ⟨fun j g k' hj => ?_, ?_⟩
    · cases j with
      | zero =>
        simp only [List.getElem?_cons_zero, Option.some.injEq, Prod.mk.injEq, By.old.injEq] at hj
        obtain ⟨rfl, rfl⟩ := hj
        exact h.1
      | succ j =>
        rw [stF_cons]
        exact i1 j g k' (by simpa using hj)
    · rw [List.length_cons, stF_cons]
      exact i2
theorem sub_wf (n : Int) (R : Rw) (hR : WF n (some 0) R.1 R.2) : ∀ (S : List Cl) (nx ny : Option Int) (fS : Bool) (p : Int), WF R.1.length nx S fS → 0 ≤ p → Mono R.1.length p S → rel R nx ny → WF n ny (S.map (sub1 R)) (fS || R.2)
  | [], nx, ny, fS, p, w, hp, m, hr => by
    obtain ⟨_, h2⟩ := wf_at n R.1 (some 0) R.2 hR
    intro l hl hne
    cases nx with
    | none =>
      have : ny = none := hr
      rw [this] at hl
      cases hl
    | some x =>
      by_cases e : x = (R.1.length : Int)
      · have hny : ny = stF (some 0) R.1 x.toNat := hr.2
        rw [e] at hny
        simp only [Int.toNat_natCast] at hny
        rw [hny] at hl
        rw [h2 l hl hne]
        simp
      · rw [w x rfl e]
        rfl
  | (f, .new c) :: r, nx, ny, fS, p, w, hp, m, hr => sub_wf n R hR r none none fS p w hp m rfl
  | (f, .old j) :: r, nx, ny, fS, p, w, hp, m, hr => by
    obtain ⟨m1, m2, m3⟩ := m
    obtain ⟨d, hd⟩ : ∃ d, R.1[j.toNat]? = some d := ⟨_, List.getElem?_eq_getElem (by omega)⟩
    have hn := rel_next R j (by omega) d hd
    have ih := fun ny' hr' => sub_wf n R hR r (some (j + 1)) ny' fS (j + 1) w.2 (by omega) m3 hr'
    obtain ⟨h1, _⟩ := wf_at n R.1 (some 0) R.2 hR
    simp only [List.map_cons, sub1_old R f j d hd]
    obtain ⟨g, b⟩ := d
    cases b with
    | new x => exact ih none hn
    | old k =>
      refine ⟨fun l hl hne => ?_, ih (some (k + 1)) hn⟩
      cases nx with
      | none =>
        have : ny = none := hr
        rw [this] at hl
        cases hl
      | some x =>
        by_cases e : x = j
        · have hny : ny = stF (some 0) R.1 x.toNat := hr.2
          rw [e] at hny
          rw [hny] at hl
          have := h1 j.toNat g k hd l hl hne
          simp only
          rw [this]
          simp
        · simp only
          rw [w.1 x rfl e]
          rfl
/-- Two rows of lists, one behind the other: in order, and told. -/
theorem sub_ok (n : Int) (R S : Rw) (hR : Mono n 0 R.1 ∧ WF n (some 0) R.1 R.2) (hS : Mono R.1.length 0 S.1 ∧ WF R.1.length (some 0) S.1 S.2) : Mono n 0 (sub R S).1 ∧ WF n (some 0) (sub R S).1 (sub R S).2 :=
  ⟨sub_mono n R S.1 0 0 (by omega) hS.1 (by simpa using hR.1), sub_wf n R hR.2 S.1 (some 0) (some 0) S.2 0 hS.2 (by omega) hS.1 ⟨by omega, rfl⟩⟩
/-- One list for two. -/
def cmpE (n : Int) (a b : List Ed) : List Ed := lst n (sub (rowE n a) (rowE (rowE n a).1.length b))
theorem mono_lt (n : Int) : ∀ (l : List Cl) (p : Int), 0 ≤ p → Mono n p l → ∀ c ∈ l, ∀ j, c.2 = .old j → 0 ≤ j ∧ j < n
  | (f, .new x) :: r, p, hp, h, c, hc, j, hj => by
    rcases List.mem_cons.1 hc with rfl | hc
    · cases hj
    · exact mono_lt n r p hp h c hc j hj
  | (f, .old k) :: r, p, hp, h, c, hc, j, hj => by
    have h1 := h.1
    rcases List.mem_cons.1 hc with rfl | hc
    · injection hj with hj
      subst hj
      exact ⟨by omega, h.2.1⟩
    · exact mono_lt n r (k + 1) (by omega) h.2.2 c hc j hj
end Go.Proofs.Ytaihajmdngoeiaa.Q

namespace Go.Proofs.Ytaihajmdngoeiaa.Q
set_option linter.unusedVariables false
set_option linter.unusedSimpArgs false

def grw (e : Ed) : Int := (e.t.length : Int) - (e.b - e.a)
/-- The texts of a list's edits, with their places in the text between. -/
def fsOf : Int → List Ed → List (Int × List UInt8)
  | _, [] => []
  | sh, e :: r => (e.a + sh, e.t) :: fsOf (sh + grw e) r
def shOf : Int → List Ed → Int
  | sh, [] => sh
  | sh, e :: r => shOf (sh + grw e) r
/-- Parts of texts that lie between two places. -/
def putS : List (Int × List UInt8) → Int → Int → List UInt8
  | [], _, _ => []
  | (f, t) :: r, x, y => (if max x f < min y (f + t.length) then (t.drop (max x f - f).toNat).take (min y (f + t.length) - max x f).toNat else []) ++ putS r x y
def Cov (fs : List (Int × List UInt8)) (z : Int) : Prop := ∃ f t, (f, t) ∈ fs ∧ f ≤ z ∧ z < f + t.length
theorem cmp_split (p h : Int) (R : Rw) (b : List Ed) (hp : p ≤ h) (hb : ∀ e t, b = e :: t → h ≤ e.a ∧ e.a ≤ e.b) : cmp p R b = cAts (R.1.take (h - p).toNat) ++ cmp h (R.1.drop (h - p).toNat, R.2) b := by
  cases b with
  | nil =>
    simp only [cmp]
    rw [← List.append_assoc]
    congr 1
    unfold cAts
    rw [← List.flatMap_append, List.take_append_drop]
  | cons e t =>
    obtain ⟨h1, h2⟩ := hb e t rfl
    simp only [cmp]
    rw [← List.append_assoc, List.drop_drop, show (h - p).toNat + (e.b - h).toNat = (e.b - p).toNat by omega]
    congr 1
    unfold cAts
    rw [← List.flatMap_append]
    congr 1
    rw [show (e.a - p).toNat = (h - p).toNat + (e.a - h).toNat by omega, List.take_add]
/-- The row of a list: old bytes, the first edit's text, the rest. -/
theorem row_cons (n q : Int) (e : Ed) (t : List Ed) (g : Bool) (hq : q ≤ e.a) (hb : e.a ≤ e.b) (hn : e.b ≤ n) :
    ∃ (O : List Cl) (g1 g2 : Bool), cells g (cmp q (idr q n) (e :: t)) = (O ++ newc g1 e.t ++ (cells g2 (cmp e.b (idr e.b n) t)).1, (cells g2 (cmp e.b (idr e.b n) t)).2) ∧ (O.length : Int) = e.a - q ∧ (e.t = [] → g2 = true) := by
  rw [cmp_cons q n e t (by omega), cells_cAts]
  have hlen : (((idr q n).1.take (e.a - q).toNat).length : Int) = e.a - q := by
    rw [List.length_take]
    simp only [idr, List.length_map, List.length_range]
    omega
  have hm : ∀ g, cells g (At.mark :: (news e.t ++ cmp e.b (idr e.b n) t)) = (newc true e.t ++ (cells (true && e.t.isEmpty) (cmp e.b (idr e.b n) t)).1, (cells (true && e.t.isEmpty) (cmp e.b (idr e.b n) t)).2) := by
    intro g
    simp only [cells]
    rw [cells_news]
  cases hO : (idr q n).1.take (e.a - q).toNat with
  | nil =>
    rw [hO] at hlen
    simp only [hm]
    exact ⟨[], true, (true && e.t.isEmpty), by simp, by simpa using hlen, fun h => by rw [h]; rfl⟩
  | cons c r =>
    rw [hO] at hlen
    simp only [hm]
    exact ⟨(g || c.1, c.2) :: r, true, (true && e.t.isEmpty), by simp, by simpa using hlen, fun h => by rw [h]; rfl⟩
theorem newc_len (t : List UInt8) : ∀ g, (newc g t).length = t.length := by
  induction t with
  | nil => intro g; rfl
  | cons c t ih => intro g; simp [newc, ih]
theorem newc_by (t : List UInt8) : ∀ g, (newc g t).map (·.2) = t.map By.new := by
  induction t with
  | nil => intro g; rfl
  | cons c t ih => intro g; simp [newc, ih]
/-- Places in order, not strictly at the first. -/
def Cz (n : Int) : Int → List Ed → Prop
  | p, [] => p ≤ n
  | p, e :: t => p ≤ e.a ∧ e.a ≤ e.b ∧ e.b ≤ n ∧ Ch n e.b t
theorem Ch.cz {n p : Int} {l : List Ed} (h : Ch n p l) (hp : p ≤ n) : Cz n p l := by
  cases l with
  | nil => exact hp
  | cons e t => exact ⟨by have := h.1; omega, h.2.1, h.2.2.1, h.2.2.2⟩
/-- Behind edits that have been passed. -/
theorem row_drop (n : Int) : ∀ (a1 a' : List Ed) (q sh h : Int) (g : Bool), Cz n q (a1 ++ a') → (∀ f t, (f, t) ∈ fsOf sh a1 → f + t.length ≤ h) → q + sh ≤ h → h - shOf sh a1 ≤ n → (∀ e t, a' = e :: t → h - shOf sh a1 ≤ e.a) →
    ∃ g3, ((cells g (cmp q (idr q n) (a1 ++ a'))).1.drop (h - (q + sh)).toNat, (cells g (cmp q (idr q n) (a1 ++ a'))).2) = cells g3 (cmp (h - shOf sh a1) (idr (h - shOf sh a1) n) a') ∧ (h = q + sh → (g = true ∨ a1 ≠ []) → g3 = true) ∧ (a1 = [] → q + sh < h → g3 = false)
  | [], a', q, sh, h, g, hc, _, hp, hn, ha => by
    simp only [List.nil_append, shOf] at hc hn ha ⊢
    have hab : ∀ e t, a' = e :: t → h - sh ≤ e.a ∧ e.a ≤ e.b := fun e t he => ⟨ha e t he, by subst he; exact hc.2.1⟩
    rw [cmp_split q (h - sh) (idr q n) a' (by omega) hab]
    have hd : ((idr q n).1.drop (h - sh - q).toNat, (idr q n).2) = idr (h - sh) n := by
      rw [idr_drop q (h - sh) n (by omega)]
      rfl
    rw [hd, cells_cAts, show h - (q + sh) = h - sh - q by omega]
    have hlen : (((idr q n).1.take (h - sh - q).toNat).length) = (h - sh - q).toNat := by
      rw [List.length_take]
      simp only [idr, List.length_map, List.length_range]
      omega
    cases hO : (idr q n).1.take (h - sh - q).toNat with
    | nil =>
      rw [hO] at hlen
      simp only [List.length_nil] at hlen
      refine ⟨g, by rw [← hlen]; rfl, fun _ hg => hg.elim id (fun x => absurd rfl x), fun _ hlt => by omega⟩
    | cons c r =>
      rw [hO] at hlen
      refine ⟨false, ?_, fun he _ => by simp at hlen; omega, fun _ _ => rfl⟩
      simp only
      rw [← hlen]
      have : ((g || c.1, c.2) :: r ++ (cells false (cmp (h - sh) (idr (h - sh) n) a')).1).drop (c :: r).length = (cells false (cmp (h - sh) (idr (h - sh) n) a')).1 := by
        rw [List.drop_append]
        simp
      rw [this]
  | e :: a1, a', q, sh, h, g, hc, hf, hp, hn, ha => by
    obtain ⟨c1, c2, c3, c4⟩ := hc
    obtain ⟨O, g1, g2, e1, e2, e3⟩ := row_cons n q e (a1 ++ a') g c1 c2 c3
    have hf0 := hf (e.a + sh) e.t List.mem_cons_self
    have hsh : e.b + (sh + grw e) = e.a + sh + e.t.length := by unfold grw; omega
    obtain ⟨g3, i1, i2, _⟩ := row_drop n a1 a' e.b (sh + grw e) h g2 (Ch.cz c4 c3) (fun f t hm => hf f t (List.mem_cons_of_mem _ hm)) (by omega) hn ha
    refine ⟨g3, ?_, fun hh _ => ?_, fun hh => by cases hh⟩
    · rw [List.cons_append, e1]
      simp only [shOf]
      rw [← i1]
      simp only [Prod.mk.injEq, and_true]
      have hl : (O ++ newc g1 e.t).length = (e.a - q).toNat + e.t.length := by rw [List.length_append, newc_len]; omega
      rw [show (h - (q + sh)).toNat = (O ++ newc g1 e.t).length + (h - (e.b + (sh + grw e))).toNat by rw [hl]; omega, List.drop_append]
      rw [List.drop_eq_nil_of_le (by omega), List.nil_append]
      congr 1
      omega
    · refine i2 (by omega) ?_
      by_cases hz : a1 = []
      · exact Or.inl (e3 (List.eq_nil_of_length_eq_zero (by omega)))
      · exact Or.inr hz
theorem putS_out : ∀ (fs : List (Int × List UInt8)) (x y : Int), (∀ f t, (f, t) ∈ fs → y ≤ f ∨ f + t.length ≤ x) → putS fs x y = []
  | [], x, y, _ => rfl
  | (f, t) :: r, x, y, h => by
    have h0 := h f t List.mem_cons_self
    simp only [putS]
    rw [if_neg (by omega), putS_out r x y (fun f t hm => h f t (List.mem_cons_of_mem _ hm))]
    rfl
theorem putS_eq : ∀ (fs : List (Int × List UInt8)) (x : Int), putS fs x x = []
  | [], x => rfl
  | (f, t) :: r, x => by
    simp only [putS]
    rw [if_neg (by omega), putS_eq r x]
    rfl
theorem putS_left : ∀ (fs : List (Int × List UInt8)) (x z y : Int), (∀ f t, (f, t) ∈ fs → z ≤ f) → x ≤ z → putS fs x y = putS fs z y
  | [], x, z, y, _, _ => rfl
  | (f, t) :: r, x, z, y, h, hx => by
    have h0 := h f t List.mem_cons_self
    simp only [putS]
    rw [putS_left r x z y (fun f t hm => h f t (List.mem_cons_of_mem _ hm)) hx, show max x f = max z f by omega]
theorem fs_ge (n : Int) : ∀ (a1 : List Ed) (q sh : Int), Cz n q a1 → ∀ f t, (f, t) ∈ fsOf sh a1 → q + sh ≤ f
  | e :: r, q, sh, hc, f, t, hm => by
    obtain ⟨c1, c2, c3, c4⟩ := hc
    simp only [fsOf, List.mem_cons, Prod.mk.injEq] at hm
    rcases hm with ⟨rfl, rfl⟩ | hm
    · omega
    · have := fs_ge n r e.b (sh + grw e) (Ch.cz c4 c3) f t hm
      unfold grw at this
      omega
theorem Cz.left {n q : Int} {a1 a' : List Ed} (h : Cz n q (a1 ++ a')) (hq : q ≤ n) : Cz n q a1 := by
  induction a1 generalizing q with
  | nil => exact hq
  | cons e r ih =>
    obtain ⟨c1, c2, c3, c4⟩ := h
    refine ⟨c1, c2, c3, ?_⟩
    have chl : ∀ (r : List Ed) (p : Int), Ch n p (r ++ a') → Ch n p r := by
      intro r
      induction r with
      | nil => intro p _; trivial
      | cons x r ih => intro p hx; exact ⟨hx.1, hx.2.1, hx.2.2.1, ih _ hx.2.2.2⟩
    exact chl r e.b c4
/-- What lies between two places that texts cover. -/
theorem row_seg (n : Int) : ∀ (a1 a' : List Ed) (q sh x y : Int) (g : Bool), Cz n q (a1 ++ a') → q ≤ n → q + sh ≤ x → x ≤ y → (∀ z, x ≤ z → z < y → Cov (fsOf sh a1) z) →
    (((cells g (cmp q (idr q n) (a1 ++ a'))).1.drop (x - (q + sh)).toNat).take (y - x).toNat).map (·.2) = (putS (fsOf sh a1) x y).map By.new
  | [], a', q, sh, x, y, g, hc, hq, hx, hy, hcov => by
    have e : y = x := by
      rcases Int.lt_or_le x y with h | h
      · obtain ⟨f, t, hm, _⟩ := hcov x (Int.le_refl _) h
        simp [fsOf] at hm
      · omega
    subst e
    simp [fsOf, putS]
  | e :: a1, a', q, sh, x, y, g, hc, hq, hx, hy, hcov => by
    have hc0 := hc
    obtain ⟨c1, c2, c3, c4⟩ := hc
    obtain ⟨O, g1, g2, e1, e2, e3⟩ := row_cons n q e (a1 ++ a') g c1 c2 c3
    have hsh : e.b + (sh + grw e) = e.a + sh + e.t.length := by unfold grw; omega
    have hge := fs_ge n a1 e.b (sh + grw e) (Cz.left (Ch.cz c4 c3) c3)
    have IH := fun x y => row_seg n a1 a' e.b (sh + grw e) x y g2 (Ch.cz c4 c3) c3
    rw [List.cons_append, e1]
    simp only [fsOf, putS]
    by_cases hxy : x = y
    · subst hxy
      rw [if_neg (by omega), putS_eq]
      simp
    have hx0 : e.a + sh ≤ x := by
      obtain ⟨f, t, hm, h1, h2⟩ := hcov x (Int.le_refl _) (by omega)
      simp only [fsOf, List.mem_cons, Prod.mk.injEq] at hm
      rcases hm with ⟨rfl, rfl⟩ | hm
      · exact h1
      · have := hge f t hm
        omega
    have hl : (O.length : Int) = e.a - q := e2
    have hdO : ∀ (X : List Cl) (i : Nat), O.length ≤ i → (O ++ X).drop i = X.drop (i - O.length) := by
      intro X i hi
      rw [List.drop_append, List.drop_eq_nil_of_le hi, List.nil_append]
    rw [List.append_assoc, hdO _ _ (by omega), show (x - (q + sh)).toNat - O.length = (x - (e.a + sh)).toNat by omega]
    by_cases hx1 : e.a + sh + e.t.length ≤ x
    · -- all of it lies behind the first text
      rw [if_neg (by omega), List.nil_append, List.drop_append, List.drop_eq_nil_of_le (by rw [newc_len]; omega), List.nil_append, newc_len, show (x - (e.a + sh)).toNat - e.t.length = (x - (e.b + (sh + grw e))).toNat by omega]
      refine IH x y (by omega) hy (fun z hz1 hz2 => ?_)
      obtain ⟨f, t, hm, h1, h2⟩ := hcov z hz1 hz2
      simp only [fsOf, List.mem_cons, Prod.mk.injEq] at hm
      rcases hm with ⟨rfl, rfl⟩ | hm
      · omega
      · exact ⟨f, t, hm, h1, h2⟩
    · by_cases hy1 : y ≤ e.a + sh + e.t.length
      · -- within the first text
        rw [if_pos (by omega), putS_out (fsOf (sh + grw e) a1) x y (fun f t hm => by have := hge f t hm; omega), List.append_nil]
        rw [List.drop_append_of_le_length (by rw [newc_len]; omega), List.take_append_of_le_length (by rw [List.length_drop, newc_len]; omega), List.map_take, List.map_drop, newc_by, ← List.map_drop, ← List.map_take]
        congr 2
        · omega
        · congr 1
          omega
      · -- the first text's end, and more behind it
        rw [if_pos (by omega)]
        rw [List.drop_append_of_le_length (by rw [newc_len]; omega)]
        have hz : (y - x).toNat = ((newc g1 e.t).drop (x - (e.a + sh)).toNat).length + (y - (e.a + sh + e.t.length)).toNat := by rw [List.length_drop, newc_len]; omega
        rw [hz, List.take_length_add_append, List.map_append, List.map_append]
        congr 1
        · rw [List.map_drop, newc_by, ← List.map_drop]
          congr 1
          rw [List.take_of_length_le (by rw [List.length_drop]; omega)]
          congr 1
          omega
        · have := IH (e.a + sh + e.t.length) y (by omega) (by omega) (fun z hz1 hz2 => by
            obtain ⟨f, t, hm, h1, h2⟩ := hcov z (by omega) hz2
            simp only [fsOf, List.mem_cons, Prod.mk.injEq] at hm
            rcases hm with ⟨rfl, rfl⟩ | hm
            · omega
            · exact ⟨f, t, hm, h1, h2⟩)
          rw [show (e.a + sh + e.t.length - (e.b + (sh + grw e))).toNat = 0 by omega, List.drop_zero] at this
          rw [this, ← putS_left (fsOf (sh + grw e) a1) x (e.a + sh + e.t.length) y (fun f t hm => by have := hge f t hm; omega) (by omega)]
end Go.Proofs.Ytaihajmdngoeiaa.Q

namespace Go.Proofs.Ytaihajmdngoeiaa.Q
set_option linter.unusedVariables false
set_option linter.unusedSimpArgs false

/-- A row from x to hi behind some edits. -/
def wat : Int → List Cl → List Ed → Int → List At
  | x, R, [], hi => cAts (R.take (hi - x).toNat)
  | x, R, e :: t, hi => cAts (R.take (e.a - x).toNat) ++ .mark :: (news e.t ++ wat e.b (R.drop (e.b - x).toNat) t hi)
def Sx : Int → List Ed → Int → Prop
  | x, [], hi => x ≤ hi
  | x, e :: t, hi => x ≤ e.a ∧ e.a ≤ e.b ∧ Sx e.b t hi
theorem Sx.le : ∀ {ss : List Ed} {x hi : Int}, Sx x ss hi → x ≤ hi
  | [], x, hi, h => h
  | e :: t, x, hi, h => by have := Sx.le h.2.2; have := h.1; have := h.2.1; omega
theorem cmp_wat (b' : List Ed) (fin : Bool) (hi : Int) (hb : ∀ e t, b' = e :: t → hi ≤ e.a ∧ e.a ≤ e.b) : ∀ (ss : List Ed) (x : Int) (R : List Cl), Sx x ss hi → cmp x (R, fin) (ss ++ b') = wat x R ss hi ++ cmp hi (R.drop (hi - x).toNat, fin) b'
  | [], x, R, h => cmp_split x hi (R, fin) b' h hb
  | e :: t, x, R, h => by
    obtain ⟨h1, h2, h3⟩ := h
    have hle := Sx.le h3
    simp only [List.cons_append, cmp, wat]
    rw [cmp_wat b' fin hi hb t e.b _ h3, List.drop_drop, show (e.b - x).toNat + (hi - e.b).toNat = (hi - x).toNat by omega]
    simp
def NoOld (Z : List At) : Prop := ∀ k, At.by (.old k) ∉ Z
def newAt : List At → List UInt8
  | [] => []
  | .by (.new c) :: r => c :: newAt r
  | _ :: r => newAt r
theorem newAt_append : ∀ (a b : List At), newAt (a ++ b) = newAt a ++ newAt b
  | [], b => rfl
  | .mark :: a, b => by simp [newAt, newAt_append a b]
  | .by (.new c) :: a, b => by simp [newAt, newAt_append a b]
  | .by (.old k) :: a, b => by simp [newAt, newAt_append a b]
theorem newAt_news (t : List UInt8) : newAt (news t) = t := by
  induction t with
  | nil => rfl
  | cons c t ih =>
    simp only [news, List.map_cons, newAt] at ih ⊢
    rw [ih]
theorem noOld_append {a b : List At} (ha : NoOld a) (hb : NoOld b) : NoOld (a ++ b) := by
  intro k h
  rcases List.mem_append.1 h with h | h
  · exact ha k h
  · exact hb k h
theorem noOld_news (t : List UInt8) : NoOld (news t) := by
  intro k h
  simp [news] at h
theorem seg_at : ∀ (C : List Cl) (t : List UInt8), C.map (·.2) = t.map By.new → NoOld (cAts C) ∧ newAt (cAts C) = t
  | [], [], _ => ⟨fun k h => by simp [cAts] at h, rfl⟩
  | [], c :: t, h => by simp at h
  | c :: C, [], h => by simp at h
  | (f, b) :: C, x :: t, h => by
    simp only [List.map_cons, List.cons.injEq] at h
    obtain ⟨h1, h2⟩ := h
    obtain ⟨i1, i2⟩ := seg_at C t h2
    have e : cAts ((f, b) :: C) = cAt (f, b) ++ cAts C := by simp [cAts]
    rw [e]
    subst h1
    constructor
    · refine noOld_append ?_ i1
      intro k hk
      cases f <;> simp [cAt] at hk
    · rw [newAt_append, i2]
      cases f <;> rfl
/-- New bytes are taken up into the edit. -/
theorem lst_new (n L : Int) : ∀ (Z : List At) (op : Bool) (tx : List UInt8) (g : Bool) (Y : List At), NoOld Z →
    ∃ op' g', lstC n L op tx (cells g (Z ++ Y)).1 (cells g (Z ++ Y)).2 = lstC n L op' (tx ++ newAt Z) (cells g' Y).1 (cells g' Y).2 ∧ ((op = true ∨ g = true ∨ Z ≠ []) → op' = true ∨ g' = true)
  | [], op, tx, g, Y, h => ⟨op, g, by simp [newAt], fun h => by rcases h with h | h | h; exact Or.inl h; exact Or.inr h; exact absurd rfl h⟩
  | .mark :: Z, op, tx, g, Y, h => by
    obtain ⟨op', g', h1, h2⟩ := lst_new n L Z op tx true Y (fun k hk => h k (List.mem_cons_of_mem _ hk))
    refine ⟨op', g', ?_, fun _ => h2 (Or.inr (Or.inl rfl))⟩
    simp only [List.cons_append, cells, newAt]
    exact h1
  | .by (.new c) :: Z, op, tx, g, Y, h => by
    obtain ⟨op', g', h1, h2⟩ := lst_new n L Z true (tx ++ [c]) false Y (fun k hk => h k (List.mem_cons_of_mem _ hk))
    refine ⟨op', g', ?_, fun _ => h2 (Or.inl rfl)⟩
    simp only [List.cons_append, cells, newAt, lstC]
    rw [h1]
    simp
  | .by (.old k) :: Z, op, tx, g, Y, h => absurd List.mem_cons_self (h k)
def writS : Int → List Ed → List (Int × List UInt8) → Int → List UInt8
  | x, [], fs, hi => putS fs x hi
  | x, e :: t, fs, hi => putS fs x e.a ++ (e.t ++ writS e.b t fs hi)
theorem wat_new (n : Int) (a1 a' : List Ed) (q sh : Int) (g : Bool) (hc : Cz n q (a1 ++ a')) (hq : q ≤ n) (hi : Int) : ∀ (ss : List Ed) (x : Int), q + sh ≤ x → Sx x ss hi → (∀ z, x ≤ z → z < hi → Cov (fsOf sh a1) z ∨ ∃ e ∈ ss, e.a ≤ z ∧ z < e.b) →
    NoOld (wat x ((cells g (cmp q (idr q n) (a1 ++ a'))).1.drop (x - (q + sh)).toNat) ss hi) ∧ newAt (wat x ((cells g (cmp q (idr q n) (a1 ++ a'))).1.drop (x - (q + sh)).toNat) ss hi) = writS x ss (fsOf sh a1) hi
  | [], x, hx, hS, hcov => by
    have hS' : x ≤ hi := hS
    exact seg_at _ _ (row_seg n a1 a' q sh x hi g hc hq hx hS' (fun z h1 h2 => (hcov z h1 h2).elim id (fun ⟨e, he, _⟩ => absurd he List.not_mem_nil)))
  | e :: t, x, hx, hS, hcov => by
    obtain ⟨h1, h2, h3⟩ := hS
    have hle := Sx.le h3
    have hall : ∀ (t : List Ed) (y : Int), Sx y t hi → ∀ e' ∈ t, y ≤ e'.a := by
      intro t
      induction t with
      | nil => intro y _ e' he; cases he
      | cons z t ih =>
        intro y hy e' he
        rcases List.mem_cons.1 he with rfl | he
        · exact hy.1
        · have := ih z.b hy.2.2 e' he
          have := hy.1
          have := hy.2.1
          omega
    obtain ⟨s1, s2⟩ := seg_at _ _ (row_seg n a1 a' q sh x e.a g hc hq hx h1 (fun z z1 z2 => (hcov z z1 (by omega)).elim id (fun ⟨e', he', k1, k2⟩ => by
      rcases List.mem_cons.1 he' with rfl | he'
      · omega
      · have := hall t e.b h3 e' he'
        omega)))
    obtain ⟨i1, i2⟩ := wat_new n a1 a' q sh g hc hq hi t e.b (by omega) h3 (fun z z1 z2 => by
      rcases hcov z (by omega) z2 with h | ⟨e', he', k1, k2⟩
      · exact Or.inl h
      · rcases List.mem_cons.1 he' with rfl | he'
        · omega
        · exact Or.inr ⟨e', he', k1, k2⟩)
    have hd : (((cells g (cmp q (idr q n) (a1 ++ a'))).1.drop (x - (q + sh)).toNat).drop (e.b - x).toNat) = (cells g (cmp q (idr q n) (a1 ++ a'))).1.drop (e.b - (q + sh)).toNat := by
      rw [List.drop_drop, show (x - (q + sh)).toNat + (e.b - x).toNat = (e.b - (q + sh)).toNat by omega]
    simp only [wat]
    rw [hd]
    constructor
    · refine noOld_append s1 ?_
      intro k hk
      rcases List.mem_cons.1 hk with hk | hk
      · cases hk
      · exact noOld_append (noOld_news e.t) i1 k hk
    · rw [newAt_append, s2]
      simp only [newAt]
      rw [newAt_append, newAt_news, i2]
      rfl

/-- The edits of both lists that touch, gathered: hi: how far they reach. -/
def gatL : Nat → Int → List Ed → List Ed → List Ed → List Ed → Int → Int × List Ed × List Ed × List Ed × List Ed
  | 0, hi, a1, ss, a, b, sh => (hi, a1, ss, a, b)
  | k + 1, hi, a1, ss, e :: r, b, sh => if e.a + sh ≤ hi then gatL k (max hi (e.a + sh + e.t.length)) (a1 ++ [e]) ss r b (sh + grw e) else
    (match b with
    | [] => (hi, a1, ss, e :: r, b)
    | f :: s => if f.a ≤ hi then gatL k (max hi f.b) a1 (ss ++ [f]) (e :: r) s sh else (hi, a1, ss, e :: r, b))
  | k + 1, hi, a1, ss, [], b, sh =>
    (match b with
    | [] => (hi, a1, ss, [], b)
    | f :: s => if f.a ≤ hi then gatL k (max hi f.b) a1 (ss ++ [f]) [] s sh else (hi, a1, ss, [], b))
/-- What is gathered. -/
structure Gat (sh lo hi : Int) (a1 ss a' b' : List Ed) : Prop where
  le_ : lo ≤ hi
  fs_ : ∀ f t, (f, t) ∈ fsOf sh a1 → lo ≤ f ∧ f + t.length ≤ hi
  ss_ : Sx lo ss hi
  cov_ : ∀ z, lo ≤ z → z < hi → Cov (fsOf sh a1) z ∨ ∃ e ∈ ss, e.a ≤ z ∧ z < e.b
def lastB : Int → List Ed → Int
  | x, [] => x
  | x, e :: t => lastB e.b t
theorem fsOf_snoc : ∀ (a1 : List Ed) (sh : Int) (e : Ed), fsOf sh (a1 ++ [e]) = fsOf sh a1 ++ [(e.a + shOf sh a1, e.t)]
  | [], sh, e => rfl
  | x :: a1, sh, e => by simp only [List.cons_append, fsOf, shOf]; rw [fsOf_snoc a1]
theorem shOf_snoc : ∀ (a1 : List Ed) (sh : Int) (e : Ed), shOf sh (a1 ++ [e]) = shOf sh a1 + grw e
  | [], sh, e => rfl
  | x :: a1, sh, e => by simp only [List.cons_append, shOf]; rw [shOf_snoc a1]
theorem Sx_snoc : ∀ (ss : List Ed) (x hi hi' : Int) (e : Ed), Sx x ss hi → lastB x ss ≤ e.a → e.a ≤ e.b → e.b ≤ hi' → Sx x (ss ++ [e]) hi'
  | [], x, hi, hi', e, h, h1, h2, h3 => ⟨h1, h2, h3⟩
  | y :: ss, x, hi, hi', e, h, h1, h2, h3 => ⟨h.1, h.2.1, Sx_snoc ss y.b hi hi' e h.2.2 h1 h2 h3⟩
theorem Sx_up : ∀ (ss : List Ed) (x hi hi' : Int), Sx x ss hi → hi ≤ hi' → Sx x ss hi'
  | [], x, hi, hi', h, h1 => by have : x ≤ hi := h; show x ≤ hi'; omega
  | y :: ss, x, hi, hi', h, h1 => ⟨h.1, h.2.1, Sx_up ss y.b hi hi' h.2.2 h1⟩
theorem Gat.addA {sh lo hi : Int} {a1 ss r b : List Ed} {e : Ed} (h : Gat sh lo hi a1 ss (e :: r) b) (h1 : e.a + shOf sh a1 ≤ hi) (h0 : lo ≤ e.a + shOf sh a1) : Gat sh lo (max hi (e.a + shOf sh a1 + e.t.length)) (a1 ++ [e]) ss r b where
  le_ := by have := h.le_; omega
  fs_ := by
    intro f t hm
    rw [fsOf_snoc] at hm
    rcases List.mem_append.1 hm with hm | hm
    · have := h.fs_ f t hm; omega
    · simp only [List.mem_singleton, Prod.mk.injEq] at hm
      obtain ⟨rfl, rfl⟩ := hm
      omega
  ss_ := Sx_up _ _ _ _ h.ss_ (by omega)
  cov_ := by
    intro z z1 z2
    rw [fsOf_snoc]
    by_cases hz : z < hi
    · rcases h.cov_ z z1 hz with ⟨f, t, hm, k⟩ | k
      · exact Or.inl ⟨f, t, List.mem_append_left _ hm, k⟩
      · exact Or.inr k
    · exact Or.inl ⟨e.a + shOf sh a1, e.t, List.mem_append_right _ (by simp), by omega, by omega⟩
theorem Gat.addB {sh lo hi : Int} {a1 ss a s : List Ed} {f : Ed} (h : Gat sh lo hi a1 ss a (f :: s)) (h1 : f.a ≤ hi) (h0 : lastB lo ss ≤ f.a) (h2 : f.a ≤ f.b) : Gat sh lo (max hi f.b) a1 (ss ++ [f]) a s where
  le_ := by have := h.le_; omega
  fs_ := fun g t hm => by have := h.fs_ g t hm; omega
  ss_ := Sx_snoc _ _ _ _ _ h.ss_ h0 h2 (by omega)
  cov_ := by
    intro z z1 z2
    by_cases hz : z < hi
    · rcases h.cov_ z z1 hz with k | ⟨e, he, k⟩
      · exact Or.inl k
      · exact Or.inr ⟨e, List.mem_append_left _ he, k⟩
    · exact Or.inr ⟨f, List.mem_append_right _ (by simp), by omega, by omega⟩
end Go.Proofs.Ytaihajmdngoeiaa.Q

namespace Go.Proofs.Ytaihajmdngoeiaa.Q
set_option linter.unusedVariables false
set_option linter.unusedSimpArgs false

theorem cz_next (n : Int) : ∀ (a1 : List Ed) (q sh : Int) (e : Ed) (t : List Ed), Cz n q (a1 ++ e :: t) → q + sh ≤ e.a + shOf sh a1 ∧ e.a ≤ e.b ∧ e.b ≤ n
  | [], q, sh, e, t, h => ⟨by have := h.1; simp only [shOf]; omega, h.2.1, h.2.2.1⟩
  | x :: a1, q, sh, e, t, h => by
    obtain ⟨c1, c2, c3, c4⟩ := h
    have := cz_next n a1 x.b (sh + grw x) e t (Ch.cz c4 c3)
    simp only [shOf]
    unfold grw at this ⊢
    exact ⟨by omega, this.2⟩
theorem cz_last (m : Int) : ∀ (ss : List Ed) (x : Int) (f : Ed) (s : List Ed), Cz m x (ss ++ f :: s) → lastB x ss ≤ f.a ∧ f.a ≤ f.b ∧ f.b ≤ m
  | [], x, f, s, h => ⟨h.1, h.2.1, h.2.2.1⟩
  | y :: ss, x, f, s, h => by
    obtain ⟨c1, c2, c3, c4⟩ := h
    exact cz_last m ss y.b f s (Ch.cz c4 c3)
theorem cz_end (n : Int) : ∀ (a : List Ed) (q sh : Int), Cz n q a → q + sh ≤ n + shOf sh a
  | [], q, sh, h => by have : q ≤ n := h; simp only [shOf]; omega
  | e :: r, q, sh, h => by
    obtain ⟨c1, c2, c3, c4⟩ := h
    have := cz_end n r e.b (sh + grw e) (Ch.cz c4 c3)
    simp only [shOf]
    unfold grw at this ⊢
    omega
theorem shOf_append : ∀ (a b : List Ed) (sh : Int), shOf sh (a ++ b) = shOf (shOf sh a) b
  | [], b, sh => rfl
  | e :: a, b, sh => by simp only [List.cons_append, shOf]; exact shOf_append a b _
theorem cz_text (n : Int) (a1 : List Ed) (q sh : Int) (e : Ed) (t : List Ed) (h : Cz n q (a1 ++ e :: t)) : e.a + shOf sh a1 + e.t.length ≤ n + shOf sh (a1 ++ e :: t) := by
  have key : ∀ (a1 : List Ed) (q sh : Int), Cz n q (a1 ++ e :: t) → e.a + shOf sh a1 + e.t.length ≤ n + shOf sh (a1 ++ e :: t) := by
    intro a1
    induction a1 with
    | nil =>
      intro q sh h
      obtain ⟨c1, c2, c3, c4⟩ := h
      have := cz_end n t e.b (sh + grw e) (Ch.cz c4 c3)
      simp only [List.nil_append, shOf]
      unfold grw at this ⊢
      omega
    | cons x a1 ih =>
      intro q sh h
      obtain ⟨c1, c2, c3, c4⟩ := h
      simp only [List.cons_append, shOf]
      exact ih x.b (sh + grw x) (Ch.cz c4 c3)
  exact key a1 q sh h
/-- The gathering, to its end. -/
structure Done_ (n m q sh lo : Int) (a b : List Ed) (R : Int × List Ed × List Ed × List Ed × List Ed) : Prop where
  ha : R.2.1 ++ R.2.2.2.1 = a
  hb : R.2.2.1 ++ R.2.2.2.2 = b
  gat : Gat sh lo R.1 R.2.1 R.2.2.1 R.2.2.2.1 R.2.2.2.2
  hm : R.1 ≤ m
  stopA : ∀ e t, R.2.2.2.1 = e :: t → R.1 < e.a + shOf sh R.2.1
  stopB : ∀ f s, R.2.2.2.2 = f :: s → R.1 < f.a
theorem gatL_spec (n m q sh lo : Int) (hq : lo = q + sh) (a b : List Ed) (hA : Cz n q a) (hB : Cz m lo b) (hm0 : m = n + shOf sh a) : ∀ (k : Nat) (hi : Int) (a1 ss a' b' : List Ed) (shc : Int), a'.length + b'.length < k → a1 ++ a' = a → ss ++ b' = b → Gat sh lo hi a1 ss a' b' → hi ≤ m → shc = shOf sh a1 →
    Done_ n m q sh lo a b (gatL k hi a1 ss a' b' shc) ∧ a1.length + ss.length ≤ (gatL k hi a1 ss a' b' shc).2.1.length + (gatL k hi a1 ss a' b' shc).2.2.1.length := by
  intro k
  induction k with
  | zero => intro hi a1 ss a' b' shc h; omega
  | succ k ih =>
    intro hi a1 ss a' b' shc hk ha hb hG hm hs
    subst hs
    -- b's turn, once no edit of a is near
    have turnB : ∀ (a'' : List Ed), a'' = a' → (∀ e t, a'' = e :: t → hi < e.a + shOf sh a1) →
        (let R := (match b' with | [] => (hi, a1, ss, a'', b') | f :: s => if f.a ≤ hi then gatL k (max hi f.b) a1 (ss ++ [f]) a'' s (shOf sh a1) else (hi, a1, ss, a'', b'))
        Done_ n m q sh lo a b R ∧ a1.length + ss.length ≤ R.2.1.length + R.2.2.1.length) := by
      intro a'' haa hstop
      subst haa
      cases b' with
      | nil => exact ⟨⟨ha, hb, hG, hm, hstop, fun f s h => by cases h⟩, Nat.le_refl _⟩
      | cons f s =>
        simp only []
        by_cases hf : f.a ≤ hi
        · rw [if_pos hf]
          have hcz := cz_last m ss lo f s (by rw [hb]; exact hB)
          obtain ⟨r1, r2⟩ := ih (max hi f.b) a1 (ss ++ [f]) a'' s (shOf sh a1) (by simp only [List.length_cons] at hk; omega) ha (by simp [hb]) (hG.addB hf hcz.1 hcz.2.1) (by omega) rfl
          refine ⟨r1, ?_⟩
          simp only [List.length_append, List.length_cons, List.length_nil] at r2
          omega
        · rw [if_neg hf]
          refine ⟨⟨ha, hb, hG, hm, hstop, fun g u h => ?_⟩, Nat.le_refl _⟩
          injection h with h1 _
          subst h1
          simp only
          omega
    cases a' with
    | nil =>
      have := turnB [] rfl (fun e t h => by cases h)
      cases b' with
      | nil => exact this
      | cons f s => exact this
    | cons e r =>
      by_cases he : e.a + shOf sh a1 ≤ hi
      · have hcz := cz_next n a1 q sh e r (by rw [ha]; exact hA)
        have htx := cz_text n a1 q sh e r (by rw [ha]; exact hA)
        rw [ha] at htx
        obtain ⟨r1, r2⟩ := ih (max hi (e.a + shOf sh a1 + e.t.length)) (a1 ++ [e]) ss r b' (shOf sh a1 + grw e) (by simp only [List.length_cons] at hk; omega) (by simp [ha]) hb (hG.addA he (by omega)) (by omega) (shOf_snoc a1 sh e).symm
        have hstep : gatL (k + 1) hi a1 ss (e :: r) b' (shOf sh a1) = gatL k (max hi (e.a + shOf sh a1 + e.t.length)) (a1 ++ [e]) ss r b' (shOf sh a1 + grw e) := by
          cases b' <;> simp only [gatL] <;> rw [if_pos he]
        rw [hstep]
        refine ⟨r1, ?_⟩
        simp only [List.length_append, List.length_cons, List.length_nil] at r2
        omega
      · have := turnB (e :: r) rfl (fun x t h => by injection h with h1 _; subst h1; omega)
        cases b' with
        | nil =>
          simp only [gatL]
          rw [if_neg he]
          exact this
        | cons f s =>
          simp only [gatL]
          rw [if_neg he]
          exact this
/-- The first of both lists begins a group. -/
def gat0 (sh : Int) : List Ed → List Ed → Int × (Int × List Ed × List Ed × List Ed × List Ed)
  | [], [] => (0, (0, [], [], [], []))
  | e :: r, [] => (e.a + sh, gatL (r.length + 1) (max 0 (e.a + sh + e.t.length)) [e] [] r [] (sh + grw e))
  | [], f :: s => (f.a, gatL (s.length + 1) (max 0 f.b) [] [f] [] s sh)
  | e :: r, f :: s => if e.a + sh ≤ f.a then (e.a + sh, gatL (r.length + (s.length + 1) + 1) (max 0 (e.a + sh + e.t.length)) [e] [] r (f :: s) (sh + grw e)) else (f.a, gatL ((r.length + 1) + s.length + 1) (max 0 f.b) [] [f] (e :: r) s sh)
theorem gat0_spec (n m q sh lo : Int) (h0 : 0 ≤ lo) (hq : lo = q + sh) (a b : List Ed) (hA : Cz n q a) (hB : Cz m lo b) (hm0 : m = n + shOf sh a)
    (hlo : (∃ e t, a = e :: t ∧ e.a + sh = lo) ∨ (∃ f s, b = f :: s ∧ f.a = lo ∧ ∀ e t, a = e :: t → lo < e.a + sh)) :
    (gat0 sh a b).1 = lo ∧ Done_ n m q sh lo a b (gat0 sh a b).2 ∧ 1 ≤ (gat0 sh a b).2.2.1.length + (gat0 sh a b).2.2.2.1.length := by
  have byA : ∀ e r, a = e :: r → e.a + sh = lo → ∀ k, r.length + b.length < k → Done_ n m q sh lo a b (gatL k (max 0 (e.a + sh + e.t.length)) [e] [] r b (sh + grw e)) ∧ 1 ≤ (gatL k (max 0 (e.a + sh + e.t.length)) [e] [] r b (sh + grw e)).2.1.length + (gatL k (max 0 (e.a + sh + e.t.length)) [e] [] r b (sh + grw e)).2.2.1.length := by
    intro e r ha he k hk
    have htx := cz_text n [] q sh e r (by rw [List.nil_append, ← ha]; exact hA)
    simp only [List.nil_append, shOf] at htx
    have hG : Gat sh lo (max 0 (e.a + sh + e.t.length)) [e] [] r b := by
      refine ⟨by omega, fun f t hm => ?_, ?_, fun z z1 z2 => ?_⟩
      · simp only [fsOf, List.mem_singleton, Prod.mk.injEq] at hm
        obtain ⟨rfl, rfl⟩ := hm
        omega
      · show lo ≤ _
        omega
      · exact Or.inl ⟨e.a + sh, e.t, by simp [fsOf], by omega, by omega⟩
    have := gatL_spec n m q sh lo hq a b hA hB hm0 k (max 0 (e.a + sh + e.t.length)) [e] [] r b (sh + grw e) hk (by simp [ha]) (by simp) hG (by rw [hm0, ha]; simp only [shOf]; omega) rfl
    simpa using this
  have byB : ∀ f s, b = f :: s → f.a = lo → ∀ k, a.length + s.length < k → Done_ n m q sh lo a b (gatL k (max 0 f.b) [] [f] a s sh) ∧ 1 ≤ (gatL k (max 0 f.b) [] [f] a s sh).2.1.length + (gatL k (max 0 f.b) [] [f] a s sh).2.2.1.length := by
    intro f s hb hf k hk
    have hB' := hB
    rw [hb] at hB'
    obtain ⟨c1, c2, c3, c4⟩ := hB'
    have hG : Gat sh lo (max 0 f.b) [] [f] a s := by
      refine ⟨by omega, fun g t hm => by simp [fsOf] at hm, ⟨by omega, c2, by show f.b ≤ _; omega⟩, fun z z1 z2 => ?_⟩
      exact Or.inr ⟨f, by simp, by omega, by omega⟩
    have := gatL_spec n m q sh lo hq a b hA hB hm0 k (max 0 f.b) [] [f] a s sh hk (by simp) (by simp [hb]) hG (by omega) rfl
    simpa using this
  cases a with
  | nil =>
    cases b with
    | nil => rcases hlo with ⟨e, t, h, _⟩ | ⟨f, s, h, _⟩ <;> cases h
    | cons f s =>
      have hf : f.a = lo := by
        rcases hlo with ⟨e, t, h, _⟩ | ⟨g, u, h, h2, _⟩
        · cases h
        · injection h with h1 _; rw [h1]; exact h2
      simp only [gat0]
      exact ⟨hf, byB f s rfl hf _ (by simp)⟩
  | cons e r =>
    cases b with
    | nil =>
      have he : e.a + sh = lo := by
        rcases hlo with ⟨x, t, h, h2⟩ | ⟨g, u, h, _⟩
        · injection h with h1 _; rw [h1]; exact h2
        · cases h
      simp only [gat0]
      exact ⟨he, byA e r rfl he _ (by simp)⟩
    | cons f s =>
      have hAe : q ≤ e.a := hA.1
      have hBf : lo ≤ f.a := hB.1
      simp only [gat0]
      rcases hlo with ⟨x, t, h, h2⟩ | ⟨g, u, h, h2, h3⟩
      · injection h with h1 _
        subst h1
        rw [if_pos (by omega)]
        exact ⟨h2, byA e r rfl h2 _ (by simp)⟩
      · injection h with h1 _
        subst h1
        have := h3 e r rfl
        rw [if_neg (by omega)]
        exact ⟨h2, byB f s rfl h2 _ (by simp)⟩
/-- All groups. -/
def groups : Nat → List Ed → List Ed → Int → List Ed
  | 0, _, _, _ => []
  | k + 1, a, b, sh => if a = [] ∧ b = [] then [] else
    ⟨(gat0 sh a b).1 - sh, (gat0 sh a b).2.1 - shOf sh (gat0 sh a b).2.2.1, writS (gat0 sh a b).1 (gat0 sh a b).2.2.2.1 (fsOf sh (gat0 sh a b).2.2.1) (gat0 sh a b).2.1⟩ :: groups k (gat0 sh a b).2.2.2.2.1 (gat0 sh a b).2.2.2.2.2 (shOf sh (gat0 sh a b).2.2.1)
theorem ch_right (n : Int) : ∀ (a1 a' : List Ed) (q : Int), Ch n q (a1 ++ a') → ∃ q', Ch n q' a' ∧ q ≤ q'
  | [], a', q, h => ⟨q, h, Int.le_refl _⟩
  | e :: a1, a', q, h => by
    obtain ⟨q', h1, h2⟩ := ch_right n a1 a' e.b h.2.2.2
    exact ⟨q', h1, by have := h.1; have := h.2.1; omega⟩
theorem cz_right (n : Int) (a1 a' : List Ed) (q : Int) (h : Cz n q (a1 ++ a')) : Cz n q a' ∨ ∃ q', Ch n q' a' := by
  cases a1 with
  | nil => exact Or.inl h
  | cons e a1 =>
    obtain ⟨q', h1, _⟩ := ch_right n a1 a' e.b h.2.2.2
    exact Or.inr ⟨q', h1⟩
theorem ch_from (n : Int) (a' : List Ed) (q x : Int) (h : Cz n q a' ∨ ∃ q', Ch n q' a') (hx : ∀ e t, a' = e :: t → x < e.a) : Ch n x a' := by
  cases a' with
  | nil => trivial
  | cons e t =>
    rcases h with h | ⟨q', h⟩
    · exact ⟨hx e t rfl, h.2⟩
    · exact ⟨hx e t rfl, h.2⟩
end Go.Proofs.Ytaihajmdngoeiaa.Q

namespace Go.Proofs.Ytaihajmdngoeiaa.Q
set_option linter.unusedVariables false
set_option linter.unusedSimpArgs false

theorem cells_again : ∀ (X : List At) (g g' : Bool), cells g (cAts (cells g' X).1 ++ fAt (cells g' X).2) = cells (g || g') X
  | [], g, g' => by cases g' <;> simp [cells, cAts, fAt]
  | .mark :: X, g, g' => by
    simp only [cells]
    rw [cells_again X g true]
    simp
  | .by b :: X, g, g' => by
    have ih := cells_again X false false
    simp only [cells]
    have e : cAts ((g', b) :: (cells false X).1) = cAt (g', b) ++ cAts (cells false X).1 := by simp [cAts]
    rw [e, List.append_assoc]
    cases g' with
    | false =>
      simp only [cAt, Bool.false_eq_true, if_false, List.cons_append, List.nil_append, cells]
      rw [ih]
      simp
    | true =>
      simp only [cAt, if_true, List.cons_append, List.nil_append, cells]
      rw [ih]
      simp
theorem row_len (n : Int) : ∀ (a : List Ed) (q sh : Int) (g : Bool), Cz n q a → ((cells g (cmp q (idr q n) a)).1.length : Int) = n + shOf sh a - (q + sh)
  | [], q, sh, g, h => by
    have hq : q ≤ n := h
    rw [cmp_nil]
    have := cells_cAts (idr q n).1 [] g
    rw [List.append_nil] at this
    rw [this]
    have hl : (((idr q n).1).length : Int) = n - q := by simp [idr]; omega
    cases hO : (idr q n).1 with
    | nil =>
      rw [hO] at hl
      simp only [List.length_nil] at hl
      simp only [cells, List.length_nil, shOf]
      omega
    | cons c r =>
      rw [hO] at hl
      simp only [List.length_cons] at hl
      simp only [List.length_append, List.length_cons, cells, List.length_nil, shOf]
      omega
  | e :: a, q, sh, g, h => by
    obtain ⟨c1, c2, c3, c4⟩ := h
    obtain ⟨O, g1, g2, e1, e2, _⟩ := row_cons n q e a g c1 c2 c3
    have ih := row_len n a e.b (sh + grw e) g2 (Ch.cz c4 c3)
    rw [e1]
    simp only [List.length_append, newc_len, shOf]
    unfold grw at ih ⊢
    omega
theorem q_le (n : Int) : ∀ (a1 : List Ed) (q sh hi : Int), Cz n q a1 → (∀ f t, (f, t) ∈ fsOf sh a1 → f + t.length ≤ hi) → q + sh ≤ hi → q ≤ hi - shOf sh a1
  | [], q, sh, hi, _, _, h => by simp only [shOf]; omega
  | e :: r, q, sh, hi, hc, hf, h => by
    obtain ⟨c1, c2, c3, c4⟩ := hc
    have h0 := hf (e.a + sh) e.t (by simp [fsOf])
    have := q_le n r e.b (sh + grw e) hi (Ch.cz c4 c3) (fun f t hm => hf f t (by simp only [fsOf]; exact List.mem_cons_of_mem _ hm)) (by unfold grw; omega)
    simp only [shOf]
    omega
def GG (n m : Int) (k : Nat) : Prop := ∀ (a b : List Ed) (q sh : Int) (g g' : Bool) (L : Int) (op : Bool) (tx : List UInt8), a.length + b.length < k → Ch n q a → q ≤ n → Ch m (q + sh) b → m = n + shOf sh a → 0 ≤ q + sh → q + sh ≤ m → L ≤ q → (op = true ∨ g = true ∨ g' = true) →
  lstC n L op tx (cells g (cmp (q + sh) (cells g' (cmp q (idr q n) a)) b)).1 (cells g (cmp (q + sh) (cells g' (cmp q (idr q n) a)) b)).2 = ⟨L, q, tx⟩ :: groups k a b sh
theorem cAts_nil {C : List Cl} (h : cAts C = []) : C = [] := by
  cases C with
  | nil => rfl
  | cons c C =>
    obtain ⟨f, b⟩ := c
    cases f <;> simp [cAts, cAt] at h
/-- A group, where it begins. -/
theorem group_one (n m : Int) (k : Nat) (IH : GG n m k) (a b : List Ed) (q sh lo : Int) (hk : a.length + b.length < k + 1) (h0 : 0 ≤ lo) (hq : lo = q + sh) (hA : Cz n q a) (hqn : q ≤ n) (hB : Cz m lo b) (hm0 : m = n + shOf sh a)
    (hlo : (∃ e t, a = e :: t ∧ e.a + sh = lo) ∨ (∃ f s, b = f :: s ∧ f.a = lo ∧ ∀ e t, a = e :: t → lo < e.a + sh)) :
    lstC n q false [] (cells false (cmp lo (cells false (cmp q (idr q n) a)) b)).1 (cells false (cmp lo (cells false (cmp q (idr q n) a)) b)).2 = groups (k + 1) a b sh := by
  obtain ⟨s1, s2, s3⟩ := gat0_spec n m q sh lo h0 hq a b hA hB hm0 hlo
  have hne : ¬ (a = [] ∧ b = []) := by
    rintro ⟨ha, hb⟩
    rcases hlo with ⟨e, t, h, _⟩ | ⟨f, s, h, _⟩
    · rw [ha] at h; cases h
    · rw [hb] at h; cases h
  simp only [groups]
  rw [if_neg hne, s1]
  obtain ⟨⟨hi, a1, ss, a', b'⟩, hR⟩ : ∃ R, (gat0 sh a b).2 = R := ⟨_, rfl⟩
  rw [hR] at s2 s3 ⊢
  obtain ⟨e1, e2, gt, hm, st1, st2⟩ := s2
  simp only at e1 e2 gt hm st1 st2 s3 ⊢
  subst e1
  subst e2
  have hle := gt.le_
  have hA1 := Cz.left hA hqn
  have hfs := fun f t hm => (gt.fs_ f t hm).2
  have hq' : q ≤ hi - shOf sh a1 := q_le n a1 q sh hi hA1 hfs (by omega)
  have hb'f := cz_right m ss b' lo hB
  have hb'o : ∀ e t, b' = e :: t → hi ≤ e.a ∧ e.a ≤ e.b := by
    intro e t he
    have h1 := st2 e t he
    rw [he] at hB
    exact ⟨by omega, (cz_last m ss lo e t hB).2.1⟩
  have hm1 : m = n + shOf (shOf sh a1) a' := by rw [hm0, shOf_append]
  have hq'n : hi - shOf sh a1 ≤ n := by
    cases ha' : a' with
    | nil =>
      rw [ha'] at hm1
      simp only [shOf] at hm1
      omega
    | cons e t =>
      have h1 := st1 e t ha'
      rw [ha'] at hA
      have := (cz_next n a1 q sh e t hA).2
      omega
  have hlenR := row_len n (a1 ++ a') q sh false hA
  rw [cmp_wat b' (cells false (cmp q (idr q n) (a1 ++ a'))).2 hi hb'o ss lo (cells false (cmp q (idr q n) (a1 ++ a'))).1 gt.ss_]
  obtain ⟨w1, w2⟩ := wat_new n a1 a' q sh false hA hqn hi ss lo (by omega) gt.ss_ gt.cov_
  rw [show (lo - (q + sh)).toNat = 0 by omega, List.drop_zero] at w1 w2
  obtain ⟨g3, d1, d2, _⟩ := row_drop n a1 a' q sh hi false hA hfs (by omega) hq'n (fun e t he => by have := st1 e t he; omega)
  rw [← hq] at d1 d2
  rw [d1]
  obtain ⟨op', g', z1, z2⟩ := lst_new n q (wat lo (cells false (cmp q (idr q n) (a1 ++ a'))).1 ss hi) false [] false (cmp hi (cells g3 (cmp (hi - shOf sh a1) (idr (hi - shOf sh a1) n) a')) b') w1
  rw [z1, w2, List.nil_append]
  have hflag : op' = true ∨ g' = true ∨ g3 = true := by
    by_cases hZ : wat lo (cells false (cmp q (idr q n) (a1 ++ a'))).1 ss hi = []
    · right; right
      cases ss with
      | cons e t =>
        simp only [wat] at hZ
        have := (List.append_eq_nil_iff.1 hZ).2
        cases this
      | nil =>
        have hC := cAts_nil hZ
        have hz : hi = lo := by
          have h2 := congrArg List.length hC
          rw [List.length_take] at h2
          simp only [List.length_nil] at h2
          omega
        refine d2 hz (Or.inr ?_)
        intro hz1
        rw [hz1] at s3
        simp at s3
    · rcases z2 (Or.inr (Or.inr hZ)) with h | h
      · exact Or.inl h
      · exact Or.inr (Or.inl h)
  have hlen : a'.length + b'.length < k := by
    simp only [List.length_append] at hk
    omega
  have := IH a' b' (hi - shOf sh a1) (shOf sh a1) g' g3 q op' (writS lo ss (fsOf sh a1) hi) hlen (ch_from n a' q _ (cz_right n a1 a' q hA) (fun e t he => by have := st1 e t he; omega)) hq'n (by
    rw [show hi - shOf sh a1 + shOf sh a1 = hi by omega]
    exact ch_from m b' lo hi hb'f st2) hm1 (by omega) (by omega) hq' hflag
  rw [show hi - shOf sh a1 + shOf sh a1 = hi by omega] at this
  rw [this, show lo - sh = q by omega]
theorem next_lo (a b : List Ed) (sh : Int) (h : ¬ (a = [] ∧ b = [])) : ∃ lo, ((∃ e t, a = e :: t ∧ e.a + sh = lo) ∨ (∃ f s, b = f :: s ∧ f.a = lo ∧ ∀ e t, a = e :: t → lo < e.a + sh)) ∧ (∀ e t, a = e :: t → lo ≤ e.a + sh) ∧ (∀ f s, b = f :: s → lo ≤ f.a) := by
  cases a with
  | nil =>
    cases b with
    | nil => exact absurd ⟨rfl, rfl⟩ h
    | cons f s => exact ⟨f.a, Or.inr ⟨f, s, rfl, rfl, fun e t h => by cases h⟩, (fun e t h => by cases h), fun g u h => by injection h with h _; rw [h]; exact Int.le_refl _⟩
  | cons e r =>
    cases b with
    | nil => exact ⟨e.a + sh, Or.inl ⟨e, r, rfl, rfl⟩, (fun x t h => by injection h with h _; rw [h]; exact Int.le_refl _), fun g u h => by cases h⟩
    | cons f s =>
      by_cases hc : e.a + sh ≤ f.a
      · exact ⟨e.a + sh, Or.inl ⟨e, r, rfl, rfl⟩, (fun x t h => by injection h with h _; rw [h]; exact Int.le_refl _), fun g u h => by injection h with h _; rw [← h]; exact hc⟩
      · exact ⟨f.a, Or.inr ⟨f, s, rfl, rfl, fun x t h => by injection h with h _; rw [← h]; omega⟩, (fun x t h => by injection h with h _; rw [← h]; omega), fun g u h => by injection h with h _; rw [h]; exact Int.le_refl _⟩
/-- Old bytes, up to where the next group begins. -/
theorem group_next (n m : Int) (k : Nat) (IH : GG n m k) (a b : List Ed) (q sh lo : Int) (g g' : Bool) (L : Int) (op : Bool) (tx : List UInt8) (hk : a.length + b.length < k + 1) (h0 : 0 ≤ q + sh) (hlt : q + sh < lo) (hA : Cz n q a) (hqn : q ≤ n) (hB : Cz m (q + sh) b) (hm0 : m = n + shOf sh a) (hL : L ≤ q)
    (hlo : (∃ e t, a = e :: t ∧ e.a + sh = lo) ∨ (∃ f s, b = f :: s ∧ f.a = lo ∧ ∀ e t, a = e :: t → lo < e.a + sh)) (hla : ∀ e t, a = e :: t → lo ≤ e.a + sh) (hlb : ∀ f s, b = f :: s → lo ≤ f.a) :
    lstC n L op tx (cells g (cmp (q + sh) (cells g' (cmp q (idr q n) a)) b)).1 (cells g (cmp (q + sh) (cells g' (cmp q (idr q n) a)) b)).2 = (if op = true ∨ (g || g') = true ∨ L < q then [⟨L, q, tx⟩] else []) ++ groups (k + 1) a b sh := by
  have hln : lo - sh ≤ n := by
    rcases hlo with ⟨e, t, h, h2⟩ | ⟨f, s, h, h2, h3⟩
    · rw [h] at hA
      have := hA.2.1
      have := hA.2.2.1
      omega
    · rw [h] at hB
      have b1 := hB.2.1
      have b2 := hB.2.2.1
      cases a with
      | nil =>
        simp only [shOf] at hm0
        omega
      | cons e t =>
        have := h3 e t rfl
        have := hA.2.1
        have := hA.2.2.1
        omega
  have hA2 : Cz n (lo - sh) a := by
    cases a with
    | nil => exact hln
    | cons e t => exact ⟨by have := hla e t rfl; omega, hA.2⟩
  have hB2 : Cz m lo b := by
    cases b with
    | nil =>
      rcases hlo with ⟨e, t, h, h2⟩ | ⟨f, s, h, _⟩
      · have := cz_end n a (lo - sh) sh hA2
        show lo ≤ m
        omega
      · cases h
    | cons f s => exact ⟨hlb f s rfl, hB.2⟩
  have hbo : ∀ e t, b = e :: t → lo ≤ e.a ∧ e.a ≤ e.b := fun e t he => by
    have h1 := hlb e t he
    rw [he] at hB
    exact ⟨h1, hB.2.1⟩
  have hao : ∀ e t, a = e :: t → lo - sh ≤ e.a ∧ e.a ≤ e.b := fun e t he => by
    have h1 := hla e t he
    rw [he] at hA
    exact ⟨by omega, hA.2.1⟩
  obtain ⟨g3, d1, _, d3⟩ := row_drop n [] a q sh lo g' (by simpa using hA) (fun f t hm => by simp [fsOf] at hm) (by omega) (by simpa [shOf] using hln) (fun e t he => by have := hla e t he; simp only [shOf]; omega)
  simp only [List.nil_append, shOf] at d1
  have hg3 := d3 rfl hlt
  subst hg3
  rw [cmp_split (q + sh) lo (cells g' (cmp q (idr q n) a)) b (by omega) hbo, d1]
  -- the old bytes ahead
  have htake : (cells g' (cmp q (idr q n) a)).1.take (lo - (q + sh)).toNat = (match (idr q n).1.take (lo - sh - q).toNat with | [] => [] | c :: r => (g' || c.1, c.2) :: r) ∧ (idr q n).1.take (lo - sh - q).toNat ≠ [] := by
    have hlen : (((idr q n).1.take (lo - sh - q).toNat).length) = (lo - (q + sh)).toNat := by
      rw [List.length_take]
      simp only [idr, List.length_map, List.length_range]
      omega
    rw [cmp_split q (lo - sh) (idr q n) a (by omega) hao, cells_cAts]
    cases hO : (idr q n).1.take (lo - sh - q).toNat with
    | nil =>
      rw [hO] at hlen
      simp only [List.length_nil] at hlen
      omega
    | cons c r =>
      rw [hO] at hlen
      refine ⟨?_, by simp⟩
      simp only
      rw [← hlen]
      have e1 : (c :: r).length = ((g' || c.1, c.2) :: r).length := by simp
      rw [e1, List.take_left]
  obtain ⟨t1, t2⟩ := htake
  have hcell : ∀ X, cells g (cAts ((cells g' (cmp q (idr q n) a)).1.take (lo - (q + sh)).toNat) ++ X) = cells (g || g') (cAts ((idr q n).1.take (lo - sh - q).toNat) ++ X) := by
    intro X
    rw [t1, cells_cAts, cells_cAts]
    cases hO : (idr q n).1.take (lo - sh - q).toNat with
    | nil => exact absurd hO t2
    | cons c r => simp [Bool.or_assoc]
  rw [hcell, lst_olds n _ _ q (lo - sh) rfl (by omega) hln L op tx (g || g') hL]
  congr 1
  exact group_one n m k IH a b (lo - sh) sh lo hk (by omega) (by omega) hA2 hln hB2 hm0 hlo
theorem groups_all (n m : Int) : ∀ k, GG n m k := by
  intro k
  induction k with
  | zero => intro a b q sh g g' L op tx h; omega
  | succ k IH =>
    intro a b q sh g g' L op tx hk hA hqn hB hm0 h0 hqm hL hf
    by_cases hne : a = [] ∧ b = []
    · obtain ⟨rfl, rfl⟩ := hne
      simp only [groups, and_self, if_true]
      have e : cmp (q + sh) (cells g' (cmp q (idr q n) [])) [] = cAts (cells g' (cmp q (idr q n) [])).1 ++ fAt (cells g' (cmp q (idr q n) [])).2 := rfl
      rw [e, cells_again]
      have := lst_back n [] L q op (g || g') tx [] (by rcases hf with h | h | h <;> simp [h]) trivial hL hqn
      simpa [news] using this
    · obtain ⟨lo, h1, h2, h3⟩ := next_lo a b sh hne
      have hlt : q + sh < lo := by
        rcases h1 with ⟨e, t, h, h4⟩ | ⟨f, s, h, h4, _⟩
        · rw [h] at hA
          have := hA.1
          omega
        · rw [h] at hB
          have := hB.1
          omega
      rw [group_next n m k IH a b q sh lo g g' L op tx hk h0 hlt (Ch.cz hA hqn) hqn (Ch.cz hB hqm) hm0 hL h1 h2 h3, if_pos]
      · rfl
      · rcases hf with h | h | h <;> simp [h]
theorem Ok.cz {n : Int} {l : List Ed} (h : Ok n l) (h0 : 0 ≤ n) : Cz n 0 l := by
  cases l with
  | nil => exact h0
  | cons e t => exact h
theorem ok_pair {m : Int} : ∀ (b : List Ed) (p : Int), Ch m p b → (∀ e ∈ b, p < e.a ∧ e.a ≤ e.b ∧ e.b ≤ m) ∧ List.Pairwise (fun x y => x.b ≤ y.a) b
  | [], p, _ => ⟨(fun e he => by cases he), List.Pairwise.nil⟩
  | e :: t, p, h => by
    obtain ⟨c1, c2, c3, c4⟩ := h
    obtain ⟨i1, i2⟩ := ok_pair t e.b c4
    refine ⟨fun x hx => ?_, List.pairwise_cons.2 ⟨fun x hx => by have := (i1 x hx).1; omega, i2⟩⟩
    rcases List.mem_cons.1 hx with rfl | hx
    · exact ⟨c1, c2, c3⟩
    · have := i1 x hx
      exact ⟨by omega, this.2⟩
/-- One list for two, group by group. -/
theorem cmpE_groups (n : Int) (h0 : 0 ≤ n) (a b : List Ed) (ha : Ok n a) (hb : Ok (rowE n a).1.length b) (k : Nat) (hk : a.length + b.length < k + 1) : cmpE n a b = groups (k + 1) a b 0 := by
  have hA := Ok.cz ha h0
  have hm : ((rowE n a).1.length : Int) = n + shOf 0 a := by
    have := row_len n a 0 0 false hA
    unfold rowE
    omega
  have hB := Ok.cz hb (by omega)
  have hsub : sub (rowE n a) (rowE (rowE n a).1.length b) = cells false (cmp 0 (cells false (cmp 0 (idr 0 n) a)) b) := by
    have hall : (∀ e ∈ b, 0 ≤ e.a ∧ e.a ≤ e.b ∧ e.b ≤ ((rowE n a).1.length : Int)) ∧ List.Pairwise (fun x y => x.b ≤ y.a) b := by
      cases b with
      | nil => exact ⟨(fun e he => by cases he), List.Pairwise.nil⟩
      | cons e t =>
        obtain ⟨c1, c2, c3, c4⟩ := hb
        obtain ⟨i1, i2⟩ := ok_pair t e.b c4
        refine ⟨fun x hx => ?_, List.pairwise_cons.2 ⟨fun x hx => by have := (i1 x hx).1; omega, i2⟩⟩
        rcases List.mem_cons.1 hx with rfl | hx
        · exact ⟨c1, c2, c3⟩
        · have := i1 x hx
          exact ⟨by omega, this.2⟩
    have := cmp_sub (rowE n a) b 0 false (Nat.zero_le _) hall.1 (fun e t he => by have := (hall.1 e (by rw [he]; exact List.mem_cons_self)).1; simpa using this) hall.2
    simp only [List.drop_zero, Int.ofNat_zero] at this
    exact this.symm
  unfold cmpE lst
  rw [hsub]
  by_cases hne : a = [] ∧ b = []
  · obtain ⟨rfl, rfl⟩ := hne
    simp only [groups, and_self, if_true]
    have e : cmp 0 (cells false (cmp 0 (idr 0 n) [])) [] = cAts (cells false (cmp 0 (idr 0 n) [])).1 ++ fAt (cells false (cmp 0 (idr 0 n) [])).2 := rfl
    rw [e, cells_again]
    exact lst_rowE n h0 [] trivial
  · obtain ⟨lo, h1, h2, h3⟩ := next_lo a b 0 hne
    have hlo : 0 ≤ lo := by
      rcases h1 with ⟨e, t, h, h4⟩ | ⟨f, s, h, h4, _⟩
      · rw [h] at hA
        have := hA.1
        omega
      · rw [h] at hB
        have := hB.1
        omega
    by_cases hz : lo = 0
    · subst hz
      exact group_one n _ k (groups_all n _ k) a b 0 0 0 hk (Int.le_refl _) rfl hA h0 hB hm h1
    · have := group_next n _ k (groups_all n _ k) a b 0 0 lo false false 0 false [] hk (by omega) (by omega) hA h0 hB hm (Int.le_refl _) h1 h2 h3
      simpa using this
end Go.Proofs.Ytaihajmdngoeiaa.Q

namespace Go.Proofs.YtaihajmdngoeiaaW.PrintWords
open Go.RowKit
set_option linter.unusedVariables false
section
variable {P : Program} {ops : Array Oper} {rest : List Oper} {o : Oper} {a : Act} {Q : Exit → Act → World → Prop} {α : Type}
/-- make([]T, 0, n): a row of the call's own without elements. -/
theorem Kd.R_makec (d : Kd α) {w0 W : World} (base e : Nat) (hgd : o.guard = none) {N : Tmp} (hd : o.dst = some N) (t : TypeId) (x y : Operand) (ho : o.op = .makeSlice t x y) (n : Int) (hx : a.eval x = .int .i64 0) (hy : a.eval y = .int .i64 n)
    (ht : P.underlying t = some (.slice e)) (z : Value) (bytes : Nat) (hinfo : (P.info? e).map (fun i => (i.zero, i.size, i.bytes)) = some (some z, d.sz, bytes)) (hz : z.cells.size = d.sz) (hs0 : 0 < d.sz) (hb0 : 0 < bytes)
    (z0 : α) {ok okp : Nat → Prop} (hzero : d.M W base okp z0 z.cells.toList) (hok : ∀ k, okp k → ok k) (hfresh : ok W.heap.size) (h0 : 0 ≤ n) (hl : n.toNat * bytes ≤ 281474976710656) (HB : Below base w0 W) (hbase : base ≤ W.heap.size)
    (h : ∀ v1 w1, d.R e w1 base ok v1 ([] : List α) → Below base w0 w1 → W.grownBy w1 none → (∃ b, v1.ownBlock = some b ∧ W.heap.size ≤ b) → wpList P ops Q rest (a.put o.dst v1) w1) : wpList P ops Q (o :: rest) a W := by
  obtain ⟨m, rfl⟩ := Int.eq_ofNat_of_zero_le h0
  simp only [Int.toNat_natCast] at hl
  obtain ⟨i0, hi, hzz⟩ := Option.map_eq_some_iff.1 hinfo
  simp only [Prod.mk.injEq] at hzz
  obtain ⟨hz0, hz1, hz2⟩ := hzz
  have hm : m ≤ 281474976710656 := Nat.le_trans (Nat.le_mul_of_pos_right _ hb0) hl
  refine wpList_make_own W hgd x y t ho base e i0 z d.sz ht hi hz0 hz1 .i64 .i64 (m : Int) m hx hy rfl (by rw [hz2, Nat.mul_comm]; exact hl) (by unfold maxLen; omega) hbase ?_
  intro w' hown hg
  refine h _ w' ⟨?_, [], hown, Reps.none _ _⟩ (HB.grown hg hbase (by simp)) hg ⟨W.heap.size, rfl, Nat.le_refl _⟩
  intro k hk
  have : W.heap.size = k := by simpa [Value.ownBlock] using hk
  exact this ▸ hfresh
end
end Go.Proofs.YtaihajmdngoeiaaW.PrintWords

-- A text of this session's own program (wip/myprint.sh over a changed print tool): functions and their walks
namespace Go.Proofs.Ytaihajmdngoeiaa.F
open Go.RowKit Go.Proofs.YtaihajmdngoeiaaW.PrintWords Go.Proofs.YtaihajmdngoeiaaW.PrintLast Go.Proofs.YtaihajmdngoeiaaW.PrintMore
attribute [local go_sem] max2_int min2_int max_two min_two max_three min_three max_four min_four   -- for this text's walks alone
set_option linter.unusedVariables false
set_option linter.unusedSimpArgs false



def errW : Option Int → Value
  | none => .nilIface
  | some c => .iface 0 (.int .i64 c)
theorem errW_none : errW none = .nilIface := rfl
theorem errW_some (c : Int) : errW (some c) = .iface 0 (.int .i64 c) := rfl

theorem info5 : (Try.prog.info? 5).map (fun i => (i.zero, i.size, i.bytes)) = some (some (.int .u8 0), 1, 1) := by kernel_rfl
theorem info42 : (Try.prog.info? 42).map (fun i => (i.zero, i.size, i.bytes)) = some (some (.agg #[(.int .i64 0), (.int .i64 0), (.string ⟨#[]⟩)]), 3, 32) := by kernel_rfl
-- the values' own types
/-! #### struct type 42 -/
structure S42 where
  f0 : Int
  f1 : Int
  f2 : ByteArray
def z42 : S42 := ⟨(0 : Int), (0 : Int), (⟨#[]⟩ : ByteArray)⟩
def k42 : Kd S42 := Kd.iso (Kd.pair (Kd.int .i64) (Kd.pair (Kd.int .i64) Kd.string)) (fun x : S42 => (x.f0, x.f1, x.f2))
theorem k42_open {w : World} {x : S42} {cs : List Value} (h : k42.K w x cs) : cs = [.int .i64 x.f0, .int .i64 x.f1, .string x.f2] := by
  obtain ⟨_, _, rfl, rfl, ⟨_, _, rfl, rfl, rfl⟩⟩ := h
  exact rfl
theorem k42_mk (w : World) (x : S42)  : k42.K w x [.int .i64 x.f0, .int .i64 x.f1, .string x.f2] := ⟨[.int .i64 x.f0], [.int .i64 x.f1, .string x.f2], rfl, rfl, ⟨[.int .i64 x.f1], [.string x.f2], rfl, rfl, rfl⟩⟩
theorem k42_mkM (w : World) (base : Nat) (ok : Nat → Prop) (x : S42)  : k42.M w base ok x [.int .i64 x.f0, .int .i64 x.f1, .string x.f2] := ⟨[.int .i64 x.f0], [.int .i64 x.f1, .string x.f2], rfl, rfl, ⟨[.int .i64 x.f1], [.string x.f2], rfl, rfl, rfl⟩⟩
def rd_T42 (xs : List S42) (i : Int) : S42 := xs.getD i.toNat z42
theorem at_T42 {w : World} {A : Option Addr} {n : Nat} {xs : List S42} (h : Kd.C k42 w A n xs) (i : Int) (h0 : 0 ≤ i) (h1 : i < n) : ∃ ad , A = some ad ∧ w.cell? (ad.add (i.toNat * 3)) = some (.int .i64 (rd_T42 xs i).f0) ∧ w.cell? ⟨(ad.add (i.toNat * 3)).block, (ad.add (i.toNat * 3)).off + 1, none⟩ = some (.int .i64 (rd_T42 xs i).f1) ∧ w.cell? ⟨(ad.add (i.toNat * 3)).block, (ad.add (i.toNat * 3)).off + 2, none⟩ = some (.string (rd_T42 xs i).f2) := by
  obtain ⟨ad, c, e, _, hK, hc0⟩ := Kd.C_get h z42 i h0 h1
  have hc : ∀ j u, c[j]? = some u → w.cell? (ad.add (i.toNat * 3 + j)) = some u := hc0
  obtain rfl := k42_open hK
  exact ⟨ad, e, hc 0 _ rfl, by rw [← add_field _ _ 1 (by omega)]; exact hc 1 _ rfl, by rw [← add_field _ _ 2 (by omega)]; exact hc 2 _ rfl⟩

/-! #### struct type 61 -/
structure S61 where
  f0 : Bool
  f1 : Int
  f2 : Int
  f3 : ByteArray
end Go.Proofs.Ytaihajmdngoeiaa.F

-- A text of this session's own program (wip/myprint.sh over a changed print tool): functions and their walks
namespace Go.Proofs.Ytaihajmdngoeiaa.F
open Go.RowKit Go.Proofs.YtaihajmdngoeiaaW.PrintWords Go.Proofs.YtaihajmdngoeiaaW.PrintLast Go.Proofs.YtaihajmdngoeiaaW.PrintMore
attribute [local go_sem] max2_int min2_int max_two min_two max_three min_three max_four min_four   -- for this text's walks alone
set_option linter.unusedVariables false
set_option linter.unusedSimpArgs false

/-! ### edits_valid: function 32 -/
mutual
def edits_valid.l0 : Nat → Int → List (S42) → List (S42) → Int → Int → Option (Int)
  | 0, _, _, _, _, _ => none
  | k + 1, x0, x1, x12, x13, x14 => if x14 < x13 then (if 0 ≤ x14 then (if x14 < (x12.length : Int) then (if ((rd_T42 x12 x14).f0) < 0 then (edits_valid.j1 k x0 x1 x14 x12 x13 x14 true ((rd_T42 x12 x14).f0) ((rd_T42 x12 x14).f1) ((rd_T42 x12 x14).f2)) else (if ((rd_T42 x12 x14).f1) < ((rd_T42 x12 x14).f0) then (edits_valid.j1 k x0 x1 x14 x12 x13 x14 true ((rd_T42 x12 x14).f0) ((rd_T42 x12 x14).f1) ((rd_T42 x12 x14).f2)) else (edits_valid.j1 k x0 x1 x14 x12 x13 x14 (decide (((rd_T42 x12 x14).f1) > x0)) ((rd_T42 x12 x14).f0) ((rd_T42 x12 x14).f1) ((rd_T42 x12 x14).f2)))) else (none)) else (none)) else (some 0)
def edits_valid.j1 : Nat → Int → List (S42) → Int → List (S42) → Int → Int → Bool → Int → Int → ByteArray → Option (Int)
  | 0, _, _, _, _, _, _, _, _, _, _ => none
  | k + 1, x0, x1, x5, x12, x13, x14, x34, x118000, x118001, x118002 => if x34 = true then (some 10) else (if 0 ≤ (mx (wrap64 (x5 - 1)) 0) then (if (mx (wrap64 (x5 - 1)) 0) ≤ x5 then (if x5 ≤ (x1.length : Int) then ((some ((x1.take (x5 : Int).toNat).drop ((mx (wrap64 (x5 - 1)) 0) : Int).toNat : List (S42))).bind fun y118 => (edits_valid.l1 k x0 x1 x12 x13 x14 y118 (y118.length : Int) 0 x118000 x118001 x118002)) else (none)) else (none)) else (none))
def edits_valid.l1 : Nat → Int → List (S42) → List (S42) → Int → Int → List (S42) → Int → Int → Int → Int → ByteArray → Option (Int)
  | 0, _, _, _, _, _, _, _, _, _, _, _ => none
  | k + 1, x0, x1, x12, x13, x14, x40, x41, x42, x118000, x118001, x118002 => if x42 < x41 then (if 0 ≤ x42 then (if x42 < (x40.length : Int) then (if x118000 > ((rd_T42 x40 x42).f1) then (edits_valid.l0 k x0 x1 x12 x13 (wrap64 (x14 + 1))) else (some 11)) else (none)) else (none)) else (edits_valid.l0 k x0 x1 x12 x13 (wrap64 (x14 + 1)))
end
def edits_valid.f (k : Nat) (a0 : Int) (l1 : List (S42)) : Option (Int) := if (l1.length : Int) > 65536 then (some 2) else (edits_valid.l0 k a0 l1 l1 (l1.length : Int) 0)
set_option maxHeartbeats 8000000 in
set_option maxRecDepth 100000 in
theorem edits_valid.calls (k : Nat) (a0 : Int) (A1 : Option Addr) (c1 : Nat) (l1 : List (S42)) (r : Int) (w : World) (hr1 : Kd.C k42 w A1 l1.length l1) (hc1 : l1.length ≤ c1) (h : edits_valid.f k a0 l1 = some r) :
    Calls Try.prog 32 #[.int .i64 a0, .slice A1 l1.length c1] w fun e w' => e = .returned (.int .i64 r) ∧ Below w.heap.size w w' := by
  have hu42 := Try.underlying42
  have HR1 := Aside0.mk hr1
  have HC1 := Aside0.mk hc1
  clear hr1 hc1
  have HB := Aside0.mk (Below.refl w.heap.size w)
  have H : (if (l1.length : Int) > 65536 then (some 2) else (edits_valid.l0 k a0 l1 l1 (l1.length : Int) 0)) = some r := h
  clear h
  by_cases c3 : (l1.length : Int) > 65536
  · rw [if_pos c3] at H
    have c3b0 : decide (65536 < (l1.length : Int)) = true := decide_eq_true c3
    have c3b1 : decide (65536 < l1.length) = true := decide_eq_true (by omega)
    clear c3
    obtain rfl := Option.some.inj H
    go_enter Try.func32, Try.ntmps32
    go_wp2
    repeat (all_goals (go_step3; go_wp2))
    (try rw [Exit.noGoto_ret])
    go_ret
    exact ⟨by first | rfl | (simp [errW_none, errW_some] <;> rfl) | (simp [*, errW_none, errW_some] <;> rfl), by repeat (first | (with_reducible first | exact HB.out | apply below_alloc | apply pw_below_drewN | apply below_drew1) | exact HB.out)⟩
  · rw [if_neg c3] at H
    have c3b0 : decide (65536 < (l1.length : Int)) = false := decide_eq_false c3
    have c3b1 : decide (65536 < l1.length) = false := decide_eq_false (by omega)
    clear c3
    have H' := Aside0.mk H
    clear H
    go_enter Try.func32, Try.ntmps32
    go_wp2
    repeat (all_goals (go_step3; go_wp2))
    go_loopg [14] k (fun kq v14 w' => ∃ (x14_1 : Int), v14 = .int .i64 x14_1 ∧ Aside0 (edits_valid.l0 kq a0 l1 l1 (l1.length : Int) x14_1 = some r) ∧ Aside0 (kq ≤ k) ∧ Aside0 (Below w.heap.size w w'))
    case atStart => exact ⟨(0), (by first | rfl | (simp; done) | (simp [*]; done)), H', ⟨Nat.le_refl _⟩, ⟨by repeat (first | (with_reducible first | exact HB.out | apply below_alloc | apply pw_below_drewN | apply below_drew1) | exact HB.out)⟩⟩
    case round =>
      clear H'
      try clear c1
      try clear p2
      try clear c3
      try clear c3b0
      try clear c3b1
      obtain ⟨x14_1, rfl, HA, HK1, HB⟩ := hrel
      cases gk with
      | zero => exact absurd HA.out (by simp [edits_valid.l0])
      | succ k1 =>
        have H := HA.out
        clear HA
        simp only [edits_valid.l0] at H
        by_cases c4 : x14_1 < (l1.length : Int)
        · rw [if_pos c4] at H
          have c4b0 : decide (x14_1 < (l1.length : Int)) = true := decide_eq_true c4
          clear c4
          by_cases c5 : 0 ≤ x14_1
          · rw [if_pos c5] at H
            have c5b0 : decide (0 ≤ x14_1) = true := decide_eq_true c5
            clear c5
            by_cases c6 : x14_1 < (l1.length : Int)
            · rw [if_pos c6] at H
              have c6b0 : decide (x14_1 < (l1.length : Int)) = true := decide_eq_true c6
              clear c6
              have HC7 := Aside0.mk H
              clear H
              have p116 : 0 ≤ (x14_1 : Int) := of_decide_eq_true (by first | (with_reducible assumption) | assumption)
              have q116 : x14_1 < (l1.length : Int) := of_decide_eq_true (by first | (with_reducible assumption) | assumption)
              obtain ⟨ad116, e116, hx116_0, hx116_1, hx116_2⟩ := at_T42 HR1.out x14_1 p116 q116
              cases e116
              replace hx116_0 := (HB.out.cell (World.block_lt_of_cell? w _ hx116_0)).trans hx116_0
              replace hx116_1 := (HB.out.cell (World.block_lt_of_cell? w _ hx116_1)).trans hx116_1
              replace hx116_2 := (HB.out.cell (World.block_lt_of_cell? w _ hx116_2)).trans hx116_2
              replace p116 := eq_true p116
              replace q116 := eq_true q116
              go_upto_region 6 with (first | ((with_reducible refine gate_dst (N := 6) rfl ?_); refine box_event ?hg (N := 6) ?hd (cs := #[.int .i64 0, .int .i64 0, .string (⟨#[]⟩ : ByteArray)]) (t := 42) ?hr ?_; (case hd => rfl); (case hg => rfl); (case hr => first | (go_simp; done) | (go_simp; rfl)); intro gb117 hg w8 hbox hb; have n0_ := Aside0.mk (below_step (by repeat (first | (with_reducible first | exact HB.out | apply below_alloc | apply pw_below_drewN | apply below_drew1) | exact HB.out)) hb); have n1_ := Aside0.mk (hbox); have n2_ := Aside0.mk ((by rw [hg]; exact (below_size (by repeat (first | (with_reducible first | exact HB.out | apply below_alloc | apply pw_below_drewN | apply below_drew1) | exact HB.out))) : w.heap.size ≤ gb117)); have n3_ := Aside0.mk ((by rw [hg]; exact (below_size (by repeat (first | (with_reducible first | exact HB.out | apply below_alloc | apply pw_below_drewN | apply below_drew1) | exact HB.out))) : w.heap.size ≤ gb117)); clear HB; have HB := n0_; have BK117 := n1_; have GW117 := n2_; have GE117 := n3_; clear n0_ n1_ n2_ n3_; clear hb hbox hg; have hcz9_0 : w8.cell? ⟨gb117, 0, none⟩ = some (.int .i64 0) := (blk_cell BK117.out 0).trans rfl; have hcz9_1 : w8.cell? ⟨gb117, 1, none⟩ = some (.int .i64 0) := (blk_cell BK117.out 1).trans rfl; have hcz9_2 : w8.cell? ⟨gb117, 2, none⟩ = some (.string (⟨#[]⟩ : ByteArray)) := (blk_cell BK117.out 2).trans rfl; have hfz9_0 := blk_frozen BK117.out 0; have hfz9_1 := blk_frozen BK117.out 1; have hfz9_2 := blk_frozen BK117.out 2))
              (try simp only [Act.put, List.setIfInBounds_toArray, List.set_cons_zero, List.set_cons_succ])
              go_cut [34] (fun v34 wc => ∃ (kq : Nat) (x34_6 : Bool), v34 = .bool x34_6 ∧ Aside0 (edits_valid.j1 kq a0 l1 x14_1 l1 (l1.length : Int) x14_1 x34_6 ((rd_T42 l1 x14_1).f0) ((rd_T42 l1 x14_1).f1) ((rd_T42 l1 x14_1).f2) = some r) ∧ Aside0 (kq ≤ k1) ∧ Aside0 (wc.heap[gb117]? = some (.cells #[.int .i64 ((rd_T42 l1 x14_1).f0), .int .i64 ((rd_T42 l1 x14_1).f1), .string ((rd_T42 l1 x14_1).f2)] 42 (0, 0))) ∧ Aside0 (Below w.heap.size w wc))
              case first =>
                have H := HC7.out
                clear HC7
                by_cases c10 : ((rd_T42 l1 x14_1).f0) < 0
                · rw [if_pos c10] at H
                  have c10b0 : decide (((rd_T42 l1 x14_1).f0) < 0) = true := decide_eq_true c10
                  clear c10
                  (first | rw [c10b0] | (simp only [i64_w, i32_w]; rw [c10b0]) | skip)
                  have H' := Aside0.mk H
                  clear H
                  have hcz11_0 : w8.cell? ⟨gb117, 0, none⟩ = some (.int .i64 0) := (blk_cell BK117.out 0).trans rfl
                  have hcz11_1 : w8.cell? ⟨gb117, 1, none⟩ = some (.int .i64 0) := (blk_cell BK117.out 1).trans rfl
                  have hcz11_2 : w8.cell? ⟨gb117, 2, none⟩ = some (.string (⟨#[]⟩ : ByteArray)) := (blk_cell BK117.out 2).trans rfl
                  have hfz11_0 := blk_frozen BK117.out 0
                  have hfz11_1 := blk_frozen BK117.out 1
                  have hfz11_2 := blk_frozen BK117.out 2
                  go_wp2
                  repeat (all_goals (go_step3; go_wp2))
                  go_meet
                  case rel => exact ⟨_, (true), (by first | rfl | (simp; done) | (simp [*]; done)), H', ⟨by have := HK1.out; first | omega | exact Nat.le_refl _⟩, ⟨by (with_reducible repeat (first | refine blk_drewN ?_ _ | refine blk_drew ?_ | refine blk_alloc ?_ _)); refine blk_put (cs := #[.int .i64 ((rd_T42 l1 x14_1).f0), .int .i64 ((rd_T42 l1 x14_1).f1), .string (⟨#[]⟩ : ByteArray)]) ?_ 2 _ rfl; (with_reducible repeat (first | refine blk_drewN ?_ _ | refine blk_drew ?_ | refine blk_alloc ?_ _)); refine blk_put (cs := #[.int .i64 ((rd_T42 l1 x14_1).f0), .int .i64 0, .string (⟨#[]⟩ : ByteArray)]) ?_ 1 _ rfl; (with_reducible repeat (first | refine blk_drewN ?_ _ | refine blk_drew ?_ | refine blk_alloc ?_ _)); refine blk_put (cs := #[.int .i64 0, .int .i64 0, .string (⟨#[]⟩ : ByteArray)]) ?_ 0 _ rfl; (with_reducible repeat (first | refine blk_drewN ?_ _ | refine blk_drew ?_ | refine blk_alloc ?_ _)); exact BK117.out⟩, ⟨by repeat (first | (with_reducible first | exact HB.out | apply below_alloc | apply pw_below_drewN | apply below_drew1 | refine below_set ?_ GE117.out) | exact HB.out)⟩⟩
                · rw [if_neg c10] at H
                  have c10b0 : decide (((rd_T42 l1 x14_1).f0) < 0) = false := decide_eq_false c10
                  clear c10
                  (first | rw [c10b0] | (simp only [i64_w, i32_w]; rw [c10b0]) | skip)
                  by_cases c12 : ((rd_T42 l1 x14_1).f1) < ((rd_T42 l1 x14_1).f0)
                  · rw [if_pos c12] at H
                    have c12b0 : decide (((rd_T42 l1 x14_1).f1) < ((rd_T42 l1 x14_1).f0)) = true := decide_eq_true c12
                    clear c12
                    have H' := Aside0.mk H
                    clear H
                    have hcz13_0 : w8.cell? ⟨gb117, 0, none⟩ = some (.int .i64 0) := (blk_cell BK117.out 0).trans rfl
                    have hcz13_1 : w8.cell? ⟨gb117, 1, none⟩ = some (.int .i64 0) := (blk_cell BK117.out 1).trans rfl
                    have hcz13_2 : w8.cell? ⟨gb117, 2, none⟩ = some (.string (⟨#[]⟩ : ByteArray)) := (blk_cell BK117.out 2).trans rfl
                    have hfz13_0 := blk_frozen BK117.out 0
                    have hfz13_1 := blk_frozen BK117.out 1
                    have hfz13_2 := blk_frozen BK117.out 2
                    go_wp2
                    repeat (all_goals (go_step3; go_wp2))
                    go_meet
                    case rel => exact ⟨_, (true), (by first | rfl | (simp; done) | (simp [*]; done)), H', ⟨by have := HK1.out; first | omega | exact Nat.le_refl _⟩, ⟨by (with_reducible repeat (first | refine blk_drewN ?_ _ | refine blk_drew ?_ | refine blk_alloc ?_ _)); refine blk_put (cs := #[.int .i64 ((rd_T42 l1 x14_1).f0), .int .i64 ((rd_T42 l1 x14_1).f1), .string (⟨#[]⟩ : ByteArray)]) ?_ 2 _ rfl; (with_reducible repeat (first | refine blk_drewN ?_ _ | refine blk_drew ?_ | refine blk_alloc ?_ _)); refine blk_put (cs := #[.int .i64 ((rd_T42 l1 x14_1).f0), .int .i64 0, .string (⟨#[]⟩ : ByteArray)]) ?_ 1 _ rfl; (with_reducible repeat (first | refine blk_drewN ?_ _ | refine blk_drew ?_ | refine blk_alloc ?_ _)); refine blk_put (cs := #[.int .i64 0, .int .i64 0, .string (⟨#[]⟩ : ByteArray)]) ?_ 0 _ rfl; (with_reducible repeat (first | refine blk_drewN ?_ _ | refine blk_drew ?_ | refine blk_alloc ?_ _)); exact BK117.out⟩, ⟨by repeat (first | (with_reducible first | exact HB.out | apply below_alloc | apply pw_below_drewN | apply below_drew1 | refine below_set ?_ GE117.out) | exact HB.out)⟩⟩
                  · rw [if_neg c12] at H
                    have c12b0 : decide (((rd_T42 l1 x14_1).f1) < ((rd_T42 l1 x14_1).f0)) = false := decide_eq_false c12
                    clear c12
                    have H' := Aside0.mk H
                    clear H
                    have hcz14_0 : w8.cell? ⟨gb117, 0, none⟩ = some (.int .i64 0) := (blk_cell BK117.out 0).trans rfl
                    have hcz14_1 : w8.cell? ⟨gb117, 1, none⟩ = some (.int .i64 0) := (blk_cell BK117.out 1).trans rfl
                    have hcz14_2 : w8.cell? ⟨gb117, 2, none⟩ = some (.string (⟨#[]⟩ : ByteArray)) := (blk_cell BK117.out 2).trans rfl
                    have hfz14_0 := blk_frozen BK117.out 0
                    have hfz14_1 := blk_frozen BK117.out 1
                    have hfz14_2 := blk_frozen BK117.out 2
                    go_wp2
                    repeat (all_goals (go_step3; go_wp2))
                    go_meet
                    case rel => exact ⟨_, (decide (((rd_T42 l1 x14_1).f1) > a0)), (by first | rfl | (simp; done) | (simp [*]; done)), H', ⟨by have := HK1.out; first | omega | exact Nat.le_refl _⟩, ⟨by (with_reducible repeat (first | refine blk_drewN ?_ _ | refine blk_drew ?_ | refine blk_alloc ?_ _)); refine blk_put (cs := #[.int .i64 ((rd_T42 l1 x14_1).f0), .int .i64 ((rd_T42 l1 x14_1).f1), .string (⟨#[]⟩ : ByteArray)]) ?_ 2 _ rfl; (with_reducible repeat (first | refine blk_drewN ?_ _ | refine blk_drew ?_ | refine blk_alloc ?_ _)); refine blk_put (cs := #[.int .i64 ((rd_T42 l1 x14_1).f0), .int .i64 0, .string (⟨#[]⟩ : ByteArray)]) ?_ 1 _ rfl; (with_reducible repeat (first | refine blk_drewN ?_ _ | refine blk_drew ?_ | refine blk_alloc ?_ _)); refine blk_put (cs := #[.int .i64 0, .int .i64 0, .string (⟨#[]⟩ : ByteArray)]) ?_ 0 _ rfl; (with_reducible repeat (first | refine blk_drewN ?_ _ | refine blk_drew ?_ | refine blk_alloc ?_ _)); exact BK117.out⟩, ⟨by repeat (first | (with_reducible first | exact HB.out | apply below_alloc | apply pw_below_drewN | apply below_drew1 | refine below_set ?_ GE117.out) | exact HB.out)⟩⟩
              case rest =>
                clear HC7
                try clear c1
                try clear p1
                try clear q1
                try clear hx1
                try clear p2
                try clear c3
                try clear c3b0
                try clear c3b1
                try clear c4
                try clear c4b0
                try clear c5
                try clear c5b0
                try clear c6
                try clear c6b0
                try clear c10
                try clear c10b0
                try clear p11
                try clear q11
                try clear hx11
                try clear c12
                try clear c12b0
                try clear hcz11_0
                try clear hcz11_1
                try clear hcz11_2
                try clear hcz13_0
                try clear hcz13_1
                try clear hcz13_2
                try clear hcz14_0
                try clear hcz14_1
                try clear hcz14_2
                try clear hcz9_0
                try clear hcz9_1
                try clear hcz9_2
                try clear hfz11_0
                try clear hfz11_1
                try clear hfz11_2
                try clear hfz13_0
                try clear hfz13_1
                try clear hfz13_2
                try clear hfz14_0
                try clear hfz14_1
                try clear hfz14_2
                try clear hfz9_0
                try clear hfz9_1
                try clear hfz9_2
                try clear hx116_0
                try clear hx116_1
                try clear hx116_2
                try clear p116
                try clear p2
                try clear q116
                obtain ⟨kq, x34_6, rfl, HA, HJ6, BK117, HB⟩ := hcut
                cases kq with
                | zero => exact absurd HA.out (by simp [edits_valid.j1])
                | succ kj6 =>
                  have H := HA.out
                  clear HA
                  simp only [edits_valid.j1] at H
                  by_cases c15 : x34_6 = true
                  · subst c15
                    have H1 : (some 10) = some r := by rw [if_pos rfl] at H; exact H
                    clear H
                    have H := H1
                    clear H1
                    obtain rfl := Option.some.inj H
                    go_wp2
                    repeat (all_goals (go_step3; go_wp2))
                    (try rw [Exit.noGoto_ret])
                    go_ret
                    exact ⟨by first | rfl | (simp [errW_none, errW_some] <;> rfl) | (simp [*, errW_none, errW_some] <;> rfl), by repeat (first | (with_reducible first | exact HB.out | apply below_alloc | apply pw_below_drewN | apply below_drew1 | refine below_set ?_ GE117.out) | exact HB.out)⟩
                  · replace c15 := Bool.eq_false_iff.mpr c15
                    subst c15
                    have H1 : (if 0 ≤ (mx (wrap64 (x14_1 - 1)) 0) then (if (mx (wrap64 (x14_1 - 1)) 0) ≤ x14_1 then (if x14_1 ≤ (l1.length : Int) then ((some ((l1.take (x14_1 : Int).toNat).drop ((mx (wrap64 (x14_1 - 1)) 0) : Int).toNat : List (S42))).bind fun y118 => (edits_valid.l1 kj6 a0 l1 l1 (l1.length : Int) x14_1 y118 (y118.length : Int) 0 ((rd_T42 l1 x14_1).f0) ((rd_T42 l1 x14_1).f1) ((rd_T42 l1 x14_1).f2))) else (none)) else (none)) else (none)) = some r := by rw [if_neg (show ¬ (false = true) by decide)] at H; exact H
                    clear H
                    have H := H1
                    clear H1
                    obtain ⟨ji16, hji16⟩ : ∃ j_ : Int, (mx (wrap64 (x14_1 - 1)) 0) = j_ := ⟨_, rfl⟩
                    replace H : (if 0 ≤ (ji16) then (if (ji16) ≤ x14_1 then (if x14_1 ≤ (l1.length : Int) then ((some ((l1.take (x14_1 : Int).toNat).drop ((ji16) : Int).toNat : List (S42))).bind fun y118 => (edits_valid.l1 kj6 a0 l1 l1 (l1.length : Int) x14_1 y118 (y118.length : Int) 0 ((rd_T42 l1 x14_1).f0) ((rd_T42 l1 x14_1).f1) ((rd_T42 l1 x14_1).f2))) else (none)) else (none)) else (none)) = some r := by first | (rw [hji16] at H; exact H) | (simp only [hji16] at H ⊢; exact H)
                    have hji16_ : (if (wrap64 (x14_1 - 1)) < 0 then 0 else (wrap64 (x14_1 - 1))) = ji16 := hji16
                    by_cases c17 : 0 ≤ (ji16)
                    · rw [if_pos c17] at H
                      have c17b0 := eq_true c17
                      have c17b1 : decide (0 ≤ (ji16)) = true := decide_eq_true c17
                      clear c17
                      by_cases c18 : (ji16) ≤ x14_1
                      · rw [if_pos c18] at H
                        have c18b0 := eq_true c18
                        have c18b1 : decide ((ji16) ≤ x14_1) = true := decide_eq_true c18
                        clear c18
                        by_cases c19 : x14_1 ≤ (l1.length : Int)
                        · rw [if_pos c19] at H
                          have c19b0 := eq_true c19
                          have c19b1 : decide (x14_1 ≤ (l1.length : Int)) = true := decide_eq_true c19
                          clear c19
                          obtain ⟨y118, hy118⟩ : ∃ y_ : List (S42), y_ = ((l1.take (x14_1 : Int).toNat).drop ((ji16) : Int).toNat) := ⟨_, rfl⟩
                          replace H : (edits_valid.l1 kj6 a0 l1 l1 (l1.length : Int) x14_1 y118 (y118.length : Int) 0 ((rd_T42 l1 x14_1).f0) ((rd_T42 l1 x14_1).f1) ((rd_T42 l1 x14_1).f2)) = some r := by first | (rw [hy118]; with_reducible exact H) | (have H2_ := (Option.bind_some _ _).symm.trans H; rw [hy118]; with_reducible exact H2_) | (have H2_ := (Option.bind_some _ _).symm.trans H; with_reducible exact H2_) | with_reducible exact H | (rw [hy118]; exact H) | exact H
                          have Ny118 := Aside0.mk hy118
                          clear hy118
                          have H' := Aside0.mk H
                          clear H
                          have q20 : (x14_1 : Int) ≤ ((l1.length : Int) : Int) := of_decide_eq_true (by first | (with_reducible assumption) | assumption)
                          obtain ⟨i020, hi020, _, hsz20, _⟩ := info_parts info42
                          have hroom20 : l1.length ≤ c1 := HC1.out
                          have hC20 : Kd.C k42 _ (some ad116) l1.length l1 := HR1.out
                          have ql20 : ((ji16) : Int) ≤ (x14_1 : Int) := of_decide_eq_true (by first | (with_reducible assumption) | assumption)
                          have q020 : (0 : Int) ≤ ((ji16) : Int) := of_decide_eq_true (by first | (with_reducible assumption) | assumption)
                          have hcut20 := cut_mid (P := Try.prog) 22 42 .i64 .i64 Try.underlying22 hi020 3 hsz20 (some ad116) l1.length c1 (ji16) x14_1 q020 ql20 q20 hroom20
                          have hr20 := Kd.C_mid (lo := ((ji16) : Int).toNat) (hi := (x14_1 : Int).toNat) (c := c1) hC20 (by omega) (by omega) hroom20
                          obtain ⟨A20, hA20⟩ : ∃ A_, A_ = (if c1 = ((ji16) : Int).toNat then (some ad116) else ((some ad116) : Option Addr).map (·.add (((ji16) : Int).toNat * 3))) := ⟨_, rfl⟩
                          obtain ⟨c20, hc20⟩ : ∃ c_, c_ = c1 - ((ji16) : Int).toNat := ⟨_, rfl⟩
                          have hy20 : y118.length = (x14_1 : Int).toNat - ((ji16) : Int).toNat := (by rw [Ny118.out, List.length_drop, List.length_take] <;> omega)
                          rw [show ((l1).take (x14_1 : Int).toNat).drop ((ji16) : Int).toNat = y118 from Ny118.out.symm] at hr20
                          replace hr20 : Kd.C k42 _ A20 y118.length y118 := (by rw [hA20]; exact hr20)
                          rw [← hy20, ← hA20, ← hc20] at hcut20
                          have HR121 := Aside0.mk hr20
                          have HC121 := Aside0.mk (show y118.length ≤ c20 from by rw [hy20, hc20]; exact Nat.sub_le_sub_right (Nat.le_trans (by omega) hroom20) _)
                          clear hr20 hC20 hroom20 hi020 hsz20 hc20
                          have KY20 := Aside0.mk hy20
                          have KA20 := Aside0.mk hA20
                          clear hy20 hA20
                          replace q20 := eq_true q20
                          go_wp2
                          repeat (all_goals (go_step3; go_wp2))
                          go_loopg [42] kj6 (fun kq v42 w' => ∃ (x42_3 : Int), v42 = .int .i64 x42_3 ∧ Aside0 (edits_valid.l1 kq a0 l1 l1 (l1.length : Int) x14_1 y118 (y118.length : Int) x42_3 ((rd_T42 l1 x14_1).f0) ((rd_T42 l1 x14_1).f1) ((rd_T42 l1 x14_1).f2) = some r) ∧ Aside0 (kq ≤ kj6) ∧ Aside0 (w'.heap[gb117]? = some (.cells #[.int .i64 ((rd_T42 l1 x14_1).f0), .int .i64 ((rd_T42 l1 x14_1).f1), .string ((rd_T42 l1 x14_1).f2)] 42 (0, 0))) ∧ Aside0 (Below w.heap.size w w'))
                          case atStart => exact ⟨(0), (by first | rfl | (simp; done) | (simp [*]; done)), H', ⟨Nat.le_refl _⟩, ⟨by (with_reducible repeat (first | refine blk_drewN ?_ _ | refine blk_drew ?_ | refine blk_alloc ?_ _)); exact BK117.out⟩, ⟨by repeat (first | (with_reducible first | exact HB.out | apply below_alloc | apply pw_below_drewN | apply below_drew1 | refine below_set ?_ GE117.out) | exact HB.out)⟩⟩
                          case round =>
                            clear H'
                            try clear c1
                            try clear p1
                            try clear q1
                            try clear hx1
                            try clear c2
                            try clear p2
                            try clear q2
                            try clear c3
                            try clear c3b0
                            try clear c3b1
                            try clear c4
                            try clear c4b0
                            try clear c5
                            try clear c5b0
                            try clear c6
                            try clear c6b0
                            try clear p6
                            try clear c10
                            try clear c10b0
                            try clear p11
                            try clear q11
                            try clear hx11
                            try clear c12
                            try clear c12b0
                            try clear c15
                            try clear c17
                            try clear c17b0
                            try clear c17b1
                            try clear c18
                            try clear c18b0
                            try clear c18b1
                            try clear c19
                            try clear c19b0
                            try clear c19b1
                            try clear c20
                            try clear q20
                            try clear hcz11_0
                            try clear hcz11_1
                            try clear hcz11_2
                            try clear hcz13_0
                            try clear hcz13_1
                            try clear hcz13_2
                            try clear hcz14_0
                            try clear hcz14_1
                            try clear hcz14_2
                            try clear hcz9_0
                            try clear hcz9_1
                            try clear hcz9_2
                            try clear hfz11_0
                            try clear hfz11_1
                            try clear hfz11_2
                            try clear hfz13_0
                            try clear hfz13_1
                            try clear hfz13_2
                            try clear hfz14_0
                            try clear hfz14_1
                            try clear hfz14_2
                            try clear hfz9_0
                            try clear hfz9_1
                            try clear hfz9_2
                            try clear hx116_0
                            try clear hx116_1
                            try clear hx116_2
                            try clear p1
                            try clear p11
                            try clear p116
                            try clear p2
                            try clear q020
                            try clear q1
                            try clear q11
                            try clear q116
                            try clear q20
                            obtain ⟨x42_3, rfl, HA, HK3, BK117, HB⟩ := hrel
                            cases gk with
                            | zero => exact absurd HA.out (by simp [edits_valid.l1])
                            | succ k3 =>
                              have H := HA.out
                              clear HA
                              simp only [edits_valid.l1] at H
                              by_cases c21 : x42_3 < (y118.length : Int)
                              · rw [if_pos c21] at H
                                have c21b0 : decide (x42_3 < (y118.length : Int)) = true := decide_eq_true c21
                                clear c21
                                by_cases c22 : 0 ≤ x42_3
                                · rw [if_pos c22] at H
                                  have c22b0 : decide (0 ≤ x42_3) = true := decide_eq_true c22
                                  clear c22
                                  by_cases c23 : x42_3 < (y118.length : Int)
                                  · rw [if_pos c23] at H
                                    have c23b0 : decide (x42_3 < (y118.length : Int)) = true := decide_eq_true c23
                                    clear c23
                                    by_cases c24 : ((rd_T42 l1 x14_1).f0) > ((rd_T42 y118 x42_3).f1)
                                    · rw [if_pos c24] at H
                                      have c24b0 : decide (((rd_T42 y118 x42_3).f1) < ((rd_T42 l1 x14_1).f0)) = true := decide_eq_true c24
                                      clear c24
                                      have H' := Aside0.mk H
                                      clear H
                                      have p122 : 0 ≤ (x42_3 : Int) := of_decide_eq_true (by first | (with_reducible assumption) | assumption)
                                      have q122 : x42_3 < (y118.length : Int) := of_decide_eq_true (by first | (with_reducible assumption) | assumption)
                                      obtain ⟨ad122, e122, hx122_0, hx122_1, hx122_2⟩ := at_T42 HR121.out x42_3 p122 q122
                                      cases e122
                                      replace hx122_0 := (HB.out.cell (World.block_lt_of_cell? w _ hx122_0)).trans hx122_0
                                      replace hx122_1 := (HB.out.cell (World.block_lt_of_cell? w _ hx122_1)).trans hx122_1
                                      replace hx122_2 := (HB.out.cell (World.block_lt_of_cell? w _ hx122_2)).trans hx122_2
                                      replace p122 := eq_true p122
                                      replace q122 := eq_true q122
                                      go_wp2_with (first | ((with_reducible refine gate_dst (N := 8) rfl ?_); refine box_event ?hg (N := 8) ?hd (cs := #[.int .i64 0, .int .i64 0, .string (⟨#[]⟩ : ByteArray)]) (t := 42) ?hr ?_; (case hd => rfl); (case hg => rfl); (case hr => first | (go_simp; done) | (go_simp; rfl)); intro gb123 hg w25 hbox hb; have n0_ := Aside0.mk (blk_below (g := gb117) (o := .cells #[.int .i64 ((rd_T42 l1 x14_1).f0), .int .i64 ((rd_T42 l1 x14_1).f1), .string ((rd_T42 l1 x14_1).f2)] 42 (0, 0)) (by (with_reducible repeat (first | refine blk_drewN ?_ _ | refine blk_drew ?_ | refine blk_alloc ?_ _)); exact BK117.out) hb); have n1_ := Aside0.mk (below_step (by repeat (first | (with_reducible first | exact HB.out | apply below_alloc | apply pw_below_drewN | apply below_drew1 | refine below_set ?_ GE117.out) | exact HB.out)) hb); have n2_ := Aside0.mk (hbox); have n3_ := Aside0.mk ((by rw [hg]; exact (below_size (by repeat (first | (with_reducible first | exact HB.out | apply below_alloc | apply pw_below_drewN | apply below_drew1 | refine below_set ?_ GE117.out) | exact HB.out))) : w.heap.size ≤ gb123)); have n4_ := Aside0.mk ((by rw [hg]; exact (below_size (by repeat (first | (with_reducible first | exact HB.out | apply below_alloc | apply pw_below_drewN | apply below_drew1 | refine below_set ?_ GE117.out) | exact HB.out))) : w.heap.size ≤ gb123)); have n5_ := Aside0.mk ((by rw [hg]; exact Nat.ne_of_lt (blk_lt (g := gb117) (o := .cells #[.int .i64 ((rd_T42 l1 x14_1).f0), .int .i64 ((rd_T42 l1 x14_1).f1), .string ((rd_T42 l1 x14_1).f2)] 42 (0, 0)) (by (with_reducible repeat (first | refine blk_drewN ?_ _ | refine blk_drew ?_ | refine blk_alloc ?_ _)); exact BK117.out)) : gb117 ≠ gb123)); have n6_ := Aside0.mk ((by rw [hg]; exact Nat.ne_of_gt (blk_lt (g := gb117) (o := .cells #[.int .i64 ((rd_T42 l1 x14_1).f0), .int .i64 ((rd_T42 l1 x14_1).f1), .string ((rd_T42 l1 x14_1).f2)] 42 (0, 0)) (by (with_reducible repeat (first | refine blk_drewN ?_ _ | refine blk_drew ?_ | refine blk_alloc ?_ _)); exact BK117.out)) : gb123 ≠ gb117)); clear BK117; clear HB; have BK117 := n0_; have HB := n1_; have BK123 := n2_; have GW123 := n3_; have GE123 := n4_; have NB117_123 := n5_; have NB123_117 := n6_; clear n0_ n1_ n2_ n3_ n4_ n5_ n6_; clear hb hbox hg; have hnb26 := NB123_117.out; have hnc26 := NB117_123.out; have hcz27_0 : w25.cell? ⟨gb123, 0, none⟩ = some (.int .i64 0) := (blk_cell BK123.out 0).trans rfl; have hcz27_1 : w25.cell? ⟨gb123, 1, none⟩ = some (.int .i64 0) := (blk_cell BK123.out 1).trans rfl; have hcz27_2 : w25.cell? ⟨gb123, 2, none⟩ = some (.string (⟨#[]⟩ : ByteArray)) := (blk_cell BK123.out 2).trans rfl; have hfz27_0 := blk_frozen BK123.out 0; have hfz27_1 := blk_frozen BK123.out 1; have hfz27_2 := blk_frozen BK123.out 2; have hcz28_0 : w25.cell? ⟨gb117, 0, none⟩ = some (.int .i64 ((rd_T42 l1 x14_1).f0)) := (blk_cell BK117.out 0).trans rfl; have hcz28_1 : w25.cell? ⟨gb117, 1, none⟩ = some (.int .i64 ((rd_T42 l1 x14_1).f1)) := (blk_cell BK117.out 1).trans rfl; have hcz28_2 : w25.cell? ⟨gb117, 2, none⟩ = some (.string ((rd_T42 l1 x14_1).f2)) := (blk_cell BK117.out 2).trans rfl; have hfz28_0 := blk_frozen BK117.out 0; have hfz28_1 := blk_frozen BK117.out 1; have hfz28_2 := blk_frozen BK117.out 2))
                                      go_roundg k3
                                      case measure => have := HK1.out; have := HJ6.out; have := HK3.out; omega
                                      case rel => exact ⟨(wrap64 (x14_1 + 1)), (by first | rfl | (simp; done) | (simp [*]; done)), H', ⟨by have := HK1.out; have := HJ6.out; have := HK3.out; omega⟩, ⟨by repeat (first | (with_reducible first | exact HB.out | apply below_alloc | apply pw_below_drewN | apply below_drew1 | refine below_set ?_ GE117.out | refine below_set ?_ GE123.out) | exact HB.out)⟩⟩
                                    · rw [if_neg c24] at H
                                      have c24b0 : decide (((rd_T42 y118 x42_3).f1) < ((rd_T42 l1 x14_1).f0)) = false := decide_eq_false c24
                                      clear c24
                                      obtain rfl := Option.some.inj H
                                      have p122 : 0 ≤ (x42_3 : Int) := of_decide_eq_true (by first | (with_reducible assumption) | assumption)
                                      have q122 : x42_3 < (y118.length : Int) := of_decide_eq_true (by first | (with_reducible assumption) | assumption)
                                      obtain ⟨ad122, e122, hx122_0, hx122_1, hx122_2⟩ := at_T42 HR121.out x42_3 p122 q122
                                      cases e122
                                      replace hx122_0 := (HB.out.cell (World.block_lt_of_cell? w _ hx122_0)).trans hx122_0
                                      replace hx122_1 := (HB.out.cell (World.block_lt_of_cell? w _ hx122_1)).trans hx122_1
                                      replace hx122_2 := (HB.out.cell (World.block_lt_of_cell? w _ hx122_2)).trans hx122_2
                                      replace p122 := eq_true p122
                                      replace q122 := eq_true q122
                                      go_wp2_with (first | ((with_reducible refine gate_dst (N := 8) rfl ?_); refine box_event ?hg (N := 8) ?hd (cs := #[.int .i64 0, .int .i64 0, .string (⟨#[]⟩ : ByteArray)]) (t := 42) ?hr ?_; (case hd => rfl); (case hg => rfl); (case hr => first | (go_simp; done) | (go_simp; rfl)); intro gb123 hg w29 hbox hb; have n0_ := Aside0.mk (blk_below (g := gb117) (o := .cells #[.int .i64 ((rd_T42 l1 x14_1).f0), .int .i64 ((rd_T42 l1 x14_1).f1), .string ((rd_T42 l1 x14_1).f2)] 42 (0, 0)) (by (with_reducible repeat (first | refine blk_drewN ?_ _ | refine blk_drew ?_ | refine blk_alloc ?_ _)); exact BK117.out) hb); have n1_ := Aside0.mk (below_step (by repeat (first | (with_reducible first | exact HB.out | apply below_alloc | apply pw_below_drewN | apply below_drew1 | refine below_set ?_ GE117.out) | exact HB.out)) hb); have n2_ := Aside0.mk (hbox); have n3_ := Aside0.mk ((by rw [hg]; exact (below_size (by repeat (first | (with_reducible first | exact HB.out | apply below_alloc | apply pw_below_drewN | apply below_drew1 | refine below_set ?_ GE117.out) | exact HB.out))) : w.heap.size ≤ gb123)); have n4_ := Aside0.mk ((by rw [hg]; exact (below_size (by repeat (first | (with_reducible first | exact HB.out | apply below_alloc | apply pw_below_drewN | apply below_drew1 | refine below_set ?_ GE117.out) | exact HB.out))) : w.heap.size ≤ gb123)); have n5_ := Aside0.mk ((by rw [hg]; exact Nat.ne_of_lt (blk_lt (g := gb117) (o := .cells #[.int .i64 ((rd_T42 l1 x14_1).f0), .int .i64 ((rd_T42 l1 x14_1).f1), .string ((rd_T42 l1 x14_1).f2)] 42 (0, 0)) (by (with_reducible repeat (first | refine blk_drewN ?_ _ | refine blk_drew ?_ | refine blk_alloc ?_ _)); exact BK117.out)) : gb117 ≠ gb123)); have n6_ := Aside0.mk ((by rw [hg]; exact Nat.ne_of_gt (blk_lt (g := gb117) (o := .cells #[.int .i64 ((rd_T42 l1 x14_1).f0), .int .i64 ((rd_T42 l1 x14_1).f1), .string ((rd_T42 l1 x14_1).f2)] 42 (0, 0)) (by (with_reducible repeat (first | refine blk_drewN ?_ _ | refine blk_drew ?_ | refine blk_alloc ?_ _)); exact BK117.out)) : gb123 ≠ gb117)); clear BK117; clear HB; have BK117 := n0_; have HB := n1_; have BK123 := n2_; have GW123 := n3_; have GE123 := n4_; have NB117_123 := n5_; have NB123_117 := n6_; clear n0_ n1_ n2_ n3_ n4_ n5_ n6_; clear hb hbox hg; have hnb30 := NB123_117.out; have hnc30 := NB117_123.out; have hcz31_0 : w29.cell? ⟨gb123, 0, none⟩ = some (.int .i64 0) := (blk_cell BK123.out 0).trans rfl; have hcz31_1 : w29.cell? ⟨gb123, 1, none⟩ = some (.int .i64 0) := (blk_cell BK123.out 1).trans rfl; have hcz31_2 : w29.cell? ⟨gb123, 2, none⟩ = some (.string (⟨#[]⟩ : ByteArray)) := (blk_cell BK123.out 2).trans rfl; have hfz31_0 := blk_frozen BK123.out 0; have hfz31_1 := blk_frozen BK123.out 1; have hfz31_2 := blk_frozen BK123.out 2; have hcz32_0 : w29.cell? ⟨gb117, 0, none⟩ = some (.int .i64 ((rd_T42 l1 x14_1).f0)) := (blk_cell BK117.out 0).trans rfl; have hcz32_1 : w29.cell? ⟨gb117, 1, none⟩ = some (.int .i64 ((rd_T42 l1 x14_1).f1)) := (blk_cell BK117.out 1).trans rfl; have hcz32_2 : w29.cell? ⟨gb117, 2, none⟩ = some (.string ((rd_T42 l1 x14_1).f2)) := (blk_cell BK117.out 2).trans rfl; have hfz32_0 := blk_frozen BK117.out 0; have hfz32_1 := blk_frozen BK117.out 1; have hfz32_2 := blk_frozen BK117.out 2))
                                      (try rw [Exit.noGoto_ret])
                                      go_ret
                                      exact ⟨by first | rfl | (simp [errW_none, errW_some] <;> rfl) | (simp only [← hji16]; first | rfl | (simp [errW_none, errW_some] <;> rfl)) | (simp [*, errW_none, errW_some] <;> rfl), by repeat (first | (with_reducible first | exact HB.out | apply below_alloc | apply pw_below_drewN | apply below_drew1 | refine below_set ?_ GE117.out | refine below_set ?_ GE123.out) | exact HB.out)⟩
                                  · rw [if_neg c23] at H
                                    exact absurd H (by simp)
                                · rw [if_neg c22] at H
                                  exact absurd H (by simp)
                              · rw [if_neg c21] at H
                                have c21b0 : decide (x42_3 < (y118.length : Int)) = false := decide_eq_false c21
                                clear c21
                                have H' := Aside0.mk H
                                clear H
                                go_wp2
                                repeat (all_goals (go_step3; go_wp2))
                                go_roundg k3
                                case measure => have := HK1.out; have := HJ6.out; have := HK3.out; omega
                                case rel => exact ⟨(wrap64 (x14_1 + 1)), (by first | rfl | (simp; done) | (simp [*]; done)), H', ⟨by have := HK1.out; have := HJ6.out; have := HK3.out; omega⟩, ⟨by repeat (first | (with_reducible first | exact HB.out | apply below_alloc | apply pw_below_drewN | apply below_drew1 | refine below_set ?_ GE117.out) | exact HB.out)⟩⟩
                        · rw [if_neg c19] at H
                          exact absurd H (by simp)
                      · rw [if_neg c18] at H
                        exact absurd H (by simp)
                    · rw [if_neg c17] at H
                      exact absurd H (by simp)
            · rw [if_neg c6] at H
              exact absurd H (by simp)
          · rw [if_neg c5] at H
            exact absurd H (by simp)
        · rw [if_neg c4] at H
          have c4b0 : decide (x14_1 < (l1.length : Int)) = false := decide_eq_false c4
          clear c4
          obtain rfl := Option.some.inj H
          go_wp2
          repeat (all_goals (go_step3; go_wp2))
          (try rw [Exit.noGoto_ret])
          go_ret
          exact ⟨by first | rfl | (simp [errW_none, errW_some] <;> rfl) | (simp [*, errW_none, errW_some] <;> rfl), by repeat (first | (with_reducible first | exact HB.out | apply below_alloc | apply pw_below_drewN | apply below_drew1) | exact HB.out)⟩

end Go.Proofs.Ytaihajmdngoeiaa.F

-- A text of this session's own program (wip/myprint.sh over a changed print tool): functions and their walks
namespace Go.Proofs.Ytaihajmdngoeiaa.F
open Go.RowKit Go.Proofs.YtaihajmdngoeiaaW.PrintWords Go.Proofs.YtaihajmdngoeiaaW.PrintLast Go.Proofs.YtaihajmdngoeiaaW.PrintMore
attribute [local go_sem] max2_int min2_int max_two min_two max_three min_three max_four min_four   -- for this text's walks alone
set_option linter.unusedVariables false
set_option linter.unusedSimpArgs false

/-! ### edits_Valid: function 16 -/
def edits_Valid.f (k : Nat) (a0 : Int) (l1 : List (S42)) : Option (Int) := if a0 < 0 then (some 1) else (if a0 > 4611686018427387904 then (some 1) else ((edits_valid.f k a0 l1).bind fun t124 => (some t124)))
set_option maxHeartbeats 8000000 in
set_option maxRecDepth 100000 in
theorem edits_Valid.calls (k : Nat) (a0 : Int) (A1 : Option Addr) (c1 : Nat) (l1 : List (S42)) (r : Int) (w : World) (hr1 : Kd.C k42 w A1 l1.length l1) (hc1 : l1.length ≤ c1) (h : edits_Valid.f k a0 l1 = some r) :
    Calls Try.prog 16 #[.int .i64 a0, .slice A1 l1.length c1] w fun e w' => e = .returned (.int .i64 r) ∧ Below w.heap.size w w' := by
  have HR1 := Aside0.mk hr1
  have HC1 := Aside0.mk hc1
  clear hr1 hc1
  have HB := Aside0.mk (Below.refl w.heap.size w)
  have H : (if a0 < 0 then (some 1) else (if a0 > 4611686018427387904 then (some 1) else ((edits_valid.f k a0 l1).bind fun t124 => (some t124)))) = some r := h
  clear h
  by_cases c3 : a0 < 0
  · rw [if_pos c3] at H
    have c3b0 : decide (a0 < 0) = true := decide_eq_true c3
    clear c3
    obtain rfl := Option.some.inj H
    go_enter Try.func16, Try.ntmps16
    go_wp2
    go_ret
    exact ⟨by first | rfl | (simp [errW_none, errW_some] <;> rfl) | (simp [*, errW_none, errW_some] <;> rfl), by repeat (first | (with_reducible first | exact HB.out | apply below_alloc | apply pw_below_drewN | apply below_drew1) | exact HB.out)⟩
  · rw [if_neg c3] at H
    have c3b0 : decide (a0 < 0) = false := decide_eq_false c3
    clear c3
    by_cases c4 : a0 > 4611686018427387904
    · rw [if_pos c4] at H
      have c4b0 : decide (4611686018427387904 < a0) = true := decide_eq_true c4
      clear c4
      obtain rfl := Option.some.inj H
      go_enter Try.func16, Try.ntmps16
      go_wp2
      go_ret
      exact ⟨by first | rfl | (simp [errW_none, errW_some] <;> rfl) | (simp [*, errW_none, errW_some] <;> rfl), by repeat (first | (with_reducible first | exact HB.out | apply below_alloc | apply pw_below_drewN | apply below_drew1) | exact HB.out)⟩
    · rw [if_neg c4] at H
      have c4b0 : decide (4611686018427387904 < a0) = false := decide_eq_false c4
      clear c4
      replace H := Option.bind_eq_some_iff.mp H
      obtain ⟨t124, A50, H⟩ := H
      replace H : (some t124) = some r := H
      have A5 := Aside0.mk A50
      clear A50
      obtain rfl := Option.some.inj H
      go_enter Try.func16, Try.ntmps16
      go_wp2_with (first | ((with_reducible refine gate_callee (f := 32) rfl ?_); refine goesL_ (some 13) rfl rfl Try.func32 (by kernel_rfl) rfl #[.int .i64 a0, .slice A1 l1.length c1] rfl (by (try simp only [List.map_toArray, List.map_cons, List.map_nil]); first | done | rfl | (simp only [List.length_drop, List.length_take]; rfl)) ?_; (with_reducible refine (edits_valid.calls k a0 _ _ l1 t124 _ ?side1 ?side2 A5.out).mono ?_); (case side1 => repeat (first | exact HR1.out | (with_reducible refine Kd.C_alloc ?_ _) | (with_reducible refine Kd.C_drewN ?_ _) | (with_reducible refine Kd.C_drew ?_))); (case side2 => exact HC1.out); rintro e w6 ⟨rfl, hb⟩; refine ⟨_, rfl, ?_⟩; have n0_ := Aside0.mk (below_step (by repeat (first | (with_reducible first | exact HB.out | apply below_alloc | apply pw_below_drewN | apply below_drew1) | exact HB.out)) hb); clear HB; have HB := n0_; clear n0_; (try clear hb); (try clear hb2); (try clear hk); (try clear hi)))
      go_ret
      exact ⟨by first | rfl | (simp [errW_none, errW_some] <;> rfl) | (simp [*, errW_none, errW_some] <;> rfl), by repeat (first | (with_reducible first | exact HB.out | apply below_alloc | apply pw_below_drewN | apply below_drew1) | exact HB.out)⟩

end Go.Proofs.Ytaihajmdngoeiaa.F

-- A text of this session's own program (wip/myprint.sh over a changed print tool): functions and their walks
namespace Go.Proofs.Ytaihajmdngoeiaa.F
open Go.RowKit Go.Proofs.YtaihajmdngoeiaaW.PrintWords Go.Proofs.YtaihajmdngoeiaaW.PrintLast Go.Proofs.YtaihajmdngoeiaaW.PrintMore
attribute [local go_sem] max2_int min2_int max_two min_two max_three min_three max_four min_four   -- for this text's walks alone
set_option linter.unusedVariables false
set_option linter.unusedSimpArgs false

theorem eqA42 (d : Nat) (w : World) (x0 y0 : Int) (x1 y1 : Int) (x2 y2 : ByteArray) :
    (Op.equalIn (d + 2) 42 (.agg #[.int .i64 x0, .int .i64 x1, .string x2]) (.agg #[.int .i64 y0, .int .i64 y1, .string y2])).run Try.prog w = .ok (x0 == y0 && (x1 == y1 && (x2.toList == y2.toList))) w := by
  refine eqA_of Try.underlying42 (by kernel_rfl) ?_
  refine eqf_cons (by rfl) (by go_simp; rfl) (by go_simp; rfl) (by go_simp) ?_
  refine eqf_cons (by rfl) (by go_simp; rfl) (by go_simp; rfl) (by go_simp) ?_
  exact eqf_last (by rfl) (by go_simp; rfl) (by go_simp; rfl) (by go_simp)
end Go.Proofs.Ytaihajmdngoeiaa.F

-- A text of this session's own program (wip/myprint.sh over a changed print tool): functions and their walks
namespace Go.Proofs.Ytaihajmdngoeiaa.F
open Go.RowKit Go.Proofs.YtaihajmdngoeiaaW.PrintWords Go.Proofs.YtaihajmdngoeiaaW.PrintLast Go.Proofs.YtaihajmdngoeiaaW.PrintMore
attribute [local go_sem] max2_int min2_int max_two min_two max_three min_three max_four min_four   -- for this text's walks alone
set_option linter.unusedVariables false
set_option linter.unusedSimpArgs false

attribute [local go_sem high] eqA42
/-! ### monikerplain_SameEdits: function 21 -/
def monikerplain_SameEdits.l0 : Nat → List (S42) → List (S42) → Int → Int → Option (Bool)
  | 0, _, _, _, _ => none
  | k + 1, x0, x1, x12, x13 => if x13 < x12 then (if 0 ≤ x13 then (if x13 < (x0.length : Int) then (if x13 < (x1.length : Int) then (if (!(((rd_T42 x0 x13).f0) == ((rd_T42 x1 x13).f0)) || (!(((rd_T42 x0 x13).f1) == ((rd_T42 x1 x13).f1)) || (!((((rd_T42 x0 x13).f2).toList) == (((rd_T42 x1 x13).f2).toList))))) = true then (some false) else (monikerplain_SameEdits.l0 k x0 x1 x12 (wrap64 (x13 + 1)))) else (none)) else (none)) else (none)) else (some true)
def monikerplain_SameEdits.f (k : Nat) (l0 : List (S42)) (l1 : List (S42)) : Option (Bool) := if (l0.length : Int) = (l1.length : Int) then (monikerplain_SameEdits.l0 k l0 l1 (l0.length : Int) 0) else (some false)
set_option maxHeartbeats 8000000 in
set_option maxRecDepth 100000 in
theorem monikerplain_SameEdits.calls (k : Nat) (A0 : Option Addr) (c0 : Nat) (l0 : List (S42)) (A1 : Option Addr) (c1 : Nat) (l1 : List (S42)) (r : Bool) (w : World) (hr0 : Kd.C k42 w A0 l0.length l0) (hc0 : l0.length ≤ c0) (hr1 : Kd.C k42 w A1 l1.length l1) (hc1 : l1.length ≤ c1) (h : monikerplain_SameEdits.f k l0 l1 = some r) :
    Calls Try.prog 21 #[.slice A0 l0.length c0, .slice A1 l1.length c1] w fun e w' => e = .returned (.bool r) ∧ Drawn0 w w' := by
  have hu42 := Try.underlying42
  have HR0 := Aside0.mk hr0
  have HC0 := Aside0.mk hc0
  clear hr0 hc0
  have HR1 := Aside0.mk hr1
  have HC1 := Aside0.mk hc1
  clear hr1 hc1
  have H : (if (l0.length : Int) = (l1.length : Int) then (monikerplain_SameEdits.l0 k l0 l1 (l0.length : Int) 0) else (some false)) = some r := h
  clear h
  by_cases c3 : (l0.length : Int) = (l1.length : Int)
  · rw [if_pos c3] at H
    have c3b0 : ((l0.length : Int) == (l1.length : Int)) = true := beq_iff_eq.mpr c3
    have c3b1 : ((l0.length : Int) != (l1.length : Int)) = false := bne_eq_false_iff_eq.mpr c3
    have c3b2 : (l0.length == l1.length) = true := by first | simpa using c3 | (simp at c3 ⊢; omega)
    clear c3
    have H' := Aside0.mk H
    clear H
    go_enter Try.func21, Try.ntmps21
    go_wp2
    repeat (go_quiet (fail); try go_wp2)
    go_loopg [13] k (fun kq v13 w' => ∃ (x13_1 : Int), v13 = .int .i64 x13_1 ∧ Aside0 (monikerplain_SameEdits.l0 kq l0 l1 (l0.length : Int) x13_1 = some r) ∧ Aside0 (kq ≤ k) ∧ Drawn0 w w')
    case atStart => exact ⟨(0), (by first | rfl | (simp; done) | (simp [*]; done)), H', ⟨Nat.le_refl _⟩, by repeat (first | exact Drawn0.refl _ | apply Drawn0.step)⟩
    case round =>
      clear H'
      try clear c1
      try clear c2
      try clear p2
      try clear c3
      try clear c3b0
      try clear c3b1
      try clear c3b2
      obtain ⟨x13_1, rfl, HA, HK1, ⟨m1, rfl⟩⟩ := hrel
      cases gk with
      | zero => exact absurd HA.out (by simp [monikerplain_SameEdits.l0])
      | succ k1 =>
        have H := HA.out
        clear HA
        simp only [monikerplain_SameEdits.l0] at H
        by_cases c4 : x13_1 < (l0.length : Int)
        · rw [if_pos c4] at H
          have c4b0 : decide (x13_1 < (l0.length : Int)) = true := decide_eq_true c4
          clear c4
          by_cases c5 : 0 ≤ x13_1
          · rw [if_pos c5] at H
            have c5b0 : decide (0 ≤ x13_1) = true := decide_eq_true c5
            clear c5
            by_cases c6 : x13_1 < (l0.length : Int)
            · rw [if_pos c6] at H
              have c6b0 : decide (x13_1 < (l0.length : Int)) = true := decide_eq_true c6
              clear c6
              by_cases c7 : x13_1 < (l1.length : Int)
              · rw [if_pos c7] at H
                have c7b0 : decide (x13_1 < (l1.length : Int)) = true := decide_eq_true c7
                clear c7
                by_cases c8 : (!(((rd_T42 l0 x13_1).f0) == ((rd_T42 l1 x13_1).f0)) || (!(((rd_T42 l0 x13_1).f1) == ((rd_T42 l1 x13_1).f1)) || (!((((rd_T42 l0 x13_1).f2).toList) == (((rd_T42 l1 x13_1).f2).toList))))) = true
                · rw [if_pos c8] at H
                  have c8b0 : (!(((rd_T42 l0 x13_1).f0) == ((rd_T42 l1 x13_1).f0)) || (!(((rd_T42 l0 x13_1).f1) == ((rd_T42 l1 x13_1).f1)) || (!((((rd_T42 l0 x13_1).f2).toList) == (((rd_T42 l1 x13_1).f2).toList))))) = true := c8
                  clear c8
                  obtain rfl := Option.some.inj H
                  have p129 : 0 ≤ (x13_1 : Int) := of_decide_eq_true (by first | (with_reducible assumption) | assumption)
                  have q129 : x13_1 < (l0.length : Int) := of_decide_eq_true (by first | (with_reducible assumption) | assumption)
                  obtain ⟨ad129, e129, hx129_0, hx129_1, hx129_2⟩ := at_T42 HR0.out x13_1 p129 q129
                  cases e129
                  replace p129 := eq_true p129
                  replace q129 := eq_true q129
                  have p130 : 0 ≤ (x13_1 : Int) := of_decide_eq_true (by first | (with_reducible assumption) | assumption)
                  have q130 : x13_1 < (l1.length : Int) := of_decide_eq_true (by first | (with_reducible assumption) | assumption)
                  obtain ⟨ad130, e130, hx130_0, hx130_1, hx130_2⟩ := at_T42 HR1.out x13_1 p130 q130
                  cases e130
                  replace p130 := eq_true p130
                  replace q130 := eq_true q130
                  go_wp2
                  repeat (go_quiet (fail); try go_wp2)
                  go_ret
                  exact ⟨by first | rfl | (simp; done) | (simp [*]; done), by repeat (first | exact Drawn0.refl _ | apply Drawn0.step)⟩
                · rw [if_neg c8] at H
                  have c8b0 : (!(((rd_T42 l0 x13_1).f0) == ((rd_T42 l1 x13_1).f0)) || (!(((rd_T42 l0 x13_1).f1) == ((rd_T42 l1 x13_1).f1)) || (!((((rd_T42 l0 x13_1).f2).toList) == (((rd_T42 l1 x13_1).f2).toList))))) = false := by simpa using c8
                  clear c8
                  have H' := Aside0.mk H
                  clear H
                  have p129 : 0 ≤ (x13_1 : Int) := of_decide_eq_true (by first | (with_reducible assumption) | assumption)
                  have q129 : x13_1 < (l0.length : Int) := of_decide_eq_true (by first | (with_reducible assumption) | assumption)
                  obtain ⟨ad129, e129, hx129_0, hx129_1, hx129_2⟩ := at_T42 HR0.out x13_1 p129 q129
                  cases e129
                  replace p129 := eq_true p129
                  replace q129 := eq_true q129
                  have p130 : 0 ≤ (x13_1 : Int) := of_decide_eq_true (by first | (with_reducible assumption) | assumption)
                  have q130 : x13_1 < (l1.length : Int) := of_decide_eq_true (by first | (with_reducible assumption) | assumption)
                  obtain ⟨ad130, e130, hx130_0, hx130_1, hx130_2⟩ := at_T42 HR1.out x13_1 p130 q130
                  cases e130
                  replace p130 := eq_true p130
                  replace q130 := eq_true q130
                  go_wp2
                  repeat (go_quiet (fail); try go_wp2)
                  go_roundg k1
                  case measure => have := HK1.out; omega
                  case rel => exact ⟨(wrap64 (x13_1 + 1)), (by first | rfl | (simp; done) | (simp [*]; done)), H', ⟨by have := HK1.out; omega⟩, by repeat (first | exact Drawn0.refl _ | apply Drawn0.step)⟩
              · rw [if_neg c7] at H
                exact absurd H (by simp)
            · rw [if_neg c6] at H
              exact absurd H (by simp)
          · rw [if_neg c5] at H
            exact absurd H (by simp)
        · rw [if_neg c4] at H
          have c4b0 : decide (x13_1 < (l0.length : Int)) = false := decide_eq_false c4
          clear c4
          obtain rfl := Option.some.inj H
          go_wp2
          repeat (go_quiet (fail); try go_wp2)
          go_ret
          exact ⟨by first | rfl | (simp; done) | (simp [*]; done), by repeat (first | exact Drawn0.refl _ | apply Drawn0.step)⟩
  · rw [if_neg c3] at H
    have c3b0 : ((l0.length : Int) == (l1.length : Int)) = false := beq_eq_false_iff_ne.mpr c3
    have c3b1 : ((l0.length : Int) != (l1.length : Int)) = true := bne_iff_ne.mpr c3
    have c3b2 : (l0.length == l1.length) = false := by first | simpa using c3 | (simp at c3 ⊢; omega)
    obtain rfl := Option.some.inj H
    go_enter Try.func21, Try.ntmps21
    go_wp2
    repeat (go_quiet (fail); try go_wp2)
    go_ret
    exact ⟨by first | rfl | (simp; done) | (simp [*]; done), by repeat (first | exact Drawn0.refl _ | apply Drawn0.step)⟩

end Go.Proofs.Ytaihajmdngoeiaa.F

namespace Go.Proofs.Ytaihajmdngoeiaa.Q
open Go.RowKit Go.Proofs.YtaihajmdngoeiaaW.PrintWords Go.Proofs.YtaihajmdngoeiaaW.PrintLast Go.Proofs.YtaihajmdngoeiaaW.PrintMore
open Go.Proofs.Ytaihajmdngoeiaa.F

theorem w64 {x : Int} (h0 : -9223372036854775808 ≤ x) (h1 : x ≤ 9223372036854775807) : wrap64 x = x := by unfold wrap64; omega
theorem rd_at (l : List S42) (i : Nat) (h : i < l.length) : rd_T42 l (i : Int) = l[i] := by
  simp [rd_T42, List.getD_eq_getElem?_getD, h]

/-- What is wrong with a list of edits, the last one's end known. -/
def vgo (size : Int) : Option Int → List S42 → Int
  | _, [] => 0
  | p, e :: t => if e.f0 < 0 ∨ e.f1 < e.f0 ∨ e.f1 > size then 10 else match p with
    | none => vgo size (some e.f1) t
    | some q => if e.f0 ≤ q then 11 else vgo size (some e.f1) t
def vspec (size : Int) (l : List S42) : Int := if (l.length : Int) > 65536 then 2 else vgo size none l
def prev (l : List S42) (i : Nat) : Option Int := if i = 0 then none else some (rd_T42 l ((i : Int) - 1)).f1
theorem prev_zero (l : List S42) : prev l 0 = none := rfl
theorem prev_succ (l : List S42) (i : Nat) (h : i < l.length) : prev l (i + 1) = some (l[i]).f1 := by
  unfold prev
  rw [if_neg (by omega), show ((i + 1 : Nat) : Int) - 1 = (i : Int) by omega, rd_at l i h]
theorem vgo_at (size : Int) (l : List S42) (i : Nat) (h : i < l.length) (p : Option Int) : vgo size p (l.drop i) =
    if (l[i]).f0 < 0 ∨ (l[i]).f1 < (l[i]).f0 ∨ (l[i]).f1 > size then 10 else match p with
    | none => vgo size (prev l (i + 1)) (l.drop (i + 1))
    | some q => if (l[i]).f0 ≤ q then 11 else vgo size (prev l (i + 1)) (l.drop (i + 1)) := by
  rw [prev_succ l i h, List.drop_eq_getElem_cons h]
  cases p <;> simp only [vgo]
theorem vgo_end (size : Int) (l : List S42) (i : Nat) (h : ¬ i < l.length) (p : Option Int) : vgo size p (l.drop i) = 0 := by
  rw [List.drop_eq_nil_of_le (by omega)]
  cases p <;> rfl

theorem valid_loop (size : Int) (l : List S42) (hl : l.length ≤ 65536) (d : Nat) : ∀ i, i ≤ l.length → l.length - i = d →
    Ev (fun k => edits_valid.l0 k size l l (l.length : Int) (i : Int)) (vgo size (prev l i) (l.drop i)) := by
  induction d with
  | zero =>
    intro i h1 h2
    refine ⟨1, fun n hn => ?_⟩
    obtain ⟨k, rfl⟩ : ∃ m, n = m + 1 := ⟨n - 1, by omega⟩
    simp only [edits_valid.l0]
    rw [if_neg (by omega), vgo_end _ _ _ (by omega)]
  | succ d ih =>
    intro i h1 h2
    have hi : i < l.length := by omega
    obtain ⟨K, hK⟩ := ih (i + 1) (by omega) (by omega)
    refine ⟨K + 4, fun n hn => ?_⟩
    obtain ⟨k, rfl⟩ : ∃ m, n = m + 4 := ⟨n - 4, by omega⟩
    have hgo := hK (k + 1) (by omega)
    have hgo2 := hK (k + 2) (by omega)
    rw [vgo_at size l i hi]
    have hj : ∀ b : Bool, b = decide ((l[i]).f0 < 0 ∨ (l[i]).f1 < (l[i]).f0 ∨ (l[i]).f1 > size) →
        edits_valid.j1 (k + 3) size l (i : Int) l (l.length : Int) (i : Int) b (l[i]).f0 (l[i]).f1 (l[i]).f2 = some (if (l[i]).f0 < 0 ∨ (l[i]).f1 < (l[i]).f0 ∨ (l[i]).f1 > size then 10 else match prev l i with
    | none => vgo size (prev l (i + 1)) (l.drop (i + 1))
    | some q => if (l[i]).f0 ≤ q then 11 else vgo size (prev l (i + 1)) (l.drop (i + 1))) := by
      intro b hb
      simp only [edits_valid.j1]
      by_cases hbad : (l[i]).f0 < 0 ∨ (l[i]).f1 < (l[i]).f0 ∨ (l[i]).f1 > size
      · rw [if_pos (by rw [hb]; exact decide_eq_true hbad), if_pos hbad]
      · rw [if_neg (by rw [hb]; simpa using hbad), if_neg hbad]
        have hw1 : wrap64 ((i : Int) + 1) = ((i + 1 : Nat) : Int) := by rw [w64] <;> omega
        rcases Nat.eq_zero_or_pos i with h0 | h0
        · subst h0
          have hm : mx (wrap64 (((0 : Nat) : Int) - 1)) 0 = 0 := by rw [w64 (by omega) (by omega)]; unfold mx; omega
          rw [hm, if_pos (by omega), if_pos (by omega), if_pos (by omega)]
          simp only [Option.bind_some, edits_valid.l1, prev_zero]
          rw [if_neg (by simp), hw1]
          exact hgo
        · have hm : mx (wrap64 ((i : Int) - 1)) 0 = (i : Int) - 1 := by rw [w64 (by omega) (by omega)]; unfold mx; omega
          rw [hm, if_pos (by omega), if_pos (by omega), if_pos (by omega)]
          have hp : prev l i = some (rd_T42 l ((i : Int) - 1)).f1 := by unfold prev; rw [if_neg (by omega)]
          have hy : (l.take (i : Int).toNat).drop ((i : Int) - 1).toNat = [rd_T42 l ((i : Int) - 1)] := by
            obtain ⟨j, rfl⟩ : ∃ j, i = j + 1 := ⟨i - 1, by omega⟩
            rw [show (((j + 1 : Nat) : Int) - 1) = (j : Int) by omega, rd_at l j (by omega), Int.toNat_natCast, Int.toNat_natCast]
            rw [List.take_succ_eq_append_getElem (by omega), List.drop_append_of_le_length (by rw [List.length_take]; omega)]
            simp
          rw [hy, hp]
          simp only [Option.bind_some, edits_valid.l1, List.length_singleton]
          rw [if_pos (by omega), if_pos (by omega), if_pos (by omega)]
          have hz : rd_T42 [rd_T42 l ((i : Int) - 1)] 0 = rd_T42 l ((i : Int) - 1) := rfl
          rw [hz]
          by_cases hle : (l[i]).f0 ≤ (rd_T42 l ((i : Int) - 1)).f1
          · rw [if_neg (by omega), if_pos hle]
          · rw [if_pos (by omega), if_neg hle, hw1]
            exact hgo
    simp only [edits_valid.l0]
    rw [rd_at l i hi, if_pos (by omega), if_pos (by omega), if_pos (by omega)]
    by_cases c1 : (l[i]).f0 < 0
    · rw [if_pos c1]; exact hj _ (by simp [c1])
    · rw [if_neg c1]
      by_cases c2 : (l[i]).f1 < (l[i]).f0
      · rw [if_pos c2]; exact hj _ (by simp [c2])
      · rw [if_neg c2]; exact hj _ (by simp [c1, c2])

theorem valid_is (size : Int) (l : List S42) : Ev (fun k => edits_valid.f k size l) (vspec size l) := by
  unfold edits_valid.f vspec
  by_cases h : (l.length : Int) > 65536
  · simp only [if_pos h]; exact Ev.now _
  · simp only [if_neg h]
    have := valid_loop size l (by omega) l.length 0 (by omega) (by omega)
    simpa [prev_zero] using this

def Vspec (size : Int) (l : List S42) : Int := if size < 0 then 1 else if size > 4611686018427387904 then 1 else vspec size l
theorem Valid_is (size : Int) (l : List S42) : Ev (fun k => edits_Valid.f k size l) (Vspec size l) := by
  unfold edits_Valid.f Vspec
  by_cases h : size < 0
  · simp only [if_pos h]; exact Ev.now _
  · simp only [if_neg h]
    by_cases h' : size > 4611686018427387904
    · simp only [if_pos h']; exact Ev.now _
    · simp only [if_neg h']
      exact (valid_is size l).bind (Ev.now _)
end Go.Proofs.Ytaihajmdngoeiaa.Q

-- A text of this session's own program (wip/myprint.sh over a changed print tool): functions and their walks
namespace Go.Proofs.Ytaihajmdngoeiaa.F
open Go.RowKit Go.Proofs.YtaihajmdngoeiaaW.PrintWords Go.Proofs.YtaihajmdngoeiaaW.PrintLast Go.Proofs.YtaihajmdngoeiaaW.PrintMore
attribute [local go_sem] max2_int min2_int max_two min_two max_three min_three max_four min_four   -- for this text's walks alone
set_option linter.unusedVariables false
set_option linter.unusedSimpArgs false

/-! ### edits_grows: function 34 -/
def edits_grows.f (a0_0 : Int) (a0_1 : Int) (a0_2 : ByteArray) : Option (Int) := some (wrap64 ((a0_2.size : Int) - (wrap64 (a0_1 - a0_0))))
set_option maxHeartbeats 8000000 in
set_option maxRecDepth 100000 in
theorem edits_grows.calls (a0_0 : Int) (a0_1 : Int) (a0_2 : ByteArray) (r : Int) (w : World) (h : edits_grows.f a0_0 a0_1 a0_2 = some r) :
    Calls Try.prog 34 #[.agg #[.int .i64 a0_0, .int .i64 a0_1, .string a0_2]] w fun e w' => e = .returned (.int .i64 r) ∧ Below w.heap.size w w' := by
  have hu42 := Try.underlying42
  have HB := Aside0.mk (Below.refl w.heap.size w)
  have H : (some (wrap64 ((a0_2.size : Int) - (wrap64 (a0_1 - a0_0))))) = some r := h
  clear h
  obtain rfl := Option.some.inj H
  go_enter Try.func34, Try.ntmps34
  go_wp2_with (first | ((with_reducible refine gate_dst (N := 1) rfl ?_); refine box_event ?hg (N := 1) ?hd (cs := #[.int .i64 a0_0, .int .i64 a0_1, .string a0_2]) (t := 42) ?hr ?_; (case hd => rfl); (case hg => rfl); (case hr => first | (go_simp; done) | (go_simp; rfl)); intro gb145 hg w2 hbox hb; have n0_ := Aside0.mk (below_step (by repeat (first | (with_reducible first | exact HB.out | apply below_alloc | apply pw_below_drewN | apply below_drew1) | exact HB.out)) hb); have n1_ := Aside0.mk (hbox); have n2_ := Aside0.mk ((by rw [hg]; exact (below_size (by repeat (first | (with_reducible first | exact HB.out | apply below_alloc | apply pw_below_drewN | apply below_drew1) | exact HB.out))) : w.heap.size ≤ gb145)); have n3_ := Aside0.mk ((by rw [hg]; exact (below_size (by repeat (first | (with_reducible first | exact HB.out | apply below_alloc | apply pw_below_drewN | apply below_drew1) | exact HB.out))) : w.heap.size ≤ gb145)); clear HB; have HB := n0_; have BK145 := n1_; have GW145 := n2_; have GE145 := n3_; clear n0_ n1_ n2_ n3_; clear hb hbox hg; have hcz3_0 : w2.cell? ⟨gb145, 0, none⟩ = some (.int .i64 a0_0) := (blk_cell BK145.out 0).trans rfl; have hcz3_1 : w2.cell? ⟨gb145, 1, none⟩ = some (.int .i64 a0_1) := (blk_cell BK145.out 1).trans rfl; have hcz3_2 : w2.cell? ⟨gb145, 2, none⟩ = some (.string a0_2) := (blk_cell BK145.out 2).trans rfl; have hfz3_0 := blk_frozen BK145.out 0; have hfz3_1 := blk_frozen BK145.out 1; have hfz3_2 := blk_frozen BK145.out 2))
  go_ret
  exact ⟨by first | rfl | (simp [errW_none, errW_some] <;> rfl) | (simp [*, errW_none, errW_some] <;> rfl), by repeat (first | (with_reducible first | exact HB.out | apply below_alloc | apply pw_below_drewN | apply below_drew1 | refine below_set ?_ GE145.out) | exact HB.out)⟩

end Go.Proofs.Ytaihajmdngoeiaa.F

namespace Go.Proofs.Ytaihajmdngoeiaa.Q
open Go.RowKit Go.Proofs.YtaihajmdngoeiaaW.PrintWords Go.Proofs.YtaihajmdngoeiaaW.PrintLast Go.Proofs.YtaihajmdngoeiaaW.PrintMore
open Go.Proofs.Ytaihajmdngoeiaa.F

/-- A valid list of edits, the last one's end known. -/
def Chain (size : Int) : Option Int → List S42 → Prop
  | _, [] => True
  | p, e :: t => 0 ≤ e.f0 ∧ e.f0 ≤ e.f1 ∧ e.f1 ≤ size ∧ (∀ q, p = some q → q < e.f0) ∧ Chain size (some e.f1) t
theorem chain_of (size : Int) : ∀ (l : List S42) (p : Option Int), vgo size p l = 0 → Chain size p l
  | [], _, _ => trivial
  | e :: t, none, h => by
    simp only [vgo] at h
    split at h
    · simp at h
    · rename_i hb
      exact ⟨by omega, by omega, by omega, (fun q hq => by cases hq), chain_of size t _ h⟩
  | e :: t, some q, h => by
    simp only [vgo] at h
    split at h
    · simp at h
    · rename_i hb
      split at h
      · simp at h
      · rename_i hq
        exact ⟨by omega, by omega, by omega, (fun q2 hq2 => by cases hq2; omega), chain_of size t _ h⟩
theorem vgo_of_chain (size : Int) : ∀ (l : List S42) (p : Option Int), Chain size p l → vgo size p l = 0
  | [], p, _ => by cases p <;> rfl
  | e :: t, none, ⟨h1, h2, h3, _, h5⟩ => by
    simp only [vgo]
    rw [if_neg (by omega)]
    exact vgo_of_chain size t _ h5
  | e :: t, some q, ⟨h1, h2, h3, h4, h5⟩ => by
    have := h4 q rfl
    simp only [vgo]
    rw [if_neg (by omega), if_neg (by omega)]
    exact vgo_of_chain size t _ h5
theorem vspec_zero {size : Int} {l : List S42} (h : vspec size l = 0) : l.length ≤ 65536 ∧ Chain size none l := by
  unfold vspec at h
  split at h
  · simp at h
  · exact ⟨by omega, chain_of size l none h⟩
theorem vspec_of {size : Int} {l : List S42} (h : l.length ≤ 65536) (hc : Chain size none l) : vspec size l = 0 := by
  unfold vspec
  rw [if_neg (by omega)]
  exact vgo_of_chain size l none hc

def growsOf (e : S42) : Int := wrap64 ((e.f2.size : Int) - wrap64 (e.f1 - e.f0))
theorem grows_is (e : S42) : edits_grows.f e.f0 e.f1 e.f2 = some (growsOf e) := rfl

end Go.Proofs.Ytaihajmdngoeiaa.Q

namespace Go.Proofs.Ytaihajmdngoeiaa.Q
open Go.RowKit Go.Proofs.YtaihajmdngoeiaaW.PrintWords Go.Proofs.YtaihajmdngoeiaaW.PrintLast Go.Proofs.YtaihajmdngoeiaaW.PrintMore
open Go.Proofs.Ytaihajmdngoeiaa.F

def whole (F : Int) : List S61 := if F = 0 then [] else [⟨true, 0, F, ⟨#[]⟩⟩]
def kp (a b : Int) : List S61 := if a < b then [⟨true, a, b, ⟨#[]⟩⟩] else []
/-- What a list of edits leaves of one run: the kept stretches and the texts. -/
def segs (F : Int) : Int → List S42 → List S61
  | a, [] => kp a F
  | a, e :: t => kp a e.f0 ++ ⟨false, 0, 0, e.f2⟩ :: segs F e.f1 t

def piece (text : ByteArray) (r : S61) : ByteArray := if r.f0 = true then text.extract r.f1.toNat r.f2.toNat else r.f3
def saidB (text : ByteArray) : List S61 → ByteArray
  | [] => ⟨#[]⟩
  | r :: t => piece text r ++ saidB text t
def grow (e : S42) : Int := (e.f2.size : Int) - (e.f1 - e.f0)
def sumG : List S42 → Int
  | [] => 0
  | e :: t => grow e + sumG t
theorem sumG_append : ∀ (l m : List S42), sumG (l ++ m) = sumG l + sumG m
  | [], m => by simp [sumG]
  | e :: t, m => by simp only [List.cons_append, sumG]; rw [sumG_append t m]; omega
theorem saidB_append (text : ByteArray) : ∀ (l m : List S61), saidB text (l ++ m) = saidB text l ++ saidB text m
  | [], m => by simp only [List.nil_append, saidB]; exact ByteArray.empty_append.symm
  | r :: t, m => by simp only [List.cons_append, saidB]; rw [saidB_append text t m, ByteArray.append_assoc]
theorem saidB_kp (text : ByteArray) (a b : Int) (ha : 0 ≤ a) (hb : b ≤ text.size) : ((saidB text (kp a b)).size : Int) = if a < b then b - a else 0 := by
  unfold kp
  split
  · simp only [saidB, piece]
    rw [if_pos trivial, ByteArray.size_append, ByteArray.size_extract]
    simp only [ByteArray.size, List.size_toArray, List.length_nil]
    simp only [ByteArray.size] at hb
    omega
  · simp [saidB, ByteArray.size]
theorem saidB_size (text : ByteArray) (F : Int) (hF : F = text.size) : ∀ (es : List S42) (a : Int) (p : Option Int), Chain F p es → 0 ≤ a → a ≤ F → (∀ e t, es = e :: t → a ≤ e.f0) → ((saidB text (segs F a es)).size : Int) = F - a + sumG es
  | [], a, p, _, h0, h1, _ => by
    simp only [segs, sumG]
    rw [saidB_kp text a F h0 (by omega)]
    split <;> omega
  | e :: t, a, p, ⟨c1, c2, c3, c4, c5⟩, h0, h1, h2 => by
    have ha := h2 e t rfl
    have ih := saidB_size text F hF t e.f1 (some e.f1) c5 (by omega) c3 (fun e' t' ht => by subst ht; have := c5.2.2.2.1 _ rfl; omega)
    simp only [segs, sumG]
    rw [saidB_append, ByteArray.size_append]
    simp only [saidB, piece]
    rw [ByteArray.size_append]
    simp only [Bool.false_eq_true, if_false]
    have hk := saidB_kp text a e.f0 h0 (by omega)
    unfold grow
    split at hk <;> omega
end Go.Proofs.Ytaihajmdngoeiaa.Q

namespace Go.Proofs.Ytaihajmdngoeiaa.Q
open Go.RowKit Go.Proofs.YtaihajmdngoeiaaW.PrintWords Go.Proofs.YtaihajmdngoeiaaW.PrintLast Go.Proofs.YtaihajmdngoeiaaW.PrintMore
open Go.Proofs.Ytaihajmdngoeiaa.F
set_option linter.unusedVariables false
set_option linter.unusedSimpArgs false

def rsz (r : S61) : Int := if r.f0 = true then r.f2 - r.f1 else (r.f3.size : Int)
def sum_ : List S61 → Int
  | [] => 0
  | r :: l => rsz r + sum_ l
def partS (r : S61) (a b : Int) : S61 := if r.f0 = true then ⟨true, r.f1 + a, r.f1 + b, ⟨#[]⟩⟩ else ⟨false, 0, 0, r.f3.extract a.toNat b.toNat⟩
/-- The runs from x to y, with those without bytes that lie there. -/
def keptS : Int → Int → Int → List S61 → List S61
  | _, _, _, [] => []
  | p, x, y, r :: l => if p ≤ y then ((if rsz r = 0 ∧ x ≤ p then [r] else []) ++ (if max (x - p) 0 < min (y - p) (rsz r) then [partS r (max (x - p) 0) (min (y - p) (rsz r))] else [])) ++ keptS (p + rsz r) x y l else []
end Go.Proofs.Ytaihajmdngoeiaa.Q

namespace Go.Proofs.Ytaihajmdngoeiaa.Q
open Go.RowKit Go.Proofs.YtaihajmdngoeiaaW.PrintWords Go.Proofs.YtaihajmdngoeiaaW.PrintLast Go.Proofs.YtaihajmdngoeiaaW.PrintMore
open Go.Proofs.Ytaihajmdngoeiaa.F
set_option linter.unusedVariables false
set_option linter.unusedSimpArgs false

def edOf (e : S42) : Ed := ⟨e.f0, e.f1, e.f2.data.toList⟩
def toS (e : Ed) : S42 := ⟨e.a, e.b, ⟨e.t.toArray⟩⟩
theorem toS_edOf (e : S42) : toS (edOf e) = e := rfl
/-- What the reference makes of a row and a list of edits. -/
def doneC (l : List S61) (size : Int) : Int → List S42 → List S61
  | p, [] => keptS 0 p size l
  | p, e :: t => keptS 0 p e.f0 l ++ ⟨false, 0, 0, e.f2⟩ :: doneC l size e.f1 t
end Go.Proofs.Ytaihajmdngoeiaa.Q

-- A text of this session's own program (wip/myprint.sh over a changed print tool): functions and their walks
namespace Go.Proofs.Ytaihajmdngoeiaa.F
open Go.RowKit Go.Proofs.YtaihajmdngoeiaaW.PrintWords Go.Proofs.YtaihajmdngoeiaaW.PrintLast Go.Proofs.YtaihajmdngoeiaaW.PrintMore
attribute [local go_sem] max2_int min2_int max_two min_two max_three min_three max_four min_four   -- for this text's walks alone
set_option linter.unusedVariables false
set_option linter.unusedSimpArgs false

/-! ### edits_Invert: function 19 -/
def edits_Invert.l0 : Nat → ByteArray → List (S42) → Int → List (S42) → Int → Int → Option ((List (S42)) × Int)
  | 0, _, _, _, _, _, _ => none
  | k + 1, x0, x7, x8, x19, x20, x21 => if x21 < x20 then (if 0 ≤ x21 then (if x21 < (x19.length : Int) then (if 0 ≤ ((rd_T42 x19 x21).f0) then (if ((rd_T42 x19 x21).f0) ≤ ((rd_T42 x19 x21).f1) then (if ((rd_T42 x19 x21).f1) ≤ (x0.size : Int) then (if x7.length < 4398046511104 then ((edits_grows.f ((rd_T42 x19 x21).f0) ((rd_T42 x19 x21).f1) ((rd_T42 x19 x21).f2)).bind fun t152 => (edits_Invert.l0 k x0 (x7 ++ [(⟨wrap64 (((rd_T42 x19 x21).f0) + x8), wrap64 ((wrap64 (((rd_T42 x19 x21).f0) + x8)) + (((rd_T42 x19 x21).f2).size : Int)), x0.extract (((rd_T42 x19 x21).f0) : Int).toNat (((rd_T42 x19 x21).f1) : Int).toNat⟩ : S42)]) (wrap64 (x8 + t152)) x19 x20 (wrap64 (x21 + 1)))) else (none)) else (none)) else (none)) else (none)) else (none)) else (none)) else (some (x7, 0))
def edits_Invert.f (k : Nat) (a0 : ByteArray) (l1 : List (S42)) : Option ((List (S42)) × Int) := (edits_valid.f k (a0.size : Int) l1).bind fun t146 => (if t146 = 0 then (edits_Invert.l0 k a0 ([] : List (S42)) 0 l1 (l1.length : Int) 0) else (some (([] : List (S42)), t146)))
def edits_Invert.T10 : Bool × List (List Nat × List Nat) := (true, [([], []), ([], []), ([], []), ([], []), ([3], [3]), ([4], [4]), ([2, 5], [2, 5]), ([], []), ([], []), ([8], [8]), ([], []), ([10], [10]), ([7, 9, 11], [7, 9, 11]), ([1, 6, 12], [1, 6, 12]), ([13], [13]), ([0, 14], [0, 14]), ([15, 15, 0, 1, 2, 3, 4, 5, 6, 7, 8, 9, 10, 11, 12, 13, 14, 15], [0, 15])])
def edits_Invert.B10 : List Nat := [0, 0, 0, 0, 8, 24, 60, 0, 0, 256, 0, 1024, 3968, 8190, 16382, 32767, 65535]
theorem edits_Invert.tab10 : rtab .any (opsOf Try.f19 10) = edits_Invert.T10 := by kernel_rfl
theorem edits_Invert.bits10 : waitsOk edits_Invert.T10.2 edits_Invert.B10 = true := by kernel_rfl
set_option maxHeartbeats 8000000 in
set_option maxRecDepth 100000 in
theorem edits_Invert.calls (k : Nat) (a0 : ByteArray) (A1 : Option Addr) (c1 : Nat) (l1 : List (S42)) (r1 : List (S42)) (r2 : Int) (w : World) (hr1 : Kd.C k42 w A1 l1.length l1) (hc1 : l1.length ≤ c1) (h : edits_Invert.f k a0 l1 = some (r1, r2)) :
    Calls Try.prog 19 #[.string a0, .slice A1 l1.length c1] w fun e w' => ∃ v0_ : Value, e = .returned (.tuple #[v0_, .int .i64 r2]) ∧ Kd.R k42 42 w' w.heap.size (fun _ => True) v0_ r1 ∧ Below w.heap.size w w' := by
  have hu42 := Try.underlying42
  have HR1 := Aside0.mk hr1
  have HC1 := Aside0.mk hc1
  clear hr1 hc1
  have HB := Aside0.mk (Below.refl w.heap.size w)
  have H : ((edits_valid.f k (a0.size : Int) l1).bind fun t146 => (if t146 = 0 then (edits_Invert.l0 k a0 ([] : List (S42)) 0 l1 (l1.length : Int) 0) else (some (([] : List (S42)), t146)))) = some (r1, r2) := h
  clear h
  replace H := Option.bind_eq_some_iff.mp H
  obtain ⟨t146, A30, H⟩ := H
  replace H : (if t146 = 0 then (edits_Invert.l0 k a0 ([] : List (S42)) 0 l1 (l1.length : Int) 0) else (some (([] : List (S42)), t146))) = some (r1, r2) := H
  have A3 := Aside0.mk A30
  clear A30
  by_cases c4 : t146 = 0
  · rw [if_pos c4] at H
    have c4b0 : (t146 == 0) = true := beq_iff_eq.mpr c4
    have c4b1 : (t146 != 0) = false := bne_eq_false_iff_eq.mpr c4
    clear c4
    have H' := Aside0.mk H
    clear H
    go_enter Try.func19, Try.ntmps19
    go_wp2_with (first | ((with_reducible refine gate_callee (f := 32) rfl ?_); refine goesL_ (some 15) rfl rfl Try.func32 (by kernel_rfl) rfl #[.int .i64 (a0.size : Int), .slice A1 l1.length c1] rfl (by (try simp only [List.map_toArray, List.map_cons, List.map_nil]); first | done | rfl | (simp only [List.length_drop, List.length_take]; rfl)) ?_; (with_reducible refine (edits_valid.calls k (a0.size : Int) _ _ l1 t146 _ ?side1 ?side2 A3.out).mono ?_); (case side1 => repeat (first | exact HR1.out | (with_reducible refine Kd.C_alloc ?_ _) | (with_reducible refine Kd.C_drewN ?_ _) | (with_reducible refine Kd.C_drew ?_))); (case side2 => exact HC1.out); rintro e w5 ⟨rfl, hb⟩; refine ⟨_, rfl, ?_⟩; have n0_ := Aside0.mk (below_step (by repeat (first | (with_reducible first | exact HB.out | apply below_alloc | apply pw_below_drewN | apply below_drew1) | exact HB.out)) hb); clear HB; have HB := n0_; clear n0_; (try clear hb); (try clear hb2); (try clear hk); (try clear hi)))
    go_loopg [7, 8, 21] k (fun kq v7 v8 v21 w' => ∃ (x7_1 : List (S42)) (x8_1 : Int) (x21_1 : Int), v8 = .int .i64 x8_1 ∧ v21 = .int .i64 x21_1 ∧ Aside0 (edits_Invert.l0 kq a0 x7_1 x8_1 l1 (l1.length : Int) x21_1 = some (r1, r2)) ∧ Aside0 (kq ≤ k) ∧ Aside0 (Kd.R k42 42 w' w.heap.size (fun _ => True) v7 x7_1) ∧ Aside0 (Below w.heap.size w w'))
    case atStart => exact ⟨(([] : List (S42))), (0), (0), (by first | rfl | (simp; done) | (simp [*]; done)), (by first | rfl | (simp; done) | (simp [*]; done)), H', ⟨Nat.le_refl _⟩, ⟨by first | exact Kd.R_nil _ _ _ _ _ | exact Kd.N_nil _ _ _ _ _ | exact Kd.V_nil _ _ _ _ _ | exact Kd.Q_nil _ _ _ _ _ | exact Kd.S_nil _ _ _ _ _⟩, ⟨by repeat (first | (with_reducible first | exact HB.out | apply below_alloc | apply pw_below_drewN | apply below_drew1) | exact HB.out)⟩⟩
    case round =>
      clear H'
      try clear c1
      try clear p2
      try clear c3
      try clear c4
      try clear c4b0
      try clear c4b1
      obtain ⟨x7_1, x8_1, x21_1, rfl, rfl, HA, HK1, HO_7, HB⟩ := hrel
      cases gk with
      | zero => exact absurd HA.out (by simp [edits_Invert.l0])
      | succ k1 =>
        have H := HA.out
        clear HA
        simp only [edits_Invert.l0] at H
        by_cases c6 : x21_1 < (l1.length : Int)
        · rw [if_pos c6] at H
          have c6b0 : decide (x21_1 < (l1.length : Int)) = true := decide_eq_true c6
          clear c6
          by_cases c7 : 0 ≤ x21_1
          · rw [if_pos c7] at H
            have c7b0 : decide (0 ≤ x21_1) = true := decide_eq_true c7
            clear c7
            by_cases c8 : x21_1 < (l1.length : Int)
            · rw [if_pos c8] at H
              have c8b0 : decide (x21_1 < (l1.length : Int)) = true := decide_eq_true c8
              clear c8
              by_cases c9 : 0 ≤ ((rd_T42 l1 x21_1).f0)
              · rw [if_pos c9] at H
                have c9b0 := eq_true c9
                have c9b1 : decide (0 ≤ ((rd_T42 l1 x21_1).f0)) = true := decide_eq_true c9
                clear c9
                by_cases c10 : ((rd_T42 l1 x21_1).f0) ≤ ((rd_T42 l1 x21_1).f1)
                · rw [if_pos c10] at H
                  have c10b0 := eq_true c10
                  have c10b1 : decide (((rd_T42 l1 x21_1).f0) ≤ ((rd_T42 l1 x21_1).f1)) = true := decide_eq_true c10
                  clear c10
                  by_cases c11 : ((rd_T42 l1 x21_1).f1) ≤ (a0.size : Int)
                  · rw [if_pos c11] at H
                    have c11b0 := eq_true c11
                    have c11b1 : decide (((rd_T42 l1 x21_1).f1) ≤ (a0.size : Int)) = true := decide_eq_true c11
                    clear c11
                    by_cases c12 : x7_1.length < 4398046511104
                    · rw [if_pos c12] at H
                      have LMc12 := Aside0.mk c12
                      clear c12
                      obtain ⟨y149, hy149⟩ : ∃ y_ : List (S42), y_ = (x7_1 ++ [(⟨wrap64 (((rd_T42 l1 x21_1).f0) + x8_1), wrap64 ((wrap64 (((rd_T42 l1 x21_1).f0) + x8_1)) + (((rd_T42 l1 x21_1).f2).size : Int)), a0.extract (((rd_T42 l1 x21_1).f0) : Int).toNat (((rd_T42 l1 x21_1).f1) : Int).toNat⟩ : S42)]) := ⟨_, rfl⟩
                      replace H : ((edits_grows.f ((rd_T42 l1 x21_1).f0) ((rd_T42 l1 x21_1).f1) ((rd_T42 l1 x21_1).f2)).bind fun t152 => (edits_Invert.l0 k1 a0 y149 (wrap64 (x8_1 + t152)) l1 (l1.length : Int) (wrap64 (x21_1 + 1)))) = some (r1, r2) := by first | (rw [hy149]; with_reducible exact H) | (have H2_ := (Option.bind_some _ _).symm.trans H; rw [hy149]; with_reducible exact H2_) | (have H2_ := (Option.bind_some _ _).symm.trans H; with_reducible exact H2_) | with_reducible exact H | (rw [hy149]; exact H) | exact H
                      have Ny149 := Aside0.mk hy149
                      clear hy149
                      replace H := Option.bind_eq_some_iff.mp H
                      obtain ⟨t152, A130, H⟩ := H
                      replace H : (edits_Invert.l0 k1 a0 y149 (wrap64 (x8_1 + t152)) l1 (l1.length : Int) (wrap64 (x21_1 + 1))) = some (r1, r2) := H
                      have A13 := Aside0.mk A130
                      clear A130
                      have H' := Aside0.mk H
                      clear H
                      have p147 : 0 ≤ (x21_1 : Int) := of_decide_eq_true (by first | (with_reducible assumption) | assumption)
                      have q147 : x21_1 < (l1.length : Int) := of_decide_eq_true (by first | (with_reducible assumption) | assumption)
                      obtain ⟨ad147, e147, hx147_0, hx147_1, hx147_2⟩ := at_T42 HR1.out x21_1 p147 q147
                      cases e147
                      replace hx147_0 := (HB.out.cell (World.block_lt_of_cell? w _ hx147_0)).trans hx147_0
                      replace hx147_1 := (HB.out.cell (World.block_lt_of_cell? w _ hx147_1)).trans hx147_1
                      replace hx147_2 := (HB.out.cell (World.block_lt_of_cell? w _ hx147_2)).trans hx147_2
                      replace p147 := eq_true p147
                      replace q147 := eq_true q147
                      try go_wp2_with (first | ((with_reducible refine gate_dst (N := 10) rfl ?_); refine box_event ?hg (N := 10) ?hd (cs := #[.int .i64 0, .int .i64 0, .string (⟨#[]⟩ : ByteArray)]) (t := 42) ?hr ?_; (case hd => rfl); (case hg => rfl); (case hr => first | (go_simp; done) | (go_simp; rfl)); intro gb148 hg w14 hbox hb; have n0_ := Aside0.mk (Kd.R_below (Kd.R_elderB (by (with_reducible repeat (first | apply Kd.R_alloc | apply Kd.R_drewN | apply Kd.R_drew)); exact HO_7.out) gb148 (Nat.le_of_eq hg.symm)) hb); have n1_ := Aside0.mk (below_step (by repeat (first | (with_reducible first | exact HB.out | apply below_alloc | apply pw_below_drewN | apply below_drew1) | exact HB.out)) hb); have n2_ := Aside0.mk (hbox); have n3_ := Aside0.mk ((by rw [hg]; exact (below_size (by repeat (first | (with_reducible first | exact HB.out | apply below_alloc | apply pw_below_drewN | apply below_drew1) | exact HB.out))) : w.heap.size ≤ gb148)); have n4_ := Aside0.mk ((by rw [hg]; exact (below_size (by repeat (first | (with_reducible first | exact HB.out | apply below_alloc | apply pw_below_drewN | apply below_drew1) | exact HB.out))) : w.heap.size ≤ gb148)); clear HO_7; clear HB; have HO_7 := n0_; have HB := n1_; have BK148 := n2_; have GW148 := n3_; have GE148 := n4_; clear n0_ n1_ n2_ n3_ n4_; clear hb hbox hg; have hcz15_0 : w14.cell? ⟨gb148, 0, none⟩ = some (.int .i64 0) := (blk_cell BK148.out 0).trans rfl; have hcz15_1 : w14.cell? ⟨gb148, 1, none⟩ = some (.int .i64 0) := (blk_cell BK148.out 1).trans rfl; have hcz15_2 : w14.cell? ⟨gb148, 2, none⟩ = some (.string (⟨#[]⟩ : ByteArray)) := (blk_cell BK148.out 2).trans rfl; have hfz15_0 := blk_frozen BK148.out 0; have hfz15_1 := blk_frozen BK148.out 1; have hfz15_2 := blk_frozen BK148.out 2))
                      have n0_ : Aside0 (Kd.R k42 42 (((w14.setCell ⟨gb148, 0, none⟩ (.int .i64 ((rd_T42 l1 x21_1).f0))).setCell ⟨gb148, 1, none⟩ (.int .i64 ((rd_T42 l1 x21_1).f1))).setCell ⟨gb148, 2, none⟩ (.string ((rd_T42 l1 x21_1).f2))) w.heap.size (fun k_ => k_ ≠ gb148) u7 x7_1) := ⟨by (with_reducible repeat (first | apply Kd.R_alloc | apply Kd.R_drewN | apply Kd.R_drew)); exact Kd.R_mono (Kd.R_far (p := ⟨gb148, 2, none⟩) (Kd.R_far (p := ⟨gb148, 1, none⟩) (Kd.R_far (p := ⟨gb148, 0, none⟩) (Kd.R_mono HO_7.out (fun k_ hk => (⟨hk, hk.2⟩ : _ ∧ k_ ≠ gb148))) (fun _ hk => hk.2) (.int .i64 ((rd_T42 l1 x21_1).f0))) (fun _ hk => hk.2) (.int .i64 ((rd_T42 l1 x21_1).f1))) (fun _ hk => hk.2) (.string ((rd_T42 l1 x21_1).f2))) (fun _ hk => hk.1.2)⟩
                      have n1_ : Aside0 ((((w14.setCell ⟨gb148, 0, none⟩ (.int .i64 ((rd_T42 l1 x21_1).f0))).setCell ⟨gb148, 1, none⟩ (.int .i64 ((rd_T42 l1 x21_1).f1))).setCell ⟨gb148, 2, none⟩ (.string ((rd_T42 l1 x21_1).f2))).heap[gb148]? = some (.cells #[.int .i64 ((rd_T42 l1 x21_1).f0), .int .i64 ((rd_T42 l1 x21_1).f1), .string ((rd_T42 l1 x21_1).f2)] 42 (0, 0))) := ⟨by (with_reducible repeat (first | refine blk_drewN ?_ _ | refine blk_drew ?_ | refine blk_alloc ?_ _)); refine blk_put (cs := #[.int .i64 ((rd_T42 l1 x21_1).f0), .int .i64 ((rd_T42 l1 x21_1).f1), .string (⟨#[]⟩ : ByteArray)]) ?_ 2 _ rfl; (with_reducible repeat (first | refine blk_drewN ?_ _ | refine blk_drew ?_ | refine blk_alloc ?_ _)); refine blk_put (cs := #[.int .i64 ((rd_T42 l1 x21_1).f0), .int .i64 0, .string (⟨#[]⟩ : ByteArray)]) ?_ 1 _ rfl; (with_reducible repeat (first | refine blk_drewN ?_ _ | refine blk_drew ?_ | refine blk_alloc ?_ _)); refine blk_put (cs := #[.int .i64 0, .int .i64 0, .string (⟨#[]⟩ : ByteArray)]) ?_ 0 _ rfl; (with_reducible repeat (first | refine blk_drewN ?_ _ | refine blk_drew ?_ | refine blk_alloc ?_ _)); exact BK148.out⟩
                      have n2_ : Aside0 (Below w.heap.size w (((w14.setCell ⟨gb148, 0, none⟩ (.int .i64 ((rd_T42 l1 x21_1).f0))).setCell ⟨gb148, 1, none⟩ (.int .i64 ((rd_T42 l1 x21_1).f1))).setCell ⟨gb148, 2, none⟩ (.string ((rd_T42 l1 x21_1).f2)))) := ⟨by repeat (first | (with_reducible first | exact HB.out | apply below_alloc | apply pw_below_drewN | apply below_drew1 | refine below_set ?_ GE148.out) | exact HB.out)⟩
                      (try clear HO_7)
                      (try clear BK148)
                      (try clear HB)
                      generalize (((w14.setCell ⟨gb148, 0, none⟩ (.int .i64 ((rd_T42 l1 x21_1).f0))).setCell ⟨gb148, 1, none⟩ (.int .i64 ((rd_T42 l1 x21_1).f1))).setCell ⟨gb148, 2, none⟩ (.string ((rd_T42 l1 x21_1).f2))) = w16 at n0_ n1_ n2_ ⊢
                      have HO_7 := n0_
                      have BK148 := n1_
                      have HB := n2_
                      clear n0_ n1_ n2_
                      have n0_ := Aside0.mk (Kd.R_drew HO_7.out)
                      have n1_ := Aside0.mk (blk_drew BK148.out)
                      have n2_ := Aside0.mk (below_drew1 HB.out)
                      clear HO_7
                      clear BK148
                      clear HB
                      have HO_7 := n0_
                      have BK148 := n1_
                      have HB := n2_
                      clear n0_ n1_ n2_
                      refine start_ (n := 17) (S := fun w' => w'.cell? ⟨gb148, 0, none⟩ = some (.int .i64 ((rd_T42 l1 x21_1).f0)) ∧ w'.cell? ⟨gb148, 1, none⟩ = some (.int .i64 ((rd_T42 l1 x21_1).f1)) ∧ w'.cell? ⟨gb148, 2, none⟩ = some (.string ((rd_T42 l1 x21_1).f2))) (ds := []) #[false, false, false, false, false, false, false, false, false, false, false, false, false, false, false, false, false] (by kernel_rfl) rfl rfl ⟨(blk_cell BK148.out 0).trans rfl, (blk_cell BK148.out 1).trans rfl, (blk_cell BK148.out 2).trans rfl⟩ (fun hHeld => ?_); refine with_tabW edits_Invert.tab10 edits_Invert.bits10 (fun HT_ HW_ => ?_)
                      generalize w16.drew = w17 at HO_7 BK148 HB hHeld ⊢
                      refine pure_ (i := 0) (N := some 29) (v := ?_) (a' := ?_) #[true, false, false, false, false, false, false, false, false, false, false, false, false, false, false, false, false] rfl rfl (any_of HT_.out (by kernel_rfl)) (fun _ _ _ h => h) (Or.inl ⟨by rfl, ?_⟩) ?_ ?_
                      rotate_left
                      · intro w'
                        go_simp
                        with_reducible rfl
                      rotate_left
                      · simp only [Act.put, List.setIfInBounds_toArray, List.set_cons_zero, List.set_cons_succ, i64_w, i32_w]
                        rfl
                      refine pure_ (i := 1) (N := some 30) (v := ?_) (a' := ?_) #[true, true, false, false, false, false, false, false, false, false, false, false, false, false, false, false, false] rfl rfl (any_of HT_.out (by kernel_rfl)) (fun _ _ _ h => h) (Or.inl ⟨by rfl, ?_⟩) ?_ ?_
                      rotate_left
                      · intro w'
                        go_simp
                        with_reducible rfl
                      rotate_left
                      · simp only [Act.put, List.setIfInBounds_toArray, List.set_cons_zero, List.set_cons_succ, i64_w, i32_w]
                        rfl
                      refine pure_ (i := 2) (N := some 31) (v := ?_) (a' := ?_) #[true, true, true, false, false, false, false, false, false, false, false, false, false, false, false, false, false] rfl rfl (any_of HT_.out (by kernel_rfl)) (fun _ _ _ h => h) (Or.inl ⟨by rfl, ?_⟩) ?_ ?_
                      rotate_left
                      · intro w'
                        go_simp
                        with_reducible rfl
                      rotate_left
                      · simp only [Act.put, List.setIfInBounds_toArray, List.set_cons_zero, List.set_cons_succ, i64_w, i32_w]
                        rfl
                      refine pure_ (i := 3) (N := some 32) (v := ?_) (a' := ?_) #[true, true, true, true, false, false, false, false, false, false, false, false, false, false, false, false, false] rfl rfl (any_of HT_.out (by kernel_rfl)) (fun _ _ _ h => h) (Or.inl ⟨by rfl, ?_⟩) ?_ ?_
                      rotate_left
                      · intro w'
                        go_simp
                        with_reducible rfl
                      rotate_left
                      · simp only [Act.put, List.setIfInBounds_toArray, List.set_cons_zero, List.set_cons_succ, i64_w, i32_w]
                        rfl
                      refine pure_ (i := 7) (N := some 36) (v := ?_) (a' := ?_) #[true, true, true, true, false, false, false, true, false, false, false, false, false, false, false, false, false] rfl rfl (any_of HT_.out (by kernel_rfl)) (fun _ _ _ h => h) (Or.inl ⟨by rfl, ?_⟩) ?_ ?_
                      rotate_left
                      · intro w'
                        go_simp
                        with_reducible rfl
                      rotate_left
                      · simp only [Act.put, List.setIfInBounds_toArray, List.set_cons_zero, List.set_cons_succ, i64_w, i32_w]
                        rfl
                      refine pure_ (i := 8) (N := some 37) (v := ?_) (a' := ?_) #[true, true, true, true, false, false, false, true, true, false, false, false, false, false, false, false, false] rfl rfl (any_of HT_.out (by kernel_rfl)) (fun _ _ _ h => h) (Or.inl ⟨by rfl, ?_⟩) ?_ ?_
                      rotate_left
                      · intro w'
                        go_simp
                        with_reducible rfl
                      rotate_left
                      · simp only [Act.put, List.setIfInBounds_toArray, List.set_cons_zero, List.set_cons_succ, i64_w, i32_w]
                        rfl
                      refine pure_ (i := 10) (N := some 39) (v := ?_) (a' := ?_) #[true, true, true, true, false, false, false, true, true, false, true, false, false, false, false, false, false] rfl rfl (any_of HT_.out (by kernel_rfl)) (fun _ _ _ h => h) (Or.inl ⟨by rfl, ?_⟩) ?_ ?_
                      rotate_left
                      · intro w'
                        go_simp
                        with_reducible rfl
                      rotate_left
                      · simp only [Act.put, List.setIfInBounds_toArray, List.set_cons_zero, List.set_cons_succ, i64_w, i32_w]
                        rfl
                      refine take_ (i := 4) (N := some 33) (v := ?_) (a' := ?_) #[true, true, true, true, true, false, false, true, true, false, true, false, false, false, false, false, false] rfl rfl (take_ofW HT_.out HW_.out (by kernel_rfl)) (fun _ _ _ h => h) (Or.inl ⟨by rfl, ?_⟩) hHeld ?_ ?_
                      rotate_left
                      · rintro w' ⟨s0, s1, s2⟩
                        go_simp
                        with_reducible rfl
                      rotate_left
                      · simp only [Act.put, List.setIfInBounds_toArray, List.set_cons_zero, List.set_cons_succ, i64_w, i32_w]
                        rfl
                      refine pure_ (i := 5) (N := some 34) (v := ?_) (a' := ?_) #[true, true, true, true, true, true, false, true, true, false, true, false, false, false, false, false, false] rfl rfl (any_of HT_.out (by kernel_rfl)) (fun _ _ _ h => h) (Or.inl ⟨by rfl, ?_⟩) ?_ ?_
                      rotate_left
                      · intro w'
                        go_simp
                        with_reducible rfl
                      rotate_left
                      · simp only [Act.put, List.setIfInBounds_toArray, List.set_cons_zero, List.set_cons_succ, i64_w, i32_w]
                        rfl
                      refine pure_ (i := 6) (N := some 35) (v := ?_) (a' := ?_) #[true, true, true, true, true, true, true, true, true, false, true, false, false, false, false, false, false] rfl rfl (any_of HT_.out (by kernel_rfl)) (fun _ _ _ h => h) (Or.inl ⟨by rfl, ?_⟩) ?_ ?_
                      rotate_left
                      · intro w'
                        go_simp
                        with_reducible rfl
                      rotate_left
                      · simp only [Act.put, List.setIfInBounds_toArray, List.set_cons_zero, List.set_cons_succ, i64_w, i32_w]
                        rfl
                      refine take_ (i := 9) (N := some 38) (v := ?_) (a' := ?_) #[true, true, true, true, true, true, true, true, true, true, true, false, false, false, false, false, false] rfl rfl (take_ofW HT_.out HW_.out (by kernel_rfl)) (fun _ _ _ h => h) (Or.inl ⟨by rfl, ?_⟩) hHeld ?_ ?_
                      rotate_left
                      · rintro w' ⟨s0, s1, s2⟩
                        go_simp
                        with_reducible rfl
                      rotate_left
                      · simp only [Act.put, List.setIfInBounds_toArray, List.set_cons_zero, List.set_cons_succ, i64_w, i32_w]
                        rfl
                      refine take_ (i := 11) (N := some 40) (v := ?_) (a' := ?_) #[true, true, true, true, true, true, true, true, true, true, true, true, false, false, false, false, false] rfl rfl (take_ofW HT_.out HW_.out (by kernel_rfl)) (fun _ _ _ h => h) (Or.inl ⟨by rfl, ?_⟩) hHeld ?_ ?_
                      rotate_left
                      · rintro w' ⟨s0, s1, s2⟩
                        go_simp
                        with_reducible rfl
                      rotate_left
                      · simp only [Act.put, List.setIfInBounds_toArray, List.set_cons_zero, List.set_cons_succ, i64_w, i32_w]
                        rfl
                      refine pure_ (i := 12) (N := some 41) (v := ?_) (a' := ?_) #[true, true, true, true, true, true, true, true, true, true, true, true, true, false, false, false, false] rfl rfl (any_of HT_.out (by kernel_rfl)) (fun _ _ _ h => h) (Or.inl ⟨by rfl, ?_⟩) ?_ ?_
                      rotate_left
                      · intro w'
                        go_simp
                        with_reducible rfl
                      rotate_left
                      · simp only [Act.put, List.setIfInBounds_toArray, List.set_cons_zero, List.set_cons_succ, i64_w, i32_w]
                        rfl
                      refine pure_ (i := 13) (N := some 42) (v := ?_) (a' := ?_) #[true, true, true, true, true, true, true, true, true, true, true, true, true, true, false, false, false] rfl rfl (any_of HT_.out (by kernel_rfl)) (fun _ _ _ h => h) (Or.inl ⟨by rfl, ?_⟩) ?_ ?_
                      rotate_left
                      · intro w'
                        go_simp
                        with_reducible rfl
                      rotate_left
                      · simp only [Act.put, List.setIfInBounds_toArray, List.set_cons_zero, List.set_cons_succ, i64_w, i32_w]
                        rfl
                      refine one_ (i := 14) (N := some 43) #[true, true, true, true, true, true, true, true, true, true, true, true, true, true, true, false, false] rfl rfl (one_of HT_.out (by kernel_rfl)) (by decide) (fun K hK => ?_)
                      refine value_ (w1 := ?_) (v := ?_) (by rfl) rfl ?_ ?_
                      rotate_left 2
                      · go_simp
                        constructor
                        · rfl
                        · rfl
                      refine hK.out _ _ ⟨(blk_cell (blk_alloc BK148.out _) 0).trans rfl, (blk_cell (blk_alloc BK148.out _) 1).trans rfl, (blk_cell (blk_alloc BK148.out _) 2).trans rfl⟩ (fun hHeld => ?_)
                      clear hK K
                      refine norm_ (a' := ?_) ?_ ?_
                      rotate_left
                      · show Act.put _ (some 43) _ = _
                        simp only [Act.put, List.setIfInBounds_toArray, List.set_cons_zero, List.set_cons_succ, i64_w, i32_w]
                        rfl
                      refine one_ (i := 15) (N := some 44) #[true, true, true, true, true, true, true, true, true, true, true, true, true, true, true, true, false] rfl rfl (one_of HT_.out (by kernel_rfl)) (by decide) (fun K hK => ?_)
                      refine Kd.R_append_step k42 (w0 := w) w.heap.size (by rfl) (.tmp 29) (.tmp 43) 22 42 (.agg #[(.int .i64 0), (.int .i64 0), (.string ⟨#[]⟩)]) 32 rfl Try.underlying22 info42 rfl (by decide) (by omega) u7 x7_1 (⟨wrap64 (((rd_T42 l1 x21_1).f0) + x8_1), wrap64 ((wrap64 (((rd_T42 l1 x21_1).f0) + x8_1)) + (((rd_T42 l1 x21_1).f2).size : Int)), a0.extract (((rd_T42 l1 x21_1).f0) : Int).toNat (((rd_T42 l1 x21_1).f1) : Int).toNat⟩ : S42) [.int .i64 (wrap64 (((rd_T42 l1 x21_1).f0) + x8_1)), .int .i64 (wrap64 ((wrap64 (((rd_T42 l1 x21_1).f0) + x8_1)) + (((rd_T42 l1 x21_1).f2).size : Int))), .string (a0.extract (((rd_T42 l1 x21_1).f0) : Int).toNat (((rd_T42 l1 x21_1).f1) : Int).toNat)] (fun k_ => k_ ≠ gb148) (fun _ => False) rfl rfl ?aP (fun _ hk => hk.elim) ?aF ?aO ?aB ?aS ?aL ?_
                      (case aP => exact k42_mkM _ _ _ (⟨wrap64 (((rd_T42 l1 x21_1).f0) + x8_1), wrap64 ((wrap64 (((rd_T42 l1 x21_1).f0) + x8_1)) + (((rd_T42 l1 x21_1).f2).size : Int)), a0.extract (((rd_T42 l1 x21_1).f0) : Int).toNat (((rd_T42 l1 x21_1).f1) : Int).toNat⟩ : S42))
                      (case aB => exact (by repeat (first | (with_reducible first | exact HB.out | apply below_alloc | apply pw_below_drewN | apply below_drew1 | refine below_set ?_ GE148.out) | exact HB.out)))
                      (case aF => exact (fun k_ hk => Kd.freshB (g := gb148) (o := .cells #[.int .i64 ((rd_T42 l1 x21_1).f0), .int .i64 ((rd_T42 l1 x21_1).f1), .string ((rd_T42 l1 x21_1).f2)] 42 (0, 0)) (by (with_reducible repeat (first | refine blk_drewN ?_ _ | refine blk_drew ?_ | refine blk_alloc ?_ _)); exact BK148.out) k_ hk))
                      (case aO => exact (by (with_reducible repeat (first | apply Kd.R_alloc | apply Kd.R_drewN | apply Kd.R_drew)); exact HO_7.out))
                      (case aS => exact (below_size (by repeat (first | (with_reducible first | exact HB.out | apply below_alloc | apply pw_below_drewN | apply below_drew1 | refine below_set ?_ GE148.out) | exact HB.out))))
                      (case aL => have := LMc12.out; omega)
                      intro v150 w18 ho hb hg hat
                      rw [← Ny149.out] at ho
                      have n0_ := Aside0.mk (blk_grown (g := gb148) (o := .cells #[.int .i64 ((rd_T42 l1 x21_1).f0), .int .i64 ((rd_T42 l1 x21_1).f1), .string ((rd_T42 l1 x21_1).f2)] 42 (0, 0)) (by (with_reducible repeat (first | refine blk_drewN ?_ _ | refine blk_drew ?_ | refine blk_alloc ?_ _)); exact BK148.out) hg (Kd.R_away HO_7.out (fun _ hk => hk)))
                      have n1_ := Aside0.mk (hb)
                      have n2_ := Aside0.mk (ho)
                      clear BK148
                      clear HB
                      clear HO_7
                      have BK148 := n0_
                      have HB := n1_
                      have HO151 := n2_
                      clear n0_ n1_ n2_
                      clear ho hb hg hat
                      refine hK.out _ _ ⟨(blk_cell BK148.out 0).trans rfl, (blk_cell BK148.out 1).trans rfl, (blk_cell BK148.out 2).trans rfl⟩ (fun hHeld => ?_)
                      clear hK K
                      refine norm_ (a' := ?_) ?_ ?_
                      rotate_left
                      · show Act.put _ (some 44) _ = _
                        simp only [Act.put, List.setIfInBounds_toArray, List.set_cons_zero, List.set_cons_succ, i64_w, i32_w]
                        rfl
                      refine pure_ (i := 16) (N := some 7) (v := ?_) (a' := ?_) #[true, true, true, true, true, true, true, true, true, true, true, true, true, true, true, true, true] rfl rfl (any_of HT_.out (by kernel_rfl)) (fun _ _ _ h => h) (Or.inl ⟨by rfl, ?_⟩) ?_ ?_
                      rotate_left
                      · intro w'
                        go_simp
                        with_reducible rfl
                      rotate_left
                      · simp only [Act.put, List.setIfInBounds_toArray, List.set_cons_zero, List.set_cons_succ, i64_w, i32_w]
                        rfl
                      refine done_ (done_of HT_.out (by kernel_rfl)) ?_
                      have hcz19_0 : w18.cell? ⟨gb148, 0, none⟩ = some (.int .i64 ((rd_T42 l1 x21_1).f0)) := (blk_cell BK148.out 0).trans rfl
                      have hcz19_1 : w18.cell? ⟨gb148, 1, none⟩ = some (.int .i64 ((rd_T42 l1 x21_1).f1)) := (blk_cell BK148.out 1).trans rfl
                      have hcz19_2 : w18.cell? ⟨gb148, 2, none⟩ = some (.string ((rd_T42 l1 x21_1).f2)) := (blk_cell BK148.out 2).trans rfl
                      have hfz19_0 := blk_frozen BK148.out 0
                      have hfz19_1 := blk_frozen BK148.out 1
                      have hfz19_2 := blk_frozen BK148.out 2
                      try go_wp2_with (first | ((with_reducible refine gate_callee (f := 34) rfl ?_); refine goesL_ (some 47) rfl rfl Try.func34 (by kernel_rfl) rfl #[.agg #[.int .i64 ((rd_T42 l1 x21_1).f0), .int .i64 ((rd_T42 l1 x21_1).f1), .string ((rd_T42 l1 x21_1).f2)]] rfl (by (try simp only [List.map_toArray, List.map_cons, List.map_nil]); first | done | rfl | (simp only [List.length_drop, List.length_take]; rfl)) ?_; (with_reducible refine (edits_grows.calls ((rd_T42 l1 x21_1).f0) ((rd_T42 l1 x21_1).f1) ((rd_T42 l1 x21_1).f2) t152 _ A13.out).mono ?_); rintro e w20 ⟨rfl, hb⟩; refine ⟨_, rfl, ?_⟩; have n0_ := Aside0.mk (Kd.R_below (by (with_reducible repeat (first | apply Kd.R_alloc | apply Kd.R_drewN | apply Kd.R_drew)); exact HO151.out) hb); have n1_ := Aside0.mk (blk_below (g := gb148) (o := .cells #[.int .i64 ((rd_T42 l1 x21_1).f0), .int .i64 ((rd_T42 l1 x21_1).f1), .string ((rd_T42 l1 x21_1).f2)] 42 (0, 0)) (by (with_reducible repeat (first | refine blk_drewN ?_ _ | refine blk_drew ?_ | refine blk_alloc ?_ _)); exact BK148.out) hb); have n2_ := Aside0.mk (below_step (by repeat (first | (with_reducible first | exact HB.out | apply below_alloc | apply pw_below_drewN | apply below_drew1 | refine below_set ?_ GE148.out) | exact HB.out)) hb); clear HO151; clear BK148; clear HB; have HO151 := n0_; have BK148 := n1_; have HB := n2_; clear n0_ n1_ n2_; (try clear hb); (try clear hb2); (try clear hk); (try clear hi)))
                      go_roundg k1
                      case measure => have := HK1.out; omega
                      case rel => exact ⟨(y149), (wrap64 (x8_1 + t152)), (wrap64 (x21_1 + 1)), (by first | rfl | (simp; done) | (simp [*]; done)), (by first | rfl | (simp; done) | (simp [*]; done)), H', ⟨by have := HK1.out; omega⟩, ⟨by (with_reducible repeat (first | apply Kd.R_alloc | apply Kd.R_drewN | apply Kd.R_drew)); exact Kd.R_mono HO151.out (fun _ hk => trivial)⟩, ⟨by repeat (first | (with_reducible first | exact HB.out | apply below_alloc | apply pw_below_drewN | apply below_drew1 | refine below_set ?_ GE148.out) | exact HB.out)⟩⟩
                    · rw [if_neg c12] at H
                      exact absurd H (by simp)
                  · rw [if_neg c11] at H
                    exact absurd H (by simp)
                · rw [if_neg c10] at H
                  exact absurd H (by simp)
              · rw [if_neg c9] at H
                exact absurd H (by simp)
            · rw [if_neg c8] at H
              exact absurd H (by simp)
          · rw [if_neg c7] at H
            exact absurd H (by simp)
        · rw [if_neg c6] at H
          have c6b0 : decide (x21_1 < (l1.length : Int)) = false := decide_eq_false c6
          clear c6
          simp only [Option.some.injEq, Prod.mk.injEq] at H
          obtain ⟨rfl, rfl⟩ := H
          go_wp2
          go_ret2
          exact ⟨_, by first | rfl | (simp [errW_none, errW_some] <;> rfl) | (simp [*, errW_none, errW_some] <;> rfl), by (with_reducible repeat (first | apply Kd.R_alloc | apply Kd.R_drewN | apply Kd.R_drew)); exact HO_7.out, by repeat (first | (with_reducible first | exact HB.out | apply below_alloc | apply pw_below_drewN | apply below_drew1) | exact HB.out)⟩
  · rw [if_neg c4] at H
    have c4b0 : (t146 == 0) = false := beq_eq_false_iff_ne.mpr c4
    have c4b1 : (t146 != 0) = true := bne_iff_ne.mpr c4
    simp only [Option.some.injEq, Prod.mk.injEq] at H
    obtain ⟨rfl, rfl⟩ := H
    go_enter Try.func19, Try.ntmps19
    go_wp2_with (first | ((with_reducible refine gate_callee (f := 32) rfl ?_); refine goesL_ (some 15) rfl rfl Try.func32 (by kernel_rfl) rfl #[.int .i64 (a0.size : Int), .slice A1 l1.length c1] rfl (by (try simp only [List.map_toArray, List.map_cons, List.map_nil]); first | done | rfl | (simp only [List.length_drop, List.length_take]; rfl)) ?_; (with_reducible refine (edits_valid.calls k (a0.size : Int) _ _ l1 t146 _ ?side1 ?side2 A3.out).mono ?_); (case side1 => repeat (first | exact HR1.out | (with_reducible refine Kd.C_alloc ?_ _) | (with_reducible refine Kd.C_drewN ?_ _) | (with_reducible refine Kd.C_drew ?_))); (case side2 => exact HC1.out); rintro e w21 ⟨rfl, hb⟩; refine ⟨_, rfl, ?_⟩; have n0_ := Aside0.mk (below_step (by repeat (first | (with_reducible first | exact HB.out | apply below_alloc | apply pw_below_drewN | apply below_drew1) | exact HB.out)) hb); clear HB; have HB := n0_; clear n0_; (try clear hb); (try clear hb2); (try clear hk); (try clear hi)))
    go_ret2
    exact ⟨_, by first | rfl | (simp [errW_none, errW_some] <;> rfl) | (simp [*, errW_none, errW_some] <;> rfl), by first | exact Kd.R_nil _ _ _ _ _ | exact Kd.N_nil _ _ _ _ _ | exact Kd.V_nil _ _ _ _ _ | exact Kd.Q_nil _ _ _ _ _ | exact Kd.S_nil _ _ _ _ _, by repeat (first | (with_reducible first | exact HB.out | apply below_alloc | apply pw_below_drewN | apply below_drew1) | exact HB.out)⟩

end Go.Proofs.Ytaihajmdngoeiaa.F

namespace Go.Proofs.Ytaihajmdngoeiaa.Q
open Go.RowKit Go.Proofs.YtaihajmdngoeiaaW.PrintWords Go.Proofs.YtaihajmdngoeiaaW.PrintLast Go.Proofs.YtaihajmdngoeiaaW.PrintMore
open Go.Proofs.Ytaihajmdngoeiaa.F

theorem chain_drop {size : Int} : ∀ {l : List S42} {p : Option Int}, Chain size p l → ∀ j, ∃ q, Chain size q (l.drop j)
  | [], p, _, j => ⟨none, by simp [Chain]⟩
  | e :: t, p, h, 0 => ⟨p, h⟩
  | e :: t, p, ⟨c1, c2, c3, c4, c5⟩, j + 1 => by simpa using chain_drop c5 j
theorem chain_at {size : Int} {l : List S42} {p : Option Int} (h : Chain size p l) (j : Nat) (hj : j < l.length) : 0 ≤ (l[j]).f0 ∧ (l[j]).f0 ≤ (l[j]).f1 ∧ (l[j]).f1 ≤ size := by
  obtain ⟨q, hq⟩ := chain_drop h j
  rw [List.drop_eq_getElem_cons hj] at hq
  exact ⟨hq.1, hq.2.1, hq.2.2.1⟩
theorem wrap_add' (a b : Int) : wrap64 (a + wrap64 b) = wrap64 (a + b) := by unfold wrap64; omega
theorem shift_step (s : Int) (e : S42) : wrap64 (wrap64 s + growsOf e) = wrap64 (s + grow e) := by unfold growsOf grow wrap64; omega

/-- The edits that take a list back; s: by how much the places have moved. -/
def invGo (text : ByteArray) : Int → List S42 → List S42
  | _, [] => []
  | s, e :: t => ⟨wrap64 (e.f0 + s), wrap64 (wrap64 (e.f0 + s) + e.f2.size), text.extract e.f0.toNat e.f1.toNat⟩ :: invGo text (s + grow e) t

theorem inv_loop (text : ByteArray) (l : List S42) (hl : l.length ≤ 65536) (hc : Chain text.size none l) (d : Nat) : ∀ (i : Nat) (s : Int) (out : List S42), i ≤ l.length → l.length - i = d → out.length + d ≤ 65536 →
    Ev (fun k => edits_Invert.l0 k text out (wrap64 s) l (l.length : Int) (i : Int)) (out ++ invGo text s (l.drop i), 0) := by
  induction d with
  | zero =>
    intro i s out h1 h2 ho
    refine ⟨1, fun n hn => ?_⟩
    obtain ⟨k, rfl⟩ : ∃ m, n = m + 1 := ⟨n - 1, by omega⟩
    simp only [edits_Invert.l0]
    rw [if_neg (by omega), List.drop_eq_nil_of_le (by omega)]
    simp [invGo]
  | succ d ih =>
    intro i s out h1 h2 ho
    have hi : i < l.length := by omega
    have hci : (i : Int) < (l.length : Int) := by omega
    have hc0 : (0 : Int) ≤ (i : Int) := by omega
    have hw : wrap64 ((i : Int) + 1) = ((i + 1 : Nat) : Int) := by rw [w64] <;> omega
    obtain ⟨e1, e2, e3⟩ := chain_at hc i hi
    have ho2 : out.length < 4398046511104 := by omega
    obtain ⟨K, hK⟩ := ih (i + 1) (s + grow l[i]) (out ++ [⟨wrap64 ((l[i]).f0 + s), wrap64 (wrap64 ((l[i]).f0 + s) + (l[i]).f2.size), text.extract (l[i]).f0.toNat (l[i]).f1.toNat⟩]) (by omega) (by omega) (by simp; omega)
    refine ⟨K + 1, fun n hn => ?_⟩
    obtain ⟨k, rfl⟩ : ∃ m, n = m + 1 := ⟨n - 1, by omega⟩
    have g := hK k (by omega)
    simp only at g
    simp only [edits_Invert.l0]
    rw [rd_at l i hi, if_pos hci, if_pos hc0, if_pos hci, if_pos e1, if_pos e2, if_pos e3, if_pos ho2, grows_is]
    simp only [Option.bind_some]
    rw [wrap_add', shift_step, hw, g, List.drop_eq_getElem_cons hi]
    simp [invGo]

def Invspec (text : ByteArray) (l : List S42) : List S42 × Int := if vspec text.size l = 0 then (invGo text 0 l, 0) else ([], vspec text.size l)
theorem Invert_is (text : ByteArray) (l : List S42) : Ev (fun k => edits_Invert.f k text l) (Invspec text l) := by
  unfold edits_Invert.f Invspec
  refine (valid_is _ l).bind ?_
  by_cases h : vspec text.size l = 0
  · simp only [if_pos h]
    obtain ⟨hl, hc⟩ := vspec_zero h
    have := inv_loop text l hl hc l.length 0 0 [] (by omega) (by omega) (by simpa using hl)
    simpa [show wrap64 0 = 0 by rw [w64] <;> omega] using this
  · simp only [if_neg h]; exact Ev.now _
end Go.Proofs.Ytaihajmdngoeiaa.Q

-- A text of this session's own program (wip/myprint.sh over a changed print tool): functions and their walks
namespace Go.Proofs.Ytaihajmdngoeiaa.F
open Go.RowKit Go.Proofs.YtaihajmdngoeiaaW.PrintWords Go.Proofs.YtaihajmdngoeiaaW.PrintLast Go.Proofs.YtaihajmdngoeiaaW.PrintMore
attribute [local go_sem] max2_int min2_int max_two min_two max_three min_three max_four min_four   -- for this text's walks alone
set_option linter.unusedVariables false
set_option linter.unusedSimpArgs false

/-! ### edits_left: function 38 -/
def edits_left.l0 : Nat → Int → List (S42) → Int → Int → Option (Int)
  | 0, _, _, _, _ => none
  | k + 1, x0, x7, x8, x9 => if x9 < x8 then (if 0 ≤ x9 then (if x9 < (x7.length : Int) then ((edits_grows.f ((rd_T42 x7 x9).f0) ((rd_T42 x7 x9).f1) ((rd_T42 x7 x9).f2)).bind fun t281 => (edits_left.l0 k (wrap64 (x0 + t281)) x7 x8 (wrap64 (x9 + 1)))) else (none)) else (none)) else (some x0)
def edits_left.f (k : Nat) (a0 : Int) (l1 : List (S42)) : Option (Int) := edits_left.l0 k a0 l1 (l1.length : Int) 0
set_option maxHeartbeats 8000000 in
set_option maxRecDepth 100000 in
theorem edits_left.calls (k : Nat) (a0 : Int) (A1 : Option Addr) (c1 : Nat) (l1 : List (S42)) (r : Int) (w : World) (hr1 : Kd.C k42 w A1 l1.length l1) (hc1 : l1.length ≤ c1) (h : edits_left.f k a0 l1 = some r) :
    Calls Try.prog 38 #[.int .i64 a0, .slice A1 l1.length c1] w fun e w' => e = .returned (.int .i64 r) ∧ Below w.heap.size w w' := by
  have hu42 := Try.underlying42
  have HR1 := Aside0.mk hr1
  have HC1 := Aside0.mk hc1
  clear hr1 hc1
  have HB := Aside0.mk (Below.refl w.heap.size w)
  have H : (edits_left.l0 k a0 l1 (l1.length : Int) 0) = some r := h
  clear h
  have H' := Aside0.mk H
  clear H
  go_enter Try.func38, Try.ntmps38
  go_wp2
  go_loopg [0, 9] k (fun kq v0 v9 w' => ∃ (x0_1 : Int) (x9_1 : Int), v0 = .int .i64 x0_1 ∧ v9 = .int .i64 x9_1 ∧ Aside0 (edits_left.l0 kq x0_1 l1 (l1.length : Int) x9_1 = some r) ∧ Aside0 (kq ≤ k) ∧ Aside0 (Below w.heap.size w w'))
  case atStart => exact ⟨(a0), (0), (by first | rfl | (simp; done) | (simp [*]; done)), (by first | rfl | (simp; done) | (simp [*]; done)), H', ⟨Nat.le_refl _⟩, ⟨by repeat (first | (with_reducible first | exact HB.out | apply below_alloc | apply pw_below_drewN | apply below_drew1) | exact HB.out)⟩⟩
  case round =>
    clear H'
    try clear c1
    try clear p2
    obtain ⟨x0_1, x9_1, rfl, rfl, HA, HK1, HB⟩ := hrel
    cases gk with
    | zero => exact absurd HA.out (by simp [edits_left.l0])
    | succ k1 =>
      have H := HA.out
      clear HA
      simp only [edits_left.l0] at H
      by_cases c3 : x9_1 < (l1.length : Int)
      · rw [if_pos c3] at H
        have c3b0 : decide (x9_1 < (l1.length : Int)) = true := decide_eq_true c3
        clear c3
        by_cases c4 : 0 ≤ x9_1
        · rw [if_pos c4] at H
          have c4b0 : decide (0 ≤ x9_1) = true := decide_eq_true c4
          clear c4
          by_cases c5 : x9_1 < (l1.length : Int)
          · rw [if_pos c5] at H
            have c5b0 : decide (x9_1 < (l1.length : Int)) = true := decide_eq_true c5
            clear c5
            replace H := Option.bind_eq_some_iff.mp H
            obtain ⟨t281, A60, H⟩ := H
            replace H : (edits_left.l0 k1 (wrap64 (x0_1 + t281)) l1 (l1.length : Int) (wrap64 (x9_1 + 1))) = some r := H
            have A6 := Aside0.mk A60
            clear A60
            have H' := Aside0.mk H
            clear H
            have p279 : 0 ≤ (x9_1 : Int) := of_decide_eq_true (by first | (with_reducible assumption) | assumption)
            have q279 : x9_1 < (l1.length : Int) := of_decide_eq_true (by first | (with_reducible assumption) | assumption)
            obtain ⟨ad279, e279, hx279_0, hx279_1, hx279_2⟩ := at_T42 HR1.out x9_1 p279 q279
            cases e279
            replace hx279_0 := (HB.out.cell (World.block_lt_of_cell? w _ hx279_0)).trans hx279_0
            replace hx279_1 := (HB.out.cell (World.block_lt_of_cell? w _ hx279_1)).trans hx279_1
            replace hx279_2 := (HB.out.cell (World.block_lt_of_cell? w _ hx279_2)).trans hx279_2
            replace p279 := eq_true p279
            replace q279 := eq_true q279
            go_wp2_with (first | ((with_reducible refine gate_dst (N := 6) rfl ?_); refine box_event ?hg (N := 6) ?hd (cs := #[.int .i64 0, .int .i64 0, .string (⟨#[]⟩ : ByteArray)]) (t := 42) ?hr ?_; (case hd => rfl); (case hg => rfl); (case hr => first | (go_simp; done) | (go_simp; rfl)); intro gb280 hg w7 hbox hb; have n0_ := Aside0.mk (below_step (by repeat (first | (with_reducible first | exact HB.out | apply below_alloc | apply pw_below_drewN | apply below_drew1) | exact HB.out)) hb); have n1_ := Aside0.mk (hbox); have n2_ := Aside0.mk ((by rw [hg]; exact (below_size (by repeat (first | (with_reducible first | exact HB.out | apply below_alloc | apply pw_below_drewN | apply below_drew1) | exact HB.out))) : w.heap.size ≤ gb280)); have n3_ := Aside0.mk ((by rw [hg]; exact (below_size (by repeat (first | (with_reducible first | exact HB.out | apply below_alloc | apply pw_below_drewN | apply below_drew1) | exact HB.out))) : w.heap.size ≤ gb280)); clear HB; have HB := n0_; have BK280 := n1_; have GW280 := n2_; have GE280 := n3_; clear n0_ n1_ n2_ n3_; clear hb hbox hg; have hcz8_0 : w7.cell? ⟨gb280, 0, none⟩ = some (.int .i64 0) := (blk_cell BK280.out 0).trans rfl; have hcz8_1 : w7.cell? ⟨gb280, 1, none⟩ = some (.int .i64 0) := (blk_cell BK280.out 1).trans rfl; have hcz8_2 : w7.cell? ⟨gb280, 2, none⟩ = some (.string (⟨#[]⟩ : ByteArray)) := (blk_cell BK280.out 2).trans rfl; have hfz8_0 := blk_frozen BK280.out 0; have hfz8_1 := blk_frozen BK280.out 1; have hfz8_2 := blk_frozen BK280.out 2) | ((with_reducible refine gate_callee (f := 34) rfl ?_); refine goesL_ (some 15) rfl rfl Try.func34 (by kernel_rfl) rfl #[.agg #[.int .i64 ((rd_T42 l1 x9_1).f0), .int .i64 ((rd_T42 l1 x9_1).f1), .string ((rd_T42 l1 x9_1).f2)]] rfl (by (try simp only [List.map_toArray, List.map_cons, List.map_nil]); first | done | rfl | (simp only [List.length_drop, List.length_take]; rfl)) ?_; (with_reducible refine (edits_grows.calls ((rd_T42 l1 x9_1).f0) ((rd_T42 l1 x9_1).f1) ((rd_T42 l1 x9_1).f2) t281 _ A6.out).mono ?_); rintro e w9 ⟨rfl, hb⟩; refine ⟨_, rfl, ?_⟩; have n0_ := Aside0.mk (blk_below (g := gb280) (o := .cells #[.int .i64 ((rd_T42 l1 x9_1).f0), .int .i64 ((rd_T42 l1 x9_1).f1), .string ((rd_T42 l1 x9_1).f2)] 42 (0, 0)) (by (with_reducible repeat (first | refine blk_drewN ?_ _ | refine blk_drew ?_ | refine blk_alloc ?_ _)); refine blk_put (cs := #[.int .i64 ((rd_T42 l1 x9_1).f0), .int .i64 ((rd_T42 l1 x9_1).f1), .string (⟨#[]⟩ : ByteArray)]) ?_ 2 _ rfl; (with_reducible repeat (first | refine blk_drewN ?_ _ | refine blk_drew ?_ | refine blk_alloc ?_ _)); refine blk_put (cs := #[.int .i64 ((rd_T42 l1 x9_1).f0), .int .i64 0, .string (⟨#[]⟩ : ByteArray)]) ?_ 1 _ rfl; (with_reducible repeat (first | refine blk_drewN ?_ _ | refine blk_drew ?_ | refine blk_alloc ?_ _)); refine blk_put (cs := #[.int .i64 0, .int .i64 0, .string (⟨#[]⟩ : ByteArray)]) ?_ 0 _ rfl; (with_reducible repeat (first | refine blk_drewN ?_ _ | refine blk_drew ?_ | refine blk_alloc ?_ _)); exact BK280.out) hb); have n1_ := Aside0.mk (below_step (by repeat (first | (with_reducible first | exact HB.out | apply below_alloc | apply pw_below_drewN | apply below_drew1 | refine below_set ?_ GE280.out) | exact HB.out)) hb); clear BK280; clear HB; have BK280 := n0_; have HB := n1_; clear n0_ n1_; (try clear hb); (try clear hb2); (try clear hk); (try clear hi)))
            go_roundg k1
            case measure => have := HK1.out; omega
            case rel => exact ⟨(wrap64 (x0_1 + t281)), (wrap64 (x9_1 + 1)), (by first | rfl | (simp; done) | (simp [*]; done)), (by first | rfl | (simp; done) | (simp [*]; done)), H', ⟨by have := HK1.out; omega⟩, ⟨by repeat (first | (with_reducible first | exact HB.out | apply below_alloc | apply pw_below_drewN | apply below_drew1 | refine below_set ?_ GE280.out) | exact HB.out)⟩⟩
          · rw [if_neg c5] at H
            exact absurd H (by simp)
        · rw [if_neg c4] at H
          exact absurd H (by simp)
      · rw [if_neg c3] at H
        have c3b0 : decide (x9_1 < (l1.length : Int)) = false := decide_eq_false c3
        clear c3
        obtain rfl := Option.some.inj H
        go_wp2
        go_ret
        exact ⟨by first | rfl | (simp [errW_none, errW_some] <;> rfl) | (simp [*, errW_none, errW_some] <;> rfl), by repeat (first | (with_reducible first | exact HB.out | apply below_alloc | apply pw_below_drewN | apply below_drew1) | exact HB.out)⟩

end Go.Proofs.Ytaihajmdngoeiaa.F

-- A text of this session's own program (wip/myprint.sh over a changed print tool): functions and their walks
namespace Go.Proofs.Ytaihajmdngoeiaa.F
open Go.RowKit Go.Proofs.YtaihajmdngoeiaaW.PrintWords Go.Proofs.YtaihajmdngoeiaaW.PrintLast Go.Proofs.YtaihajmdngoeiaaW.PrintMore
attribute [local go_sem] max2_int min2_int max_two min_two max_three min_three max_four min_four   -- for this text's walks alone
set_option linter.unusedVariables false
set_option linter.unusedSimpArgs false

/-! ### edits_Apply: function 24 -/
def edits_Apply.l0 : Nat → ByteArray → List Int → Int → List (S42) → Int → Int → Option (ByteArray × Int)
  | 0, _, _, _, _, _, _ => none
  | k + 1, x0, x7, x8, x23, x24, x25 => if x25 < x24 then (if 0 ≤ x25 then (if x25 < (x23.length : Int) then (if 0 ≤ x8 then (if x8 ≤ ((rd_T42 x23 x25).f0) then (if ((rd_T42 x23 x25).f0) ≤ (x0.size : Int) then (if x7.length + (x0.extract (x8 : Int).toNat (((rd_T42 x23 x25).f0) : Int).toNat).size < 140737488355328 then ((some (x7 ++ bytesOf (x0.extract (x8 : Int).toNat (((rd_T42 x23 x25).f0) : Int).toNat) : List Int)).bind fun y289 => (if y289.length + ((rd_T42 x23 x25).f2).size < 140737488355328 then (edits_Apply.l0 k x0 (y289 ++ bytesOf ((rd_T42 x23 x25).f2)) ((rd_T42 x23 x25).f1) x23 x24 (wrap64 (x25 + 1))) else (none))) else (none)) else (none)) else (none)) else (none)) else (none)) else (none)) else (if 0 ≤ x8 then (if x8 ≤ (x0.size : Int) then (if x7.length + (x0.extract (x8 : Int).toNat x0.size).size < 140737488355328 then (some (strOfNums (x7 ++ bytesOf (x0.extract (x8 : Int).toNat x0.size)), 0)) else (none)) else (none)) else (none))
def edits_Apply.f (k : Nat) (a0 : ByteArray) (l1 : List (S42)) : Option (ByteArray × Int) := (edits_valid.f k (a0.size : Int) l1).bind fun t282 => (if t282 = 0 then ((edits_left.f k (a0.size : Int) l1).bind fun t283 => (if 0 ≤ t283 then (if (t283 : Int).toNat ≤ 281474976710656 then (edits_Apply.l0 k a0 (([] : List Int)) 0 l1 (l1.length : Int) 0) else (none)) else (none))) else (some ((⟨#[]⟩ : ByteArray), t282)))
set_option maxHeartbeats 8000000 in
set_option maxRecDepth 100000 in
theorem edits_Apply.calls (k : Nat) (a0 : ByteArray) (A1 : Option Addr) (c1 : Nat) (l1 : List (S42)) (r1 : ByteArray) (r2 : Int) (w : World) (hr1 : Kd.C k42 w A1 l1.length l1) (hc1 : l1.length ≤ c1) (h : edits_Apply.f k a0 l1 = some (r1, r2)) :
    Calls Try.prog 24 #[.string a0, .slice A1 l1.length c1] w fun e w' => e = .returned (.tuple #[.string r1, .int .i64 r2]) ∧ Below w.heap.size w w' := by
  have hu42 := Try.underlying42
  have HR1 := Aside0.mk hr1
  have HC1 := Aside0.mk hc1
  clear hr1 hc1
  have HB := Aside0.mk (Below.refl w.heap.size w)
  have H : ((edits_valid.f k (a0.size : Int) l1).bind fun t282 => (if t282 = 0 then ((edits_left.f k (a0.size : Int) l1).bind fun t283 => (if 0 ≤ t283 then (if (t283 : Int).toNat ≤ 281474976710656 then (edits_Apply.l0 k a0 (([] : List Int)) 0 l1 (l1.length : Int) 0) else (none)) else (none))) else (some ((⟨#[]⟩ : ByteArray), t282)))) = some (r1, r2) := h
  clear h
  replace H := Option.bind_eq_some_iff.mp H
  obtain ⟨t282, A30, H⟩ := H
  replace H : (if t282 = 0 then ((edits_left.f k (a0.size : Int) l1).bind fun t283 => (if 0 ≤ t283 then (if (t283 : Int).toNat ≤ 281474976710656 then (edits_Apply.l0 k a0 (([] : List Int)) 0 l1 (l1.length : Int) 0) else (none)) else (none))) else (some ((⟨#[]⟩ : ByteArray), t282))) = some (r1, r2) := H
  have A3 := Aside0.mk A30
  clear A30
  by_cases c4 : t282 = 0
  · rw [if_pos c4] at H
    have c4b0 : (t282 == 0) = true := beq_iff_eq.mpr c4
    have c4b1 : (t282 != 0) = false := bne_eq_false_iff_eq.mpr c4
    clear c4
    replace H := Option.bind_eq_some_iff.mp H
    obtain ⟨t283, A50, H⟩ := H
    replace H : (if 0 ≤ t283 then (if (t283 : Int).toNat ≤ 281474976710656 then (edits_Apply.l0 k a0 (([] : List Int)) 0 l1 (l1.length : Int) 0) else (none)) else (none)) = some (r1, r2) := H
    have A5 := Aside0.mk A50
    clear A50
    by_cases c6 : 0 ≤ t283
    · rw [if_pos c6] at H
      have c6b0 := eq_true c6
      have c6b1 : decide (0 ≤ t283) = true := decide_eq_true c6
      clear c6
      by_cases c7 : (t283 : Int).toNat ≤ 281474976710656
      · rw [if_pos c7] at H
        have c7b0 := eq_true c7
        have c7b1 : decide ((t283 : Int).toNat ≤ 281474976710656) = true := decide_eq_true c7
        clear c7
        obtain ⟨y284, hy284⟩ : ∃ y_ : List Int, y_ = (([] : List Int)) := ⟨_, rfl⟩
        replace H : (edits_Apply.l0 k a0 y284 0 l1 (l1.length : Int) 0) = some (r1, r2) := by first | (rw [hy284]; with_reducible exact H) | (have H2_ := (Option.bind_some _ _).symm.trans H; rw [hy284]; with_reducible exact H2_) | (have H2_ := (Option.bind_some _ _).symm.trans H; with_reducible exact H2_) | with_reducible exact H | (rw [hy284]; exact H) | exact H
        have Ny284 := Aside0.mk hy284
        clear hy284
        have H' := Aside0.mk H
        clear H
        go_enter Try.func24, Try.ntmps24
        go_wp2_with (first | ((with_reducible refine gate_callee (f := 32) rfl ?_); refine goesL_ (some 14) rfl rfl Try.func32 (by kernel_rfl) rfl #[.int .i64 (a0.size : Int), .slice A1 l1.length c1] rfl (by (try simp only [List.map_toArray, List.map_cons, List.map_nil]); first | done | rfl | (simp only [List.length_drop, List.length_take]; rfl)) ?_; (with_reducible refine (edits_valid.calls k (a0.size : Int) _ _ l1 t282 _ ?side1 ?side2 A3.out).mono ?_); (case side1 => repeat (first | exact HR1.out | (with_reducible refine Kd.C_alloc ?_ _) | (with_reducible refine Kd.C_drewN ?_ _) | (with_reducible refine Kd.C_drew ?_))); (case side2 => exact HC1.out); rintro e w8 ⟨rfl, hb⟩; refine ⟨_, rfl, ?_⟩; have n0_ := Aside0.mk (below_step (by repeat (first | (with_reducible first | exact HB.out | apply below_alloc | apply pw_below_drewN | apply below_drew1) | exact HB.out)) hb); clear HB; have HB := n0_; clear n0_; (try clear hb); (try clear hb2); (try clear hk); (try clear hi)) | ((with_reducible refine gate_callee (f := 38) rfl ?_); refine goesL_ (some 21) rfl rfl Try.func38 (by kernel_rfl) rfl #[.int .i64 (a0.size : Int), .slice A1 l1.length c1] rfl (by (try simp only [List.map_toArray, List.map_cons, List.map_nil]); first | done | rfl | (simp only [List.length_drop, List.length_take]; rfl)) ?_; (with_reducible refine (edits_left.calls k (a0.size : Int) _ _ l1 t283 _ ?side1 ?side2 A5.out).mono ?_); (case side1 => repeat (first | exact (Kd.C_below HR1.out HB.out) | (with_reducible refine Kd.C_alloc ?_ _) | (with_reducible refine Kd.C_drewN ?_ _) | (with_reducible refine Kd.C_drew ?_))); (case side2 => exact HC1.out); rintro e w9 ⟨rfl, hb⟩; refine ⟨_, rfl, ?_⟩; have n0_ := Aside0.mk (below_step (by repeat (first | (with_reducible first | exact HB.out | apply below_alloc | apply pw_below_drewN | apply below_drew1) | exact HB.out)) hb); clear HB; have HB := n0_; clear n0_; (try clear hb); (try clear hb2); (try clear hk); (try clear hi)) | ((with_reducible refine gate_dst (N := 22) rfl ?_); refine Kd.R_makec (Kd.int .u8) _ 5 rfl (N := 22) rfl 53 _ _ rfl t283 rfl rfl Try.underlying53 (.int .u8 0) 1 info5 rfl (by decide) (by omega) 0 (ok := fun _ => True) (okp := fun _ => True) rfl (fun _ hk => hk) trivial (of_decide_eq_true (by first | (with_reducible assumption) | assumption)) (Nat.le_trans (Nat.mul_le_mul_right _ (of_decide_eq_true (by first | (with_reducible assumption) | assumption) : t283.toNat ≤ 281474976710656)) (by omega)) (Below.refl _ _) (Nat.le_refl _) ?_; intro v285 w10 ho11 hb hg_ hnew_; clear hg_ hnew_; (first | rw [← Ny284.out] at ho11 | (simp only [Int.reduceToNat] at ho11; rw [← Ny284.out] at ho11)); have n0_ := Aside0.mk (Kd.R_lower ho11 (below_size (by repeat (first | (with_reducible first | exact HB.out | apply below_alloc | apply pw_below_drewN | apply below_drew1) | exact HB.out)))); have n1_ := Aside0.mk (below_step (by repeat (first | (with_reducible first | exact HB.out | apply below_alloc | apply pw_below_drewN | apply below_drew1) | exact HB.out)) hb); clear HB; have HO286 := n0_; have HB := n1_; clear n0_ n1_; clear hb ho11))
        go_loopg [7, 8, 25] k (fun kq v7 v8 v25 w' => ∃ (x7_1 : List Int) (x8_1 : Int) (x25_1 : Int), v8 = .int .i64 x8_1 ∧ v25 = .int .i64 x25_1 ∧ Aside0 (edits_Apply.l0 kq a0 x7_1 x8_1 l1 (l1.length : Int) x25_1 = some (r1, r2)) ∧ Aside0 (kq ≤ k) ∧ Aside0 (Kd.R (Kd.int .u8) 5 w' w.heap.size (fun _ => True) v7 x7_1) ∧ Aside0 (Below w.heap.size w w'))
        case atStart => exact ⟨(y284), (0), (0), (by first | rfl | (simp; done) | (simp [*]; done)), (by first | rfl | (simp; done) | (simp [*]; done)), H', ⟨Nat.le_refl _⟩, ⟨by (with_reducible repeat (first | apply Kd.R_alloc | apply Kd.R_drewN | apply Kd.R_drew)); exact HO286.out⟩, ⟨by repeat (first | (with_reducible first | exact HB.out | apply below_alloc | apply pw_below_drewN | apply below_drew1) | exact HB.out)⟩⟩
        case round =>
          clear H'
          try clear c1
          try clear c2
          try clear p2
          try clear c3
          try clear c4
          try clear c4b0
          try clear c4b1
          try clear c6
          try clear c6b0
          try clear c6b1
          try clear c7
          try clear c7b0
          try clear c7b1
          obtain ⟨x7_1, x8_1, x25_1, rfl, rfl, HA, HK1, HO_7, HB⟩ := hrel
          cases gk with
          | zero => exact absurd HA.out (by simp [edits_Apply.l0])
          | succ k1 =>
            have H := HA.out
            clear HA
            simp only [edits_Apply.l0] at H
            by_cases c12 : x25_1 < (l1.length : Int)
            · rw [if_pos c12] at H
              have c12b0 : decide (x25_1 < (l1.length : Int)) = true := decide_eq_true c12
              clear c12
              by_cases c13 : 0 ≤ x25_1
              · rw [if_pos c13] at H
                have c13b0 : decide (0 ≤ x25_1) = true := decide_eq_true c13
                clear c13
                by_cases c14 : x25_1 < (l1.length : Int)
                · rw [if_pos c14] at H
                  have c14b0 : decide (x25_1 < (l1.length : Int)) = true := decide_eq_true c14
                  clear c14
                  by_cases c15 : 0 ≤ x8_1
                  · rw [if_pos c15] at H
                    have c15b0 := eq_true c15
                    have c15b1 : decide (0 ≤ x8_1) = true := decide_eq_true c15
                    clear c15
                    by_cases c16 : x8_1 ≤ ((rd_T42 l1 x25_1).f0)
                    · rw [if_pos c16] at H
                      have c16b0 := eq_true c16
                      have c16b1 : decide (x8_1 ≤ ((rd_T42 l1 x25_1).f0)) = true := decide_eq_true c16
                      clear c16
                      by_cases c17 : ((rd_T42 l1 x25_1).f0) ≤ (a0.size : Int)
                      · rw [if_pos c17] at H
                        have c17b0 := eq_true c17
                        have c17b1 : decide (((rd_T42 l1 x25_1).f0) ≤ (a0.size : Int)) = true := decide_eq_true c17
                        clear c17
                        by_cases c18 : x7_1.length + (a0.extract (x8_1 : Int).toNat (((rd_T42 l1 x25_1).f0) : Int).toNat).size < 140737488355328
                        · rw [if_pos c18] at H
                          have LMc18 := Aside0.mk c18
                          clear c18
                          obtain ⟨y289, hy289⟩ : ∃ y_ : List Int, y_ = (x7_1 ++ bytesOf (a0.extract (x8_1 : Int).toNat (((rd_T42 l1 x25_1).f0) : Int).toNat)) := ⟨_, rfl⟩
                          replace H : (if y289.length + ((rd_T42 l1 x25_1).f2).size < 140737488355328 then (edits_Apply.l0 k1 a0 (y289 ++ bytesOf ((rd_T42 l1 x25_1).f2)) ((rd_T42 l1 x25_1).f1) l1 (l1.length : Int) (wrap64 (x25_1 + 1))) else (none)) = some (r1, r2) := by first | (rw [hy289]; with_reducible exact H) | (have H2_ := (Option.bind_some _ _).symm.trans H; rw [hy289]; with_reducible exact H2_) | (have H2_ := (Option.bind_some _ _).symm.trans H; with_reducible exact H2_) | with_reducible exact H | (rw [hy289]; exact H) | exact H
                          have Ny289 := Aside0.mk hy289
                          clear hy289
                          by_cases c19 : y289.length + ((rd_T42 l1 x25_1).f2).size < 140737488355328
                          · rw [if_pos c19] at H
                            have LMc19 := Aside0.mk c19
                            clear c19
                            obtain ⟨y292, hy292⟩ : ∃ y_ : List Int, y_ = (y289 ++ bytesOf ((rd_T42 l1 x25_1).f2)) := ⟨_, rfl⟩
                            replace H : (edits_Apply.l0 k1 a0 y292 ((rd_T42 l1 x25_1).f1) l1 (l1.length : Int) (wrap64 (x25_1 + 1))) = some (r1, r2) := by first | (rw [hy292]; with_reducible exact H) | (have H2_ := (Option.bind_some _ _).symm.trans H; rw [hy292]; with_reducible exact H2_) | (have H2_ := (Option.bind_some _ _).symm.trans H; with_reducible exact H2_) | with_reducible exact H | (rw [hy292]; exact H) | exact H
                            have Ny292 := Aside0.mk hy292
                            clear hy292
                            have H' := Aside0.mk H
                            clear H
                            have p287 : 0 ≤ (x25_1 : Int) := of_decide_eq_true (by first | (with_reducible assumption) | assumption)
                            have q287 : x25_1 < (l1.length : Int) := of_decide_eq_true (by first | (with_reducible assumption) | assumption)
                            obtain ⟨ad287, e287, hx287_0, hx287_1, hx287_2⟩ := at_T42 HR1.out x25_1 p287 q287
                            cases e287
                            replace hx287_0 := (HB.out.cell (World.block_lt_of_cell? w _ hx287_0)).trans hx287_0
                            replace hx287_1 := (HB.out.cell (World.block_lt_of_cell? w _ hx287_1)).trans hx287_1
                            replace hx287_2 := (HB.out.cell (World.block_lt_of_cell? w _ hx287_2)).trans hx287_2
                            replace p287 := eq_true p287
                            replace q287 := eq_true q287
                            go_wp2_with (first | ((with_reducible refine gate_dst (N := 10) rfl ?_); refine box_event ?hg (N := 10) ?hd (cs := #[.int .i64 0, .int .i64 0, .string (⟨#[]⟩ : ByteArray)]) (t := 42) ?hr ?_; (case hd => rfl); (case hg => rfl); (case hr => first | (go_simp; done) | (go_simp; rfl)); intro gb288 hg w20 hbox hb; have n0_ := Aside0.mk (Kd.R_below (by (with_reducible repeat (first | apply Kd.R_alloc | apply Kd.R_drewN | apply Kd.R_drew)); exact HO_7.out) hb); have n1_ := Aside0.mk (below_step (by repeat (first | (with_reducible first | exact HB.out | apply below_alloc | apply pw_below_drewN | apply below_drew1) | exact HB.out)) hb); have n2_ := Aside0.mk (hbox); have n3_ := Aside0.mk ((by rw [hg]; exact (below_size (by repeat (first | (with_reducible first | exact HB.out | apply below_alloc | apply pw_below_drewN | apply below_drew1) | exact HB.out))) : w.heap.size ≤ gb288)); have n4_ := Aside0.mk ((by rw [hg]; exact (below_size (by repeat (first | (with_reducible first | exact HB.out | apply below_alloc | apply pw_below_drewN | apply below_drew1) | exact HB.out))) : w.heap.size ≤ gb288)); clear HO_7; clear HB; have HO_7 := n0_; have HB := n1_; have BK288 := n2_; have GW288 := n3_; have GE288 := n4_; clear n0_ n1_ n2_ n3_ n4_; clear hb hbox hg; have hcz21_0 : w20.cell? ⟨gb288, 0, none⟩ = some (.int .i64 0) := (blk_cell BK288.out 0).trans rfl; have hcz21_1 : w20.cell? ⟨gb288, 1, none⟩ = some (.int .i64 0) := (blk_cell BK288.out 1).trans rfl; have hcz21_2 : w20.cell? ⟨gb288, 2, none⟩ = some (.string (⟨#[]⟩ : ByteArray)) := (blk_cell BK288.out 2).trans rfl; have hfz21_0 := blk_frozen BK288.out 0; have hfz21_1 := blk_frozen BK288.out 1; have hfz21_2 := blk_frozen BK288.out 2) | (at_builtin; refine print_append_str (w0 := w) w.heap.size rfl (.tmp 29) _ 53 9 5 rfl Try.underlying53 Try.underlying9 info5 u7 x7_1 (a0.extract (x8_1 : Int).toNat (((rd_T42 l1 x25_1).f0) : Int).toNat) rfl rfl ?aO ?aB ?aS ?aL ?_; (case aB => exact (by repeat (first | (with_reducible first | exact HB.out | apply below_alloc | apply pw_below_drewN | apply below_drew1 | refine below_set ?_ GE288.out) | exact HB.out))); (case aO => exact (Kd.own_of_R (by (with_reducible repeat (first | apply Kd.R_alloc | apply Kd.R_drewN | apply Kd.R_drew)); exact Kd.R_mono (Kd.R_far (p := ⟨gb288, 2, none⟩) (Kd.R_far (p := ⟨gb288, 1, none⟩) (Kd.R_far (p := ⟨gb288, 0, none⟩) (Kd.R_types HO_7.out BK288.out (by decide)) (fun _ hk => hk.2) (.int .i64 ((rd_T42 l1 x25_1).f0))) (fun _ hk => hk.2) (.int .i64 ((rd_T42 l1 x25_1).f1))) (fun _ hk => hk.2) (.string ((rd_T42 l1 x25_1).f2))) (fun _ hk => trivial)))); (case aS => exact (below_size (by repeat (first | (with_reducible first | exact HB.out | apply below_alloc | apply pw_below_drewN | apply below_drew1 | refine below_set ?_ GE288.out) | exact HB.out)))); (case aL => have := LMc18.out; omega); intro v290 w22 ho0 hb hg; have ho := Kd.R_of_own (h1 := fun _ => rfl) (ok := fun _ => True) ho0 (fun _ _ => trivial); clear ho0; have hat := True.intro; rw [← Ny289.out] at ho; change Kd.R (Kd.int .u8) 5 w22 w.heap.size (fun _ => True) v290 y289 at ho; have n0_ := Aside0.mk (blk_grown (g := gb288) (o := .cells #[.int .i64 ((rd_T42 l1 x25_1).f0), .int .i64 ((rd_T42 l1 x25_1).f1), .string ((rd_T42 l1 x25_1).f2)] 42 (0, 0)) (by (with_reducible repeat (first | refine blk_drewN ?_ _ | refine blk_drew ?_ | refine blk_alloc ?_ _)); refine blk_put (cs := #[.int .i64 ((rd_T42 l1 x25_1).f0), .int .i64 ((rd_T42 l1 x25_1).f1), .string (⟨#[]⟩ : ByteArray)]) ?_ 2 _ rfl; (with_reducible repeat (first | refine blk_drewN ?_ _ | refine blk_drew ?_ | refine blk_alloc ?_ _)); refine blk_put (cs := #[.int .i64 ((rd_T42 l1 x25_1).f0), .int .i64 0, .string (⟨#[]⟩ : ByteArray)]) ?_ 1 _ rfl; (with_reducible repeat (first | refine blk_drewN ?_ _ | refine blk_drew ?_ | refine blk_alloc ?_ _)); refine blk_put (cs := #[.int .i64 0, .int .i64 0, .string (⟨#[]⟩ : ByteArray)]) ?_ 0 _ rfl; (with_reducible repeat (first | refine blk_drewN ?_ _ | refine blk_drew ?_ | refine blk_alloc ?_ _)); exact BK288.out) hg (Kd.R_ne HO_7.out BK288.out (by decide))); have n1_ := Aside0.mk (hb); have n2_ := Aside0.mk (ho); clear BK288; clear HB; clear HO_7; have BK288 := n0_; have HB := n1_; have HO291 := n2_; clear n0_ n1_ n2_; clear ho hb hg hat; have hcz23_0 : w22.cell? ⟨gb288, 0, none⟩ = some (.int .i64 ((rd_T42 l1 x25_1).f0)) := (blk_cell BK288.out 0).trans rfl; have hcz23_1 : w22.cell? ⟨gb288, 1, none⟩ = some (.int .i64 ((rd_T42 l1 x25_1).f1)) := (blk_cell BK288.out 1).trans rfl; have hcz23_2 : w22.cell? ⟨gb288, 2, none⟩ = some (.string ((rd_T42 l1 x25_1).f2)) := (blk_cell BK288.out 2).trans rfl; have hfz23_0 := blk_frozen BK288.out 0; have hfz23_1 := blk_frozen BK288.out 1; have hfz23_2 := blk_frozen BK288.out 2) | (at_builtin; refine print_append_str (w0 := w) w.heap.size rfl (.tmp 36) _ 53 9 5 rfl Try.underlying53 Try.underlying9 info5 v290 y289 ((rd_T42 l1 x25_1).f2) rfl rfl ?aO ?aB ?aS ?aL ?_; (case aB => exact (by repeat (first | (with_reducible first | exact HB.out | apply below_alloc | apply pw_below_drewN | apply below_drew1 | refine below_set ?_ GE288.out) | exact HB.out))); (case aO => exact (Kd.own_of_R (by (with_reducible repeat (first | apply Kd.R_alloc | apply Kd.R_drewN | apply Kd.R_drew)); exact HO291.out))); (case aS => exact (below_size (by repeat (first | (with_reducible first | exact HB.out | apply below_alloc | apply pw_below_drewN | apply below_drew1 | refine below_set ?_ GE288.out) | exact HB.out)))); (case aL => have := LMc19.out; omega); intro v293 w24 ho0 hb hg; have ho := Kd.R_of_own (h1 := fun _ => rfl) (ok := fun _ => True) ho0 (fun _ _ => trivial); clear ho0; have hat := True.intro; rw [← Ny292.out] at ho; change Kd.R (Kd.int .u8) 5 w24 w.heap.size (fun _ => True) v293 y292 at ho; have n0_ := Aside0.mk (blk_grown (g := gb288) (o := .cells #[.int .i64 ((rd_T42 l1 x25_1).f0), .int .i64 ((rd_T42 l1 x25_1).f1), .string ((rd_T42 l1 x25_1).f2)] 42 (0, 0)) (by (with_reducible repeat (first | refine blk_drewN ?_ _ | refine blk_drew ?_ | refine blk_alloc ?_ _)); exact BK288.out) hg (Kd.R_ne HO291.out BK288.out (by decide))); have n1_ := Aside0.mk (hb); have n2_ := Aside0.mk (ho); clear BK288; clear HB; clear HO291; have BK288 := n0_; have HB := n1_; have HO294 := n2_; clear n0_ n1_ n2_; clear ho hb hg hat; have hcz25_0 : w24.cell? ⟨gb288, 0, none⟩ = some (.int .i64 ((rd_T42 l1 x25_1).f0)) := (blk_cell BK288.out 0).trans rfl; have hcz25_1 : w24.cell? ⟨gb288, 1, none⟩ = some (.int .i64 ((rd_T42 l1 x25_1).f1)) := (blk_cell BK288.out 1).trans rfl; have hcz25_2 : w24.cell? ⟨gb288, 2, none⟩ = some (.string ((rd_T42 l1 x25_1).f2)) := (blk_cell BK288.out 2).trans rfl; have hfz25_0 := blk_frozen BK288.out 0; have hfz25_1 := blk_frozen BK288.out 1; have hfz25_2 := blk_frozen BK288.out 2))
                            go_roundg k1
                            case measure => have := HK1.out; omega
                            case rel => exact ⟨(y292), ((rd_T42 l1 x25_1).f1), (wrap64 (x25_1 + 1)), (by first | rfl | (simp; done) | (simp [*]; done)), (by first | rfl | (simp; done) | (simp [*]; done)), H', ⟨by have := HK1.out; omega⟩, ⟨by (with_reducible repeat (first | apply Kd.R_alloc | apply Kd.R_drewN | apply Kd.R_drew)); exact HO294.out⟩, ⟨by repeat (first | (with_reducible first | exact HB.out | apply below_alloc | apply pw_below_drewN | apply below_drew1 | refine below_set ?_ GE288.out) | exact HB.out)⟩⟩
                          · rw [if_neg c19] at H
                            exact absurd H (by simp)
                        · rw [if_neg c18] at H
                          exact absurd H (by simp)
                      · rw [if_neg c17] at H
                        exact absurd H (by simp)
                    · rw [if_neg c16] at H
                      exact absurd H (by simp)
                  · rw [if_neg c15] at H
                    exact absurd H (by simp)
                · rw [if_neg c14] at H
                  exact absurd H (by simp)
              · rw [if_neg c13] at H
                exact absurd H (by simp)
            · rw [if_neg c12] at H
              have c12b0 : decide (x25_1 < (l1.length : Int)) = false := decide_eq_false c12
              clear c12
              by_cases c26 : 0 ≤ x8_1
              · rw [if_pos c26] at H
                have c26b0 := eq_true c26
                have c26b1 : decide (0 ≤ x8_1) = true := decide_eq_true c26
                clear c26
                by_cases c27 : x8_1 ≤ (a0.size : Int)
                · rw [if_pos c27] at H
                  have c27b0 := eq_true c27
                  have c27b1 : decide (x8_1 ≤ (a0.size : Int)) = true := decide_eq_true c27
                  clear c27
                  by_cases c28 : x7_1.length + (a0.extract (x8_1 : Int).toNat a0.size).size < 140737488355328
                  · rw [if_pos c28] at H
                    have LMc28 := Aside0.mk c28
                    clear c28
                    obtain ⟨y295, hy295⟩ : ∃ y_ : List Int, y_ = (x7_1 ++ bytesOf (a0.extract (x8_1 : Int).toNat a0.size)) := ⟨_, rfl⟩
                    replace H : (some (strOfNums y295, 0)) = some (r1, r2) := by first | (rw [hy295]; with_reducible exact H) | (have H2_ := (Option.bind_some _ _).symm.trans H; rw [hy295]; with_reducible exact H2_) | (have H2_ := (Option.bind_some _ _).symm.trans H; with_reducible exact H2_) | with_reducible exact H | (rw [hy295]; exact H) | exact H
                    have Ny295 := Aside0.mk hy295
                    clear hy295
                    simp only [Option.some.injEq, Prod.mk.injEq] at H
                    obtain ⟨rfl, rfl⟩ := H
                    go_wp2_with (first | (at_builtin; refine print_append_str (w0 := w) w.heap.size rfl (.tmp 43) _ 53 9 5 rfl Try.underlying53 Try.underlying9 info5 u7 x7_1 (a0.extract (x8_1 : Int).toNat a0.size) rfl rfl ?aO ?aB ?aS ?aL ?_; (case aB => exact (by repeat (first | (with_reducible first | exact HB.out | apply below_alloc | apply pw_below_drewN | apply below_drew1) | exact HB.out))); (case aO => exact (Kd.own_of_R (by (with_reducible repeat (first | apply Kd.R_alloc | apply Kd.R_drewN | apply Kd.R_drew)); exact HO_7.out))); (case aS => exact (below_size (by repeat (first | (with_reducible first | exact HB.out | apply below_alloc | apply pw_below_drewN | apply below_drew1) | exact HB.out)))); (case aL => have := LMc28.out; omega); intro v296 w29 ho0 hb hg; have ho := Kd.R_of_own (h1 := fun _ => rfl) (ok := fun _ => True) ho0 (fun _ _ => trivial); clear ho0; have hat := True.intro; rw [← Ny295.out] at ho; change Kd.R (Kd.int .u8) 5 w29 w.heap.size (fun _ => True) v296 y295 at ho; have n0_ := Aside0.mk (hb); have n1_ := Aside0.mk (ho); clear HB; clear HO_7; have HB := n0_; have HO297 := n1_; clear n0_ n1_; clear ho hb hg hat; have hcv30 := own_string (P := Try.prog) Try.underlying53 Try.underlying5 Try.underlying9 (Kd.own_of_R HO297.out)))
                    go_ret2
                    exact ⟨by first | rfl | (simp [errW_none, errW_some] <;> rfl) | (simp [*, errW_none, errW_some] <;> rfl), by repeat (first | (with_reducible first | exact HB.out | apply below_alloc | apply pw_below_drewN | apply below_drew1) | exact HB.out)⟩
                  · rw [if_neg c28] at H
                    exact absurd H (by simp)
                · rw [if_neg c27] at H
                  exact absurd H (by simp)
              · rw [if_neg c26] at H
                exact absurd H (by simp)
      · rw [if_neg c7] at H
        exact absurd H (by simp)
    · rw [if_neg c6] at H
      exact absurd H (by simp)
  · rw [if_neg c4] at H
    have c4b0 : (t282 == 0) = false := beq_eq_false_iff_ne.mpr c4
    have c4b1 : (t282 != 0) = true := bne_iff_ne.mpr c4
    simp only [Option.some.injEq, Prod.mk.injEq] at H
    obtain ⟨rfl, rfl⟩ := H
    go_enter Try.func24, Try.ntmps24
    go_wp2_with (first | ((with_reducible refine gate_callee (f := 32) rfl ?_); refine goesL_ (some 14) rfl rfl Try.func32 (by kernel_rfl) rfl #[.int .i64 (a0.size : Int), .slice A1 l1.length c1] rfl (by (try simp only [List.map_toArray, List.map_cons, List.map_nil]); first | done | rfl | (simp only [List.length_drop, List.length_take]; rfl)) ?_; (with_reducible refine (edits_valid.calls k (a0.size : Int) _ _ l1 t282 _ ?side1 ?side2 A3.out).mono ?_); (case side1 => repeat (first | exact HR1.out | (with_reducible refine Kd.C_alloc ?_ _) | (with_reducible refine Kd.C_drewN ?_ _) | (with_reducible refine Kd.C_drew ?_))); (case side2 => exact HC1.out); rintro e w31 ⟨rfl, hb⟩; refine ⟨_, rfl, ?_⟩; have n0_ := Aside0.mk (below_step (by repeat (first | (with_reducible first | exact HB.out | apply below_alloc | apply pw_below_drewN | apply below_drew1) | exact HB.out)) hb); clear HB; have HB := n0_; clear n0_; (try clear hb); (try clear hb2); (try clear hk); (try clear hi)))
    go_ret2
    exact ⟨by first | rfl | (simp [errW_none, errW_some] <;> rfl) | (simp [*, errW_none, errW_some] <;> rfl), by repeat (first | (with_reducible first | exact HB.out | apply below_alloc | apply pw_below_drewN | apply below_drew1) | exact HB.out)⟩

end Go.Proofs.Ytaihajmdngoeiaa.F

namespace Go.Proofs.Ytaihajmdngoeiaa.Q
open Go.RowKit Go.Proofs.YtaihajmdngoeiaaW.PrintWords Go.Proofs.YtaihajmdngoeiaaW.PrintLast Go.Proofs.YtaihajmdngoeiaaW.PrintMore
open Go.Proofs.Ytaihajmdngoeiaa.F

set_option linter.unusedSimpArgs false
theorem sn_bytes (s : ByteArray) : strOfNums (bytesOf s) = s := by
  unfold strOfNums bytesOf
  apply ByteArray.ext
  rw [List.map_map]
  apply Array.ext'
  simp only [List.toList_toArray]
  conv => rhs; rw [← List.map_id s.data.toList]
  apply List.map_congr_left
  intro b _
  simp
theorem bo_append (a b : ByteArray) : bytesOf (a ++ b) = bytesOf a ++ bytesOf b := by
  unfold bytesOf
  rw [ByteArray.data_append]
  simp

/-- What a list of edits leaves of a text from a place on. -/
def apGo (text : ByteArray) : Int → List S42 → ByteArray
  | a, [] => text.extract a.toNat text.size
  | a, e :: t => text.extract a.toNat e.f0.toNat ++ e.f2 ++ apGo text e.f1 t
theorem ex_none (s : ByteArray) (a b : Nat) (h : b ≤ a) : s.extract a b = ⟨#[]⟩ := by
  have : (s.extract a b).size = 0 := by rw [ByteArray.size_extract]; omega
  apply ByteArray.ext
  exact Array.eq_empty_of_size_eq_zero this
theorem saidB_kp_eq (text : ByteArray) (a b : Int) (ha : 0 ≤ a) : saidB text (kp a b) = text.extract a.toNat b.toNat := by
  unfold kp
  split
  · simp only [saidB, piece, if_true]
    exact ByteArray.append_empty
  · rw [ex_none _ _ _ (by omega)]
    rfl
theorem saidB_segs (text : ByteArray) : ∀ (es : List S42) (a : Int), 0 ≤ a → (∀ e ∈ es, 0 ≤ e.f1) → saidB text (segs text.size a es) = apGo text a es
  | [], a, ha, _ => by simp only [segs, apGo]; rw [saidB_kp_eq _ _ _ ha]; simp
  | e :: t, a, ha, h => by
    simp only [segs, apGo]
    rw [saidB_append, saidB_kp_eq _ _ _ ha]
    simp only [saidB, piece, Bool.false_eq_true, if_false]
    rw [saidB_segs text t e.f1 (h e List.mem_cons_self) (fun x hx => h x (List.mem_cons_of_mem _ hx)), ByteArray.append_assoc]

theorem left_loop (l : List S42) (hl : l.length ≤ 65536) (d : Nat) : ∀ (i : Nat) (s : Int), i ≤ l.length → l.length - i = d →
    Ev (fun k => edits_left.l0 k (wrap64 s) l (l.length : Int) (i : Int)) (wrap64 (s + sumG (l.drop i))) := by
  induction d with
  | zero =>
    intro i s h1 h2
    refine ⟨1, fun n hn => ?_⟩
    obtain ⟨k, rfl⟩ : ∃ m, n = m + 1 := ⟨n - 1, by omega⟩
    simp only [edits_left.l0]
    rw [if_neg (by omega), List.drop_eq_nil_of_le (by omega)]
    simp [sumG]
  | succ d ih =>
    intro i s h1 h2
    have hi : i < l.length := by omega
    have hw : wrap64 ((i : Int) + 1) = ((i + 1 : Nat) : Int) := by rw [w64] <;> omega
    obtain ⟨K, hK⟩ := ih (i + 1) (s + grow l[i]) (by omega) (by omega)
    refine ⟨K + 1, fun n hn => ?_⟩
    obtain ⟨k, rfl⟩ : ∃ m, n = m + 1 := ⟨n - 1, by omega⟩
    have g := hK k (by omega)
    simp only at g
    simp only [edits_left.l0]
    rw [rd_at l i hi, if_pos (by omega), if_pos (by omega), if_pos (by omega), grows_is]
    simp only [Option.bind_some]
    rw [shift_step, hw, g, List.drop_eq_getElem_cons hi]
    simp only [sumG]
    congr 2
    omega
theorem left_is (size : Int) (h0 : 0 ≤ size) (h1 : size ≤ 4611686018427387904) (l : List S42) (hl : l.length ≤ 65536) : Ev (fun k => edits_left.f k size l) (wrap64 (size + sumG l)) := by
  unfold edits_left.f
  have := left_loop l hl l.length 0 size (by omega) (by omega)
  rw [w64 (x := size) (by omega) (by omega)] at this
  simpa using this

theorem apGo_size (text : ByteArray) (es : List S42) (a : Int) (p : Option Int) (hc : Chain text.size p es) (h0 : 0 ≤ a) (ha : a ≤ text.size) (hp : ∀ e t, es = e :: t → a ≤ e.f0) :
    ((apGo text a es).size : Int) = text.size - a + sumG es := by
  have hne : ∀ e ∈ es, 0 ≤ e.f1 := by
    intro e he
    obtain ⟨j, hj, rfl⟩ := List.mem_iff_getElem.1 he
    have := chain_at hc j hj
    omega
  rw [← saidB_segs text es a h0 hne]
  exact saidB_size text text.size rfl es a p hc h0 ha hp

theorem ap_loop (text : ByteArray) (l : List S42) (hl : l.length ≤ 65536) (hc : Chain text.size none l) (d : Nat) : ∀ (i : Nat) (a : Int) (out : List Int), i ≤ l.length → l.length - i = d → 0 ≤ a → a ≤ text.size → (∀ e t, l.drop i = e :: t → a ≤ e.f0) → out.length + (apGo text a (l.drop i)).size < 140737488355328 →
    Ev (fun k => edits_Apply.l0 k text out a l (l.length : Int) (i : Int)) (strOfNums (out ++ bytesOf (apGo text a (l.drop i))), 0) := by
  induction d with
  | zero =>
    intro i a out h1 h2 ha0 ha1 hp hs
    refine ⟨1, fun n hn => ?_⟩
    obtain ⟨k, rfl⟩ : ∃ m, n = m + 1 := ⟨n - 1, by omega⟩
    rw [List.drop_eq_nil_of_le (by omega)] at hs ⊢
    simp only [edits_Apply.l0, apGo] at hs ⊢
    rw [if_neg (by omega), if_pos ha0, if_pos ha1, if_pos hs]
  | succ d ih =>
    intro i a out h1 h2 ha0 ha1 hp hs
    have hi : i < l.length := by omega
    have hw : wrap64 ((i : Int) + 1) = ((i + 1 : Nat) : Int) := by rw [w64] <;> omega
    rw [List.drop_eq_getElem_cons hi] at hp hs ⊢
    have hae := hp _ _ rfl
    obtain ⟨e1, e2, e3⟩ := chain_at hc i hi
    simp only [apGo] at hs ⊢
    rw [ByteArray.size_append, ByteArray.size_append] at hs
    have hnext : ∀ e t, l.drop (i + 1) = e :: t → (l[i]).f1 ≤ e.f0 := by
      intro e t he
      obtain ⟨q, hq⟩ := chain_drop hc i
      rw [List.drop_eq_getElem_cons hi, he] at hq
      have := hq.2.2.2.2.2.2.2.1 _ rfl
      omega
    have hlen : (out ++ bytesOf (text.extract a.toNat (l[i]).f0.toNat) ++ bytesOf (l[i]).f2).length + (apGo text (l[i]).f1 (l.drop (i + 1))).size < 140737488355328 := by
      simp only [List.length_append, bytesOf_length]
      generalize (apGo text (l[i]).f1 (l.drop (i + 1))).size = T at hs ⊢
      generalize (text.extract a.toNat (l[i]).f0.toNat).size = X at hs ⊢
      omega
    have hlim : out.length + (text.extract a.toNat (l[i]).f0.toNat).size < 140737488355328 ∧ out.length + (text.extract a.toNat (l[i]).f0.toNat).size + (l[i]).f2.size < 140737488355328 := by
      generalize (apGo text (l[i]).f1 (l.drop (i + 1))).size = T at hs
      generalize (text.extract a.toNat (l[i]).f0.toNat).size = X at hs ⊢
      omega
    clear hs
    obtain ⟨K, hK⟩ := ih (i + 1) (l[i]).f1 (out ++ bytesOf (text.extract a.toNat (l[i]).f0.toNat) ++ bytesOf (l[i]).f2) (by omega) (by omega) (by omega) e3 hnext hlen
    clear hlen
    refine ⟨K + 1, fun n hn => ?_⟩
    obtain ⟨k, rfl⟩ : ∃ m, n = m + 1 := ⟨n - 1, by omega⟩
    have g := hK k (by omega)
    simp only at g
    simp only [edits_Apply.l0]
    rw [rd_at l i hi, if_pos (by omega), if_pos (by omega), if_pos (by omega), if_pos ha0, if_pos hae, if_pos (by omega), if_pos hlim.1]
    simp only [Option.bind_some]
    rw [if_pos (by simp only [List.length_append, bytesOf_length]; exact hlim.2), hw, g]
    simp only [bo_append, List.append_assoc]

def Apspec (text : ByteArray) (l : List S42) : ByteArray × Int := if vspec text.size l = 0 then (apGo text 0 l, 0) else (⟨#[]⟩, vspec text.size l)
theorem ap_first {size : Int} {p : Option Int} {l : List S42} (hc : Chain size p l) : ∀ e t, l = e :: t → 0 ≤ e.f0 := by
  rintro e t rfl
  exact hc.1
/-- How many bytes the texts of a list have. -/
def tot : List S42 → Nat
  | [] => 0
  | e :: t => e.f2.size + tot t
theorem sumG_tot {size : Int} : ∀ {l : List S42} {p : Option Int}, Chain size p l → sumG l ≤ tot l
  | [], _, _ => by simp [sumG, tot]
  | e :: t, p, ⟨c1, c2, c3, c4, c5⟩ => by
    have := sumG_tot c5
    simp only [sumG, tot, grow]
    omega
theorem sumG_low {size : Int} : ∀ {l : List S42} {p : Option Int} (a : Int), Chain size p l → 0 ≤ a → a ≤ size → (∀ e t, l = e :: t → a ≤ e.f0) → a - size ≤ sumG l
  | [], _, a, _, _, h, _ => by simp only [sumG]; omega
  | e :: t, p, a, ⟨c1, c2, c3, c4, c5⟩, h0, h, hp => by
    have h1 := hp _ _ rfl
    have := sumG_low e.f1 c5 (by omega) c3 (fun e' t' he => by subst he; have := c5.2.2.2.1 _ rfl; omega)
    simp only [sumG, grow]
    omega
theorem ap_size (text : ByteArray) (l : List S42) (h : vspec text.size l = 0) : ((apGo text 0 l).size : Int) = text.size + sumG l := by
  obtain ⟨hl, hc⟩ := vspec_zero h
  have := apGo_size text l 0 none hc (by omega) (by omega) (ap_first hc)
  omega
theorem ap_le (text : ByteArray) (l : List S42) (h : vspec text.size l = 0) : (apGo text 0 l).size ≤ text.size + tot l := by
  have h1 := ap_size text l h
  have h2 := sumG_tot (vspec_zero h).2
  omega

theorem Apply_is (text : ByteArray) (l : List S42) (hb : text.size + tot l < 140737488355328) : Ev (fun k => edits_Apply.f k text l) (Apspec text l) := by
  unfold edits_Apply.f Apspec
  refine (valid_is _ l).bind ?_
  by_cases h : vspec text.size l = 0
  · simp only [if_pos h]
    obtain ⟨hl, hc⟩ := vspec_zero h
    have hle := ap_le text l h
    have hsz := ap_size text l h
    refine (left_is text.size (by omega) (by omega) l hl).bind ?_
    have hw : wrap64 ((text.size : Int) + sumG l) = ((apGo text 0 l).size : Int) := by rw [← hsz, w64] <;> omega
    rw [hw]
    simp only [if_pos (show (0 : Int) ≤ ((apGo text 0 l).size : Int) by omega), if_pos (show ((apGo text 0 l).size : Int).toNat ≤ 281474976710656 by omega)]
    have := ap_loop text l hl hc l.length 0 0 [] (by omega) (by omega) (by omega) (by omega) (by simpa using ap_first hc) (by simpa using by omega)
    simpa [sn_bytes] using this
  · simp only [if_neg h]; exact Ev.now _
end Go.Proofs.Ytaihajmdngoeiaa.Q

namespace Go.Proofs.Ytaihajmdngoeiaa.Q
open Go.RowKit Go.Proofs.YtaihajmdngoeiaaW.PrintWords Go.Proofs.YtaihajmdngoeiaaW.PrintLast Go.Proofs.YtaihajmdngoeiaaW.PrintMore
open Go.Proofs.Ytaihajmdngoeiaa.F
set_option linter.unusedVariables false
set_option linter.unusedSimpArgs false

theorem chain_ch {n : Int} : ∀ {es : List S42} {q : Int}, Chain n (some q) es → Ch n q (es.map edOf)
  | [], q, _ => trivial
  | e :: t, q, ⟨c1, c2, c3, c4, c5⟩ => ⟨c4 q rfl, c2, c3, chain_ch c5⟩
theorem chain_ok {n : Int} {es : List S42} {p : Option Int} (h : Chain n p es) : Ok n (es.map edOf) := by
  cases es with
  | nil => trivial
  | cons e t =>
    obtain ⟨c1, c2, c3, c4, c5⟩ := h
    exact ⟨c1, c2, c3, chain_ch c5⟩
theorem grw_edOf (e : S42) : grw (edOf e) = grow e := by
  unfold grw edOf grow
  have : e.f2.data.toList.length = e.f2.size := by simp
  show (e.f2.data.toList.length : Int) - (e.f1 - e.f0) = _
  rw [this]
theorem shOf_edOf : ∀ (l : List S42) (sh : Int), shOf sh (l.map edOf) = sh + sumG l
  | [], sh => by simp [shOf, sumG]
  | e :: t, sh => by
    simp only [List.map_cons, shOf, sumG, shOf_edOf t, grw_edOf]
    omega
theorem rowE_len (n : Int) (h0 : 0 ≤ n) (l : List S42) (p : Option Int) (h : Chain n p l) : ((rowE n (l.map edOf)).1.length : Int) = n + sumG l := by
  have := row_len n (l.map edOf) 0 0 false (Ok.cz (chain_ok h) h0)
  rw [shOf_edOf] at this
  unfold rowE
  omega
/-- One list for two, of the given edits. -/
def compL (n : Int) (a b : List S42) : List S42 := (cmpE n (a.map edOf) (b.map edOf)).map toS
def compSpec (n : Int) (a b : List S42) : List S42 × Int :=
  if Vspec n a = 0 then (if vspec (wrap64 (n + sumG a)) b = 0 then (if ((compL n a b).length : Int) > 65536 then ([], 2) else (compL n a b, 0)) else ([], vspec (wrap64 (n + sumG a)) b)) else ([], Vspec n a)
theorem Vspec_zero {n : Int} {l : List S42} (h : Vspec n l = 0) : 0 ≤ n ∧ n ≤ 4611686018427387904 ∧ l.length ≤ 65536 ∧ Chain n none l := by
  unfold Vspec at h
  by_cases h1 : n < 0
  · rw [if_pos h1] at h; cases h
  · rw [if_neg h1] at h
    by_cases h2 : n > 4611686018427387904
    · rw [if_pos h2] at h; cases h
    · rw [if_neg h2] at h
      have := vspec_zero h
      exact ⟨by omega, by omega, this⟩
theorem new_size (n : Int) (h0 : 0 ≤ n) (hn : n ≤ 4611686018427387904) (a : List S42) (ha : Chain n none a) (ht : tot a ≤ 100000000000000000) : 0 ≤ n + sumG a ∧ n + sumG a ≤ 4800000000000000000 ∧ wrap64 (n + sumG a) = n + sumG a := by
  have h1 := sumG_low 0 ha (Int.le_refl _) h0 (ap_first ha)
  have h2 := sumG_tot ha
  have h3 : 0 ≤ n + sumG a := by omega
  have h4 : n + sumG a ≤ 4800000000000000000 := by omega
  exact ⟨h3, h4, w64 (by omega) (by omega)⟩
end Go.Proofs.Ytaihajmdngoeiaa.Q

-- Struct type 67 (a placed edit), and append of a string to a row behind a box (wip/mkgput.py; the struct's part after the printed one of type 61)
namespace Go.Proofs.Ytaihajmdngoeiaa.F
open Go.RowKit Go.Proofs.YtaihajmdngoeiaaW.PrintWords Go.Proofs.YtaihajmdngoeiaaW.PrintLast Go.Proofs.YtaihajmdngoeiaaW.PrintMore
set_option linter.unusedVariables false
set_option linter.unusedSimpArgs false
theorem info67 : (Try.prog.info? 67).map (fun i => (i.zero, i.size, i.bytes)) = some (some (.agg #[(.int .i64 0), (.int .i64 0), (.int .i64 0), (.string ⟨#[]⟩)]), 4, 40) := by kernel_rfl
theorem info5' : (Try.prog.info? 5).map (fun i => (i.zero, i.size, i.bytes)) = some (some (.int .u8 0), 1, 1) := by kernel_rfl
/-! #### struct type 67 -/
structure S67 where
  f0 : Int
  f1 : Int
  f2 : Int
  f3 : ByteArray
def z67 : S67 := ⟨(0 : Int), (0 : Int), (0 : Int), (⟨#[]⟩ : ByteArray)⟩
def k67 : Kd S67 := Kd.iso (Kd.pair (Kd.int .i64) (Kd.pair (Kd.int .i64) (Kd.pair (Kd.int .i64) Kd.string))) (fun x : S67 => (x.f0, x.f1, x.f2, x.f3))
theorem k67_open {w : World} {x : S67} {cs : List Value} (h : k67.K w x cs) : cs = [.int .i64 x.f0, .int .i64 x.f1, .int .i64 x.f2, .string x.f3] := by
  obtain ⟨_, _, rfl, rfl, ⟨_, _, rfl, rfl, ⟨_, _, rfl, rfl, rfl⟩⟩⟩ := h
  exact rfl
theorem k67_mkM (w : World) (base : Nat) (ok : Nat → Prop) (x : S67)  : k67.M w base ok x [.int .i64 x.f0, .int .i64 x.f1, .int .i64 x.f2, .string x.f3] := ⟨[.int .i64 x.f0], [.int .i64 x.f1, .int .i64 x.f2, .string x.f3], rfl, rfl, ⟨[.int .i64 x.f1], [.int .i64 x.f2, .string x.f3], rfl, rfl, ⟨[.int .i64 x.f2], [.string x.f3], rfl, rfl, rfl⟩⟩⟩
def rd_T67 (xs : List S67) (i : Int) : S67 := xs.getD i.toNat z67
theorem at_T67 {w : World} {A : Option Addr} {n : Nat} {xs : List S67} (h : Kd.C k67 w A n xs) (i : Int) (h0 : 0 ≤ i) (h1 : i < n) : ∃ ad , A = some ad ∧ w.cell? (ad.add (i.toNat * 4)) = some (.int .i64 (rd_T67 xs i).f0) ∧ w.cell? ⟨(ad.add (i.toNat * 4)).block, (ad.add (i.toNat * 4)).off + 1, none⟩ = some (.int .i64 (rd_T67 xs i).f1) ∧ w.cell? ⟨(ad.add (i.toNat * 4)).block, (ad.add (i.toNat * 4)).off + 2, none⟩ = some (.int .i64 (rd_T67 xs i).f2) ∧ w.cell? ⟨(ad.add (i.toNat * 4)).block, (ad.add (i.toNat * 4)).off + 3, none⟩ = some (.string (rd_T67 xs i).f3) := by
  obtain ⟨ad, c, e, _, hK, hc0⟩ := Kd.C_get h z67 i h0 h1
  have hc : ∀ j u, c[j]? = some u → w.cell? (ad.add (i.toNat * 4 + j)) = some u := hc0
  obtain rfl := k67_open hK
  exact ⟨ad, e, hc 0 _ rfl, by rw [← add_field _ _ 1 (by omega)]; exact hc 1 _ rfl, by rw [← add_field _ _ 2 (by omega)]; exact hc 2 _ rfl, by rw [← add_field _ _ 3 (by omega)]; exact hc 3 _ rfl⟩


theorem ints_reps5 {R : Int → List Value → Prop} (hR : ∀ x cs, R x cs ↔ cs = [.int .u8 x]) : ∀ (l : List Int), Reps R 1 l (l.map (Value.int .u8)) := by
  intro l
  induction l with
  | nil => exact Reps.none _ _
  | cons c l ih => exact Reps.one ((hR _ _).2 rfl) ih
section
variable {P : Program} (w : World)
theorem append_str_at (base : Nat) (t u ty e : TypeId) (i : TypeInfo) (ht : P.underlying t = some (.slice e)) (hu : P.underlying u = some .string) (hi : P.info? e = some i) (hz : i.zero = some (.int .u8 0))
    (hsize : i.size = 1) (hby : i.bytes = 1)
    (v : Value) (n : Nat) (xs : List Value) (hown : w.ownsRow base e 1 v n xs) (s : ByteArray)
    (h63 : n + s.size ≤ maxLen) (hbytes : n + s.size ≤ 140737488355328) (v' : Value) (w' : World) (hr : (Builtin.append_ #[t, u] ty #[v, .string s]).run P w = .ok v' w') :
    v'.ownBlock = v.ownBlock ∨ ∃ b, v'.ownBlock = some b ∧ w.heap.size ≤ b := by
  have hsmall : n + s.size ≤ 9223372036854775807 := by simp only [maxLen] at h63; omega
  have hxl : xs.length = n := by simpa using hown.1
  rcases hown.2 with ⟨rfl, rfl⟩ | ⟨g, cap, cur, rfl, hbg, hg, hnc, hcm, hcs, htake⟩
  · have hx : xs = [] := List.eq_nil_of_length_eq_zero hxl
    subst hx
    by_cases hm : s.size = 0
    · have hn : Lib.strCells s = [] := List.eq_nil_of_length_eq_zero (by rw [Lib.strCells_length]; exact hm)
      have hf := Lib.run_firstCells_string (P := P) w 1 s
      rw [hm] at hf
      simp [Builtin.append_, run_underlying ht, run_underlying hu, sizeOf, typeInfo, hi, hsize, Builtin.lenOf, hm, hf] at hr
      exact .inl (by rw [← hr.1])
    · have hr2 := run_append_nil_string (P := P) w t u ty e i (.int .u8 0) ht hu hi hz s (by omega) (by omega) (by rw [hby]; omega)
      rw [hr2] at hr
      simp only [Result.ok.injEq] at hr
      exact .inr ⟨w.heap.size, by rw [← hr.1]; rfl, Nat.le_refl _⟩
  · by_cases hroom : n + s.size ≤ cap
    · have hcs' : cur.size = cap := by simpa using hcs
      have hr2 := Lib.run_append_room_string (P := P) w t u ty e i ht hu hi hsize g n cap cur hg s hroom (by omega)
      rw [hr2] at hr
      simp only [Result.ok.injEq] at hr
      exact .inl (by rw [← hr.1]; rfl)
    · have holds : ∀ j u, xs[j]? = some u → w.cell? ((⟨g, 0, none⟩ : Addr).add j) = some u := hown.cells (g := g) rfl
      have hr2 := Lib.run_append_grow_string (P := P) w t u ty e i (.int .u8 0) ht hu hi hz ⟨g, 0, none⟩ n cap xs (by rw [hsize]; simpa using hxl) holds s (by omega) (by omega) (by rw [hby]; exact growslice_fits (by omega) (by omega))
      rw [hr2] at hr
      simp only [Result.ok.injEq] at hr
      exact .inr ⟨w.heap.size, by rw [← hr.1]; rfl, Nat.le_refl _⟩
end
section
variable {P : Program} {ops : Array Oper} {o : Oper} {a : Act} {Q : Exit → Act → World → Prop} {K : Act → World → Prop} {rest : List Oper}
/-- append(row, s...) onto a row of bytes of its own. -/
theorem str_run {w0 W : World} (base : Nat) (t u e ty : TypeId)
    (ht : P.underlying t = some (.slice e)) (hu : P.underlying u = some .string) (hinfo : (P.info? e).map (fun i => (i.zero, i.size, i.bytes)) = some (some (.int .u8 0), 1, 1))
    (v : Value) (xs : List Int) (y : ByteArray) (ok : Nat → Prop) (hfresh : ∀ k, W.heap.size ≤ k → ok k)
    (HO : Kd.R (Kd.int .u8) e W base ok v xs) (HB : Below base w0 W) (hbase : base ≤ W.heap.size) (hl : xs.length + y.size ≤ 140737488355328) :
    ∃ v1 w1, (Builtin.append_ #[t, u] ty #[v, .string y]).run P W = .ok v1 w1 ∧ Kd.R (Kd.int .u8) e w1 base ok v1 (xs ++ bytesOf y) ∧ Below base w0 w1 ∧ W.grownBy w1 v.ownBlock ∧ (v1.ownBlock = v.ownBlock ∨ ∃ b, v1.ownBlock = some b ∧ W.heap.size ≤ b) := by
  obtain ⟨i0, hi, hzz⟩ := Option.map_eq_some_iff.1 hinfo
  simp only [Prod.mk.injEq] at hzz
  obtain ⟨hz0, hz1, hz2⟩ := hzz
  have HW := Kd.own_of_R HO
  obtain ⟨v', w', hr, h2, h3, h4⟩ := Lib.run_append_own_string (P := P) W base t u ty e i0 ht hu hi hz0 hz1 hz2 v xs.length (nums .u8 xs) HW y (by simp only [maxLen]; omega) hl hbase
  have hat := append_str_at (P := P) W base t u ty e i0 ht hu hi hz0 hz1 hz2 v xs.length (nums .u8 xs) HW y (by simp only [maxLen]; omega) hl v' w' hr
  have hl2 : (xs ++ bytesOf y).length = xs.length + y.size := by rw [List.length_append, bytesOf_length]
  have hc : nums .u8 (xs ++ bytesOf y) = nums .u8 xs ++ Lib.strCells y := by
    rw [nums_append]
    congr 1
    simp [nums, bytesOf, Lib.strCells]
  refine ⟨v', w', hr, ⟨fun k hk => ?_, _, by rw [hl2]; exact h2, ?_⟩, HB.grown h3 hbase (own_base HW), h3, hat⟩
  · rcases hat with hat | ⟨b, hb, hle⟩
    · exact HO.1 k (by rw [← hat]; exact hk)
    · rw [hb] at hk
      injection hk with hk
      exact hfresh k (by omega)
  · rw [← hc]
    exact ints_reps5 (fun x cs => Iff.rfl) _
theorem str_append {w0 W : World} (base : Nat) (hgd : o.guard = none) (s x : Operand) (t u e : TypeId)
    (ho : o.op = .call { callee := .builtin .append, args := #[s, x], argTypes := #[t, u] })
    (ht : P.underlying t = some (.slice e)) (hu : P.underlying u = some .string) (hinfo : (P.info? e).map (fun i => (i.zero, i.size, i.bytes)) = some (some (.int .u8 0), 1, 1))
    (v : Value) (xs : List Int) (y : ByteArray) (ok : Nat → Prop) (hfresh : ∀ k, W.heap.size ≤ k → ok k) (hs : a.eval s = v) (hx : a.eval x = .string y)
    (HO : Kd.R (Kd.int .u8) e W base ok v xs) (HB : Below base w0 W) (hbase : base ≤ W.heap.size) (hl : xs.length + y.size ≤ 140737488355328)
    (h : ∀ v1 w1, Kd.R (Kd.int .u8) e w1 base ok v1 (xs ++ bytesOf y) → Below base w0 w1 → W.grownBy w1 v.ownBlock → (v1.ownBlock = v.ownBlock ∨ ∃ b, v1.ownBlock = some b ∧ W.heap.size ≤ b) → wpList P ops Q rest (a.put o.dst v1) w1) :
    wpList P ops Q (o :: rest) a W := by
  obtain ⟨v1, w1, hr, h1, h2, h3, h4⟩ := str_run (P := P) (w0 := w0) base t u e o.type ht hu hinfo v xs y ok hfresh HO HB hbase hl
  have := h v1 w1 h1 h2 h3 h4
  refine wpList_plain hgd fun K hK => ?_
  unfold Oper.wp execOp
  simp only [ho, resolve, invoke, builtin, Sem.run_bind, Sem.run_pure, Result.andThen_ok, List.map_toArray, List.map_cons, List.map_nil, hs, hx, hr]
  exact hK _ _ this
theorem str_append_step {w0 W : World} (base : Nat) (hw : Region.wanted o (yielded ops a.tmps) = true) (s x : Operand) (t u e : TypeId)
    (ho : o.op = .call { callee := .builtin .append, args := #[s, x], argTypes := #[t, u] })
    (ht : P.underlying t = some (.slice e)) (hu : P.underlying u = some .string) (hinfo : (P.info? e).map (fun i => (i.zero, i.size, i.bytes)) = some (some (.int .u8 0), 1, 1))
    (v : Value) (xs : List Int) (y : ByteArray) (ok : Nat → Prop) (hfresh : ∀ k, W.heap.size ≤ k → ok k) (hs : a.eval s = v) (hx : a.eval x = .string y)
    (HO : Kd.R (Kd.int .u8) e W base ok v xs) (HB : Below base w0 W) (hbase : base ≤ W.heap.size) (hl : xs.length + y.size ≤ 140737488355328)
    (h : ∀ v1 w1, Kd.R (Kd.int .u8) e w1 base ok v1 (xs ++ bytesOf y) → Below base w0 w1 → W.grownBy w1 v.ownBlock → (v1.ownBlock = v.ownBlock ∨ ∃ b, v1.ownBlock = some b ∧ W.heap.size ≤ b) → K (a.put o.dst v1) w1) :
    if Region.wanted o (yielded ops a.tmps) = true then Oper.wp P o a W K Q else K (a.put o.dst undef) W := by
  rw [if_pos hw]
  obtain ⟨v1, w1, hr, h1, h2, h3, h4⟩ := str_run (P := P) (w0 := w0) base t u e o.type ht hu hinfo v xs y ok hfresh HO HB hbase hl
  unfold Oper.wp execOp
  simp only [ho, resolve, invoke, builtin, Sem.run_bind, Sem.run_pure, Result.andThen_ok, List.map_toArray, List.map_cons, List.map_nil, hs, hx, hr]
  exact h v1 w1 h1 h2 h3 h4
end
end Go.Proofs.Ytaihajmdngoeiaa.F

-- written's closure (49), walked by hand
namespace Go.Proofs.Ytaihajmdngoeiaa.F
open Go.RowKit Go.Proofs.YtaihajmdngoeiaaW.PrintWords Go.Proofs.YtaihajmdngoeiaaW.PrintLast Go.Proofs.YtaihajmdngoeiaaW.PrintMore
open Go.Proofs.Ytaihajmdngoeiaa.Q
attribute [local go_sem] max2_int min2_int max_two min_two
set_option linter.unusedVariables false
set_option linter.unusedSimpArgs false

def mxx (a b : Int) : Int := if a < b then b else a
def mnn (a b : Int) : Int := if b < a then b else a
/-- What a placed text has between two places. -/
def putOne (p : S67) (a b : Int) : ByteArray := if mxx a p.f0 < mnn b (p.f0 + p.f3.size) then p.f3.extract (mxx a p.f0 - p.f0).toNat (mnn b (p.f0 + p.f3.size) - p.f0).toNat else ⟨#[]⟩
def putG : List S67 → Int → Int → List Int
  | [], _, _ => []
  | p :: t, a, b => bytesOf (putOne p a b) ++ putG t a b
/-- Between put's rounds. -/
structure PW (w0 w wr : World) (gF gO : Nat) (v vr : Value) (out : List Int) : Prop where
  hb : wr.heap[gO]? = some (.cells #[vr] 53 (0, 0))
  hr : Kd.R (Kd.int .u8) 5 wr w0.heap.size (fun k => k ≠ gF ∧ k ≠ gO) vr out
  hat : vr.ownBlock = v.ownBlock ∨ ∃ b, vr.ownBlock = some b ∧ w.heap.size ≤ b
  fr : ∀ k, k < w.heap.size → k ≠ gO → some k ≠ v.ownBlock → wr.heap[k]? = w.heap[k]?
  sz : w.heap.size ≤ wr.heap.size
  be : Below w0.heap.size w0 wr

def put1.T5 : Bool × List (List Nat × List Nat) := (true, [([], []), ([], []), ([1], [1]), ([2], [2]), ([], []), ([], []), ([5], [5]), ([4, 6], [4, 6]), ([], []), ([], []), ([9], [9]), ([8, 10], [8, 10]), ([3, 7, 11], [3, 7, 11]), ([0, 12], [0, 12]), ([13, 13, 0, 1, 2, 3, 4, 5, 6, 7, 8, 9, 10, 11, 12, 13], [13])])
def put1.B5 : List Nat := [0, 0, 2, 6, 0, 0, 32, 112, 0, 0, 512, 1792, 4094, 8191, 16383]
theorem put1.tab5 : rtab .any (opsOf Try.f49 5) = put1.T5 := by kernel_rfl
theorem put1.bits5 : waitsOk put1.T5.2 put1.B5 = true := by kernel_rfl
set_option maxRecDepth 100000 in
set_option maxHeartbeats 20000000 in
theorem put1.calls (first : List S67) (A : Option Addr) (c : Nat) (a b : Int) (gF gO : Nat) (v : Value) (out : List Int) (w0 w : World)
    (hF : w.heap[gF]? = some (.cells #[.slice A first.length c] 65 (0, 0))) (hC : Kd.C k67 w0 A first.length first) (hO : w.heap[gO]? = some (.cells #[v] 53 (0, 0)))
    (hR : Kd.R (Kd.int .u8) 5 w w0.heap.size (fun k => k ≠ gF ∧ k ≠ gO) v out) (hW : Below w0.heap.size w0 w) (hgO : w0.heap.size ≤ gO) (hgF : w0.heap.size ≤ gF) (hne : gF ≠ gO)
    (hp : ∀ p ∈ first, 0 ≤ p.f0 ∧ p.f0 ≤ 5000000000000000000 ∧ p.f3.size ≤ 1048576) (ha : 0 ≤ a ∧ a ≤ 5000000000000000000) (hb : 0 ≤ b ∧ b ≤ 5000000000000000000)
    (hl : out.length + (putG first a b).length ≤ 140737488355328) (hfl : first.length ≤ 1000000000) :
    Calls Try.prog 49 #[.int .i64 a, .int .i64 b, .pointer (some ⟨gF, 0, none⟩), .pointer (some ⟨gO, 0, none⟩)] w fun e w' => (∃ x, e = .returned x) ∧ ∃ v', PW w0 w w' gF gO v v' (out ++ putG first a b) := by
  have hu65 := Try.underlying65
  have hu67 := Try.underlying67
  have hcF : w.cell? ⟨gF, 0, none⟩ = some (.slice A first.length c) := (blk_cell hF 0).trans rfl
  have P0 : PW w0 w w gF gO v v out := ⟨hO, hR, .inl rfl, fun _ _ _ _ => rfl, Nat.le_refl _, hW⟩
  have HF := Aside0.mk hF
  have HC := Aside0.mk hC
  have HP := Aside0.mk P0
  have HG := Aside0.mk hgO
  have HGF := Aside0.mk hgF
  have HN := Aside0.mk hne
  have HPP := Aside0.mk hp
  have HA := Aside0.mk ha
  have HB := Aside0.mk hb
  have HL := Aside0.mk hl
  have HFL := Aside0.mk hfl
  have HNF := Aside0.mk (show some gF ≠ v.ownBlock from fun e => (hR.1 _ e.symm).1 rfl)
  clear hF hC hO hR hW hgO hgF hne hp ha hb hl hfl P0
  go_enter Try.func49, Try.ntmps49
  go_wp2
  go_loopg [12] first.length (fun kq v12 w' => ∃ (i : Nat) (o : List Int) (vr : Value), v12 = .int .i64 (i : Int) ∧ Aside0 (i + kq = first.length) ∧ Aside0 (PW w0 w w' gF gO v vr o) ∧ Aside0 (o ++ putG (first.drop i) a b = out ++ putG first a b))
  case atStart => exact ⟨0, out, v, rfl, ⟨by omega⟩, HP, ⟨by simp⟩⟩
  case round =>
    clear HP hcF
    obtain ⟨i, o, vr, rfl, HI, HQ, HS⟩ := hrel
    by_cases hi : i < first.length
    · have d1 : decide ((i : Int) < (first.length : Int)) = true := decide_eq_true (by omega)
      obtain ⟨ad, e9, hx0, hx1, hx2, hx3⟩ := at_T67 (Kd.C_below HC.out HQ.out.be) (i : Int) (by omega) (by omega)
      have HII := Aside0.mk hi
      have p9 : (0 ≤ (i : Int)) = True := eq_true (by omega)
      have q9 : ((i : Int) < (first.length : Int)) = True := eq_true (by omega)
      have q8 : (i < first.length) = True := eq_true hi
      clear hi
      subst e9
      obtain ⟨p, hpd⟩ : ∃ p, rd_T67 first (i : Int) = p := ⟨_, rfl⟩
      rw [hpd] at hx0 hx1 hx2 hx3
      simp only [Int.toNat_natCast] at hx0 hx1 hx2 hx3
      have HPD := Aside0.mk hpd
      clear hpd
      go_upto_region 3 with (fail)
      go_quiet (fail)
      go_upto_region 4 with (fail)
      have hmem : p ∈ first := by
        have e := HPD.out
        unfold rd_T67 at e
        rw [Int.toNat_natCast, List.getD_eq_getElem?_getD, List.getElem?_eq_getElem HII.out] at e
        rw [← e]
        exact List.getElem_mem _
      obtain ⟨hp0, hp1, hp2⟩ := HPP.out p hmem
      have hw : wrap64 (p.f0 + (p.f3.size : Int)) = p.f0 + (p.f3.size : Int) := by rw [w64] <;> omega
      rw [hw]
      have hdrop : putG (first.drop i) a b = bytesOf (putOne p a b) ++ putG (first.drop (i + 1)) a b := by
        rw [List.drop_eq_getElem_cons HII.out]
        have e := HPD.out
        unfold rd_T67 at e
        rw [Int.toNat_natCast, List.getD_eq_getElem?_getD, List.getElem?_eq_getElem HII.out] at e
        have e2 : first[i]'HII.out = p := e
        rw [e2]
        rfl
      have hS := HS.out
      rw [hdrop] at hS
      obtain ⟨x, hx⟩ : ∃ x, (if a < p.f0 then p.f0 else a) = x := ⟨_, rfl⟩
      obtain ⟨y, hy⟩ : ∃ y, (if p.f0 + (p.f3.size : Int) < b then p.f0 + (p.f3.size : Int) else b) = y := ⟨_, rfl⟩
      have hone : putOne p a b = if x < y then p.f3.extract (x - p.f0).toNat (y - p.f0).toNat else ⟨#[]⟩ := by rw [← hx, ← hy]; rfl
      have hxr : p.f0 ≤ x ∧ x ≤ 5000000000000000000 := by have := HA.out; rw [← hx]; split <;> omega
      have hyr : y ≤ p.f0 + p.f3.size := by rw [← hy]; split <;> omega
      rw [hx, hy]
      have HX := Aside0.mk hxr
      have HY := Aside0.mk hyr
      have HP3 := Aside0.mk (show 0 ≤ p.f0 ∧ p.f0 ≤ 5000000000000000000 ∧ p.f3.size ≤ 1048576 from ⟨hp0, hp1, hp2⟩)
      have HON := Aside0.mk hone
      have HSS := Aside0.mk hS
      clear hw hdrop hS hx hy hone hxr hyr hp0 hp1 hp2 hmem hx0 hx1 hx2 hx3 p9 q9 q8 d1
      obtain ⟨Av, cv, ev⟩ := Kd.R_slice HQ.out.hr
      subst ev
      have hgOl := blk_lt HQ.out.hb
      have hgFl : gF < wr.heap.size := Nat.lt_of_lt_of_le (blk_lt HF.out) HQ.out.sz
      obtain ⟨gE, hgE⟩ : ∃ g, wr.heap.size = g := ⟨_, rfl⟩
      generalize hW1 : (wr.alloc (Obj.cells #[Value.int IntKind.i64 p.f0, Value.int IntKind.i64 p.f1, Value.int IntKind.i64 p.f2, Value.string p.f3] 67)).drewN _ = W1
      have hBO : W1.heap[gO]? = some (.cells #[.slice Av o.length cv] 53 (0, 0)) := by rw [← hW1]; exact blk_drewN (blk_alloc HQ.out.hb _) _
      have hBE : W1.heap[gE]? = some (.cells #[Value.int IntKind.i64 p.f0, Value.int IntKind.i64 p.f1, Value.int IntKind.i64 p.f2, Value.string p.f3] 67 (0, 0)) := by rw [← hW1, ← hgE]; exact blk_drewN (blk_new _ _) _
      have hR1 : Kd.R (Kd.int .u8) 5 W1 w0.heap.size (fun k => k ≠ gF ∧ k ≠ gO) (.slice Av o.length cv) o := by rw [← hW1]; exact Kd.R_drewN (Kd.R_alloc HQ.out.hr _) _
      have hB1 : Below w0.heap.size w0 W1 := by rw [← hW1]; exact pw_below_drewN (below_alloc HQ.out.be _) _
      have hO1 : ∀ k, k < wr.heap.size → W1.heap[k]? = wr.heap[k]? := fun k hk => by rw [← hW1]; exact Below.heap_alloc _ _ _ hk
      have hsz : wr.heap.size ≤ W1.heap.size := by rw [← hW1]; exact Nat.le_trans (Nat.le_succ _) (by simp [World.drewN])
      rw [hgE]
      have m0 : W1.cell? ⟨gO, 0, none⟩ = some (.slice Av o.length cv) := (blk_cell hBO 0).trans rfl
      have m1 : W1.cell? ⟨gE, 0, none⟩ = some (.int .i64 p.f0) := (blk_cell hBE 0).trans rfl
      have m2 : W1.cell? ⟨gE, 3, none⟩ = some (.string p.f3) := (blk_cell hBE 3).trans rfl
      have BO := Aside0.mk hBO
      have HR1 := Aside0.mk hR1
      have HB1 := Aside0.mk hB1
      have HO1 := Aside0.mk hO1
      have HSZ := Aside0.mk hsz
      have HGE := Aside0.mk hgE
      have HLF := Aside0.mk (show gF < W1.heap.size from Nat.lt_of_lt_of_le hgFl hsz)
      have HLO := Aside0.mk (show gO < W1.heap.size from Nat.lt_of_lt_of_le hgOl hsz)
      clear hBO hBE hR1 hB1 hO1 hsz hgE hgOl hgFl hW1
      by_cases hxy : x < y
      · have d1 : decide (x < y) = true := decide_eq_true hxy
        have HXY := Aside0.mk hxy
        obtain ⟨u, hu⟩ : ∃ u, x - p.f0 = u := ⟨_, rfl⟩
        obtain ⟨z, hz⟩ : ∃ z, y - p.f0 = z := ⟨_, rfl⟩
        have hw1 : wrap64 (x - p.f0) = u := by have := HX.out; have := HP3.out; rw [w64, hu] <;> omega
        have hw2 : wrap64 (y - p.f0) = z := by have := HX.out; have := HY.out; have := HP3.out; rw [w64, hz] <;> omega
        have s1 : (0 ≤ u) = True := eq_true (by have := HX.out; omega)
        have s2 : (u ≤ z) = True := eq_true (by omega)
        have s3 : (z ≤ (p.f3.size : Int)) = True := eq_true (by have := HY.out; omega)
        have s4 : (0 ≤ z) = True := eq_true (by have := HX.out; omega)
        have t1 : decide (0 ≤ u) = true := decide_eq_true (by have := HX.out; omega)
        have t2 : decide (u ≤ z) = true := decide_eq_true (by omega)
        have t3 : decide (z ≤ (p.f3.size : Int)) = true := decide_eq_true (by have := HY.out; omega)
        have ht : putOne p a b = p.f3.extract u.toNat z.toNat := by rw [HON.out, if_pos hxy, hu, hz]
        have hlx : o.length + (p.f3.extract u.toNat z.toNat).size ≤ 140737488355328 := by
          have h1 := congrArg List.length HSS.out
          have h2 := HL.out
          rw [ht] at h1
          simp only [List.length_append, bytesOf_length] at h1
          omega
        have HLX := Aside0.mk hlx
        have HT := Aside0.mk ht
        clear hxy hlx ht hu hz
        go_upto_region 5 with (fail)
        refine start_ (n := 15) (S := fun w' => Below W1.heap.size W1 w') (ds := [13, 14]) #[false, false, false, false, false, false, false, false, false, false, false, false, false, false, false] (by kernel_rfl) rfl rfl (below_drew1 (Below.refl _ _)) (fun hHeld => ?_)
        refine with_tabW put1.tab5 put1.bits5 (fun HT_ HW_ => ?_)
        generalize W1.drew = wa at hHeld ⊢
        refine pure_ (i := 1) (N := some 33) (v := ?_) (a' := ?_) #[false, true, false, false, false, false, false, false, false, false, false, false, false, false, false] rfl rfl (any_of HT_.out (by kernel_rfl)) (fun _ _ _ h => h) (Or.inl ⟨by rfl, ?_⟩) ?_ ?_
        rotate_left
        · intro w'
          go_simp
          with_reducible rfl
        rotate_left
        · simp only [Act.put, List.setIfInBounds_toArray, List.set_cons_zero, List.set_cons_succ, i64_w, i32_w]
          rfl
        refine pure_ (i := 2) (N := some 34) (v := ?_) (a' := ?_) #[false, true, true, false, false, false, false, false, false, false, false, false, false, false, false] rfl rfl (any_of HT_.out (by kernel_rfl)) (fun _ _ _ h => h) (Or.inl ⟨by rfl, ?_⟩) ?_ ?_
        rotate_left
        · intro w'
          go_simp
          with_reducible rfl
        rotate_left
        · simp only [Act.put, List.setIfInBounds_toArray, List.set_cons_zero, List.set_cons_succ, i64_w, i32_w]
          rfl
        refine pure_ (i := 4) (N := some 36) (v := ?_) (a' := ?_) #[false, true, true, false, true, false, false, false, false, false, false, false, false, false, false] rfl rfl (any_of HT_.out (by kernel_rfl)) (fun _ _ _ h => h) (Or.inl ⟨by rfl, ?_⟩) ?_ ?_
        rotate_left
        · intro w'
          go_simp
          with_reducible rfl
        rotate_left
        · simp only [Act.put, List.setIfInBounds_toArray, List.set_cons_zero, List.set_cons_succ, i64_w, i32_w]
          rfl
        refine pure_ (i := 5) (N := some 37) (v := ?_) (a' := ?_) #[false, true, true, false, true, true, false, false, false, false, false, false, false, false, false] rfl rfl (any_of HT_.out (by kernel_rfl)) (fun _ _ _ h => h) (Or.inl ⟨by rfl, ?_⟩) ?_ ?_
        rotate_left
        · intro w'
          go_simp
          with_reducible rfl
        rotate_left
        · simp only [Act.put, List.setIfInBounds_toArray, List.set_cons_zero, List.set_cons_succ, i64_w, i32_w]
          rfl
        refine pure_ (i := 8) (N := some 40) (v := ?_) (a' := ?_) #[false, true, true, false, true, true, false, false, true, false, false, false, false, false, false] rfl rfl (any_of HT_.out (by kernel_rfl)) (fun _ _ _ h => h) (Or.inl ⟨by rfl, ?_⟩) ?_ ?_
        rotate_left
        · intro w'
          go_simp
          with_reducible rfl
        rotate_left
        · simp only [Act.put, List.setIfInBounds_toArray, List.set_cons_zero, List.set_cons_succ, i64_w, i32_w]
          rfl
        refine pure_ (i := 9) (N := some 41) (v := ?_) (a' := ?_) #[false, true, true, false, true, true, false, false, true, true, false, false, false, false, false] rfl rfl (any_of HT_.out (by kernel_rfl)) (fun _ _ _ h => h) (Or.inl ⟨by rfl, ?_⟩) ?_ ?_
        rotate_left
        · intro w'
          go_simp
          with_reducible rfl
        rotate_left
        · simp only [Act.put, List.setIfInBounds_toArray, List.set_cons_zero, List.set_cons_succ, i64_w, i32_w]
          rfl
        refine take_ (i := 0) (N := some 32) (v := ?_) (a' := ?_) #[true, true, true, false, true, true, false, false, true, true, false, false, false, false, false] rfl rfl (take_ofW HT_.out HW_.out (by kernel_rfl)) (fun _ _ _ h => h) (Or.inl ⟨by rfl, ?_⟩) hHeld ?_ ?_
        rotate_left
        · intro w' hS
          have h0 := (hS.cell (World.block_lt_of_cell? _ _ m0)).trans m0
          have h1 := (hS.cell (World.block_lt_of_cell? _ _ m1)).trans m1
          have h2 := (hS.cell (World.block_lt_of_cell? _ _ m2)).trans m2
          clear hS
          go_simp
          with_reducible rfl
        rotate_left
        · simp only [Act.put, List.setIfInBounds_toArray, List.set_cons_zero, List.set_cons_succ, i64_w, i32_w]
          rfl
        refine take_ (i := 3) (N := some 35) (v := ?_) (a' := ?_) #[true, true, true, true, true, true, false, false, true, true, false, false, false, false, false] rfl rfl (take_ofW HT_.out HW_.out (by kernel_rfl)) (fun _ _ _ h => h) (Or.inl ⟨by rfl, ?_⟩) hHeld ?_ ?_
        rotate_left
        · intro w' hS
          have h0 := (hS.cell (World.block_lt_of_cell? _ _ m0)).trans m0
          have h1 := (hS.cell (World.block_lt_of_cell? _ _ m1)).trans m1
          have h2 := (hS.cell (World.block_lt_of_cell? _ _ m2)).trans m2
          clear hS
          go_simp
          with_reducible rfl
        rotate_left
        · simp only [Act.put, List.setIfInBounds_toArray, List.set_cons_zero, List.set_cons_succ, i64_w, i32_w]
          rfl
        refine take_ (i := 6) (N := some 38) (v := ?_) (a' := ?_) #[true, true, true, true, true, true, true, false, true, true, false, false, false, false, false] rfl rfl (take_ofW HT_.out HW_.out (by kernel_rfl)) (fun _ _ _ h => h) (Or.inl ⟨by rfl, ?_⟩) hHeld ?_ ?_
        rotate_left
        · intro w' hS
          have h0 := (hS.cell (World.block_lt_of_cell? _ _ m0)).trans m0
          have h1 := (hS.cell (World.block_lt_of_cell? _ _ m1)).trans m1
          have h2 := (hS.cell (World.block_lt_of_cell? _ _ m2)).trans m2
          clear hS
          go_simp
          with_reducible rfl
        rotate_left
        · simp only [Act.put, List.setIfInBounds_toArray, List.set_cons_zero, List.set_cons_succ, i64_w, i32_w]
          rfl
        refine pure_ (i := 7) (N := some 39) (v := ?_) (a' := ?_) #[true, true, true, true, true, true, true, true, true, true, false, false, false, false, false] rfl rfl (any_of HT_.out (by kernel_rfl)) (fun _ _ _ h => h) (Or.inl ⟨by rfl, ?_⟩) ?_ ?_
        rotate_left
        · intro w'
          go_simp
          with_reducible rfl
        rotate_left
        · simp only [Act.put, List.setIfInBounds_toArray, List.set_cons_zero, List.set_cons_succ, i64_w, i32_w]
          rfl
        refine take_ (i := 10) (N := some 42) (v := ?_) (a' := ?_) #[true, true, true, true, true, true, true, true, true, true, true, false, false, false, false] rfl rfl (take_ofW HT_.out HW_.out (by kernel_rfl)) (fun _ _ _ h => h) (Or.inl ⟨by rfl, ?_⟩) hHeld ?_ ?_
        rotate_left
        · intro w' hS
          have h0 := (hS.cell (World.block_lt_of_cell? _ _ m0)).trans m0
          have h1 := (hS.cell (World.block_lt_of_cell? _ _ m1)).trans m1
          have h2 := (hS.cell (World.block_lt_of_cell? _ _ m2)).trans m2
          clear hS
          go_simp
          with_reducible rfl
        rotate_left
        · simp only [Act.put, List.setIfInBounds_toArray, List.set_cons_zero, List.set_cons_succ, i64_w, i32_w]
          rfl
        refine pure_ (i := 11) (N := some 43) (v := ?_) (a' := ?_) #[true, true, true, true, true, true, true, true, true, true, true, true, false, false, false] rfl rfl (any_of HT_.out (by kernel_rfl)) (fun _ _ _ h => h) (Or.inl ⟨by rfl, ?_⟩) ?_ ?_
        rotate_left
        · intro w'
          go_simp
          with_reducible rfl
        rotate_left
        · simp only [Act.put, List.setIfInBounds_toArray, List.set_cons_zero, List.set_cons_succ, i64_w, i32_w]
          rfl
        refine pure_ (i := 12) (N := some 44) (v := ?_) (a' := ?_) #[true, true, true, true, true, true, true, true, true, true, true, true, true, false, false] rfl rfl (any_of HT_.out (by kernel_rfl)) (fun _ _ _ h => h) (Or.inl ⟨by rfl, ?_⟩) ?_ ?_
        rotate_left
        · intro w'
          go_simp
          with_reducible rfl
        rotate_left
        · simp only [Act.put, List.setIfInBounds_toArray, List.set_cons_zero, List.set_cons_succ, i64_w, i32_w]
          rfl
        refine last_ (i := 13) (N := some 45) #[true, true, true, true, true, true, true, true, true, true, true, true, true, true, false] rfl rfl (one_of HT_.out (by kernel_rfl)) (by decide) (fun K hK => ?_)
        refine str_append_step (w0 := w0) w0.heap.size (by rfl) (.tmp 32) (.tmp 44) 53 9 5 rfl Try.underlying53 Try.underlying9 info5' (.slice Av o.length cv) o (p.f3.extract u.toNat z.toNat) (fun k => k ≠ gF ∧ k ≠ gO) ?aF rfl rfl (Kd.R_below HR1.out hHeld) (below_step HB1.out hHeld) (Nat.le_trans HB1.out.size hHeld.size) ?aL ?_
        case aF => exact fun k hk => ⟨by have := HLF.out; have := hHeld.size; omega, by have := HLO.out; have := hHeld.size; omega⟩
        case aL => have := HLX.out; omega
        intro v1 w7 ho hb1 hg1 hat1
        obtain ⟨A1, c1, e1⟩ := Kd.R_slice ho
        subst e1
        have HBO := Aside0.mk (blk_grown (blk_below BO.out hHeld) hg1 (fun e => (HR1.out.1 _ e.symm).2 rfl))
        refine hK.out _ _ ?_
        clear hK K
        refine norm_ (a' := ?_) ?_ ?_
        rotate_left
        · show Act.put _ (some 45) _ = _
          simp only [Act.put, List.setIfInBounds_toArray, List.set_cons_zero, List.set_cons_succ, i64_w, i32_w]
          rfl
        refine last_ (i := 14) (N := none) #[true, true, true, true, true, true, true, true, true, true, true, true, true, true, true] rfl rfl (one_of HT_.out (by kernel_rfl)) (by decide) (fun K hK => ?_)
        have h0 : w7.cell? ⟨gO, 0, none⟩ = some (.slice Av o.length cv) := (blk_cell HBO.out 0).trans rfl
        have hf0 := blk_frozen HBO.out 0
        refine skip_ (w1 := ?_) (by rfl) rfl ?_ ?_
        rotate_left
        · go_simp
          rfl
        refine hK.out _ _ ?_
        clear hK K
        refine done_ (done_of HT_.out (by kernel_rfl)) ?_
        go_wp2
        go_roundg (first.length - i - 1)
        case measure => have := HI.out; have := HII.out; omega
        case rel =>
          have hss := HSS.out
          rw [HT.out, ← List.append_assoc] at hss
          simp only [List.length_append] at hat1
          refine ⟨i + 1, o ++ bytesOf (p.f3.extract u.toNat z.toNat), .slice A1 (o.length + (bytesOf (p.f3.extract u.toNat z.toNat)).length) c1, ?_, ⟨by have := HI.out; have := HII.out; omega⟩, ⟨?_⟩, ⟨hss⟩⟩
          · show Value.int .i64 (wrap64 ((i : Int) + 1)) = _
            rw [w64 (by omega) (by have := HII.out; have := HFL.out; omega)]
            rfl
          · have hbl : ∀ k, k < w.heap.size → k ≠ gO → some k ≠ v.ownBlock → some k ≠ (Value.slice Av o.length cv).ownBlock := by
              intro k hk hk1 hk2
              rcases HQ.out.hat with e | ⟨q, e, hq⟩
              · rw [e]; exact hk2
              · rw [e]; intro e2; injection e2 with e2; omega
            refine ⟨blk_put HBO.out 0 _ rfl, ?_, ?_, fun k hk hk1 hk2 => ?_, ?_, ?_⟩
            · have e := Kd.R_far (p := ⟨gO, 0, none⟩) ho (fun k hk => hk.2) (.slice A1 (o ++ bytesOf (p.f3.extract u.toNat z.toNat)).length c1)
              simpa only [List.length_append] using e
            · rcases hat1 with e | ⟨q, e, hq⟩
              · rcases HQ.out.hat with e2 | ⟨q, e2, hq⟩
                · exact .inl (e.trans e2)
                · exact .inr ⟨q, e.trans e2, hq⟩
              · exact .inr ⟨q, e, by have := HQ.out.sz; have := HSZ.out; have := hHeld.size; omega⟩
            · have k1 : k < wr.heap.size := Nat.lt_of_lt_of_le hk HQ.out.sz
              have k2 : k < W1.heap.size := Nat.lt_of_lt_of_le k1 HSZ.out
              have k3 : k < wa.heap.size := Nat.lt_of_lt_of_le k2 hHeld.size
              exact (Below.heap_setCell _ _ _ _ hk1).trans ((hg1.block k k3 (hbl k hk hk1 hk2)).trans ((hHeld.block k k2).trans ((HO1.out k k1).trans (HQ.out.fr k hk hk1 hk2))))
            · have := hg1.size
              have h2 := HQ.out.sz
              have h3 := HSZ.out
              have h4 := hHeld.size
              show w.heap.size ≤ (w7.setCell ⟨gO, 0, none⟩ _).heap.size
              simp only [World.setCell]
              simp
              omega
            · exact below_set hb1 HG.out
      · have d1 : decide (x < y) = false := decide_eq_false hxy
        have ht : putOne p a b = ⟨#[]⟩ := by rw [HON.out, if_neg hxy]
        have hs := HSS.out
        rw [ht] at hs
        have HSS := Aside0.mk hs
        clear hs ht hxy HS HON
        go_wp2
        go_roundg (first.length - i - 1)
        case measure => have := HI.out; have := HII.out; omega
        case rel =>
          refine ⟨i + 1, o, .slice Av o.length cv, ?_, ⟨by have := HI.out; have := HII.out; omega⟩, ⟨?_⟩, HSS⟩
          · show Value.int .i64 (wrap64 ((i : Int) + 1)) = _
            rw [w64 (by omega) (by have := HII.out; have := HFL.out; omega)]
            rfl
          · exact ⟨BO.out, HR1.out, HQ.out.hat, fun k hk hk1 hk2 => (HO1.out k (Nat.lt_of_lt_of_le hk HQ.out.sz)).trans (HQ.out.fr k hk hk1 hk2), Nat.le_trans HQ.out.sz HSZ.out, HB1.out⟩
    · have d1 : decide ((i : Int) < (first.length : Int)) = false := decide_eq_false (by omega)
      have d2 : decide (i < first.length) = false := decide_eq_false hi
      have HNI := Aside0.mk hi
      clear hi
      go_wp2
      (try simp only [Exit.inBlock, Exit.then])
      refine Go.Great.bodyPost_end0 (fn := Try.f49) ?_ ?_ ?_
      · rfl
      · rfl
      have hs := HS.out
      rw [List.drop_eq_nil_of_le (by have := HNI.out; omega)] at hs
      simp only [putG, List.append_nil] at hs
      exact ⟨⟨_, rfl⟩, vr, by rw [← hs]; exact HQ.out⟩
end Go.Proofs.Ytaihajmdngoeiaa.F
