/- The law EditsBack of package monikerlaw holds of the given program: called with any arguments that can be read as data, together of bulk at most 1048576, it returns true, and its arguments read behind the call as before. Conditions: those of the given row '..Upto', no others. -/
import Derived.Test.YtaihajmdngoeiaaZBack2
import Derived.Test.YtaihajmdngoeiaaWMore
import Derived.SizedLaws
import Derived.ChangeSlices
import Derived.Deep.Slices
import Derived.Test.YtaihajmdngoeiaaRows
import Derived.JoinedCond
import Derived.ChangeArms
import Derived.WalkKit
import Derived.ProofKit
import Derived.OpenShut
import Derived.ShutString
import Derived.ChangeOld
import Derived.Below
-- The law EditsBack, plainly
namespace Go.Proofs.Ytaihajmdngoeiaa.Q
open Go.RowKit Go.Proofs.YtaihajmdngoeiaaW.PrintWords Go.Proofs.YtaihajmdngoeiaaW.PrintLast Go.Proofs.YtaihajmdngoeiaaW.PrintMore
open Go.Proofs.Ytaihajmdngoeiaa.F
set_option linter.unusedVariables false
set_option linter.unusedSimpArgs false

/-- The way back, without wraps. -/
def invU (text : ByteArray) : Int → List S42 → List S42
  | _, [] => []
  | s, e :: t => ⟨e.f0 + s, e.f0 + s + e.f2.size, text.extract e.f0.toNat e.f1.toNat⟩ :: invU text (s + grow e) t
/-- Each edit puts back what is there. -/
def idL (text : ByteArray) (l : List S42) : List S42 := l.map fun e => ⟨e.f0, e.f1, text.extract e.f0.toNat e.f1.toNat⟩
theorem invGo_un (text : ByteArray) (hsz : text.size ≤ 1048576) : ∀ (l : List S42) (p s : Int), Cz text.size p (l.map edOf) → 0 ≤ p → 0 ≤ p + s → s + tot l ≤ 2199023255552 → invGo text s l = invU text s l
  | [], _, _, _, _, _, _ => rfl
  | e :: t, p, s, ⟨c1, c2, c3, c4⟩, h0, h1, h2 => by
    have d1 : (edOf e).a = e.f0 := rfl
    have d2 : (edOf e).b = e.f1 := rfl
    rw [d1] at c1 c2
    rw [d2] at c2 c3 c4
    simp only [tot] at h2
    have hg : grow e = (e.f2.size : Int) - (e.f1 - e.f0) := rfl
    simp only [invGo, invU]
    rw [w64 (x := e.f0 + s) (by omega) (by omega), w64 (by omega) (by omega), invGo_un text hsz t e.f1 (s + grow e) (Ch.cz c4 c3) (by omega) (by rw [hg]; omega) (by rw [hg]; omega)]
theorem inv_ch (text : ByteArray) (n m : Int) : ∀ (l : List S42) (p s : Int), Ch n p (l.map edOf) → p ≤ n → m = n + (s + sumG l) → Ch m (p + s) ((invU text s l).map edOf)
  | [], _, _, _, _, _ => trivial
  | e :: t, p, s, ⟨c1, c2, c3, c4⟩, hp, hm => by
    have hx := cz_text n [] e.f0 s (edOf e) (t.map edOf) ⟨Int.le_refl _, c2, c3, c4⟩
    simp only [List.nil_append, shOf, shOf_edOf, grw_edOf] at hx
    have hl := edLen e
    have d1 : (edOf e).a = e.f0 := rfl
    have d2 : (edOf e).b = e.f1 := rfl
    rw [d1] at c1 c2 hx
    rw [d2] at c2 c3 c4
    rw [hl] at hx
    have hg : grow e = (e.f2.size : Int) - (e.f1 - e.f0) := rfl
    simp only [sumG] at hm
    refine ⟨by show p + s < e.f0 + s; omega, by show e.f0 + s ≤ e.f0 + s + e.f2.size; omega, by show e.f0 + s + e.f2.size ≤ m; omega, ?_⟩
    have := inv_ch text n m t e.f1 (s + grow e) c4 c3 (by omega)
    have he : e.f1 + (s + grow e) = e.f0 + s + e.f2.size := by omega
    rw [he] at this
    exact this
theorem inv_ok (text : ByteArray) (n m : Int) (h0 : 0 ≤ n) (l : List S42) (h : Ok n (l.map edOf)) (hm : m = n + sumG l) : Ok m ((invU text 0 l).map edOf) := by
  cases l with
  | nil => trivial
  | cons e t =>
    obtain ⟨c1, c2, c3, c4⟩ := h
    have := inv_ch text n m (e :: t) (-1) 0 ⟨by show (-1 : Int) < (edOf e).a; omega, c2, c3, c4⟩ (by omega) (by omega)
    obtain ⟨e1, e2, e3, e4⟩ := this
    exact ⟨by show 0 ≤ e.f0 + 0; have : (edOf e).a = e.f0 := rfl; omega, e2, e3, e4⟩
theorem chain_edOf {m : Int} {l : List S42} (h : Ok m (l.map edOf)) : Chain m none l := by
  have := chain_of_Ok h
  have e : (l.map edOf).map toS = l := by simp [List.map_map, Function.comp_def, toS_edOf]
  rw [e] at this
  exact this
theorem writS_one (lo h : Int) (t u : List UInt8) : writS lo [⟨lo, h, t⟩] [(lo, u)] h = t := by
  simp only [writS, putS_eq, List.nil_append, List.append_nil]
/-- A list and its way back, group by group. -/
theorem groups_inv (text : ByteArray) (n : Int) : ∀ (l : List S42) (p s : Int) (k : Nat), Cz n p (l.map edOf) → 0 ≤ p + s → l.length ≤ k → groups k (l.map edOf) ((invU text s l).map edOf) s = (idL text l).map edOf
  | [], p, s, k, _, _, _ => by
    cases k with
    | zero => rfl
    | succ k => simp [groups, invU, idL]
  | e :: t, p, s, k, ⟨c1, c2, c3, c4⟩, h0, hk => by
    obtain ⟨k, rfl⟩ : ∃ m, k = m + 1 := ⟨k - 1, by simp only [List.length_cons] at hk; omega⟩
    have hl := edLen e
    have d1 : (edOf e).a = e.f0 := rfl
    have d2 : (edOf e).b = e.f1 := rfl
    have hg : grw (edOf e) = (e.f2.size : Int) - (e.f1 - e.f0) := by rw [grw_edOf]; rfl
    have hgr : grow e = (e.f2.size : Int) - (e.f1 - e.f0) := rfl
    rw [d1] at c1 c2
    rw [d2] at c2 c3 c4
    obtain ⟨b, hb⟩ : ∃ b, edOf ⟨e.f0 + s, e.f0 + s + e.f2.size, text.extract e.f0.toNat e.f1.toNat⟩ = b := ⟨_, rfl⟩
    have ba : b.a = e.f0 + s := by rw [← hb]; rfl
    have bb : b.b = e.f0 + s + e.f2.size := by rw [← hb]; rfl
    have hmap : (invU text s (e :: t)).map edOf = b :: (invU text (s + grow e) t).map edOf := by
      simp only [invU, List.map_cons, hb]
    obtain ⟨H, hH⟩ : ∃ H, max 0 ((edOf e).a + s + (edOf e).t.length) = H := ⟨_, rfl⟩
    have hHv : H = e.f0 + s + e.f2.size := by rw [← hH, d1, hl]; omega
    -- the next ones are not near
    have nextA : ∀ x r, t.map edOf = x :: r → ¬ (x.a + (s + grw (edOf e)) ≤ H) := by
      intro x r hx
      rw [hx] at c4
      have := c4.1
      rw [hg]
      omega
    have nextB : ∀ x r, (invU text (s + grow e) t).map edOf = x :: r → ¬ (x.a ≤ H) := by
      intro x r hx
      cases t with
      | nil => simp [invU] at hx
      | cons y t =>
        simp only [invU, List.map_cons] at hx
        injection hx with hx _
        have hxa : x.a = y.f0 + (s + grow e) := by rw [← hx]; rfl
        have := c4.1
        have hy : (edOf y).a = y.f0 := rfl
        rw [hy] at this
        omega
    have stop : ∀ (j : Nat) (A B : List Ed), (∀ x r, A = x :: r → ¬ (x.a + (s + grw (edOf e)) ≤ H)) → (∀ x r, B = x :: r → ¬ (x.a ≤ H)) → gatL j H [edOf e] [b] A B (s + grw (edOf e)) = (H, [edOf e], [b], A, B) := by
      intro j A B hA hB
      cases j with
      | zero => simp only [gatL]
      | succ j =>
        cases A with
        | nil =>
          cases B with
          | nil => simp only [gatL]
          | cons f r => simp only [gatL]; rw [if_neg (hB f r rfl)]
        | cons x u =>
          simp only [gatL]
          rw [if_neg (hA x u rfl)]
          cases B with
          | nil => rfl
          | cons f r => simp only []; rw [if_neg (hB f r rfl)]
    have take : ∀ (j : Nat) (A B : List Ed), (∀ x r, A = x :: r → ¬ (x.a + (s + grw (edOf e)) ≤ H)) → (∀ x r, B = x :: r → ¬ (x.a ≤ H)) → gatL (j + 1) H [edOf e] [] A (b :: B) (s + grw (edOf e)) = (H, [edOf e], [b], A, B) := by
      intro j A B hA hB
      have hm : max H b.b = H := by omega
      cases A with
      | nil =>
        simp only [gatL]
        rw [if_pos (by omega), hm]
        exact stop j [] B hA hB
      | cons x u =>
        simp only [gatL]
        rw [if_neg (hA x u rfl), if_pos (by omega), hm]
        exact stop j (x :: u) B hA hB
    have hgat : gat0 s ((e :: t).map edOf) ((invU text s (e :: t)).map edOf) = (e.f0 + s, (H, [edOf e], [b], t.map edOf, (invU text (s + grow e) t).map edOf)) := by
      rw [hmap]
      simp only [List.map_cons, gat0]
      rw [if_pos (by omega), hH, take _ _ _ nextA nextB, d1]
    have ih := groups_inv text n t e.f1 (s + grow e) k (Ch.cz c4 c3) (by omega) (by simp only [List.length_cons] at hk; omega)
    simp only [groups]
    rw [if_neg (by simp), hgat]
    simp only [fsOf, shOf]
    rw [grw_edOf, ih]
    show _ = edOf ⟨e.f0, e.f1, text.extract e.f0.toNat e.f1.toNat⟩ :: (idL text t).map edOf
    congr 1
    have hw : writS (e.f0 + s) [b] [((edOf e).a + s, (edOf e).t)] H = (text.extract e.f0.toNat e.f1.toNat).data.toList := by
      rw [d1, ← hb, hHv]
      exact writS_one _ _ _ _
    rw [hw]
    unfold edOf
    congr 1
    · show e.f0 + s - s = e.f0; omega
    · show H - (s + grow e) = e.f1; omega
theorem compL_inv (text : ByteArray) (l : List S42) (hc : Chain text.size none l) (m : Nat) (hm : (m : Int) = text.size + sumG l) : compL text.size l (invU text 0 l) = idL text l := by
  have hob : Ok (rowE text.size (l.map edOf)).1.length ((invU text 0 l).map edOf) := by
    rw [rowE_len' text.size l hc m hm]
    exact inv_ok text text.size m (by omega) l (chain_ok hc) (by omega)
  unfold compL
  rw [cmpE_groups text.size (by omega) (l.map edOf) _ (chain_ok hc) hob (l.length + (invU text 0 l).length) (by simp only [List.length_map]; omega)]
  rw [groups_inv text text.size l 0 0 _ (Ok.cz (chain_ok hc) (by omega)) (by omega) (by omega)]
  simp [List.map_map, Function.comp_def, toS_edOf]
theorem ap_id (text : ByteArray) : ∀ (l : List S42) (p : Int), 0 ≤ p → Cz text.size p (l.map edOf) → apGo text p (idL text l) = text.extract p.toNat text.size
  | [], p, _, _ => rfl
  | e :: t, p, h0, ⟨c1, c2, c3, c4⟩ => by
    have d1 : (edOf e).a = e.f0 := rfl
    have d2 : (edOf e).b = e.f1 := rfl
    rw [d1] at c1 c2
    rw [d2] at c2 c3 c4
    have ih := ap_id text t e.f1 (by omega) (Ch.cz c4 c3)
    show text.extract p.toNat e.f0.toNat ++ text.extract e.f0.toNat e.f1.toNat ++ apGo text e.f1 (idL text t) = _
    rw [ih]
    apply ba_of_list
    simp only [ByteArray.data_append, Array.toList_append, ByteArray.data_extract, Array.toList_extract, List.extract_eq_take_drop]
    have key : ∀ (L : List UInt8) (a b c d : Nat), a ≤ b → b ≤ c → c ≤ d → d = L.length → (L.drop a).take (b - a) ++ (L.drop b).take (c - b) ++ (L.drop c).take (d - c) = (L.drop a).take (d - a) := by
      intro L a b c d h1 h2 h3 h4
      apply List.ext_getElem?
      intro i
      simp only [List.getElem?_append, List.getElem?_take, List.getElem?_drop, List.length_append, List.length_take, List.length_drop]
      split
      · split
        · rw [if_pos (by omega), if_pos (by omega)]
        · rw [if_pos (by omega), if_pos (by omega)]
          congr 1
          omega
      · split
        · rw [if_pos (by omega)]
          congr 1
          omega
        · rw [if_neg (by omega)]
    exact key text.data.toList _ _ _ _ (by omega) (by omega) (by omega) (by simp)
theorem ex_all (s : ByteArray) : s.extract 0 s.size = s := by
  apply ba_of_list
  rw [ByteArray.data_extract, Array.toList_extract, List.extract_eq_take_drop]
  simp only [List.drop_zero, Nat.sub_zero]
  rw [List.take_of_length_le (by simp)]
theorem ex_mid (P M Z : ByteArray) : (P ++ M ++ Z).extract P.size (P.size + M.size) = M := by
  apply ba_of_list
  have hp : P.size = P.data.toList.length := by simp
  have hm : M.size = M.data.toList.length := by simp
  rw [ByteArray.data_extract, Array.toList_extract, List.extract_eq_take_drop]
  simp only [ByteArray.data_append, Array.toList_append]
  rw [hp, hm, List.append_assoc, List.drop_left, show P.data.toList.length + M.data.toList.length - P.data.toList.length = M.data.toList.length by omega, List.take_left]
/-- The way back of the way back. -/
theorem inv_inv (text : ByteArray) : ∀ (l : List S42) (a s : Int) (P : ByteArray), Cz text.size a (l.map edOf) → 0 ≤ a → 0 ≤ a + s → (P.size : Int) = a + s → invU (P ++ apGo text a l) (-s) (invU text s l) = l
  | [], _, _, _, _, _, _, _ => rfl
  | e :: t, a, s, P, ⟨c1, c2, c3, c4⟩, h0, h1, hP => by
    have d1 : (edOf e).a = e.f0 := rfl
    have d2 : (edOf e).b = e.f1 := rfl
    rw [d1] at c1 c2
    rw [d2] at c2 c3 c4
    have hg : grow e = (e.f2.size : Int) - (e.f1 - e.f0) := rfl
    have hx : (text.extract e.f0.toNat e.f1.toNat).size = e.f1.toNat - e.f0.toNat := by rw [ByteArray.size_extract]; omega
    have hy : (text.extract a.toNat e.f0.toNat).size = e.f0.toNat - a.toNat := by rw [ByteArray.size_extract]; omega
    obtain ⟨P2, hP2⟩ : ∃ P2, P ++ text.extract a.toNat e.f0.toNat = P2 := ⟨_, rfl⟩
    have hs2 : (P2.size : Int) = e.f0 + s := by rw [← hP2, ByteArray.size_append, hy]; omega
    have hw : P ++ apGo text a (e :: t) = P2 ++ e.f2 ++ apGo text e.f1 t := by
      show P ++ (text.extract a.toNat e.f0.toNat ++ e.f2 ++ apGo text e.f1 t) = _
      rw [← hP2]
      apply ba_of_list
      simp only [ByteArray.data_append, Array.toList_append, List.append_assoc]
    have ih := inv_inv text t e.f1 (s + grow e) (P2 ++ e.f2) (Ch.cz c4 c3) (by omega) (by omega) (by rw [ByteArray.size_append]; omega)
    rw [hw]
    simp only [invU]
    have hgb : -s + grow (⟨e.f0 + s, e.f0 + s + e.f2.size, text.extract e.f0.toNat e.f1.toNat⟩ : S42) = -(s + grow e) := by
      show -s + (((text.extract e.f0.toNat e.f1.toNat).size : Int) - (e.f0 + s + e.f2.size - (e.f0 + s))) = _
      rw [hx, hg]
      omega
    rw [hgb, ih]
    congr 1
    have hex : (P2 ++ e.f2 ++ apGo text e.f1 t).extract (e.f0 + s).toNat (e.f0 + s + (e.f2.size : Int)).toNat = e.f2 := by
      rw [show (e.f0 + s).toNat = P2.size by omega, show (e.f0 + s + (e.f2.size : Int)).toNat = P2.size + e.f2.size by omega]
      exact ex_mid _ _ _
    obtain ⟨f0, f1, f2⟩ := e
    simp only at hex hx c1 c2 c3 ⊢
    rw [hex, hx]
    congr 1
    · omega
    · omega
/-- What changes nothing is nothing. -/
theorem norm_id (text : ByteArray) (f t : Nat) (hft : f ≤ t) (hts : t ≤ text.size) : normE text (text.extract f t) f t = [] := by
  have hx : (text.extract f t).size = t - f := by rw [ByteArray.size_extract]; omega
  obtain ⟨h1, h2⟩ := pre_spec text (text.extract f t) f t
  obtain ⟨h3, h4⟩ := pre_le text (text.extract f t) f t
  have hp : preN text (text.extract f t) f t = t - f := by
    rcases Nat.lt_or_ge (preN text (text.extract f t) f t) (t - f) with h | h
    · exfalso
      unfold preB at h2
      rw [decide_eq_true h, decide_eq_true (by omega), bt_cut text f t _ (by omega)] at h2
      simp at h2
    · omega
  unfold normE
  rw [hp]
  have hz : ((text.extract f t).extract (t - f) (text.extract f t).size).size = 0 := by rw [ByteArray.size_extract]; omega
  obtain ⟨h5, h6⟩ := suf_le text ((text.extract f t).extract (t - f) (text.extract f t).size) (f + (t - f)) t
  have hq : sufN text ((text.extract f t).extract (t - f) (text.extract f t).size) (f + (t - f)) t = 0 := by omega
  rw [hq]
  unfold cutE
  rw [if_neg]
  intro hh
  rcases hh with hh | hh
  · omega
  · exact hh ((toList_nil _).2 (by rw [ByteArray.size_extract]; omega))
theorem normGo_id (text : ByteArray) : ∀ (l : List S42) (p : Int), 0 ≤ p → Cz text.size p (l.map edOf) → normGo text (idL text l) = []
  | [], _, _, _ => rfl
  | e :: t, p, h0, ⟨c1, c2, c3, c4⟩ => by
    have d1 : (edOf e).a = e.f0 := rfl
    have d2 : (edOf e).b = e.f1 := rfl
    rw [d1] at c1 c2
    rw [d2] at c2 c3 c4
    have ih := normGo_id text t e.f1 (by omega) (Ch.cz c4 c3)
    show normE text (text.extract e.f0.toNat e.f1.toNat) e.f0.toNat e.f1.toNat ++ normGo text (idL text t) = []
    rw [ih, norm_id text e.f0.toNat e.f1.toNat (by omega) (by omega)]
    rfl
theorem idL_tot (text : ByteArray) : ∀ (l : List S42) (p : Int), 0 ≤ p → Cz text.size p (l.map edOf) → (tot (idL text l) : Int) ≤ text.size - p ∧ ∀ x ∈ idL text l, x.f2.size ≤ text.size
  | [], p, _, h => ⟨by have : p ≤ text.size := h; show ((0 : Nat) : Int) ≤ _; omega, fun x hx => by cases hx⟩
  | e :: t, p, h0, ⟨c1, c2, c3, c4⟩ => by
    have d1 : (edOf e).a = e.f0 := rfl
    have d2 : (edOf e).b = e.f1 := rfl
    rw [d1] at c1 c2
    rw [d2] at c2 c3 c4
    obtain ⟨i1, i2⟩ := idL_tot text t e.f1 (by omega) (Ch.cz c4 c3)
    have hx : (text.extract e.f0.toNat e.f1.toNat).size = e.f1.toNat - e.f0.toNat := by rw [ByteArray.size_extract]; omega
    refine ⟨?_, fun x h => ?_⟩
    · show (((text.extract e.f0.toNat e.f1.toNat).size + tot (idL text t) : Nat) : Int) ≤ _
      rw [hx]
      omega
    · rcases List.mem_cons.1 h with rfl | h
      · show (text.extract e.f0.toNat e.f1.toNat).size ≤ _
        omega
      · exact i2 x h
theorem inv_tot (text : ByteArray) : ∀ (l : List S42) (s : Int), tot (invU text s l) = tot (idL text l)
  | [], _ => rfl
  | e :: t, s => by
    show (text.extract e.f0.toNat e.f1.toNat).size + tot (invU text (s + grow e) t) = (text.extract e.f0.toNat e.f1.toNat).size + tot (idL text t)
    rw [inv_tot text t]
theorem inv_len (text : ByteArray) : ∀ (l : List S42) (s : Int), (invU text s l).length = l.length
  | [], _ => rfl
  | e :: t, s => by simp only [invU, List.length_cons, inv_len text t]
theorem idL_chain (text : ByteArray) (l : List S42) : ∀ (q : Option Int), Chain text.size q l → Chain text.size q (idL text l) := by
  induction l with
  | nil => intro q h; trivial
  | cons e t ih => intro q ⟨c1, c2, c3, c4, c5⟩; exact ⟨c1, c2, c3, c4, ih _ c5⟩
theorem EditsBack_is (text : ByteArray) (l : List S42) (h : text.size + tot l ≤ 1048576) : Ev (fun k => monikerlaw1_EditsBack.f k text l) true := by
  unfold monikerlaw1_EditsBack.f
  have hn : text.size ≤ 4611686018427387904 := by omega
  refine (Apply_is text l (by omega)).bind ?_
  refine (Invert_is text l).bind ?_
  unfold Apspec Invspec
  by_cases h1 : vspec text.size l = 0
  · simp only [if_pos h1, if_true]
    obtain ⟨ll, cl⟩ := vspec_zero h1
    have hcz := Ok.cz (chain_ok cl) (Int.natCast_nonneg text.size)
    rw [invGo_un text (by omega) l 0 0 hcz (Int.le_refl _) (by omega) (by omega)]
    have hS := ap_size text l h1
    have hle := ap_le text l h1
    obtain ⟨it, im⟩ := idL_tot text l 0 (Int.le_refl _) hcz
    have hbt := inv_tot text l 0
    have hbl := inv_len text l 0
    have hbc : Chain (apGo text 0 l).size none (invU text 0 l) := chain_edOf (inv_ok text text.size _ (by omega) l (chain_ok cl) (by omega))
    have hbv : vspec (apGo text 0 l).size (invU text 0 l) = 0 := vspec_of (by omega) hbc
    have hcomp := compL_inv text l cl _ hS
    have hap := compL_ap text l (invU text 0 l) cl hbc hS
    rw [hcomp, ap_id text l 0 (Int.le_refl _) hcz] at hap
    simp only [Int.toNat_zero, ex_all] at hap
    have hii := inv_inv text l 0 0 ⟨#[]⟩ hcz (Int.le_refl _) (by omega) rfl
    have hemp : (⟨#[]⟩ : ByteArray) ++ apGo text 0 l = apGo text 0 l := by apply ba_of_list; simp only [ByteArray.data_append, Array.toList_append]; rfl
    rw [hemp, Int.neg_zero] at hii
    obtain ⟨s, hs⟩ : ∃ s, apGo text 0 l = s := ⟨_, rfl⟩
    obtain ⟨b, hb⟩ : ∃ b, invU text 0 l = b := ⟨_, rfl⟩
    rw [hb] at hbt hbl hbc hbv hcomp hap hii ⊢
    rw [hs] at hS hle hbc hbv hap hii ⊢
    refine (Valid_is text.size l).bind ?_
    rw [Vspec_nat text.size hn l, h1]
    have hbz := Ok.cz (chain_ok hbc) (Int.natCast_nonneg s.size)
    have hA := Apply_is s b (by omega)
    have hI := Invert_is s b
    unfold Apspec at hA
    unfold Invspec at hI
    rw [if_pos hbv] at hA hI
    rw [← hap] at hA
    rw [invGo_un s (by omega) b 0 0 hbz (Int.le_refl _) (by omega) (by omega), hii] at hI
    refine Ev.step (f := fun k => (edits_Apply.f k s b).bind fun bt548 => ((edits_Invert.f k s b).bind fun bt550 => (if bt548.2 = 0 then (if bt550.2 = 0 then (if bt548.1.toList = text.toList then ((monikerplain_SameEdits.f k bt550.1 l).bind fun t554 => (monikerlaw1_EditsBack.j1 k text l b (!t554))) else (monikerlaw1_EditsBack.j1 k text l b true)) else (monikerlaw1_EditsBack.j1 k text l b true)) else (monikerlaw1_EditsBack.j1 k text l b true)))) (fun k => by
      simp only [monikerlaw1_EditsBack.j0]
      rw [if_neg (by simp), if_pos trivial]) ?_
    refine hA.bind ?_
    refine hI.bind ?_
    simp only [if_true]
    refine (same_is l (by omega)).bind ?_
    have hC := fun k => comp_f k text.size l b (by omega) (by omega)
    rw [compSpec_good text.size hn l b h1 s.size hS (by omega), if_pos hbv, hcomp] at hC
    have hil : (idL text l).length = l.length := by simp [idL]
    rw [if_neg (by omega)] at hC
    have hN := Normal_is text (by omega) (idL text l) (fun x hx => by have := im x hx; omega)
    unfold Nspec at hN
    rw [if_pos (vspec_of (by omega) (idL_chain text l none cl)), normGo_id text l 0 (Int.le_refl _) hcz] at hN
    refine Ev.step (f := fun k => (edits_Normal.f k text (idL text l)).bind fun bt559 => (if bt559.2 = 0 then (some ((bt559.1.length : Int) == 0)) else (some false))) (fun k => by
      simp only [monikerlaw1_EditsBack.j1]
      rw [if_neg (by simp), hC]
      simp only [Option.bind_some, if_true]
      rw [if_pos (by rw [hil])]) ?_
    exact hN.bind (Ev.now _)
  · simp only [if_neg h1, if_true]
    refine (Valid_is text.size l).bind ?_
    rw [Vspec_nat text.size hn l]
    refine Ev.step (f := fun _ => some true) (fun k => ?_) (Ev.now _)
    simp only [monikerlaw1_EditsBack.j0]
    rw [if_neg (by simp), if_neg h1, if_pos ((toList_nil _).2 rfl)]
    rfl
end Go.Proofs.Ytaihajmdngoeiaa.Q

namespace Go.Proofs.Ytaihajmdngoeiaa.O
open Go.ChangeShapes Go.WideShapes Go.Deep Go.Proofs.YtaihajmdngoeiaaW.PrintWords

theorem mem_weightsAll {H : Type} {P : Program} {e : TypeId} : ∀ {l : List (DataW H)} {y : DataW H}, y ∈ l → ∀ n ∈ y.weights P e, n ∈ DataW.weightsAll P e l
  | y0 :: l, y, h, n, hn => by
    simp only [DataW.weightsAll, List.mem_append]
    rcases List.mem_cons.1 h with rfl | h
    · exact .inl hn
    · exact .inr (mem_weightsAll h n hn)

end Go.Proofs.Ytaihajmdngoeiaa.O

namespace Go.Proofs.Ytaihajmdngoeiaa.O
open Go.ChangeShapes Go.WideShapes Go.Deep Go.Proofs.YtaihajmdngoeiaaW.PrintWords Go.Proofs.Ytaihajmdngoeiaa
set_option linter.unusedVariables false

section
variable {H : Type} {enc : TypeId × Value → H}
/-- The wrap of a row with a condition of its specification's own, the reach handed on. -/
theorem returns_upto {a : Assume} {C : Checked} {os : Os} {f : FuncId} {fn : Func} {s : OpenSpec} {k : (H : Type) → List (DataW H) → Bool} (hk : s.cond = some k) {F : Stop.Interp} {conds : List PathCond} {apart fresh handsOn again : Bool}
    (own : ownKnob C.prog.godebug = none) (started : os.Started) (noInit : C.prog.inits.idxOf? f = none) (hfn : C.prog.funcs[f]? = some fn)
    (witness : ∃ (w : World) (tape : Tape) (i : Input), w.os = os ∧ (w.forCall tape i).Shaped C.prog ∧ i.vars = [] ∧ Input.okWide C.prog (w.forCall tape i) .any w.heap.size f i ∧
      s.pre6 enc C.prog fn conds apart (w.forCall tape i).memory i.args ∧ a.holds C.prog (lone (Frame.enter C.prog f i.args .normal) [] (w.forCall tape i)))
    (contract : ∀ (W : World) (base : Nat) (args : Array Value) (ds gs : List (DataW H)) (before : List MemPlace),
      (∀ (j : Nat) t v, fn.params[j]? = some t → args[j]? = some v → Value.okWide C.prog W .any base t v) →
      DataW.Whole enc C.prog fn.params.toList s.vars apart W args.toList ds gs before →
      conds.all (PathCond.test C.prog ⟨fn.params.toList, ds, s.bare.plain.varTypes C.prog, gs⟩) = true → k H (ds ++ gs) = true →
      (DataW.weightsEach C.prog (fn.params.toList ++ s.bare.plain.varTypes C.prog) (ds ++ gs)).all (· ≤ reachBytes) = true →
      a.holds C.prog (lone (Frame.enter C.prog f args .normal) [] W) →
      Calls C.prog f args W fun e W' => ∃ v, e = .returned v ∧ (s.at F).post enc C.prog fn apart fresh handsOn again W args v W') :
    ReturnsInHanded a C os f .any (s.pre6 enc C.prog fn conds apart) ((s.at F).post enc C.prog fn apart fresh handsOn again) := by
  refine returnsInHanded_of_calls own started noInit witness ?_
  intro w tape i _ _ _ hok hpre hholds
  obtain ⟨_, _, _, fn', hfn', _, _, _, _, hval⟩ := hok
  have e : fn' = fn := Option.some.inj (hfn'.symm.trans hfn)
  subst e
  obtain ⟨ds, gs, before, hw, hc, hkk⟩ := (OpenSpec.pre_some hk conds apart _ _).1 hpre.1
  have hw' := DataW.Whole.of_heap (w' := w.forCall tape i) (by rfl) hw
  have hz := hpre.2
  refine (contract (w.forCall tape i) w.heap.size i.args ds gs before hval hw' hc hkk (hz.weights hw) hholds).mono fun e W' ⟨v, he, hp⟩ => ?_
  subst he
  exact ChangeSpec.post_blind hp
end

theorem witnessU {H : Type} {enc : TypeId × Value → H} {C : Checked} {os : Os} {f : FuncId} {fn : Func} {s : OpenSpec} {k : (H : Type) → List (DataW H) → Bool} (hk : s.cond = some k) {conds : List PathCond} {apart : Bool} (modest : Bool) (i : Input) (fuel : Nat)
    (hv : (World.plainHolding C.prog os i).variablesB C.prog = true)
    (hr : ((World.plainHolding C.prog os i).heap.toList.drop C.prog.globals.size).take ((begin C.prog (fun _ _ => 0) default).world.heap.size - C.prog.globals.size) =
      (begin C.prog (fun _ _ => 0) default).world.heap.toList.drop C.prog.globals.size)
    (hok : Input.okWideB C.prog (World.plainHolding C.prog os i) f ⟨#[], i.args, []⟩ = true)
    (hB : (match DataW.whole enc C.prog (World.plainHolding C.prog os i).memory fn.params.toList s.vars apart i.args.toList fuel with
      | some x => conds.all (PathCond.test C.prog ⟨fn.params.toList, x.1, s.bare.plain.varTypes C.prog, x.2.1⟩) && k H (x.1 ++ x.2.1)
      | none => false) = true)
    (hsz : s.bare.sizedB enc C.prog fn apart (World.plainHolding C.prog os i).memory i.args fuel = true) :
    ∃ (w : World) (tape : Tape) (i : Input), w.os = os ∧ (w.forCall tape i).Shaped C.prog ∧ i.vars = [] ∧ Input.okWide C.prog (w.forCall tape i) .any w.heap.size f i ∧
      s.pre6 enc C.prog fn conds apart (w.forCall tape i).memory i.args ∧ ({ modest := modest } : Assume).holds C.prog (lone (Frame.enter C.prog f i.args .normal) [] (w.forCall tape i)) := by
  cases hx : DataW.whole enc C.prog (World.plainHolding C.prog os i).memory fn.params.toList s.vars apart i.args.toList fuel with
  | none => rw [hx] at hB; cases hB
  | some x =>
    rw [hx] at hB
    have h := (Bool.and_eq_true _ _).mp hB
    exact OpenSpec.witness hk modest i fuel hv hr hok hx h.1 h.2 hsz

/-- As Opens; and the value is no heavier than the reading's bulk. -/
def OpensU {α : Type} (P : Program) (t : TypeId) (d : Kd α) (B : α → Prop) (m : α → Nat) : Prop :=
  ∀ {H : Type} {enc : TypeId × Value → H} {w : World} {base : Nat} {spare : Nat → Bool} {held : Bool} {fuel : Nat} {cs : List Value} {x : DataW H × List MemPlace},
    DataW.trod enc P w base spare held fuel t cs = some x → (∀ n ∈ x.1.weights P t, n ≤ reachBytes) → ∃ a, d.K w a cs ∧ B a ∧ m a ≤ Rows.uptoBulk x.1

theorem opens_intU {P : Program} {t : TypeId} {k : IntKind} (hu : P.underlying t = some (.int k)) : OpensU P t (Kd.int k) (fun n => (Lit.int k n).wf = true) (fun _ => 1) := fun h _ => by
  obtain ⟨n, rfl, rfl, hw⟩ := DataW.trod_int hu h
  exact ⟨n, rfl, hw, by simp [Rows.uptoBulk]⟩
theorem opens_stringU {P : Program} {t : TypeId} (hu : P.underlying t = some .string) : OpensU P t Kd.string (fun s => s.size ≤ 140737488351232) (fun s => s.size + 1) := fun h hw => by
  obtain ⟨s, rfl, rfl, _⟩ := DataW.trod_string hu h
  have e : s.data.toList.length = s.size := by rw [Array.length_toList]; rfl
  refine ⟨s, rfl, ?_, by simp only [Rows.uptoBulk]; omega⟩
  have := hw s.data.toList.length (by simp [DataW.weights])
  rw [e] at this
  exact this

theorem bulkAll_snoc {H : Type} : ∀ (l : List (DataW H)) (d : DataW H), Rows.uptoBulkAll (l ++ [d]) = Rows.uptoBulkAll l + Rows.uptoBulk d
  | [], d => by simp [Rows.uptoBulkAll]
  | x :: l, d => by simp only [List.cons_append, Rows.uptoBulkAll, bulkAll_snoc l d]; omega
def sumM {α : Type} (m : α → Nat) : List α → Nat
  | [] => 0
  | a :: l => m a + sumM m l
theorem sumM_snoc {α : Type} (m : α → Nat) : ∀ (l : List α) (a : α), sumM m (l ++ [a]) = sumM m l + m a
  | [], a => by simp [sumM]
  | x :: l, a => by simp only [List.cons_append, sumM, sumM_snoc m l a]; omega

theorem open_rowU {α : Type} {P : Program} {t e : TypeId} {d : Kd α} {B : α → Prop} {M : α → Nat} (hu : P.underlying t = some (.slice e)) (he : OpensU P e d B M) (hc : P.cellsOf e = d.sz)
    {H : Type} {enc : TypeId × Value → H} {w : World} {base : Nat} {spare : Nat → Bool} {held : Bool} {fuel : Nat} {A : Option Addr} {n c : Nat} {x : DataW H × List MemPlace}
    (h : DataW.trod enc P w base spare held fuel t [.slice A n c] = some x) (hw : ∀ n ∈ x.1.weights P t, n ≤ reachBytes) :
    ∃ xs : List α, xs.length = n ∧ d.C w A n xs ∧ n ≤ c ∧ (A = none → c = 0) ∧ (∀ a ∈ xs, B a) ∧ n * P.bytesOf e ≤ 140737488351232 ∧ sumM M xs + 1 ≤ Rows.uptoBulk x.1 := by
  rcases open_slice hu h with ⟨hcs, rfl⟩ | ⟨a, len, cap, m, fu, D, Pl, hcs, hb, hl, hm, hmm, rfl, hel⟩
  · simp only [List.cons.injEq, Value.slice.injEq, and_true] at hcs
    obtain ⟨rfl, rfl, rfl⟩ := hcs
    exact ⟨[], rfl, ⟨rfl, by omega, fun h0 => absurd h0 (by omega)⟩, by omega, fun _ => rfl, (fun a ha => by cases ha), by omega, by simp [sumM, Rows.uptoBulk]⟩
  · simp only [List.cons.injEq, Value.slice.injEq, and_true] at hcs
    obtain ⟨rfl, rfl, rfl⟩ := hcs
    have hlm : n ≤ m := by rw [hmm]; split <;> omega
    have hex : ∀ i, i < n → ∃ v : α, (∃ cs, d.K w v cs ∧ ∀ j u, cs[j]? = some u → w.cell? (a.add (i * d.sz + j)) = some u) ∧ B v ∧ M v ≤ Rows.uptoBulk (D i) := by
      intro i hi
      obtain ⟨cs', hc1, hc2⟩ := hel i (by omega)
      have hmem : D i ∈ (List.range n).map D := List.mem_map.2 ⟨i, List.mem_range.2 hi, rfl⟩
      obtain ⟨v, hv, hB, hM⟩ := he hc2 (fun q hq => hw q (by
        simp only [DataW.weights, hu, List.mem_cons, List.mem_append]
        exact .inr (.inl (mem_weightsAll hmem q hq))))
      refine ⟨v, ⟨cs', hv, fun j u hj => ?_⟩, hB, hM⟩
      obtain ⟨_, hcl, hat⟩ := World.cells?_some hc1
      have hjl : j < cs'.length := (List.getElem?_eq_some_iff.1 hj).1
      have := hat j (by omega)
      rw [hc] at this
      rw [← Go.Deep.add_add, this, hj]
    have key : ∀ k, k ≤ n → ∃ xs : List α, xs.length = k ∧ (∀ j p, xs[j]? = some p → (∃ cs, cs.length = d.sz ∧ d.K w p cs ∧ ∀ i u, cs[i]? = some u → w.cell? (a.add (j * d.sz + i)) = some u) ∧ B p) ∧ sumM M xs ≤ Rows.uptoBulkAll ((List.range k).map D) := by
      intro k
      induction k with
      | zero => intro _; exact ⟨[], rfl, fun j p hj => by simp at hj, by simp [sumM]⟩
      | succ k ih =>
        intro hk
        obtain ⟨xs, hx, hxs, hsum⟩ := ih (by omega)
        obtain ⟨v, ⟨cs, hv, hcell⟩, hB, hM⟩ := hex k (by omega)
        refine ⟨xs ++ [v], by simp [hx], fun j p hj => ?_, ?_⟩
        · rcases Nat.lt_or_ge j k with hjk | hjk
          · rw [List.getElem?_append_left (by omega)] at hj
            exact hxs j p hj
          · have hjl := (List.getElem?_eq_some_iff.1 hj).1
            rw [List.length_append, List.length_singleton] at hjl
            obtain rfl : j = k := by omega
            have hp : v = p := by simpa [List.getElem?_append_right, hx] using hj
            subst hp
            exact ⟨⟨cs, d.K_len hv, hv, hcell⟩, hB⟩
        · rw [sumM_snoc, List.range_succ, List.map_append, List.map_cons, List.map_nil, bulkAll_snoc]
          omega
    obtain ⟨xs, hx, hxs, hsum⟩ := key n (Nat.le_refl _)
    refine ⟨xs, hx, ⟨hx, by have : maxLen = 9223372036854775807 := rfl; omega, fun _ => ⟨a, rfl, fun j p hj => (hxs j p hj).1⟩⟩, hl, (fun h => by cases h), fun v hv => ?_, ?_, ?_⟩
    · obtain ⟨j, hj, rfl⟩ := List.mem_iff_getElem.1 hv
      exact (hxs j _ (List.getElem?_eq_getElem hj)).2
    · have := hw ((((List.range n).map D).length + ((List.range (m - n)).map fun j => D (n + j)).length) * P.bytesOf e) (by
        simp only [DataW.weights, hu]
        exact List.mem_cons_self)
      simp only [List.length_map, List.length_range] at this
      have h2 : n * P.bytesOf e ≤ (n + (m - n)) * P.bytesOf e := Nat.mul_le_mul_right _ (by omega)
      have h3 : reachBytes = 140737488351232 := rfl
      omega
    · simp only [Rows.uptoBulk]
      omega
end Go.Proofs.Ytaihajmdngoeiaa.O

namespace Go.Proofs.Ytaihajmdngoeiaa.H
open Go.ChangeShapes Go.WideShapes Go.Deep Go.Proofs.YtaihajmdngoeiaaW.PrintWords Go.Proofs.Ytaihajmdngoeiaa.F

def B42 (x : S42) : Prop := (Lit.int .i64 x.f0).wf = true ∧ (Lit.int .i64 x.f1).wf = true ∧ x.f2.size ≤ 140737488351232
theorem cells42 : Try.prog.cellsOf 42 = 3 := by kernel_rfl
theorem cells3 : Try.prog.cellsOf 3 = 1 := by kernel_rfl
theorem cells9 : Try.prog.cellsOf 9 = 1 := by kernel_rfl
theorem bytes42 : Try.prog.bytesOf 42 = 32 := by kernel_rfl
end Go.Proofs.Ytaihajmdngoeiaa.H

namespace Go.Proofs.Ytaihajmdngoeiaa.H
open Go.ChangeShapes Go.WideShapes Go.Deep Go.Proofs.YtaihajmdngoeiaaW.PrintWords Go.Proofs.Ytaihajmdngoeiaa.F Go.Proofs.Ytaihajmdngoeiaa
theorem opens42U : O.OpensU Try.prog 42 k42 B42 (fun x => x.f2.size + 4) := by
  intro H enc w base spare held fuel cs x h hw
  obtain ⟨ys, n, rfl, rfl, hlen, hyl, hf⟩ := DataW.trod_struct Try.underlying42 h
  rw [cells42] at hlen
  obtain ⟨c0, c1, c2, rfl⟩ : ∃ a b c, cs = [a, b, c] := by
    match cs, hlen with
    | [a, b, c], _ => exact ⟨a, b, c, rfl⟩
  obtain ⟨y0, y1, y2, rfl⟩ : ∃ a b c, ys = [a, b, c] := by
    match ys, hyl with
    | [a, b, c], _ => exact ⟨a, b, c, rfl⟩
  have f0 := hf 0 { name := "From", type := 3, offset := 0, embedded := false, tag := "", pkgPath := "", byteOffset := 0 } rfl
  have f1 := hf 1 { name := "To", type := 3, offset := 1, embedded := false, tag := "", pkgPath := "", byteOffset := 8 } rfl
  have f2 := hf 2 { name := "Text", type := 9, offset := 2, embedded := false, tag := "", pkgPath := "", byteOffset := 16 } rfl
  simp only [cells3, cells9, List.drop_zero, List.drop_succ_cons, List.take_succ_cons, List.take_zero, List.getElem?_cons_zero, List.getElem?_cons_succ] at f0 f1 f2
  have hq : ∀ (j : Nat) (t : TypeId) (d : DataW H), [3, 3, 9][j]? = some t → [y0.1, y1.1, y2.1][j]? = some d → ∀ n ∈ d.weights Try.prog t, n ≤ reachBytes := by
    intro j t d h1 h2 q hq
    refine hw q ?_
    simp only [DataW.weights, Try.underlying42]
    exact DataW.weights_mem_each (j := j) h1 h2 q hq
  obtain ⟨a0, e0, w0, m0⟩ := O.opens_intU Try.underlying3 f0 (hq 0 _ _ rfl rfl)
  obtain rfl : c0 = .int .i64 a0 := (List.cons.inj e0).1
  obtain ⟨a1, e1, w1, m1⟩ := O.opens_intU Try.underlying3 f1 (hq 1 _ _ rfl rfl)
  obtain rfl : c1 = .int .i64 a1 := (List.cons.inj e1).1
  obtain ⟨a2, e2, w2, m2⟩ := O.opens_stringU Try.underlying9 f2 (hq 2 _ _ rfl rfl)
  obtain rfl : c2 = .string a2 := (List.cons.inj e2).1
  refine ⟨⟨a0, a1, a2⟩, k42_mk w _, ⟨w0, w1, w2⟩, ?_⟩
  show a2.size + 4 ≤ Rows.uptoBulk (DataW.agg [y0.1, y1.1, y2.1])
  simp only [Rows.uptoBulk, Rows.uptoBulkAll]
  simp only at m0 m1 m2
  generalize Rows.uptoBulk y0.1 = z0 at m0 ⊢
  generalize Rows.uptoBulk y1.1 = z1 at m1 ⊢
  generalize Rows.uptoBulk y2.1 = z2 at m2 ⊢
  omega
end Go.Proofs.Ytaihajmdngoeiaa.H

namespace Go.Proofs.Ytaihajmdngoeiaa.L
open Go.RowKit Go.Proofs.YtaihajmdngoeiaaW.PrintWords Go.Proofs.YtaihajmdngoeiaaW.PrintLast Go.Proofs.YtaihajmdngoeiaaW.PrintMore
open Go.Proofs.Ytaihajmdngoeiaa.F Go.Proofs.Ytaihajmdngoeiaa.H
set_option linter.unusedVariables false
set_option linter.unusedSimpArgs false

theorem tot_wtB : ∀ (l : List S42), Q.tot l + 4 * l.length = O.sumM (fun x => x.f2.size + 4) l
  | [] => rfl
  | x :: l => by
    have := tot_wtB l
    simp only [Q.tot, O.sumM, List.length_cons]
    omega
theorem back_walk (a0 : ByteArray) (A1 : Option Addr) (c1 : Nat) (l1 : List S42) (w : World) (hs : a0.size ≤ 140737488351232)
    (hr1 : Kd.C k42 w A1 l1.length l1) (hc1 : l1.length ≤ c1) (hn1 : A1 = none → c1 = 0) (hB1 : ∀ x ∈ l1, B42 x) (hb1 : l1.length * 32 ≤ 140737488351232)
    (hu : (a0.size + 1) + (O.sumM (fun x => x.f2.size + 4) l1 + 1) ≤ 1048576) :
    Calls Try.prog 14 #[.string a0, .slice A1 l1.length c1] w fun e w' => e = .returned (.bool true) ∧ Below w.heap.size w w' := by
  rw [← tot_wtB] at hu
  obtain ⟨k, hk⟩ := (Q.EditsBack_is a0 l1 (by omega)).rounds
  exact monikerlaw1_EditsBack.calls k a0 A1 c1 l1 true w hr1 hc1 hk
end Go.Proofs.Ytaihajmdngoeiaa.L


namespace Go.Proofs.Ytaihajmdngoeiaa.editsBack
open Go.ChangeShapes Go.WideShapes Go.ChangeAt Go.RowKit Go.Proofs.Ytaihajmdngoeiaa
open Go.ChangeMaps (open_string shut_string)
set_option linter.unusedVariables false
theorem own : ownKnob Try.prog.godebug = none := by kernel_rfl
theorem laidOut : laidOutB Try.prog = true := by kernel_rfl
set_option maxRecDepth 100000 in
theorem lifted (os : Os) (started : os.Started) (H : Type) (enc : TypeId × Value → H) (F : Stop.Interp) :
    ReturnsInHanded {} Try.checked os 14 .any ((Rows.OpenSpec.upto Rows.editsBackSpec).pre6 enc Try.prog Try.f14 Rows.editsBackUptoRow.domain false) (((Rows.OpenSpec.upto Rows.editsBackSpec).at F).post enc Try.prog Try.f14 false true false false) := by
  refine O.returns_upto (k := Rows.uptoSmall) (s := Rows.OpenSpec.upto Rows.editsBackSpec) rfl (C := Try.checked) own started (by kernel_rfl) Try.func14
    (O.witnessU (enc := enc) (C := Try.checked) (s := Rows.OpenSpec.upto Rows.editsBackSpec) rfl false ⟨#[], #[.string ByteArray.empty, .slice none 0 0], []⟩ 8 (by kernel_rfl) (by kernel_rfl) (by kernel_rfl) (by kernel_rfl) (by kernel_rfl)) ?_
  intro W base args ds gs before hval0 hW hcnd hk0 hsz0 _
  have hsz : (DataW.weightsEach Try.prog (Try.f14.params.toList ++ Rows.editsBackSpec.plain.varTypes Try.prog) (ds ++ gs)).all (· ≤ reachBytes) = true := hsz0
  have hval : ∀ (j : Nat) t v, Try.f14.params[j]? = some t → args[j]? = some v → Value.okWide Try.prog W .any base t v := hval0
  have hW' := hW
  obtain ⟨p, q, hA0, hV, rfl, hfz, hnd⟩ := hW
  have hA : DataW.TrodAll enc Try.prog W 0 (fun _ => true) true Try.f14.params.toList args.toList ds p := hA0
  rw [Try.params14] at hA hval hsz
  obtain ⟨v0, vs0, d0, ds0, p0, q0, hargs, rfl, rfl, h0, r0⟩ := trodAll_cons hA
  obtain ⟨v1, vs1, d1, ds1, p1, q1, rfl, rfl, rfl, h1, r1⟩ := trodAll_cons r0
  obtain ⟨rfl, rfl, rfl⟩ := trodAll_nil r1
  obtain rfl : args = #[v0, v1] := by cases args; simp_all
  obtain ⟨rfl, rfl⟩ := trodVars_none hV
  have hbulk : Rows.uptoBulkAll ([d0, d1] ++ []) ≤ 1048576 := of_decide_eq_true hk0
  simp only [List.append_nil, Rows.uptoBulkAll, Nat.add_zero] at hbulk
  obtain ⟨a0, rfl, rfl, rfl, y0⟩ := open_string Try.underlying9 (hval 0 9 v0 rfl rfl) h0
  have w0 : a0.size ≤ 140737488351232 := by
    have z := sized_string hsz (j := 0) (t := 9) rfl rfl
    rw [Array.length_toList] at z
    exact z
  have hm0 : a0.size + 1 ≤ Rows.uptoBulk (DataW.lit (H := H) (.string a0.data.toList)) := by simp only [Rows.uptoBulk]; rw [Array.length_toList]; exact Nat.le_refl _
  obtain ⟨a1, len1, cap1, rfl⟩ := okWide_slice Try.underlying22 (hval 1 22 v1 rfl rfl)
  have k1 := h1
  have lt1 : ∀ x ∈ p1, x.block < W.heap.size := by obtain ⟨m, hm⟩ := k1; exact DataW.trod_lt m _ _ _ hm
  obtain ⟨fu1, hf1⟩ := h1
  have hg1 : DataW.trod enc Try.prog W 0 (fun _ => true) true fu1 22 [.slice a1 len1 cap1] = some (d1, p1) := by simpa [Value.cells] using hf1
  have hq1 : ∀ n ∈ DataW.weights Try.prog 22 d1, n ≤ reachBytes := fun n hn => of_decide_eq_true (List.all_eq_true.1 hsz n (DataW.weights_mem_each (j := 1) rfl rfl n hn))
  obtain ⟨l1, rfl, hC1, hc1, hn1, hB1, hb1, hm1⟩ := O.open_rowU Try.underlying22 Go.Proofs.Ytaihajmdngoeiaa.H.opens42U Go.Proofs.Ytaihajmdngoeiaa.H.cells42 hg1 hq1
  rw [Go.Proofs.Ytaihajmdngoeiaa.H.bytes42] at hb1
  clear hA0 hval0 hsz0 hsz
  refine (L.back_walk a0 a1 cap1 l1 W w0 hC1 hc1 hn1 hB1 hb1 (Nat.le_trans (Nat.add_le_add hm0 hm1) hbulk)).mono fun e W' ⟨he, bel⟩ => ?_
  subst he
  exact ⟨_, rfl, _, _, _, [], _, [], hW', trodAll_mk1 (shut_bool Try.underlying4 _), (trodAll_cons_mk (shut_string Try.underlying9 y0) (trodAll_cons_mk (Below.trod laidOut (by kernel_rfl) (of_decide_eq_true (by kernel_rfl)) k1 bel lt1) trodAll_mk0)), rfl, bel.frame _, fun h => by cases h⟩
theorem over : Rows.editsBackUptoRow.holds Try.pinned (Rows.OpenSpec.upto Rows.editsBackSpec) :=
  OpenClaim.holds_of_cond 14 Try.f14 rfl rfl rfl rfl rfl rfl rfl ⟨rfl, rfl, rfl, rfl, rfl⟩ rfl rfl rfl rfl rfl (by kernel_rfl) Try.func14 (by kernel_rfl)
    (of_decide_eq_true (by kernel_rfl)) (by unfold Func.isWrapper; first | (rw [if_pos (by decide +kernel)]; kernel_rfl) | (rw [if_neg (by decide +kernel)]; exact ⟨rfl, rfl⟩))
    (fun os started H enc _ F => lifted os started H enc F)
theorem proved : Rows.EditsBackUptoSaid := over
#print axioms proved
end Go.Proofs.Ytaihajmdngoeiaa.editsBack
namespace Go.Proofs.Ytaihajmdngoeiaa
/-- The row, under a short name, for the claim. -/
theorem editsBack_holds : Rows.EditsBackUptoSaid := editsBack.proved
end Go.Proofs.Ytaihajmdngoeiaa
