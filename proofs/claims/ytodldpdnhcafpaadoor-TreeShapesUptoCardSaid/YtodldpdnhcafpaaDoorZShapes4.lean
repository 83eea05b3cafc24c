/- The law TreeShapes of package monikerlaw holds of the given program: called with any arguments that can be read as data, together of bulk at most 1048576, it returns true, and its arguments read behind the call as before. Conditions: those of the given row '..Upto', no others. -/
import Derived.Test.YtodldpdnhcafpaaDoorZShapes3
import Derived.Test.YtodldpdnhcafpaaDoorWMore
import Derived.SizedLaws
import Derived.ChangeSlices
import Derived.Deep.Slices
import Derived.Test.YtodldpdnhcafpaaDoorRows
import Derived.JoinedCond
import Derived.ChangeArms
import Derived.ProofKit
import Derived.LaidMore
import Derived.LaidLaws
import Derived.OpenShut
import Derived.Stop.Joined
import Derived.Test.YtodldpdnhcafpaaDoorCards
import Derived.Test.YtodldpdnhcafpaaDoorTie
import Derived.WalkKit
import Derived.ShutString
import Derived.ChangeOld
import Derived.Below
import Derived.SevenTiedAt
import Derived.Deep.DeepHandedRow
import Derived.Lib.LaidTab
-- TreeShapes, plainly: Same is an equality; what Draw says at all
namespace Go.Proofs.YtodldpdnhcafpaaDoor.Q
open Go.RowKit Go.Proofs.YtodldpdnhcafpaaDoorW.PrintWords Go.Proofs.YtodldpdnhcafpaaDoorW.PrintLast Go.Proofs.YtodldpdnhcafpaaDoorW.PrintMore
open Go.Proofs.YtodldpdnhcafpaaDoor.F
set_option linter.unusedSimpArgs false
set_option linter.unusedVariables false
/-- What Same looks at. -/
def keyN (l : List S68) (x : S43) : Int × Int × List Int := (x.f0, x.f3, kindsR l x)
def keyF (l : List S68) (a : List S43) : List (Int × Int × List Int) := (List.range a.length).map fun (i : Nat) => keyN l (rd_T43 a (i : Int))
theorem nodeB_key (l m : List S68) (x y : S43) : nodeB l x m y = true ↔ keyN l x = keyN m y := by
  unfold nodeB keyN
  simp only [Bool.and_eq_true, decide_eq_true_eq, Prod.mk.injEq]
theorem sameGo_iff (l : List S68) (a : List S43) (m : List S68) (b : List S43) : ∀ (d n : Nat), sameGo l a m b d (n : Int) = true ↔ ∀ i : Nat, n ≤ i → i < n + d → keyN l (rd_T43 a (i : Int)) = keyN m (rd_T43 b (i : Int))
  | 0, n => ⟨fun _ i h1 h2 => by omega, fun _ => rfl⟩
  | d + 1, n => by
    show (nodeB l (rd_T43 a (n : Int)) m (rd_T43 b (n : Int)) && sameGo l a m b d ((n + 1 : Nat) : Int)) = true ↔ _
    rw [Bool.and_eq_true, nodeB_key, sameGo_iff l a m b d (n + 1)]
    constructor
    · rintro ⟨h, k⟩ i h1 h2
      by_cases e : i = n
      · subst e; exact h
      · exact k i (by omega) (by omega)
    · intro h
      exact ⟨h n (Nat.le_refl _) (by omega), fun i h1 h2 => h i (by omega) (by omega)⟩
theorem sameB_iff (l : List S68) (a : List S43) (m : List S68) (b : List S43) : sameB l a m b = true ↔ keyF l a = keyF m b := by
  unfold sameB
  rw [Bool.and_eq_true, decide_eq_true_eq, show (0 : Int) = ((0 : Nat) : Int) from rfl, sameGo_iff]
  constructor
  · rintro ⟨h, k⟩
    unfold keyF
    rw [h]
    refine List.map_congr_left (fun i hi => ?_)
    exact k i (Nat.zero_le _) (by have := List.mem_range.1 hi; omega)
  · intro h
    have hl : a.length = b.length := by have := congrArg List.length h; simpa [keyF] using this
    refine ⟨hl, fun i _ hi => ?_⟩
    have := congrArg (fun q : List (Int × Int × List Int) => q[i]?) h
    simp only [keyF, List.getElem?_map] at this
    rw [List.getElem?_range (by omega), List.getElem?_range (by omega)] at this
    exact Option.some.inj this
theorem sameB_eq (l : List S68) (a : List S43) (m : List S68) (b : List S43) : sameB l a m b = decide (keyF l a = keyF m b) := by
  by_cases h : keyF l a = keyF m b
  · rw [decide_eq_true h, (sameB_iff l a m b).2 h]
  · rw [decide_eq_false h]
    exact Bool.eq_false_iff.2 (fun z => h ((sameB_iff l a m b).1 z))
/-- The sketch says only kinds and sizes. -/
theorem strip_rd (l : List S43) {i : Nat} (h : i < l.length) : rd_T43 (strip l) (i : Int) = ⟨(rd_T43 l (i : Int)).f0, 0, 0, (rd_T43 l (i : Int)).f3⟩ := by
  unfold strip
  rw [dn_rd l [] h, if_neg (by simp)]
theorem strip_all (l : List S43) (i : Int) : (rd_T43 (strip l) i).f0 = (rd_T43 l i).f0 ∧ (rd_T43 (strip l) i).f3 = (rd_T43 l i).f3 := by
  have e : ∀ xs : List S43, rd_T43 xs i = rd_T43 xs ((i.toNat : Nat) : Int) := fun xs => by unfold rd_T43; rw [Int.toNat_natCast]
  rw [e (strip l), e l]
  by_cases c : i.toNat < l.length
  · rw [strip_rd l c]; exact ⟨rfl, rfl⟩
  · have h1 : ∀ xs : List S43, xs.length = l.length → rd_T43 xs ((i.toNat : Nat) : Int) = z43 := fun xs hx => by
      unfold rd_T43
      rw [Int.toNat_natCast, List.getD_eq_getElem?_getD, List.getElem?_eq_none (show xs.length ≤ i.toNat by omega)]
      rfl
    rw [h1 (strip l) (dn_len _ _ _), h1 l rfl]
    exact ⟨rfl, rfl⟩
/-- Two trees that say the same kinds and sizes. -/
structure Alike (l m : List S43) : Prop where
  len : l.length = m.length
  k : ∀ i : Int, (rd_T43 l i).f0 = (rd_T43 m i).f0
  z : ∀ i : Int, (rd_T43 l i).f3 = (rd_T43 m i).f3
theorem Alike.endOf {l m : List S43} (h : Alike l m) (t : List Int) : endOf l t = Q.endOf m t := by
  cases t with
  | nil => show (l.length : Int) = m.length; rw [h.len]
  | cons e t => rfl
theorem Alike.run {l m : List S43} (h : Alike l m) : ∀ (f : Nat) (n : Int) (t : List Int), run l f n t = Q.run m f n t
  | 0, _, _ => rfl
  | f + 1, n, t => by
    simp only [Q.run]
    rw [h.k n, h.z n, h.endOf, Alike.run h f]
theorem Alike.skf {l m : List S43} (h : Alike l m) : ∀ (f : Nat) (n : Int) (t : List Int), skf l f n t = Q.skf m f n t
  | 0, _, _ => rfl
  | f + 1, n, t => by
    have hg : gapB l n = gapB m n := by unfold gapB; rw [h.z (n - 1)]
    have hn : nmB (rd_T43 l n) = nmB (rd_T43 m n) := by unfold nmB; rw [h.k n]
    simp only [Q.skf]
    rw [h.z n, hg, hn, Alike.skf h f, Alike.skf h f]
theorem shaped_run (l : List S43) : shapedB l = true ↔ 0 < l.length ∧ (rd_T43 l 0).f3 = (l.length : Int) ∧ run l l.length 0 [] = true := by
  refine ⟨shaped_out, fun ⟨a, b, c⟩ => ?_⟩
  unfold shapedB
  rw [run_all l a b] at c
  rw [decide_eq_true a, decide_eq_true b, c]
  rfl
theorem Alike.shaped {l m : List S43} (h : Alike l m) : shapedB l = shapedB m := by
  refine Bool.eq_iff_iff.2 ?_
  rw [shaped_run, shaped_run, h.len, h.z 0, h.run]
theorem Alike.skT {l m : List S43} (h : Alike l m) : skT l = Q.skT m := by
  unfold Q.skT
  rw [h.shaped, h.skf, h.len]
theorem strip_alike (l : List S43) : Alike (strip l) l := ⟨dn_len _ _ _, fun i => (strip_all l i).1, fun i => (strip_all l i).2⟩
theorem key_strip {l m : List S68} {a b : List S43} (h : keyF l a = keyF m b) : strip a = strip b := by
  have hl : a.length = b.length := by have := congrArg List.length h; simpa [keyF] using this
  refine ext43 (by simp [strip, dn_len, hl]) (fun i hi => ?_)
  have hi' : i < a.length := by simpa [strip, dn_len] using hi
  rw [strip_rd a hi', strip_rd b (by omega)]
  have := congrArg (fun q : List (Int × Int × List Int) => q[i]?) h
  simp only [keyF, List.getElem?_map] at this
  rw [List.getElem?_range hi', List.getElem?_range (by omega)] at this
  have e := Option.some.inj this
  simp only [keyN, Prod.mk.injEq] at e
  rw [e.1, e.2.1]
theorem same_sketch {l m : List S68} {a b : List S43} (h : sameB l a m b = true) : skT a = skT b := by
  have := key_strip ((sameB_iff l a m b).1 h)
  rw [← (strip_alike a).skT, this, (strip_alike b).skT]
theorem Same_is (l m : List S68) (a b : List S43) (hl : l.length ≤ 8796093022208) (hm : m.length ≤ 8796093022208) (ha : a.length ≤ 8796093022208) : Ev (fun k => tree_Same.f k l a m b) (sameB l a m b) := by
  unfold tree_Same.f
  rw [if_pos ⟨by omega, by omega, by omega⟩]
  exact Ev.now _
theorem Draw_is (s : ByteArray) (hs : s.size ≤ 1099511627776) : Ev (fun k => tree_Draw.f k s) (dgo s (s.size + 1) 0 [] []) := draw_l0 s hs s.size 0 [] [] (by omega) (DI.zero s)
/-- What Draw says at all. -/
theorem dgo_says (s : ByteArray) (hs : s.size ≤ 1099511627776) : ∀ (d a : Nat) (o : List Int) (ns : List S43), DI s a o ns → ((dgo s d a o ns).2.1 = 0) ∨ ((dgo s d a o ns).1 = [] ∧ (dgo s d a o ns).2.1 = 40 ∧ 0 ≤ (dgo s d a o ns).2.2 ∧ (dgo s d a o ns).2.2 ≤ s.size)
  | 0, a, o, ns, h => by simp [dgo]
  | d + 1, a, o, ns, h => by
    have hsz : (s.extract a s.size).size = s.size - a := ex_size _ (Nat.le_refl _)
    have hL := lgo_is (t := s.extract a s.size) (by rw [hsz]; omega)
    obtain ⟨K, M, hKM⟩ : ∃ (K : Int) (M : Nat), lgo (s.extract a s.size) = (K, (M : Int)) := by
      refine ⟨(lgo (s.extract a s.size)).1, (lgo (s.extract a s.size)).2.toNat, Prod.ext rfl ?_⟩
      exact (Int.toNat_of_nonneg hL.m0.1).symm
    rw [hKM] at hL
    have hm := hL.m0
    rw [hsz] at hm
    have ha := h.at_
    have hM : a + M ≤ s.size := by omega
    rw [dgo_succ s d a o ns hKM]
    split
    · right
      exact ⟨rfl, rfl, by show (0 : Int) ≤ ((a + M : Nat) : Int); omega, by show ((a + M : Nat) : Int) ≤ _; omega⟩
    · rename_i ck
      have hpos : 1 ≤ M := by have := hL.pos ck; omega
      split
      · rename_i c
        exact dgo_says s hs d _ _ _ (h.open_ hpos c.1 _)
      · have hn := h.node hpos hM ⟨K, 0, 0, 1⟩
        obtain ⟨x, y⟩ := cls_DI s s.size (a + M) _ _ hn
        unfold dend
        split
        · split
          · exact Or.inl rfl
          · right
            have := x.at_
            exact ⟨rfl, rfl, by show (0 : Int) ≤ ((_ : Nat) : Int); omega, by show ((_ : Nat) : Int) ≤ _; omega⟩
        · split
          · rename_i z
            exact dgo_says s hs d _ _ _ (x.gap z.1)
          · right
            have := x.at_
            exact ⟨rfl, rfl, by show (0 : Int) ≤ ((_ : Nat) : Int); omega, by show ((_ : Nat) : Int) ≤ _; omega⟩
/-- What Draw says is the text of what it made. -/
theorem draw_back (s : ByteArray) (hs : s.size ≤ 1099511627776) {l : List S43} {p : Int} (h : dgo s (s.size + 1) 0 [] [] = (l, 0, p)) : p = 0 ∧ skT l = s ∧ 0 < l.length ∧ l.length ≤ s.size ∧ ∀ i : Nat, i < l.length → Ok (rd_T43 l (i : Int)) := by
  obtain ⟨hp, f, D⟩ := sketch_draw s hs (s.size + 1) 0 [] [] l p (Nat.zero_le _) (fun k z => by cases z) List.nodup_nil (fun i z => absurd z (Nat.not_lt_zero _)) (fun k z => by cases z) (fun _ => rfl) (fun z => absurd rfl z) h
  have hlen := D.len
  rw [List.length_nil] at hlen
  have hr := D.run
  have ht := D.txt
  have hl : l.length = f + 1 := by omega
  have hsh : shapedB l = true := (shaped_run l).2 ⟨by omega, D.root, by rw [hl]; exact hr⟩
  refine ⟨hp, ?_, by omega, ?_, D.ok⟩
  · unfold skT
    rw [if_pos hsh, hl, skf_skn]
    have e : cl 0 [] ++ (gapB l 0 ++ skn l f 0 (pops 0 [])) = T s 0 := by rw [ht]; rfl
    rw [e]
    unfold T
    rw [List.drop_zero]
  · have := dgo_len s (s.size + 1) 0 [] [] (DI.zero s) (by omega)
    rw [h] at this
    exact this
end Go.Proofs.YtodldpdnhcafpaaDoor.Q

-- TreeShapes, plainly
namespace Go.Proofs.YtodldpdnhcafpaaDoor.Q
open Go.RowKit Go.Proofs.YtodldpdnhcafpaaDoorW.PrintWords Go.Proofs.YtodldpdnhcafpaaDoorW.PrintLast Go.Proofs.YtodldpdnhcafpaaDoorW.PrintMore
open Go.Proofs.YtodldpdnhcafpaaDoor.F
set_option linter.unusedSimpArgs false
set_option linter.unusedVariables false
theorem nmB_len2 (x : S43) : (nmB x).length ≤ 10 := by
  have e : nmL x.f0 = nm x.f0.toNat := by
    unfold nm nmL rdOf
    rw [Int.toNat_natCast]
  unfold nmB
  rw [e]
  by_cases h : x.f0.toNat < 58
  · exact (nm_size h).2
  · have : nm x.f0.toNat = ByteArray.empty := by
      unfold nm rdOf
      rw [Int.toNat_natCast, List.getD_eq_getElem?_getD, List.getElem?_eq_none (by rw [tab_len]; omega)]
      rfl
    rw [this]
    exact Nat.zero_le _
theorem skf_len (l : List S43) : ∀ (f : Nat) (n : Int) (t : List Int), (skf l f n t).length ≤ 23 * f + t.length
  | 0, n, t => by simp [skf]
  | f + 1, n, t => by
    have hc := cl_len n t
    have hn := nmB_len2 (rd_T43 l n)
    have hg : (gapB l n).length ≤ 1 := by unfold gapB; split <;> simp
    simp only [skf, List.length_append]
    split
    · have ih := skf_len l f (n + 1) ((n + (rd_T43 l n).f3) :: pops n t)
      rw [List.length_cons] at ih ⊢
      omega
    · have ih := skf_len l f (n + 1) (pops n t)
      omega
theorem skT_len (l : List S43) : (skT l).size ≤ 23 * l.length := by
  unfold skT
  split
  · have := skf_len l l.length 0 []
    show (skf l l.length 0 []).toArray.size ≤ _
    rw [List.size_toArray]
    simpa using this
  · exact Nat.zero_le _
theorem toList_nil {t : ByteArray} : t.toList = ([] : List UInt8) ↔ t = ⟨#[]⟩ := by
  have e : ((⟨#[]⟩ : ByteArray)).toList = [] := by decide +kernel
  exact ⟨fun h => toList_iff.1 (h.trans e.symm), fun h => by rw [h]; exact e⟩
theorem SF (k0 : ByteArray) (l : List S68) (a : List S43) (k1 : ByteArray) (m : List S68) (b : List S43) (hl : l.length ≤ 8796093022208) (hm : m.length ≤ 8796093022208) (ha : a.length ≤ 8796093022208) : Ev (fun k => monikerlaw4_sameForests.f k k0 l a k1 m b) (decide (keyF l a = keyF m b)) := by
  unfold monikerlaw4_sameForests.f
  have h := Same_is l m a b hl hm ha
  rw [sameB_eq] at h
  exact h.bind (Ev.now _)
theorem shapes_j3 (s : ByteArray) (hs : s.size ≤ 1048576) : Ev (fun k => monikerlaw4_TreeShapes.j3 k s) true := by
  have hd := Draw_is s (by omega)
  have hy := dgo_says s (by omega) (s.size + 1) 0 [] [] (DI.zero s)
  obtain ⟨l, e, p, hr⟩ : ∃ l e p, dgo s (s.size + 1) 0 [] [] = (l, e, p) := ⟨_, _, _, rfl⟩
  rw [hr] at hd hy
  simp only at hy
  refine Ev.step (f := fun k => (tree_Draw.f k s).bind fun bt158 => (if bt158.2.1 = 0 then (if bt158.2.2 = 0 then (if s.toList = ([] : List UInt8) then none else ((tree_Sketch.f k bt158.1).bind fun t163 => (some (t163.toList == s.toList)))) else none) else (if bt158.2.1 = 40 then (if (bt158.1.length : Int) = 0 then (if bt158.2.2 ≥ 0 then (some (decide (bt158.2.2 ≤ (s.size : Int)))) else none) else none) else none))) (fun k => by rw [monikerlaw4_TreeShapes.j3]) (hd.bind ?_)
  simp only
  rcases hy with rfl | ⟨rfl, rfl, h0, h1⟩
  · obtain ⟨rfl, hsk, hpos, hlen, hok⟩ := draw_back s (by omega) hr
    have hne : ¬ s.toList = ([] : List UInt8) := by
      rw [toList_nil]
      rintro rfl
      have : (⟨#[]⟩ : ByteArray).size = 0 := rfl
      omega
    simp only [if_true, if_neg hne]
    have hk : ∀ x ∈ l, 0 ≤ x.f0 ∧ x.f0 ≤ 255 := fun x hx => by
      obtain ⟨i, hi, rfl⟩ := List.getElem_of_mem hx
      have := hok i hi
      rw [rd_get hi] at this
      have h3 := this.2.2
      omega
    have hS := Sketch_is l (by omega) hk
    rw [hsk] at hS
    refine hS.bind ?_
    simp only [beq_self_eq_true]
    exact Ev.now _
  · simp only [List.length_nil]
    simp only [if_neg (show ¬ (40 : Int) = 0 by decide), if_pos (show (40 : Int) = 40 from rfl), if_pos (show ((0 : Nat) : Int) = 0 from rfl), if_pos h0, if_pos (show p ≥ 0 from h0), decide_eq_true h1]
    exact Ev.now _
theorem shapes_l0 (s t : ByteArray) (hs : s.size ≤ 1048576) (ps : List S68) (ns : List S43) (hn : ns.length ≤ 1048576) : ∀ (d n : Nat), n + d = ns.length → Ev (fun k => monikerlaw4_TreeShapes.l0 k s (strip ns) (ns.length : Int) (n : Int) t ps ns) true
  | 0, n, h => by
    refine Ev.step (fun k => ?_) (shapes_j3 s hs)
    rw [monikerlaw4_TreeShapes.l0, if_neg (by omega)]
  | d + 1, n, h => by
    have ih := shapes_l0 s t hs ps ns hn d (n + 1) (by omega)
    refine Ev.step (fun k => ?_) ih
    have hl : (strip ns).length = ns.length := dn_len _ _ _
    have hw : wrap64 ((n : Int) + 1) = ((n + 1 : Nat) : Int) := by rw [w64 (by omega) (by omega)]; omega
    rw [monikerlaw4_TreeShapes.l0, if_pos (by omega), if_pos (by omega), hl, if_pos (by omega), if_pos (by omega), strip_rd ns (by omega), hw]
    simp
theorem shapes_j0 (s t : ByteArray) (hs : s.size ≤ 1048576) (ps : List S68) (ns : List S43) (hn : ns.length ≤ 1048576) (hk : ∀ x ∈ ns, 0 ≤ x.f0 ∧ x.f0 ≤ 255) : Ev (fun k => monikerlaw4_TreeShapes.j0 k s false t ps ns) true := by
  have hS := Sketch_is ns (by omega) hk
  have hsz := skT_len ns
  have hD := Draw_is (skT ns) (by omega)
  refine Ev.step (fun k => by rw [monikerlaw4_TreeShapes.j0, if_neg (by simp)]) ?_
  refine hS.bind ?_
  by_cases hsh : shapedB ns = true
  · obtain ⟨h1, h2⟩ := draws_sketch ns hn hk hsh (by omega)
    rw [h1] at hD
    refine hD.bind ?_
    simp only [toList_nil, if_neg h2, if_true]
    have hl : (strip ns).length = ns.length := dn_len _ _ _
    rw [hl]
    simp only [bne_self_eq_false]
    refine Ev.step (fun k => ?_) (shapes_l0 s t hs ps ns hn ns.length 0 (by omega))
    rw [monikerlaw4_TreeShapes.j1, if_neg (by simp), hl]
    rfl
  · have he : skT ns = ⟨#[]⟩ := by unfold skT; rw [if_neg hsh]
    have hy := dgo_says (skT ns) (by omega) ((skT ns).size + 1) 0 [] [] (DI.zero _)
    obtain ⟨l, e, p, hr⟩ : ∃ l e p, dgo (skT ns) ((skT ns).size + 1) 0 [] [] = (l, e, p) := ⟨_, _, _, rfl⟩
    rw [hr] at hD hy
    simp only at hy
    have hV : Ev (fun k => tree_Valid.f k ns (ps.length : Int)) false := by
      unfold tree_Valid.f
      have := shaped_is ns (by omega)
      rw [Bool.eq_false_iff.2 hsh] at this
      refine this.bind ?_
      simp only [Bool.false_eq_true, if_false]
      exact Ev.now _
    have he4 : ¬ e = 0 := by
      rintro rfl
      obtain ⟨_, _, q1, q2, _⟩ := draw_back (skT ns) (by omega) hr
      rw [he] at q2
      have : (⟨#[]⟩ : ByteArray).size = 0 := rfl
      omega
    refine hD.bind ?_
    simp only [toList_nil, if_pos he, if_neg he4]
    refine hV.bind ?_
    simp only [Bool.false_eq_true, if_false]
    exact shapes_j3 s hs
theorem Shapes_is (t0 t1 t2 s : ByteArray) (ps qs rs : List S68) (ns ms os : List S43) (hs : s.size ≤ 1048576) (hp : ps.length ≤ 8796093022208) (hq : qs.length ≤ 8796093022208) (hr : rs.length ≤ 8796093022208) (hn : ns.length ≤ 1048576) (hm : ms.length ≤ 4398046511103)
    (hk : ∀ x ∈ ns, 0 ≤ x.f0 ∧ x.f0 ≤ 255) (hk2 : ∀ x ∈ ms, 0 ≤ x.f0 ∧ x.f0 ≤ 255) : Ev (fun k => monikerlaw4_TreeShapes.f k t0 ps ns t1 qs ms t2 rs os s) true := by
  have hj := shapes_j0 s t0 hs ps ns hn hk
  have h00 := SF t0 ps ns t0 ps ns hp hp (by omega)
  have h01 := SF t0 ps ns t1 qs ms hp hq (by omega)
  have h10 := SF t1 qs ms t0 ps ns hq hp (by omega)
  have h12 := SF t1 qs ms t2 rs os hq hr (by omega)
  have h02 := SF t0 ps ns t2 rs os hp hr (by omega)
  have hS0 := Sketch_is ns (by omega) hk
  have hS1 := Sketch_is ms (by omega) hk2
  rw [decide_eq_true rfl] at h00
  unfold monikerlaw4_TreeShapes.f
  refine h00.bind ?_
  simp only [if_true]
  refine h01.bind (h10.bind ?_)
  by_cases ab : keyF ps ns = keyF qs ms
  · rw [decide_eq_true ab] at h01
    rw [decide_eq_true ab.symm] at h10
    have hsk : skT ns = skT ms := same_sketch ((sameB_iff ps ns qs ms).2 ab)
    simp only [decide_eq_true ab, decide_eq_true ab.symm, bne_self_eq_false, Bool.false_eq_true, if_false]
    have hlast : Ev (fun k => (monikerlaw4_sameForests.f k t0 ps ns t1 qs ms).bind fun t137 => (if t137 = true then ((tree_Sketch.f k ns).bind fun t138 => ((tree_Sketch.f k ms).bind fun t139 => (monikerlaw4_TreeShapes.j0 k s (t138.toList != t139.toList) t0 ps ns))) else none)) true := by
      refine h01.bind ?_
      simp only [if_true]
      refine hS0.bind (hS1.bind ?_)
      rw [hsk, bne_self_eq_false]
      exact hj
    refine h01.bind ?_
    simp only [if_true]
    refine h12.bind ?_
    by_cases bc : keyF qs ms = keyF rs os
    · rw [decide_eq_true (ab.trans bc)] at h02
      simp only [decide_eq_true bc, if_true]
      refine h02.bind ?_
      simp only [if_true]
      exact hlast
    · simp only [decide_eq_false bc, Bool.false_eq_true, if_false]
      exact hlast
  · have ba : ¬ keyF qs ms = keyF ps ns := fun z => ab z.symm
    rw [decide_eq_false ab] at h01
    simp only [decide_eq_false ab, decide_eq_false ba, bne_self_eq_false, Bool.false_eq_true, if_false]
    refine h01.bind ?_
    simp only [Bool.false_eq_true, if_false]
    refine h01.bind ?_
    simp only [Bool.false_eq_true, if_false]
    exact hj
end Go.Proofs.YtodldpdnhcafpaaDoor.Q

namespace Go.Proofs.YtodldpdnhcafpaaDoor.O
open Go.ChangeShapes Go.WideShapes Go.Deep Go.Proofs.YtodldpdnhcafpaaDoorW.PrintWords

/-- What a value of type t that came in is, as a Lean value of kind d; and what is known of it. -/
def Opens {α : Type} (P : Program) (t : TypeId) (d : Kd α) (B : α → Prop) : Prop :=
  ∀ {H : Type} {enc : TypeId × Value → H} {w : World} {base : Nat} {spare : Nat → Bool} {held : Bool} {fuel : Nat} {cs : List Value} {x : DataW H × List MemPlace},
    DataW.trod enc P w base spare held fuel t cs = some x → (∀ n ∈ x.1.weights P t, n ≤ reachBytes) → ∃ a, d.K w a cs ∧ B a

theorem opens_int {P : Program} {t : TypeId} {k : IntKind} (hu : P.underlying t = some (.int k)) : Opens P t (Kd.int k) (fun n => (Lit.int k n).wf = true) := fun h _ => by
  obtain ⟨n, rfl, rfl, hw⟩ := DataW.trod_int hu h
  exact ⟨n, rfl, hw⟩
theorem mem_weightsAll {H : Type} {P : Program} {e : TypeId} : ∀ {l : List (DataW H)} {y : DataW H}, y ∈ l → ∀ n ∈ y.weights P e, n ∈ DataW.weightsAll P e l
  | y0 :: l, y, h, n, hn => by
    simp only [DataW.weightsAll, List.mem_append]
    rcases List.mem_cons.1 h with rfl | h
    · exact .inl hn
    · exact .inr (mem_weightsAll h n hn)

end Go.Proofs.YtodldpdnhcafpaaDoor.O

namespace Go.Proofs.YtodldpdnhcafpaaDoor.O
open Go.ChangeShapes Go.WideShapes Go.Deep Go.Proofs.YtodldpdnhcafpaaDoorW.PrintWords Go.Proofs.YtodldpdnhcafpaaDoor
set_option linter.unusedVariables false

section
variable {H : Type} {enc : TypeId × Value → H}
end

/-- As Opens; and the value is no heavier than the reading's bulk. -/
def OpensU {α : Type} (P : Program) (t : TypeId) (d : Kd α) (B : α → Prop) (m : α → Nat) : Prop :=
  ∀ {H : Type} {enc : TypeId × Value → H} {w : World} {base : Nat} {spare : Nat → Bool} {held : Bool} {fuel : Nat} {cs : List Value} {x : DataW H × List MemPlace},
    DataW.trod enc P w base spare held fuel t cs = some x → (∀ n ∈ x.1.weights P t, n ≤ reachBytes) → ∃ a, d.K w a cs ∧ B a ∧ m a ≤ Rows.uptoBulk x.1

theorem opens_stringU {P : Program} {t : TypeId} (hu : P.underlying t = some .string) : OpensU P t Kd.string (fun s => s.size ≤ 140737488351232) (fun s => s.size + 1) := fun h hw => by
  obtain ⟨s, rfl, rfl, _⟩ := DataW.trod_string hu h
  have e : s.data.toList.length = s.size := by rw [Array.length_toList]; rfl
  refine ⟨s, rfl, ?_, by simp only [Rows.uptoBulk]; omega⟩
  have := hw s.data.toList.length (by simp [DataW.weights])
  rw [e] at this
  exact this

theorem bulkAll_snoc {H : Type} : ∀ (l : List (DataW H)) (d : DataW H), Rows.uptoBulkAll (l ++ [d]) = Rows.uptoBulkAll l + Rows.uptoBulk d
  | [], d => by simp [Rows.uptoBulkAll]
  | x :: l, d => by simp only [List.cons_append, Rows.uptoBulkAll, bulkAll_snoc l d]; omega
def sumM {α : Type} (m : α → Nat) : List α → Nat
  | [] => 0
  | a :: l => m a + sumM m l
theorem sumM_snoc {α : Type} (m : α → Nat) : ∀ (l : List α) (a : α), sumM m (l ++ [a]) = sumM m l + m a
  | [], a => by simp [sumM]
  | x :: l, a => by simp only [List.cons_append, sumM, sumM_snoc m l a]; omega

theorem open_rowU {α : Type} {P : Program} {t e : TypeId} {d : Kd α} {B : α → Prop} {M : α → Nat} (hu : P.underlying t = some (.slice e)) (he : OpensU P e d B M) (hc : P.cellsOf e = d.sz)
    {H : Type} {enc : TypeId × Value → H} {w : World} {base : Nat} {spare : Nat → Bool} {held : Bool} {fuel : Nat} {A : Option Addr} {n c : Nat} {x : DataW H × List MemPlace}
    (h : DataW.trod enc P w base spare held fuel t [.slice A n c] = some x) (hw : ∀ n ∈ x.1.weights P t, n ≤ reachBytes) :
    ∃ xs : List α, xs.length = n ∧ d.C w A n xs ∧ n ≤ c ∧ (A = none → c = 0) ∧ (∀ a ∈ xs, B a) ∧ n * P.bytesOf e ≤ 140737488351232 ∧ sumM M xs + 1 ≤ Rows.uptoBulk x.1 := by
  rcases open_slice hu h with ⟨hcs, rfl⟩ | ⟨a, len, cap, m, fu, D, Pl, hcs, hb, hl, hm, hmm, rfl, hel⟩
  · simp only [List.cons.injEq, Value.slice.injEq, and_true] at hcs
    obtain ⟨rfl, rfl, rfl⟩ := hcs
    exact ⟨[], rfl, ⟨rfl, by omega, fun h0 => absurd h0 (by omega)⟩, by omega, fun _ => rfl, (fun a ha => by cases ha), by omega, by simp [sumM, Rows.uptoBulk]⟩
  · simp only [List.cons.injEq, Value.slice.injEq, and_true] at hcs
    obtain ⟨rfl, rfl, rfl⟩ := hcs
    have hlm : n ≤ m := by rw [hmm]; split <;> omega
    have hex : ∀ i, i < n → ∃ v : α, (∃ cs, d.K w v cs ∧ ∀ j u, cs[j]? = some u → w.cell? (a.add (i * d.sz + j)) = some u) ∧ B v ∧ M v ≤ Rows.uptoBulk (D i) := by
      intro i hi
      obtain ⟨cs', hc1, hc2⟩ := hel i (by omega)
      have hmem : D i ∈ (List.range n).map D := List.mem_map.2 ⟨i, List.mem_range.2 hi, rfl⟩
      obtain ⟨v, hv, hB, hM⟩ := he hc2 (fun q hq => hw q (by
        simp only [DataW.weights, hu, List.mem_cons, List.mem_append]
        exact .inr (.inl (mem_weightsAll hmem q hq))))
      refine ⟨v, ⟨cs', hv, fun j u hj => ?_⟩, hB, hM⟩
      obtain ⟨_, hcl, hat⟩ := World.cells?_some hc1
      have hjl : j < cs'.length := (List.getElem?_eq_some_iff.1 hj).1
      have := hat j (by omega)
      rw [hc] at this
      rw [← Go.Deep.add_add, this, hj]
    have key : ∀ k, k ≤ n → ∃ xs : List α, xs.length = k ∧ (∀ j p, xs[j]? = some p → (∃ cs, cs.length = d.sz ∧ d.K w p cs ∧ ∀ i u, cs[i]? = some u → w.cell? (a.add (j * d.sz + i)) = some u) ∧ B p) ∧ sumM M xs ≤ Rows.uptoBulkAll ((List.range k).map D) := by
      intro k
      induction k with
      | zero => intro _; exact ⟨[], rfl, fun j p hj => by simp at hj, by simp [sumM]⟩
      | succ k ih =>
        intro hk
        obtain ⟨xs, hx, hxs, hsum⟩ := ih (by omega)
        obtain ⟨v, ⟨cs, hv, hcell⟩, hB, hM⟩ := hex k (by omega)
        refine ⟨xs ++ [v], by simp [hx], fun j p hj => ?_, ?_⟩
        · rcases Nat.lt_or_ge j k with hjk | hjk
          · rw [List.getElem?_append_left (by omega)] at hj
            exact hxs j p hj
          · have hjl := (List.getElem?_eq_some_iff.1 hj).1
            rw [List.length_append, List.length_singleton] at hjl
            obtain rfl : j = k := by omega
            have hp : v = p := by simpa [List.getElem?_append_right, hx] using hj
            subst hp
            exact ⟨⟨cs, d.K_len hv, hv, hcell⟩, hB⟩
        · rw [sumM_snoc, List.range_succ, List.map_append, List.map_cons, List.map_nil, bulkAll_snoc]
          omega
    obtain ⟨xs, hx, hxs, hsum⟩ := key n (Nat.le_refl _)
    refine ⟨xs, hx, ⟨hx, by have : maxLen = 9223372036854775807 := rfl; omega, fun _ => ⟨a, rfl, fun j p hj => (hxs j p hj).1⟩⟩, hl, (fun h => by cases h), fun v hv => ?_, ?_, ?_⟩
    · obtain ⟨j, hj, rfl⟩ := List.mem_iff_getElem.1 hv
      exact (hxs j _ (List.getElem?_eq_getElem hj)).2
    · have := hw ((((List.range n).map D).length + ((List.range (m - n)).map fun j => D (n + j)).length) * P.bytesOf e) (by
        simp only [DataW.weights, hu]
        exact List.mem_cons_self)
      simp only [List.length_map, List.length_range] at this
      have h2 : n * P.bytesOf e ≤ (n + (m - n)) * P.bytesOf e := Nat.mul_le_mul_right _ (by omega)
      have h3 : reachBytes = 140737488351232 := rfl
      omega
    · simp only [Rows.uptoBulk]
      omega
end Go.Proofs.YtodldpdnhcafpaaDoor.O

namespace Go.Proofs.YtodldpdnhcafpaaDoor.H
set_option maxRecDepth 100000
open Go.ChangeShapes Go.WideShapes Go.Deep Go.Proofs.YtodldpdnhcafpaaDoorW.PrintWords Go.Proofs.YtodldpdnhcafpaaDoor.F

theorem cells3 : Tryd.prog.cellsOf 3 = 1 := by kernel_rfl
theorem cells9 : Tryd.prog.cellsOf 9 = 1 := by kernel_rfl
theorem cells32 : Tryd.prog.cellsOf 32 = 1 := by kernel_rfl
theorem cells22 : Tryd.prog.cellsOf 22 = 1 := by kernel_rfl
theorem cells24 : Tryd.prog.cellsOf 24 = 1 := by kernel_rfl
theorem cells34 : Tryd.prog.cellsOf 34 = 3 := by kernel_rfl
theorem cells41 : Tryd.prog.cellsOf 41 = 1 := by kernel_rfl
theorem cells66 : Tryd.prog.cellsOf 66 = 1 := by kernel_rfl
theorem bytes68 : Tryd.prog.bytesOf 68 = 24 := by kernel_rfl
theorem bytes43 : Tryd.prog.bytesOf 43 = 32 := by kernel_rfl
def B68 (x : S68) : Prop := (Lit.int .u8 x.f0).wf = true ∧ (Lit.int .i64 x.f1).wf = true ∧ (Lit.int .i64 x.f2).wf = true
theorem cells68 : Tryd.prog.cellsOf 68 = 3 := by kernel_rfl
theorem opens68 : O.Opens Tryd.prog 68 k68 B68 := by
  intro H enc w base spare held fuel cs x h hw
  obtain ⟨ys, n, rfl, rfl, hlen, hyl, hf⟩ := DataW.trod_struct Tryd.underlying68 h
  rw [cells68] at hlen
  obtain ⟨c0, c1, c2, rfl⟩ : ∃ c0 c1 c2, cs = [c0, c1, c2] := by
    match cs, hlen with
    | [c0, c1, c2], _ => exact ⟨c0, c1, c2, rfl⟩
  obtain ⟨y0, y1, y2, rfl⟩ : ∃ y0 y1 y2, ys = [y0, y1, y2] := by
    match ys, hyl with
    | [y0, y1, y2], _ => exact ⟨y0, y1, y2, rfl⟩
  have f0 := hf 0 { name := "Kind", type := 66, offset := 0, embedded := false, tag := "", pkgPath := "", byteOffset := 0 } rfl
  have f1 := hf 1 { name := "From", type := 3, offset := 1, embedded := false, tag := "", pkgPath := "", byteOffset := 8 } rfl
  have f2 := hf 2 { name := "To", type := 3, offset := 2, embedded := false, tag := "", pkgPath := "", byteOffset := 16 } rfl
  simp only [cells3, cells66, List.drop_zero, List.drop_succ_cons, List.take_succ_cons, List.take_zero, List.getElem?_cons_zero, List.getElem?_cons_succ] at f0 f1 f2
  have hq : ∀ (j : Nat) (t : TypeId) (d : DataW H), [66, 3, 3][j]? = some t → [y0.1, y1.1, y2.1][j]? = some d → ∀ n ∈ d.weights Tryd.prog t, n ≤ reachBytes := by
    intro j t d h1 h2 q hq
    refine hw q ?_
    simp only [DataW.weights, Tryd.underlying68]
    exact DataW.weights_mem_each (j := j) h1 h2 q hq
  obtain ⟨a0, e0, w0⟩ := O.opens_int Tryd.underlying66 f0 (hq 0 _ _ rfl rfl)
  obtain rfl : c0 = .int .u8 a0 := (List.cons.inj e0).1
  obtain ⟨a1, e1, w1⟩ := O.opens_int Tryd.underlying3 f1 (hq 1 _ _ rfl rfl)
  obtain rfl : c1 = .int .i64 a1 := (List.cons.inj e1).1
  obtain ⟨a2, e2, w2⟩ := O.opens_int Tryd.underlying3 f2 (hq 2 _ _ rfl rfl)
  obtain rfl : c2 = .int .i64 a2 := (List.cons.inj e2).1
  exact ⟨⟨a0, a1, a2⟩, k68_mk w _, w0, w1, w2⟩
def B43 (x : S43) : Prop := (Lit.int .u8 x.f0).wf = true ∧ (Lit.int .i64 x.f1).wf = true ∧ (Lit.int .i64 x.f2).wf = true ∧ (Lit.int .i64 x.f3).wf = true
theorem cells43 : Tryd.prog.cellsOf 43 = 4 := by kernel_rfl
theorem opens43 : O.Opens Tryd.prog 43 k43 B43 := by
  intro H enc w base spare held fuel cs x h hw
  obtain ⟨ys, n, rfl, rfl, hlen, hyl, hf⟩ := DataW.trod_struct Tryd.underlying43 h
  rw [cells43] at hlen
  obtain ⟨c0, c1, c2, c3, rfl⟩ : ∃ c0 c1 c2 c3, cs = [c0, c1, c2, c3] := by
    match cs, hlen with
    | [c0, c1, c2, c3], _ => exact ⟨c0, c1, c2, c3, rfl⟩
  obtain ⟨y0, y1, y2, y3, rfl⟩ : ∃ y0 y1 y2 y3, ys = [y0, y1, y2, y3] := by
    match ys, hyl with
    | [y0, y1, y2, y3], _ => exact ⟨y0, y1, y2, y3, rfl⟩
  have f0 := hf 0 { name := "Kind", type := 41, offset := 0, embedded := false, tag := "", pkgPath := "", byteOffset := 0 } rfl
  have f1 := hf 1 { name := "First", type := 3, offset := 1, embedded := false, tag := "", pkgPath := "", byteOffset := 8 } rfl
  have f2 := hf 2 { name := "End", type := 3, offset := 2, embedded := false, tag := "", pkgPath := "", byteOffset := 16 } rfl
  have f3 := hf 3 { name := "Size", type := 3, offset := 3, embedded := false, tag := "", pkgPath := "", byteOffset := 24 } rfl
  simp only [cells3, cells41, List.drop_zero, List.drop_succ_cons, List.take_succ_cons, List.take_zero, List.getElem?_cons_zero, List.getElem?_cons_succ] at f0 f1 f2 f3
  have hq : ∀ (j : Nat) (t : TypeId) (d : DataW H), [41, 3, 3, 3][j]? = some t → [y0.1, y1.1, y2.1, y3.1][j]? = some d → ∀ n ∈ d.weights Tryd.prog t, n ≤ reachBytes := by
    intro j t d h1 h2 q hq
    refine hw q ?_
    simp only [DataW.weights, Tryd.underlying43]
    exact DataW.weights_mem_each (j := j) h1 h2 q hq
  obtain ⟨a0, e0, w0⟩ := O.opens_int Tryd.underlying41 f0 (hq 0 _ _ rfl rfl)
  obtain rfl : c0 = .int .u8 a0 := (List.cons.inj e0).1
  obtain ⟨a1, e1, w1⟩ := O.opens_int Tryd.underlying3 f1 (hq 1 _ _ rfl rfl)
  obtain rfl : c1 = .int .i64 a1 := (List.cons.inj e1).1
  obtain ⟨a2, e2, w2⟩ := O.opens_int Tryd.underlying3 f2 (hq 2 _ _ rfl rfl)
  obtain rfl : c2 = .int .i64 a2 := (List.cons.inj e2).1
  obtain ⟨a3, e3, w3⟩ := O.opens_int Tryd.underlying3 f3 (hq 3 _ _ rfl rfl)
  obtain rfl : c3 = .int .i64 a3 := (List.cons.inj e3).1
  exact ⟨⟨a0, a1, a2, a3⟩, k43_mk w _, w0, w1, w2, w3⟩

theorem slice_cells {P : Program} {t e : TypeId} (hu : P.underlying t = some (.slice e)) {H : Type} {enc : TypeId × Value → H} {w : World} {base : Nat} {spare : Nat → Bool} {held : Bool} {fuel : Nat} {cs : List Value} {x : DataW H × List MemPlace}
    (h : DataW.trod enc P w base spare held fuel t cs = some x) : ∃ A n c, cs = [.slice A n c] := by
  rcases open_slice hu h with ⟨hcs, _⟩ | ⟨a, len, cap, m, fu, D, Pl, hcs, _⟩
  · exact ⟨_, _, _, hcs⟩
  · exact ⟨_, _, _, hcs⟩

end Go.Proofs.YtodldpdnhcafpaaDoor.H

namespace Go.Proofs.YtodldpdnhcafpaaDoor.H
set_option maxRecDepth 100000
open Go.ChangeShapes Go.WideShapes Go.Deep Go.Proofs.YtodldpdnhcafpaaDoorW.PrintWords Go.Proofs.YtodldpdnhcafpaaDoor.F Go.Proofs.YtodldpdnhcafpaaDoor
theorem sumM_one {α : Type} : ∀ l : List α, O.sumM (fun _ => 1) l = l.length
  | [] => rfl
  | a :: l => by simp only [O.sumM, sumM_one l, List.length_cons]; omega
theorem opens68U : O.OpensU Tryd.prog 68 k68 B68 (fun _ => 1) := by
  intro H enc w base spare held fuel cs x h hw
  obtain ⟨a, ha, hb⟩ := opens68 h hw
  refine ⟨a, ha, hb, ?_⟩
  obtain ⟨ys, n, _, rfl, _⟩ := DataW.trod_struct Tryd.underlying68 h
  simp only [Rows.uptoBulk]
  omega
end Go.Proofs.YtodldpdnhcafpaaDoor.H

namespace Go.Proofs.YtodldpdnhcafpaaDoor.H
set_option maxRecDepth 100000
open Go.ChangeShapes Go.WideShapes Go.Deep Go.Proofs.YtodldpdnhcafpaaDoorW.PrintWords Go.Proofs.YtodldpdnhcafpaaDoor.F Go.Proofs.YtodldpdnhcafpaaDoor
theorem opens43U : O.OpensU Tryd.prog 43 k43 B43 (fun _ => 1) := by
  intro H enc w base spare held fuel cs x h hw
  obtain ⟨a, ha, hb⟩ := opens43 h hw
  refine ⟨a, ha, hb, ?_⟩
  obtain ⟨ys, n, _, rfl, _⟩ := DataW.trod_struct Tryd.underlying43 h
  simp only [Rows.uptoBulk]
  omega
/-- A Forest that came in; and what the reading weighs at least. -/
theorem open34V {H : Type} {enc : TypeId × Value → H} {W : World} {base b0 : Nat} {r : Reach} {spare : Nat → Bool} {held : Bool} {v : Value} {d : DataW H} {p : List MemPlace} (hv : Value.okWide Tryd.prog W r b0 34 v) (h : DataW.Trod enc Tryd.prog W base spare held 34 v d p) (hw : ∀ n ∈ d.weights Tryd.prog 34, n ≤ reachBytes) :
    ∃ (t : ByteArray) (A1 : Option Addr) (c1 : Nat) (ps : List S68) (A2 : Option Addr) (c2 : Nat) (ns : List S43), v = .agg #[.string t, .slice A1 ps.length c1, .slice A2 ns.length c2] ∧ t.size ≤ 140737488351232 ∧
      Kd.C k68 W A1 ps.length ps ∧ ps.length ≤ c1 ∧ (A1 = none → c1 = 0) ∧ (∀ x ∈ ps, B68 x) ∧ ps.length * 24 ≤ 140737488351232 ∧ Kd.C k43 W A2 ns.length ns ∧ ns.length ≤ c2 ∧ (A2 = none → c2 = 0) ∧ (∀ x ∈ ns, B43 x) ∧ ns.length * 32 ≤ 140737488351232 ∧ t.size + ps.length + ns.length ≤ Rows.uptoBulk d := by
  obtain ⟨cs, rfl, hsz⟩ := okWide_struct Tryd.underlying34 hv
  rw [cells34] at hsz
  obtain ⟨l⟩ := cs
  obtain ⟨c0, c1, c2, rfl⟩ : ∃ a b c, l = [a, b, c] := by
    match l, hsz with
    | [a, b, c], _ => exact ⟨a, b, c, rfl⟩
  obtain ⟨fuel, hf⟩ := h
  obtain ⟨ys, n, _, hd, _, hyl, hg⟩ := DataW.trod_struct Tryd.underlying34 hf
  obtain ⟨y0, y1, y2, rfl⟩ : ∃ a b c, ys = [a, b, c] := by
    match ys, hyl with
    | [a, b, c], _ => exact ⟨a, b, c, rfl⟩
  obtain ⟨rfl, rfl⟩ := Prod.mk.inj hd
  have f0 := hg 0 { name := "Text", type := 9, offset := 0, embedded := false, tag := "", pkgPath := "", byteOffset := 0 } rfl
  have f1 := hg 1 { name := "Pieces", type := 32, offset := 1, embedded := false, tag := "", pkgPath := "", byteOffset := 16 } rfl
  have f2 := hg 2 { name := "Tree", type := 24, offset := 2, embedded := false, tag := "", pkgPath := "", byteOffset := 40 } rfl
  simp only [Value.cells, cells9, cells32, cells24, List.drop_zero, List.drop_succ_cons, List.take_succ_cons, List.take_zero, List.getElem?_cons_zero, List.getElem?_cons_succ] at f0 f1 f2
  have hq : ∀ (j : Nat) (t : TypeId) (d : DataW H), [9, 32, 24][j]? = some t → [y0.1, y1.1, y2.1][j]? = some d → ∀ n ∈ d.weights Tryd.prog t, n ≤ reachBytes := by
    intro j t d h1 h2 q hq
    refine hw q ?_
    simp only [DataW.weights, Tryd.underlying34]
    exact DataW.weights_mem_each (j := j) h1 h2 q hq
  obtain ⟨t, e0, ht, mt⟩ := O.opens_stringU Tryd.underlying9 f0 (hq 0 _ _ rfl rfl)
  obtain rfl : c0 = .string t := (List.cons.inj e0).1
  obtain ⟨A1, n1, k1, e1⟩ := slice_cells Tryd.underlying32 f1
  obtain rfl : c1 = .slice A1 n1 k1 := (List.cons.inj e1).1
  obtain ⟨ps, rfl, p1, p2, p3, p4, p5, mp⟩ := O.open_rowU Tryd.underlying32 opens68U cells68 f1 (hq 1 _ _ rfl rfl)
  obtain ⟨zs, n', _, hz, _, hzl, hg2⟩ := DataW.trod_struct Tryd.underlying24 f2
  obtain ⟨z0, rfl⟩ : ∃ a, zs = [a] := by
    match zs, hzl with
    | [a], _ => exact ⟨a, rfl⟩
  have f3 := hg2 0 { name := "Nodes", type := 22, offset := 0, embedded := false, tag := "", pkgPath := "", byteOffset := 0 } rfl
  simp only [cells22, List.drop_zero, List.take_succ_cons, List.take_zero, List.getElem?_cons_zero] at f3
  obtain ⟨A2, n2, k2, e2⟩ := slice_cells Tryd.underlying22 f3
  obtain rfl : c2 = .slice A2 n2 k2 := (List.cons.inj e2).1
  have hq3 : ∀ n ∈ z0.1.weights Tryd.prog 22, n ≤ reachBytes := by
    intro q hq1
    refine hq 2 _ _ rfl rfl q ?_
    rw [hz]
    simp only [List.map_cons, List.map_nil, DataW.weights, Tryd.underlying24]
    exact DataW.weights_mem_each (j := 0) (ts := [22]) (ds := [z0.1]) rfl rfl q hq1
  obtain ⟨ns, rfl, q1, q2, q3, q4, q5, mn⟩ := O.open_rowU Tryd.underlying22 opens43U cells43 f3 hq3
  have hbk : t.size + ps.length + ns.length ≤ Rows.uptoBulk (DataW.agg [y0.1, y1.1, y2.1]) := by
    rw [sumM_one] at mp mn
    have hz2 : Rows.uptoBulk z0.1 ≤ Rows.uptoBulk y2.1 := by
      rw [hz]
      simp only [Rows.uptoBulk, Rows.uptoBulkAll, List.map_cons, List.map_nil]
      omega
    simp only [Rows.uptoBulk, Rows.uptoBulkAll]
    simp only at mt mp mn hz2
    generalize Rows.uptoBulk z0.1 = zz at mn hz2
    generalize Rows.uptoBulk y0.1 = z0 at mt ⊢
    generalize Rows.uptoBulk y1.1 = z1 at mp ⊢
    generalize Rows.uptoBulk y2.1 = z2 at hz2 ⊢
    omega
  rw [bytes68] at p5
  rw [bytes43] at q5
  exact ⟨t, A1, k1, ps, A2, k2, ns, rfl, ht, p1, p2, p3, p4, p5, q1, q2, q3, q4, q5, hbk⟩
end Go.Proofs.YtodldpdnhcafpaaDoor.H

-- The tables of the kinds' names as the row's condition lays them
namespace Go.Proofs.YtodldpdnhcafpaaDoor.H
open Go.ChangeShapes Go.WideShapes Go.ChangeAt Go.RowKit Go.Proofs.YtodldpdnhcafpaaDoor.F Go.Proofs.YtodldpdnhcafpaaDoorW.PrintWords
set_option linter.unusedVariables false
set_option linter.unusedSimpArgs false
theorem gKinds : Tryd.prog.globalNamed "moniker/tree.kinds" = some 0 := by kernel_rfl
theorem tKinds : (Tryd.prog.globals[0]?).map (·.type) = some 87 := by kernel_rfl
theorem tgc9 : Tryd.prog.cellsOf 9 = 1 := by kernel_rfl
/-- The words of a laid datum. -/
def words (d : DataW Unit) : List (List UInt8) := match d with | .agg l => l.map (fun x => match x with | .lit (.string b) => b | _ => []) | _ => []
theorem words_kinds : words Rows.laid_moniker_tree_kinds = tabG0.map (·.data.toList) := by kernel_rfl
theorem row_of {W : World} {g f : Nat} {nm : String} {cs : Array Value} {d : DataW Unit} {p : List MemPlace} (hg : Tryd.prog.globalNamed nm = some g) (hv : W.var? Tryd.prog nm = some cs)
    (hd : DataW.trod (fun _ => ()) Tryd.prog W 0 (fun _ => true) false f 87 cs.toList = some (d, p)) (hw : words d = tabG0.map (·.data.toList)) : Kd.string.C W (some ⟨g, 0, none⟩) 58 tabG0 := by
  obtain ⟨xs, m1, rfl, hx1, hlen, hn, hel⟩ := DataW.trod_array Tryd.underlying87 hd
  simp only [Prod.mk.injEq] at hx1
  obtain ⟨rfl, _⟩ := hx1
  refine Kd.C_of_reads (d := ByteArray.empty) ⟨tab_len, by decide, fun _ => ⟨_, rfl, fun j hj => ?_⟩⟩
  have e1 := hel j hj
  rw [tgc9, Nat.mul_one] at e1
  obtain ⟨y, hy⟩ : ∃ y, xs[j]? = some y := ⟨xs[j]'(by omega), List.getElem?_eq_getElem (by omega)⟩
  rw [hy] at e1
  obtain ⟨t, ht, rfl, _⟩ := DataW.trod_string Tryd.underlying9 e1
  have hc : cs.toList[j]? = some (.string t) := by
    have : ((cs.toList.drop j).take 1)[0]? = some (.string t) := by rw [ht]; rfl
    rw [List.getElem?_take_of_lt (by omega), List.getElem?_drop] at this
    simpa using this
  have hn2 : j < tabG0.length := by rw [tab_len]; exact hj
  have hw2 : (words (DataW.agg (xs.map (·.1))))[j]? = some t.data.toList := by
    unfold words
    rw [List.getElem?_map, List.getElem?_map, hy]
    rfl
  rw [hw, List.getElem?_map, List.getElem?_eq_getElem hn2] at hw2
  have hd2 : tabG0[j].data.toList = t.data.toList := Option.some.inj hw2
  have het : tabG0[j] = t := ByteArray.ext (Array.ext' hd2)
  rw [List.getD_eq_getElem?_getD, List.getElem?_eq_getElem hn2, Option.getD_some, het]
  have hcell := World.var?_cell hg hv j
  rw [Addr.add_mid, Nat.zero_add, hcell]
  simpa using hc
end Go.Proofs.YtodldpdnhcafpaaDoor.H

-- The table of the kinds' names alone, as the row's condition lays it
namespace Go.Proofs.YtodldpdnhcafpaaDoor.H
open Go.ChangeShapes Go.WideShapes Go.ChangeAt Go.RowKit Go.Proofs.YtodldpdnhcafpaaDoor.F Go.Proofs.YtodldpdnhcafpaaDoorW.PrintWords
theorem sg0_of_laid {W : World} (h : laidMetH Tryd.prog [("moniker/tree.kinds", Rows.laid_moniker_tree_kinds)] W) : SG0 W := by
  rw [MakeChecks.laidMetH_plain _ _ _ (by kernel_rfl)] at h
  obtain ⟨ps, ⟨g0, t0, cs0, f0, p0, q0, hg0, ht0, hv0, hd0, _, _⟩, _, _⟩ := h
  obtain rfl := Option.some.inj (gKinds.symm.trans hg0)
  obtain rfl := Option.some.inj (tKinds.symm.trans ht0)
  exact ⟨row_of gKinds hv0 hd0 words_kinds⟩
end Go.Proofs.YtodldpdnhcafpaaDoor.H

-- TreeShapes: the law's walk
namespace Go.Proofs.YtodldpdnhcafpaaDoor.L
open Go.RowKit Go.Proofs.YtodldpdnhcafpaaDoor.F Go.Proofs.YtodldpdnhcafpaaDoor.H Go.Proofs.YtodldpdnhcafpaaDoorW.PrintWords
set_option linter.unusedVariables false
theorem u8_of {ns : List S43} (h : ∀ x ∈ ns, B43 x) : ∀ x ∈ ns, 0 ≤ x.f0 ∧ x.f0 ≤ 255 := fun x hx => by
  have h := (h x hx).1
  simp [Lit.wf, IntKind.min, IntKind.max, IntKind.bits, IntKind.signed] at h
  omega
theorem shapes_walk (t0 : ByteArray) (A0 : Option Addr) (c0 : Nat) (l0 : List S68) (D0 : Option Addr) (e0 : Nat) (m0 : List S43) (t1 : ByteArray) (A1 : Option Addr) (c1 : Nat) (l1 : List S68) (D1 : Option Addr) (e1 : Nat) (m1 : List S43) (t2 : ByteArray) (A2 : Option Addr) (c2 : Nat) (l2 : List S68) (D2 : Option Addr) (e2 : Nat) (m2 : List S43) (s : ByteArray) (w : World)
    (a0 : t0.size ≤ 140737488351232) (a1 : Kd.C k68 w A0 l0.length l0) (a2 : l0.length ≤ c0) (a3 : A0 = none → c0 = 0) (a4 : ∀ x ∈ l0, B68 x) (a5 : l0.length * 24 ≤ 140737488351232) (a6 : Kd.C k43 w D0 m0.length m0) (a7 : m0.length ≤ e0) (a8 : D0 = none → e0 = 0) (a9 : ∀ x ∈ m0, B43 x) (a10 : m0.length * 32 ≤ 140737488351232)
    (b0 : t1.size ≤ 140737488351232) (b1 : Kd.C k68 w A1 l1.length l1) (b2 : l1.length ≤ c1) (b3 : A1 = none → c1 = 0) (b4 : ∀ x ∈ l1, B68 x) (b5 : l1.length * 24 ≤ 140737488351232) (b6 : Kd.C k43 w D1 m1.length m1) (b7 : m1.length ≤ e1) (b8 : D1 = none → e1 = 0) (b9 : ∀ x ∈ m1, B43 x) (b10 : m1.length * 32 ≤ 140737488351232)
    (d0 : t2.size ≤ 140737488351232) (d1 : Kd.C k68 w A2 l2.length l2) (d2 : l2.length ≤ c2) (d3 : A2 = none → c2 = 0) (d4 : ∀ x ∈ l2, B68 x) (d5 : l2.length * 24 ≤ 140737488351232) (d6 : Kd.C k43 w D2 m2.length m2) (d7 : m2.length ≤ e2) (d8 : D2 = none → e2 = 0) (d9 : ∀ x ∈ m2, B43 x) (d10 : m2.length * 32 ≤ 140737488351232)
    (hs : s.size ≤ 140737488351232) (hsg : SG0 w) (hbk : t0.size + l0.length + m0.length + (t1.size + l1.length + m1.length + (t2.size + l2.length + m2.length + (s.size + 1))) ≤ 1048576) :
    Calls Tryd.prog 5 #[.agg #[.string t0, .slice A0 l0.length c0, .slice D0 m0.length e0], .agg #[.string t1, .slice A1 l1.length c1, .slice D1 m1.length e1], .agg #[.string t2, .slice A2 l2.length c2, .slice D2 m2.length e2], .string s] w fun e w' => e = .returned (.bool true) ∧ Below w.heap.size w w' := by
  obtain ⟨k, hk⟩ := (Q.Shapes_is t0 t1 t2 s l0 l1 l2 m0 m1 m2 (by omega) (by omega) (by omega) (by omega) (by omega) (by omega) (u8_of a9) (u8_of b9)).rounds
  exact monikerlaw4_TreeShapes.calls k t0 A0 c0 l0 D0 e0 m0 t1 A1 c1 l1 D1 e1 m1 t2 A2 c2 l2 D2 e2 m2 s true w a1 a2 a6 a7 b1 b2 b6 b7 d1 d2 d6 d7 hk hsg
end Go.Proofs.YtodldpdnhcafpaaDoor.L


namespace Go.Proofs.YtodldpdnhcafpaaDoor.treeShapes
open Go.ChangeShapes Go.WideShapes Go.ChangeAt Go.RowKit Go.Proofs.YtodldpdnhcafpaaDoor
open Go.ChangeMaps (open_string shut_string)
set_option linter.unusedVariables false
theorem own : ownKnob Tryd.prog.godebug = none := by kernel_rfl
theorem laidOut : laidOutB Tryd.prog = true := by kernel_rfl
theorem door_met (os : Os) : laidMetH Tryd.prog [("moniker/tree.kinds", Rows.laid_moniker_tree_kinds)] ((World.doorLaid Tryd.prog 20 os).forCall (fun _ _ => 0) ⟨#[], #[.agg #[.string ByteArray.empty, .slice none 0 0, .slice none 0 0], .agg #[.string ByteArray.empty, .slice none 0 0, .slice none 0 0], .agg #[.string ByteArray.empty, .slice none 0 0, .slice none 0 0], .string ByteArray.empty], []⟩).memory :=
  laidMetH_of_parts3 (fuel := 8) (laidMet_of_run' 8 (by kernel_rfl) (by kernel_rfl)) (by kernel_rfl) (by kernel_rfl)
set_option maxRecDepth 100000 in
theorem reads (os : Os) {H : Type} (enc : TypeId × Value → H) : (match DataW.whole enc Tryd.prog ((World.doorLaid Tryd.prog 20 os).forCall (fun _ _ => 0) ⟨#[], #[.agg #[.string ByteArray.empty, .slice none 0 0, .slice none 0 0], .agg #[.string ByteArray.empty, .slice none 0 0, .slice none 0 0], .agg #[.string ByteArray.empty, .slice none 0 0, .slice none 0 0], .string ByteArray.empty], []⟩).memory Tryd.f5.params.toList Rows.treeShapesSpec.vars false #[.agg #[.string ByteArray.empty, .slice none 0 0, .slice none 0 0], .agg #[.string ByteArray.empty, .slice none 0 0, .slice none 0 0], .agg #[.string ByteArray.empty, .slice none 0 0, .slice none 0 0], .string ByteArray.empty].toList 8 with | some x => Rows.uptoSmall H (x.1 ++ x.2.1) | none => false) = true ∧ (Rows.OpenSpec.upto Rows.treeShapesSpec).bare.sizedB enc Tryd.prog Tryd.f5 false ((World.doorLaid Tryd.prog 20 os).forCall (fun _ _ => 0) ⟨#[], #[.agg #[.string ByteArray.empty, .slice none 0 0, .slice none 0 0], .agg #[.string ByteArray.empty, .slice none 0 0, .slice none 0 0], .agg #[.string ByteArray.empty, .slice none 0 0, .slice none 0 0], .string ByteArray.empty], []⟩).memory #[.agg #[.string ByteArray.empty, .slice none 0 0, .slice none 0 0], .agg #[.string ByteArray.empty, .slice none 0 0, .slice none 0 0], .agg #[.string ByteArray.empty, .slice none 0 0, .slice none 0 0], .string ByteArray.empty] 8 = true :=
  ⟨by kernel_rfl, by kernel_rfl⟩
set_option maxRecDepth 100000 in
theorem lifted (os : Os) (started : os.Started) (H : Type) (enc : TypeId × Value → H) (F : Stop.Interp) :
    ReturnsInHanded {} Tryd.checked os 5 .any ((Rows.OpenSpec.upto Rows.treeShapesSpec).preRow enc Tryd.prog Tryd.f5 Rows.treeShapesUptoRow.domain false Rows.treeShapesUptoRow.laid) (((Rows.OpenSpec.upto Rows.treeShapesSpec).at F).post enc Tryd.prog Tryd.f5 false true false false) := by
  obtain ⟨hm, hxs⟩ := reads os enc
  obtain ⟨x, hx, hxk⟩ : ∃ x, DataW.whole enc Tryd.prog ((World.doorLaid Tryd.prog 20 os).forCall (fun _ _ => 0) ⟨#[], #[.agg #[.string ByteArray.empty, .slice none 0 0, .slice none 0 0], .agg #[.string ByteArray.empty, .slice none 0 0, .slice none 0 0], .agg #[.string ByteArray.empty, .slice none 0 0, .slice none 0 0], .string ByteArray.empty], []⟩).memory Tryd.f5.params.toList Rows.treeShapesSpec.vars false #[.agg #[.string ByteArray.empty, .slice none 0 0, .slice none 0 0], .agg #[.string ByteArray.empty, .slice none 0 0, .slice none 0 0], .agg #[.string ByteArray.empty, .slice none 0 0, .slice none 0 0], .string ByteArray.empty].toList 8 = some x ∧ Rows.uptoSmall H (x.1 ++ x.2.1) = true := by
    generalize DataW.whole enc Tryd.prog ((World.doorLaid Tryd.prog 20 os).forCall (fun _ _ => 0) ⟨#[], #[.agg #[.string ByteArray.empty, .slice none 0 0, .slice none 0 0], .agg #[.string ByteArray.empty, .slice none 0 0, .slice none 0 0], .agg #[.string ByteArray.empty, .slice none 0 0, .slice none 0 0], .string ByteArray.empty], []⟩).memory Tryd.f5.params.toList Rows.treeShapesSpec.vars false #[.agg #[.string ByteArray.empty, .slice none 0 0, .slice none 0 0], .agg #[.string ByteArray.empty, .slice none 0 0, .slice none 0 0], .agg #[.string ByteArray.empty, .slice none 0 0, .slice none 0 0], .string ByteArray.empty].toList 8 = y at hm
    cases y with
    | none => cases hm
    | some x => exact ⟨x, rfl, hm⟩
  refine returnsInHanded_of_row (C := Tryd.checked) (s := Rows.OpenSpec.upto Rows.treeShapesSpec) own started (by kernel_rfl) Tryd.func5
    (witness_row_at (enc := enc) (C := Tryd.checked) false (World.doorLaid Tryd.prog 20 os) #[.agg #[.string ByteArray.empty, .slice none 0 0, .slice none 0 0], .agg #[.string ByteArray.empty, .slice none 0 0, .slice none 0 0], .agg #[.string ByteArray.empty, .slice none 0 0, .slice none 0 0], .string ByteArray.empty] rfl (by kernel_rfl) (by kernel_rfl) (by kernel_rfl)
      (OpenSpec.preRow_of_cond 8 hx (by rfl) (fun k hk => by cases hk; exact hxk) hxs (door_met os))) ?_
  intro W base args ds gs before hval0 hW hcnd hk0 hsz0 hLaid _ _
  replace hk0 := hk0 _ rfl
  have hsz : (DataW.weightsEach Tryd.prog (Tryd.f5.params.toList ++ Rows.treeShapesSpec.plain.varTypes Tryd.prog) (ds ++ gs)).all (· ≤ reachBytes) = true := hsz0
  have hval : ∀ (j : Nat) t v, Tryd.f5.params[j]? = some t → args[j]? = some v → Value.okWide Tryd.prog W .any base t v := hval0
  have hW' := hW
  obtain ⟨p, q, hA0, hV, rfl, hfz, hnd⟩ := hW
  have hA : DataW.TrodAll enc Tryd.prog W 0 (fun _ => true) true Tryd.f5.params.toList args.toList ds p := hA0
  rw [Tryd.params5] at hA hval hsz
  obtain ⟨v0, vs0, d0, ds0, p0, q0, hargs, rfl, rfl, h0, r0⟩ := trodAll_cons hA
  obtain ⟨v1, vs1, d1, ds1, p1, q1, rfl, rfl, rfl, h1, r1⟩ := trodAll_cons r0
  obtain ⟨v2, vs2, d2, ds2, p2, q2, rfl, rfl, rfl, h2, r2⟩ := trodAll_cons r1
  obtain ⟨v3, vs3, d3, ds3, p3, q3, rfl, rfl, rfl, h3, r3⟩ := trodAll_cons r2
  obtain ⟨rfl, rfl, rfl⟩ := trodAll_nil r3
  obtain rfl : args = #[v0, v1, v2, v3] := by cases args; simp_all
  obtain ⟨rfl, rfl⟩ := trodVars_none hV
  have hbulk : Rows.uptoBulkAll ([d0, d1, d2, d3] ++ []) ≤ 1048576 := of_decide_eq_true hk0
  simp only [List.append_nil, Rows.uptoBulkAll, Nat.add_zero] at hbulk
  have k0 := h0
  have lt0 : ∀ x ∈ p0, x.block < W.heap.size := by obtain ⟨m, hm⟩ := k0; exact DataW.trod_lt m _ _ _ hm
  have hq0 : ∀ n ∈ DataW.weights Tryd.prog 34 d0, n ≤ reachBytes := fun n hn => of_decide_eq_true (List.all_eq_true.1 hsz n (DataW.weights_mem_each (j := 0) rfl rfl n hn))
  obtain ⟨t0, A0, c0, l0, B0, e0, m0, rfl, hf0_0, hf0_1, hf0_2, hf0_3, hf0_4, hf0_5, hf0_6, hf0_7, hf0_8, hf0_9, hf0_10, hm0⟩ := Go.Proofs.YtodldpdnhcafpaaDoor.H.open34V (hval 0 34 v0 rfl rfl) h0 hq0
  have k1 := h1
  have lt1 : ∀ x ∈ p1, x.block < W.heap.size := by obtain ⟨m, hm⟩ := k1; exact DataW.trod_lt m _ _ _ hm
  have hq1 : ∀ n ∈ DataW.weights Tryd.prog 34 d1, n ≤ reachBytes := fun n hn => of_decide_eq_true (List.all_eq_true.1 hsz n (DataW.weights_mem_each (j := 1) rfl rfl n hn))
  obtain ⟨t1, A1, c1, l1, B1, e1, m1, rfl, hf1_0, hf1_1, hf1_2, hf1_3, hf1_4, hf1_5, hf1_6, hf1_7, hf1_8, hf1_9, hf1_10, hm1⟩ := Go.Proofs.YtodldpdnhcafpaaDoor.H.open34V (hval 1 34 v1 rfl rfl) h1 hq1
  have k2 := h2
  have lt2 : ∀ x ∈ p2, x.block < W.heap.size := by obtain ⟨m, hm⟩ := k2; exact DataW.trod_lt m _ _ _ hm
  have hq2 : ∀ n ∈ DataW.weights Tryd.prog 34 d2, n ≤ reachBytes := fun n hn => of_decide_eq_true (List.all_eq_true.1 hsz n (DataW.weights_mem_each (j := 2) rfl rfl n hn))
  obtain ⟨t2, A2, c2, l2, B2, e2, m2, rfl, hf2_0, hf2_1, hf2_2, hf2_3, hf2_4, hf2_5, hf2_6, hf2_7, hf2_8, hf2_9, hf2_10, hm2⟩ := Go.Proofs.YtodldpdnhcafpaaDoor.H.open34V (hval 2 34 v2 rfl rfl) h2 hq2
  obtain ⟨a3, rfl, rfl, rfl, y3⟩ := open_string Tryd.underlying9 (hval 3 9 v3 rfl rfl) h3
  have w3 : a3.size ≤ 140737488351232 := by
    have z := sized_string hsz (j := 3) (t := 9) rfl rfl
    rw [Array.length_toList] at z
    exact z
  have hm3 : a3.size + 1 ≤ Rows.uptoBulk (DataW.lit (H := H) (.string a3.data.toList)) := by simp only [Rows.uptoBulk]; rw [Array.length_toList]; exact Nat.le_refl _
  clear hA0 hval0 hsz0 hsz
  refine (Go.Proofs.YtodldpdnhcafpaaDoor.L.shapes_walk t0 A0 c0 l0 B0 e0 m0 t1 A1 c1 l1 B1 e1 m1 t2 A2 c2 l2 B2 e2 m2 a3 W hf0_0 hf0_1 hf0_2 hf0_3 hf0_4 hf0_5 hf0_6 hf0_7 hf0_8 hf0_9 hf0_10 hf1_0 hf1_1 hf1_2 hf1_3 hf1_4 hf1_5 hf1_6 hf1_7 hf1_8 hf1_9 hf1_10 hf2_0 hf2_1 hf2_2 hf2_3 hf2_4 hf2_5 hf2_6 hf2_7 hf2_8 hf2_9 hf2_10 w3 (Go.Proofs.YtodldpdnhcafpaaDoor.H.sg0_of_laid hLaid) (Nat.le_trans (Nat.add_le_add hm0 (Nat.add_le_add hm1 (Nat.add_le_add hm2 hm3))) hbulk)).mono fun e W' ⟨he, bel⟩ => ?_
  subst he
  exact ⟨_, rfl, _, _, _, [], _, [], hW', trodAll_mk1 (shut_bool Tryd.underlying4 _), (trodAll_cons_mk (Below.trod laidOut (by kernel_rfl) (of_decide_eq_true (by kernel_rfl)) k0 bel lt0) (trodAll_cons_mk (Below.trod laidOut (by kernel_rfl) (of_decide_eq_true (by kernel_rfl)) k1 bel lt1) (trodAll_cons_mk (Below.trod laidOut (by kernel_rfl) (of_decide_eq_true (by kernel_rfl)) k2 bel lt2) (trodAll_cons_mk (shut_string Tryd.underlying9 y3) trodAll_mk0)))), rfl, bel.frame _, fun h => by cases h⟩
theorem over : Rows.treeShapesUptoRow.holds Tryd.pinned (Rows.OpenSpec.upto Rows.treeShapesSpec) :=
  OpenClaim.holds_of_cond 5 Tryd.f5 rfl rfl rfl rfl rfl rfl rfl ⟨rfl, rfl, rfl, rfl, rfl⟩ rfl rfl rfl rfl rfl (by kernel_rfl) Tryd.func5 (by kernel_rfl)
    (of_decide_eq_true (by kernel_rfl)) (by unfold Func.isWrapper; first | (rw [if_pos (by decide +kernel)]; kernel_rfl) | (rw [if_neg (by decide +kernel)]; exact ⟨rfl, rfl⟩))
    (fun os started H enc _ F => by rw [OpenClaim.pre_eq_preRow]; exact lifted os started H enc F)
theorem plain (f : FuncId) (fn : Func) (hf : Tryd.pinned.checked.prog.funcNamed "moniker/monikerlaw4.TreeShapes" = some f) (hfn : Tryd.pinned.checked.prog.funcs[f]? = some fn) :
    false = Tryd.pinned.checked.prog.looks [] ∧ ∀ (j : Nat) t, fn.params[j]? = some t → Tryd.pinned.checked.prog.wantsStandIn t = false := by
  obtain rfl : f = 5 := Option.some.inj ((show Tryd.prog.funcNamed "moniker/monikerlaw4.TreeShapes" = some 5 by kernel_rfl).symm.trans hf) |>.symm
  obtain rfl : fn = Tryd.f5 := (Option.some.inj (Tryd.func5.symm.trans hfn)).symm
  refine ⟨by kernel_rfl, fun j t ht => ?_⟩
  rw [Tryd.params5] at ht
  have hm : t ∈ [34, 34, 34, 9] := by simpa using Array.mem_of_getElem? ht
  have hall : ([34, 34, 34, 9].all fun u => !Tryd.prog.wantsStandIn u) = true := by kernel_rfl
  exact (show Tryd.prog.wantsStandIn t = false by simpa using List.all_eq_true.1 hall t hm)
set_option maxRecDepth 100000 in
theorem proved : Rows.TreeShapesUptoCardSaid :=
  Claim7.holds_tied_plain_at .later [] _ _ _ _ over (fun _ h => by cases h) (by kernel_rfl) (fun _ h => by cases h) treeShapesUpto_row_tie rfl ⟨rfl, rfl⟩ (by kernel_rfl) rfl plain (by kernel_rfl)
#print axioms proved
end Go.Proofs.YtodldpdnhcafpaaDoor.treeShapes
namespace Go.Proofs.YtodldpdnhcafpaaDoor
/-- The card, under a short name, for the claim. -/
theorem treeShapes_holds : Rows.TreeShapesUptoCardSaid := treeShapes.proved
end Go.Proofs.YtodldpdnhcafpaaDoor
