/- The law TreeTexts of package monikerlaw holds of the given program: called with any arguments that can be read as data, together of bulk at most 1048576, it returns true, and its arguments read behind the call as before. Conditions: those of the given row '..Upto', no others. -/
import Derived.Test.YtodldpdnhcafpaaZTexts0
import Derived.Test.YtodldpdnhcafpaaRows
import Derived.WalkKit
import Derived.ProofKit
import Derived.OpenShut
import Derived.ShutString
import Derived.ChangeOld
import Derived.Below
import Derived.SizedLaws
namespace Go.Proofs.Ytodldpdnhcafpaa.L
open Go.RowKit Go.Proofs.YtodldpdnhcafpaaW.PrintWords Go.Proofs.YtodldpdnhcafpaaW.PrintLast Go.Proofs.YtodldpdnhcafpaaW.PrintMore
open Go.Proofs.Ytodldpdnhcafpaa.F Go.Proofs.Ytodldpdnhcafpaa.H
set_option linter.unusedVariables false
set_option linter.unusedSimpArgs false
def texts_walk.T2 : Bool × List (List Nat × List Nat) := (true, [([], []), ([0], [0]), ([], []), ([2], [2]), ([], []), ([4], [4]), ([], []), ([1, 3, 5, 6], [1, 3, 5, 6]), ([], []), ([8], [8]), ([], []), ([10], [10]), ([], []), ([12], [12]), ([], []), ([9, 11, 13, 14, 7], [9, 11, 13, 14]), ([7, 15], [7, 15]), ([16, 15], [16]), ([17], [17]), ([17], [17]), ([18, 19, 17, 17], [17, 18, 19]), ([17, 20], [17, 20]), ([21, 20, 0, 1, 2, 3, 4, 5, 6, 7, 8, 9, 10, 11, 12, 13, 14, 15, 16, 17, 18, 19, 20, 21], [21])])
def texts_walk.B2 : List Nat := [0, 1, 0, 4, 0, 16, 0, 127, 0, 256, 0, 1024, 0, 4096, 0, 32767, 65535, 131071, 262143, 262143, 1048575, 2097151, 4194303]
theorem texts_walk.tab2 : rtab .any (opsOf Try.f8 2) = texts_walk.T2 := by kernel_rfl
theorem texts_walk.bits2 : waitsOk texts_walk.T2.2 texts_walk.B2 = true := by kernel_rfl
set_option maxHeartbeats 4000000 in
set_option maxRecDepth 100000 in
theorem texts_walk (t : ByteArray) (A1 : Option Addr) (c1 : Nat) (ps : List S61) (A2 : Option Addr) (c2 : Nat) (ns : List S47) (n : Int) (w : World)
    (hs : t.size ≤ 140737488351232) (hr1 : Kd.C k61 w A1 ps.length ps) (hc1 : ps.length ≤ c1) (hn1 : A1 = none → c1 = 0) (hB1 : ∀ x ∈ ps, B61 x) (hb1 : ps.length * 24 ≤ 140737488351232)
    (hr2 : Kd.C k47 w A2 ns.length ns) (hc2 : ns.length ≤ c2) (hn2 : A2 = none → c2 = 0) (hB2 : ∀ x ∈ ns, B47 x) (hb2 : ns.length * 32 ≤ 140737488351232) (hw1 : (Lit.int .i64 n).wf = true) (hbk : t.size + ps.length + 1 ≤ 1048576) :
    Calls Try.prog 8 #[.agg #[.string t, .slice A1 ps.length c1, .slice A2 ns.length c2], .int .i64 n] w fun e w' => e = .returned (.bool true) ∧ Below w.heap.size w w' := by
  have hu27 := Try.underlying27
  have hu25 := Try.underlying25
  have hm64 : (ps.length + 1) * (t.size + 1) ≤ 140737488355328 := Nat.le_trans (Nat.mul_le_mul (show ps.length + 1 ≤ 1048577 by omega) (show t.size + 1 ≤ 1048577 by omega)) (by decide)
  obtain ⟨k, hk⟩ := (Q.Text_is t ps ns hm64 (by omega) n).rounds
  obtain ⟨k', hk'⟩ := (Q.RText_is t ps ns hm64 (by omega) n).rounds
  obtain ⟨r, hr⟩ : ∃ r, Q.textSpec t ps ns n = r := ⟨_, rfl⟩
  rw [hr] at hk hk'
  clear hr hm64
  have HK := Aside0.mk hk
  have HK' := Aside0.mk hk'
  clear hk hk'
  have HR1 := Aside0.mk hr1
  have HR2 := Aside0.mk hr2
  have HC1 := Aside0.mk hc1
  have HC2 := Aside0.mk hc2
  have HN1 := Aside0.mk hn1
  have HN2 := Aside0.mk hn2
  clear hr1 hr2 hc1 hc2 hn1 hn2 hB1 hB2
  go_enter Try.func8, Try.ntmps8
  go_wp2_with (first
    | ((with_reducible refine gate_dst (N := 2) rfl ?_); refine box_event ?hgg1 (N := 2) ?hdg1 (cs := #[.string t, .slice A1 ps.length c1, .slice A2 ns.length c2]) (t := 27) ?hrg1 ?_; (case hdg1 => rfl); (case hgg1 => rfl); (case hrg1 => first | (go_simp; done) | (go_simp; rfl)); intro g1 hge w1 hbox hb; have BK1 := Aside0.mk hbox; have HB := Aside0.mk hb; clear hbox hge hb; have hx0 : w1.cell? ⟨g1, 0, none⟩ = some (.string t) := (blk_cell BK1.out 0).trans rfl; have hx1 : w1.cell? ⟨g1, 1, none⟩ = some (.slice A1 ps.length c1) := (blk_cell BK1.out 1).trans rfl; have hx2 : w1.cell? ⟨g1, 2, none⟩ = some (.slice A2 ns.length c2) := (blk_cell BK1.out 2).trans rfl))
  refine (lent_calls t A1 c1 ps A2 c2 ns _ (Kd.C_below HR1.out HB.out) HC1.out HN1.out hb1 (Kd.C_below HR2.out HB.out) HC2.out HN2.out hb2).mono ?_
  rintro e w2 ⟨A, B, rfl, hL1, hL2, hb⟩
  have HL1 := Aside0.mk hL1
  have HL2 := Aside0.mk hL2
  have n1_ := Aside0.mk (blk_below BK1.out hb)
  have n2_ := Aside0.mk (below_step HB.out hb)
  clear BK1 HB hx0 hx1 hx2 hL1 hL2 hb
  have BK1 := n1_
  have HB := n2_
  clear n1_ n2_
  go_wp2_with (first
    | ((with_reducible refine gate_dst (N := 5) rfl ?_); refine box_event ?hgg2 (N := 5) ?hdg2 (cs := #[.string ⟨#[]⟩, .slice none 0 0, .slice none 0 0]) (t := 27) ?hrg2 ?_; (case hdg2 => rfl); (case hgg2 => rfl); (case hrg2 => first | (go_simp; done) | (go_simp; rfl)); intro g2 hge w3 hbox hb; have BK2 := Aside0.mk hbox; have GE2 := Aside0.mk (show w.heap.size ≤ g2 by rw [hge]; exact HB.out.size); have NE := Aside0.mk (show g1 ≠ g2 by rw [hge]; exact Nat.ne_of_lt (blk_lt BK1.out)); have GL := Aside0.mk (show w2.heap.size ≤ g2 by rw [hge]; exact Nat.le_refl _); have HB3 := Aside0.mk hb; clear hbox hge hb; have hy0 : w3.cell? ⟨g2, 0, none⟩ = some (.string ⟨#[]⟩) := (blk_cell BK2.out 0).trans rfl; have hy1 : w3.cell? ⟨g2, 1, none⟩ = some (.slice none 0 0) := (blk_cell BK2.out 1).trans rfl; have hy2 : w3.cell? ⟨g2, 2, none⟩ = some (.slice none 0 0) := (blk_cell BK2.out 2).trans rfl; have hz0 := blk_frozen BK2.out 0; have hz1 := blk_frozen BK2.out 1; have hz2 := blk_frozen BK2.out 2))
  have hset : Below w2.heap.size w2 (((w3.setCell ⟨g2, 0, none⟩ (.string t)).setCell ⟨g2, 1, none⟩ (.slice A ps.length (ps.length + 2))).setCell ⟨g2, 2, none⟩ (.slice B ns.length (ns.length + 2))) := by
    refine below_set ?_ GL.out
    refine below_set ?_ GL.out
    refine below_set ?_ GL.out
    exact HB3.out
  have hbk : (((w3.setCell ⟨g2, 0, none⟩ (.string t)).setCell ⟨g2, 1, none⟩ (.slice A ps.length (ps.length + 2))).setCell ⟨g2, 2, none⟩ (.slice B ns.length (ns.length + 2))).heap[g2]? = some (.cells #[.string t, .slice A ps.length (ps.length + 2), .slice B ns.length (ns.length + 2)] 27 (0, 0)) := by
    refine blk_put (cs := #[.string t, .slice A ps.length (ps.length + 2), .slice none 0 0]) ?_ 2 _ rfl
    refine blk_put (cs := #[.string t, .slice none 0 0, .slice none 0 0]) ?_ 1 _ rfl
    refine blk_put (cs := #[.string ⟨#[]⟩, .slice none 0 0, .slice none 0 0]) ?_ 0 _ rfl
    exact BK2.out
  obtain ⟨w4, hw4⟩ : ∃ w4, w4 = (((w3.setCell ⟨g2, 0, none⟩ (.string t)).setCell ⟨g2, 1, none⟩ (.slice A ps.length (ps.length + 2))).setCell ⟨g2, 2, none⟩ (.slice B ns.length (ns.length + 2))) := ⟨_, rfl⟩
  rw [← hw4] at hset hbk ⊢
  have hH : Hold t A1 A2 A B c1 c2 ps ns g1 g2 w w4 := ⟨blk_below BK1.out hset, hbk, Kd.C_below (Kd.C_below HR1.out HB.out) hset, Kd.C_below (Kd.C_below HR2.out HB.out) hset, Kd.C_below HL1.out hset, Kd.C_below HL2.out hset, below_step HB.out hset⟩
  clear hw4 hset hbk hy0 hy1 hy2 hz0 hz1 hz2 BK1 BK2 HB HB3 HL1 HL2 GE2 GL NE w3
  refine start_ (n := 23) (S := fun w' => Hold t A1 A2 A B c1 c2 ps ns g1 g2 w w') (ds := []) #[false, false, false, false, false, false, false, false, false, false, false, false, false, false, false, false, false, false, false, false, false, false, false] (by kernel_rfl) rfl rfl hH.drew (fun hHeld => ?_)
  refine with_tabW texts_walk.tab2 texts_walk.bits2 (fun HT_ HW_ => ?_)
  generalize w4.drew = wa at hHeld ⊢
  refine pure_ (i := 0) (N := some 8) (v := ?_) (a' := ?_) #[true, false, false, false, false, false, false, false, false, false, false, false, false, false, false, false, false, false, false, false, false, false, false] rfl rfl (any_of HT_.out (by kernel_rfl)) (fun _ _ _ h => h) (Or.inl ⟨by rfl, ?_⟩) ?_ ?_
  rotate_left
  · intro w'
    go_simp
    with_reducible rfl
  rotate_left
  · simp only [Act.put, List.setIfInBounds_toArray, List.set_cons_zero, List.set_cons_succ, i64_w, i32_w]
    rfl
  refine pure_ (i := 2) (N := some 10) (v := ?_) (a' := ?_) #[true, false, true, false, false, false, false, false, false, false, false, false, false, false, false, false, false, false, false, false, false, false, false] rfl rfl (any_of HT_.out (by kernel_rfl)) (fun _ _ _ h => h) (Or.inl ⟨by rfl, ?_⟩) ?_ ?_
  rotate_left
  · intro w'
    go_simp
    with_reducible rfl
  rotate_left
  · simp only [Act.put, List.setIfInBounds_toArray, List.set_cons_zero, List.set_cons_succ, i64_w, i32_w]
    rfl
  refine pure_ (i := 4) (N := some 12) (v := ?_) (a' := ?_) #[true, false, true, false, true, false, false, false, false, false, false, false, false, false, false, false, false, false, false, false, false, false, false] rfl rfl (any_of HT_.out (by kernel_rfl)) (fun _ _ _ h => h) (Or.inl ⟨by rfl, ?_⟩) ?_ ?_
  rotate_left
  · intro w'
    go_simp
    with_reducible rfl
  rotate_left
  · simp only [Act.put, List.setIfInBounds_toArray, List.set_cons_zero, List.set_cons_succ, i64_w, i32_w]
    rfl
  refine pure_ (i := 6) (N := some 14) (v := ?_) (a' := ?_) #[true, false, true, false, true, false, true, false, false, false, false, false, false, false, false, false, false, false, false, false, false, false, false] rfl rfl (any_of HT_.out (by kernel_rfl)) (fun _ _ _ h => h) (Or.inl ⟨by rfl, ?_⟩) ?_ ?_
  rotate_left
  · intro w'
    go_simp
    with_reducible rfl
  rotate_left
  · simp only [Act.put, List.setIfInBounds_toArray, List.set_cons_zero, List.set_cons_succ, i64_w, i32_w]
    rfl
  refine pure_ (i := 8) (N := some 16) (v := ?_) (a' := ?_) #[true, false, true, false, true, false, true, false, true, false, false, false, false, false, false, false, false, false, false, false, false, false, false] rfl rfl (any_of HT_.out (by kernel_rfl)) (fun _ _ _ h => h) (Or.inl ⟨by rfl, ?_⟩) ?_ ?_
  rotate_left
  · intro w'
    go_simp
    with_reducible rfl
  rotate_left
  · simp only [Act.put, List.setIfInBounds_toArray, List.set_cons_zero, List.set_cons_succ, i64_w, i32_w]
    rfl
  refine pure_ (i := 10) (N := some 18) (v := ?_) (a' := ?_) #[true, false, true, false, true, false, true, false, true, false, true, false, false, false, false, false, false, false, false, false, false, false, false] rfl rfl (any_of HT_.out (by kernel_rfl)) (fun _ _ _ h => h) (Or.inl ⟨by rfl, ?_⟩) ?_ ?_
  rotate_left
  · intro w'
    go_simp
    with_reducible rfl
  rotate_left
  · simp only [Act.put, List.setIfInBounds_toArray, List.set_cons_zero, List.set_cons_succ, i64_w, i32_w]
    rfl
  refine pure_ (i := 12) (N := some 20) (v := ?_) (a' := ?_) #[true, false, true, false, true, false, true, false, true, false, true, false, true, false, false, false, false, false, false, false, false, false, false] rfl rfl (any_of HT_.out (by kernel_rfl)) (fun _ _ _ h => h) (Or.inl ⟨by rfl, ?_⟩) ?_ ?_
  rotate_left
  · intro w'
    go_simp
    with_reducible rfl
  rotate_left
  · simp only [Act.put, List.setIfInBounds_toArray, List.set_cons_zero, List.set_cons_succ, i64_w, i32_w]
    rfl
  refine pure_ (i := 14) (N := some 22) (v := ?_) (a' := ?_) #[true, false, true, false, true, false, true, false, true, false, true, false, true, false, true, false, false, false, false, false, false, false, false] rfl rfl (any_of HT_.out (by kernel_rfl)) (fun _ _ _ h => h) (Or.inl ⟨by rfl, ?_⟩) ?_ ?_
  rotate_left
  · intro w'
    go_simp
    with_reducible rfl
  rotate_left
  · simp only [Act.put, List.setIfInBounds_toArray, List.set_cons_zero, List.set_cons_succ, i64_w, i32_w]
    rfl
  refine take_ (i := 1) (N := some 9) (v := ?_) (a' := ?_) #[true, true, true, false, true, false, true, false, true, false, true, false, true, false, true, false, false, false, false, false, false, false, false] rfl rfl (take_ofW HT_.out HW_.out (by kernel_rfl)) (fun _ _ _ h => h) (Or.inl ⟨by rfl, ?_⟩) hHeld ?_ ?_
  rotate_left
  · intro w' hS
    have x0 : w'.cell? ⟨g1, 0, none⟩ = some (.string t) := (blk_cell hS.b1 0).trans rfl
    have x1 : w'.cell? ⟨g1, 1, none⟩ = some (.slice A1 ps.length c1) := (blk_cell hS.b1 1).trans rfl
    have x2 : w'.cell? ⟨g1, 2, none⟩ = some (.slice A2 ns.length c2) := (blk_cell hS.b1 2).trans rfl
    have y0 : w'.cell? ⟨g2, 0, none⟩ = some (.string t) := (blk_cell hS.b2 0).trans rfl
    have y1 : w'.cell? ⟨g2, 1, none⟩ = some (.slice A ps.length (ps.length + 2)) := (blk_cell hS.b2 1).trans rfl
    have y2 : w'.cell? ⟨g2, 2, none⟩ = some (.slice B ns.length (ns.length + 2)) := (blk_cell hS.b2 2).trans rfl
    clear hS
    go_simp
    with_reducible rfl
  rotate_left
  · simp only [Act.put, List.setIfInBounds_toArray, List.set_cons_zero, List.set_cons_succ, i64_w, i32_w]
    rfl
  refine take_ (i := 3) (N := some 11) (v := ?_) (a' := ?_) #[true, true, true, true, true, false, true, false, true, false, true, false, true, false, true, false, false, false, false, false, false, false, false] rfl rfl (take_ofW HT_.out HW_.out (by kernel_rfl)) (fun _ _ _ h => h) (Or.inl ⟨by rfl, ?_⟩) hHeld ?_ ?_
  rotate_left
  · intro w' hS
    have x0 : w'.cell? ⟨g1, 0, none⟩ = some (.string t) := (blk_cell hS.b1 0).trans rfl
    have x1 : w'.cell? ⟨g1, 1, none⟩ = some (.slice A1 ps.length c1) := (blk_cell hS.b1 1).trans rfl
    have x2 : w'.cell? ⟨g1, 2, none⟩ = some (.slice A2 ns.length c2) := (blk_cell hS.b1 2).trans rfl
    have y0 : w'.cell? ⟨g2, 0, none⟩ = some (.string t) := (blk_cell hS.b2 0).trans rfl
    have y1 : w'.cell? ⟨g2, 1, none⟩ = some (.slice A ps.length (ps.length + 2)) := (blk_cell hS.b2 1).trans rfl
    have y2 : w'.cell? ⟨g2, 2, none⟩ = some (.slice B ns.length (ns.length + 2)) := (blk_cell hS.b2 2).trans rfl
    clear hS
    go_simp
    with_reducible rfl
  rotate_left
  · simp only [Act.put, List.setIfInBounds_toArray, List.set_cons_zero, List.set_cons_succ, i64_w, i32_w]
    rfl
  refine take_ (i := 5) (N := some 13) (v := ?_) (a' := ?_) #[true, true, true, true, true, true, true, false, true, false, true, false, true, false, true, false, false, false, false, false, false, false, false] rfl rfl (take_ofW HT_.out HW_.out (by kernel_rfl)) (fun _ _ _ h => h) (Or.inl ⟨by rfl, ?_⟩) hHeld ?_ ?_
  rotate_left
  · intro w' hS
    have x0 : w'.cell? ⟨g1, 0, none⟩ = some (.string t) := (blk_cell hS.b1 0).trans rfl
    have x1 : w'.cell? ⟨g1, 1, none⟩ = some (.slice A1 ps.length c1) := (blk_cell hS.b1 1).trans rfl
    have x2 : w'.cell? ⟨g1, 2, none⟩ = some (.slice A2 ns.length c2) := (blk_cell hS.b1 2).trans rfl
    have y0 : w'.cell? ⟨g2, 0, none⟩ = some (.string t) := (blk_cell hS.b2 0).trans rfl
    have y1 : w'.cell? ⟨g2, 1, none⟩ = some (.slice A ps.length (ps.length + 2)) := (blk_cell hS.b2 1).trans rfl
    have y2 : w'.cell? ⟨g2, 2, none⟩ = some (.slice B ns.length (ns.length + 2)) := (blk_cell hS.b2 2).trans rfl
    clear hS
    go_simp
    with_reducible rfl
  rotate_left
  · simp only [Act.put, List.setIfInBounds_toArray, List.set_cons_zero, List.set_cons_succ, i64_w, i32_w]
    rfl
  refine take_ (i := 9) (N := some 17) (v := ?_) (a' := ?_) #[true, true, true, true, true, true, true, false, true, true, true, false, true, false, true, false, false, false, false, false, false, false, false] rfl rfl (take_ofW HT_.out HW_.out (by kernel_rfl)) (fun _ _ _ h => h) (Or.inl ⟨by rfl, ?_⟩) hHeld ?_ ?_
  rotate_left
  · intro w' hS
    have x0 : w'.cell? ⟨g1, 0, none⟩ = some (.string t) := (blk_cell hS.b1 0).trans rfl
    have x1 : w'.cell? ⟨g1, 1, none⟩ = some (.slice A1 ps.length c1) := (blk_cell hS.b1 1).trans rfl
    have x2 : w'.cell? ⟨g1, 2, none⟩ = some (.slice A2 ns.length c2) := (blk_cell hS.b1 2).trans rfl
    have y0 : w'.cell? ⟨g2, 0, none⟩ = some (.string t) := (blk_cell hS.b2 0).trans rfl
    have y1 : w'.cell? ⟨g2, 1, none⟩ = some (.slice A ps.length (ps.length + 2)) := (blk_cell hS.b2 1).trans rfl
    have y2 : w'.cell? ⟨g2, 2, none⟩ = some (.slice B ns.length (ns.length + 2)) := (blk_cell hS.b2 2).trans rfl
    clear hS
    go_simp
    with_reducible rfl
  rotate_left
  · simp only [Act.put, List.setIfInBounds_toArray, List.set_cons_zero, List.set_cons_succ, i64_w, i32_w]
    rfl
  refine take_ (i := 11) (N := some 19) (v := ?_) (a' := ?_) #[true, true, true, true, true, true, true, false, true, true, true, true, true, false, true, false, false, false, false, false, false, false, false] rfl rfl (take_ofW HT_.out HW_.out (by kernel_rfl)) (fun _ _ _ h => h) (Or.inl ⟨by rfl, ?_⟩) hHeld ?_ ?_
  rotate_left
  · intro w' hS
    have x0 : w'.cell? ⟨g1, 0, none⟩ = some (.string t) := (blk_cell hS.b1 0).trans rfl
    have x1 : w'.cell? ⟨g1, 1, none⟩ = some (.slice A1 ps.length c1) := (blk_cell hS.b1 1).trans rfl
    have x2 : w'.cell? ⟨g1, 2, none⟩ = some (.slice A2 ns.length c2) := (blk_cell hS.b1 2).trans rfl
    have y0 : w'.cell? ⟨g2, 0, none⟩ = some (.string t) := (blk_cell hS.b2 0).trans rfl
    have y1 : w'.cell? ⟨g2, 1, none⟩ = some (.slice A ps.length (ps.length + 2)) := (blk_cell hS.b2 1).trans rfl
    have y2 : w'.cell? ⟨g2, 2, none⟩ = some (.slice B ns.length (ns.length + 2)) := (blk_cell hS.b2 2).trans rfl
    clear hS
    go_simp
    with_reducible rfl
  rotate_left
  · simp only [Act.put, List.setIfInBounds_toArray, List.set_cons_zero, List.set_cons_succ, i64_w, i32_w]
    rfl
  refine take_ (i := 13) (N := some 21) (v := ?_) (a' := ?_) #[true, true, true, true, true, true, true, false, true, true, true, true, true, true, true, false, false, false, false, false, false, false, false] rfl rfl (take_ofW HT_.out HW_.out (by kernel_rfl)) (fun _ _ _ h => h) (Or.inl ⟨by rfl, ?_⟩) hHeld ?_ ?_
  rotate_left
  · intro w' hS
    have x0 : w'.cell? ⟨g1, 0, none⟩ = some (.string t) := (blk_cell hS.b1 0).trans rfl
    have x1 : w'.cell? ⟨g1, 1, none⟩ = some (.slice A1 ps.length c1) := (blk_cell hS.b1 1).trans rfl
    have x2 : w'.cell? ⟨g1, 2, none⟩ = some (.slice A2 ns.length c2) := (blk_cell hS.b1 2).trans rfl
    have y0 : w'.cell? ⟨g2, 0, none⟩ = some (.string t) := (blk_cell hS.b2 0).trans rfl
    have y1 : w'.cell? ⟨g2, 1, none⟩ = some (.slice A ps.length (ps.length + 2)) := (blk_cell hS.b2 1).trans rfl
    have y2 : w'.cell? ⟨g2, 2, none⟩ = some (.slice B ns.length (ns.length + 2)) := (blk_cell hS.b2 2).trans rfl
    clear hS
    go_simp
    with_reducible rfl
  rotate_left
  · simp only [Act.put, List.setIfInBounds_toArray, List.set_cons_zero, List.set_cons_succ, i64_w, i32_w]
    rfl
  refine one_ (i := 7) (N := some 15) #[true, true, true, true, true, true, true, true, true, true, true, true, true, true, true, false, false, false, false, false, false, false, false] rfl rfl (one_of HT_.out (by kernel_rfl)) (by decide) (fun K hK => ?_)
  refine goes_ Try.func29 (by kernel_rfl) rfl #[.string t, .slice A ps.length (ps.length + 2), .agg #[.slice B ns.length (ns.length + 2)], .int .i64 n] (by rfl) rfl rfl (by (try simp only [List.map_toArray, List.map_cons, List.map_nil]); first | done | rfl) ?_
  refine (tree_Text.calls k t A (ps.length + 2) ps B (ns.length + 2) ns n r _ (C_lent61 hHeld.l1) (by omega) (C_lent47 hHeld.l2) (by omega) HK.out).mono ?_
  rintro e w' ⟨rfl, hb⟩
  refine ⟨_, rfl, ?_⟩
  have hH := Hold.below hHeld hb
  clear hHeld hb
  refine hK.out _ _ hH (fun hHeld => ?_)
  clear hH
  clear hK K
  refine norm_ (a' := ?_) ?_ ?_
  rotate_left
  · show Act.put _ (some 15) _ = _
    simp only [Act.put, List.setIfInBounds_toArray, List.set_cons_zero, List.set_cons_succ, i64_w, i32_w]
    rfl
  refine one_ (i := 15) (N := some 23) #[true, true, true, true, true, true, true, true, true, true, true, true, true, true, true, true, false, false, false, false, false, false, false] rfl rfl (one_of HT_.out (by kernel_rfl)) (by decide) (fun K hK => ?_)
  refine goes_ Try.func30 (by kernel_rfl) rfl #[.string t, .slice A1 ps.length c1, .agg #[.slice A2 ns.length c2], .int .i64 n] (by rfl) rfl rfl (by (try simp only [List.map_toArray, List.map_cons, List.map_nil]); first | done | rfl) ?_
  refine (monikerref4_Text.calls k' t A1 c1 ps A2 c2 ns n r _ hHeld.r1 HC1.out hHeld.r2 HC2.out HK'.out).mono ?_
  rintro e w' ⟨rfl, hb⟩
  refine ⟨_, rfl, ?_⟩
  have hH := Hold.below hHeld hb
  clear hHeld hb
  refine hK.out _ _ hH (fun hHeld => ?_)
  clear hH
  clear hK K
  refine norm_ (a' := ?_) ?_ ?_
  rotate_left
  · show Act.put _ (some 23) _ = _
    simp only [Act.put, List.setIfInBounds_toArray, List.set_cons_zero, List.set_cons_succ, i64_w, i32_w]
    rfl
  refine pure_ (i := 16) (N := some 24) (v := ?_) (a' := ?_) #[true, true, true, true, true, true, true, true, true, true, true, true, true, true, true, true, true, false, false, false, false, false, false] rfl rfl (any_of HT_.out (by kernel_rfl)) (fun _ _ _ h => h) (Or.inl ⟨by rfl, ?_⟩) ?_ ?_
  rotate_left
  · intro w'
    go_simp
    with_reducible rfl
  rotate_left
  · simp only [Act.put, List.setIfInBounds_toArray, List.set_cons_zero, List.set_cons_succ, i64_w, i32_w]
    rfl
  refine pure_ (i := 17) (N := some 25) (v := ?_) (a' := ?_) #[true, true, true, true, true, true, true, true, true, true, true, true, true, true, true, true, true, true, false, false, false, false, false] rfl rfl (any_of HT_.out (by kernel_rfl)) (fun _ _ _ h => h) (Or.inl ⟨by rfl, ?_⟩) ?_ ?_
  rotate_left
  · intro w'
    go_simp
    with_reducible rfl
  rotate_left
  · simp only [Act.put, List.setIfInBounds_toArray, List.set_cons_zero, List.set_cons_succ, i64_w, i32_w]
    rfl
  refine take_ (i := 18) (N := some 26) (v := ?_) (a' := ?_) #[true, true, true, true, true, true, true, true, true, true, true, true, true, true, true, true, true, true, true, false, false, false, false] rfl rfl (take_ofW HT_.out HW_.out (by kernel_rfl)) (fun _ _ _ h => h) (Or.inl ⟨by rfl, ?_⟩) hHeld ?_ ?_
  rotate_left
  · intro w' hS
    have x0 : w'.cell? ⟨g1, 0, none⟩ = some (.string t) := (blk_cell hS.b1 0).trans rfl
    have x1 : w'.cell? ⟨g1, 1, none⟩ = some (.slice A1 ps.length c1) := (blk_cell hS.b1 1).trans rfl
    have x2 : w'.cell? ⟨g1, 2, none⟩ = some (.slice A2 ns.length c2) := (blk_cell hS.b1 2).trans rfl
    have y0 : w'.cell? ⟨g2, 0, none⟩ = some (.string t) := (blk_cell hS.b2 0).trans rfl
    have y1 : w'.cell? ⟨g2, 1, none⟩ = some (.slice A ps.length (ps.length + 2)) := (blk_cell hS.b2 1).trans rfl
    have y2 : w'.cell? ⟨g2, 2, none⟩ = some (.slice B ns.length (ns.length + 2)) := (blk_cell hS.b2 2).trans rfl
    clear hS
    go_simp
    with_reducible rfl
  rotate_left
  · simp only [Act.put, List.setIfInBounds_toArray, List.set_cons_zero, List.set_cons_succ, i64_w, i32_w]
    rfl
  refine take_ (i := 19) (N := some 27) (v := ?_) (a' := ?_) #[true, true, true, true, true, true, true, true, true, true, true, true, true, true, true, true, true, true, true, true, false, false, false] rfl rfl (take_ofW HT_.out HW_.out (by kernel_rfl)) (fun _ _ _ h => h) (Or.inl ⟨by rfl, ?_⟩) hHeld ?_ ?_
  rotate_left
  · intro w' hS
    have x0 : w'.cell? ⟨g1, 0, none⟩ = some (.string t) := (blk_cell hS.b1 0).trans rfl
    have x1 : w'.cell? ⟨g1, 1, none⟩ = some (.slice A1 ps.length c1) := (blk_cell hS.b1 1).trans rfl
    have x2 : w'.cell? ⟨g1, 2, none⟩ = some (.slice A2 ns.length c2) := (blk_cell hS.b1 2).trans rfl
    have y0 : w'.cell? ⟨g2, 0, none⟩ = some (.string t) := (blk_cell hS.b2 0).trans rfl
    have y1 : w'.cell? ⟨g2, 1, none⟩ = some (.slice A ps.length (ps.length + 2)) := (blk_cell hS.b2 1).trans rfl
    have y2 : w'.cell? ⟨g2, 2, none⟩ = some (.slice B ns.length (ns.length + 2)) := (blk_cell hS.b2 2).trans rfl
    clear hS
    go_simp
    with_reducible rfl
  rotate_left
  · simp only [Act.put, List.setIfInBounds_toArray, List.set_cons_zero, List.set_cons_succ, i64_w, i32_w]
    rfl
  refine one_ (i := 20) (N := some 28) #[true, true, true, true, true, true, true, true, true, true, true, true, true, true, true, true, true, true, true, true, true, false, false] rfl rfl (one_of HT_.out (by kernel_rfl)) (by decide) (fun K hK => ?_)
  refine goes_ Try.func21 (by kernel_rfl) rfl #[.agg #[.string t, .slice A ps.length (ps.length + 2), .slice B ns.length (ns.length + 2)], .agg #[.string t, .slice A1 ps.length c1, .slice A2 ns.length c2]] (by rfl) rfl rfl (by (try simp only [List.map_toArray, List.map_cons, List.map_nil]); first | done | rfl) ?_
  refine (kept_calls t t A B A1 A2 c1 c2 ps ns _ hHeld.l1 hHeld.l2 hHeld.r1 HC1.out hHeld.r2 HC2.out (by omega) (by omega)).mono ?_
  rintro e w' ⟨rfl, hb⟩
  refine ⟨_, rfl, ?_⟩
  have hH := Hold.below hHeld hb
  clear hHeld hb
  refine hK.out _ _ hH (fun hHeld => ?_)
  clear hH
  clear hK K
  refine norm_ (a' := ?_) ?_ ?_
  rotate_left
  · show Act.put _ (some 28) _ = _
    simp only [Act.put, List.setIfInBounds_toArray, List.set_cons_zero, List.set_cons_succ, i64_w, i32_w]
    rfl
  refine pure_ (i := 21) (N := some 29) (v := ?_) (a' := ?_) #[true, true, true, true, true, true, true, true, true, true, true, true, true, true, true, true, true, true, true, true, true, true, false] rfl rfl (any_of HT_.out (by kernel_rfl)) (fun _ _ _ h => h) (Or.inl ⟨by rfl, ?_⟩) ?_ ?_
  rotate_left
  · intro w'
    go_simp
    with_reducible rfl
  rotate_left
  · simp only [Act.put, List.setIfInBounds_toArray, List.set_cons_zero, List.set_cons_succ, i64_w, i32_w]
    rfl
  refine pure_ (i := 22) (N := some 4) (v := ?_) (a' := ?_) #[true, true, true, true, true, true, true, true, true, true, true, true, true, true, true, true, true, true, true, true, true, true, true] rfl rfl (any_of HT_.out (by kernel_rfl)) (fun _ _ _ h => h) (Or.inl ⟨by rfl, ?_⟩) ?_ ?_
  rotate_left
  · intro w'
    go_simp
    with_reducible rfl
  rotate_left
  · simp only [Act.put, List.setIfInBounds_toArray, List.set_cons_zero, List.set_cons_succ, i64_w, i32_w]
    rfl
  refine done_ (done_of HT_.out (by kernel_rfl)) ?_
  go_wp2
  go_ret
  exact ⟨rfl, hHeld.be⟩
end Go.Proofs.Ytodldpdnhcafpaa.L


namespace Go.Proofs.Ytodldpdnhcafpaa.treeTexts
open Go.ChangeShapes Go.WideShapes Go.ChangeAt Go.RowKit Go.Proofs.Ytodldpdnhcafpaa
open Go.ChangeMaps (open_string shut_string)
set_option linter.unusedVariables false
theorem own : ownKnob Try.prog.godebug = none := by kernel_rfl
theorem laidOut : laidOutB Try.prog = true := by kernel_rfl
set_option maxRecDepth 100000 in
theorem lifted (os : Os) (started : os.Started) (H : Type) (enc : TypeId × Value → H) (F : Stop.Interp) :
    ReturnsInHanded {} Try.checked os 8 .any ((Rows.OpenSpec.upto Rows.treeTextsSpec).pre6 enc Try.prog Try.f8 Rows.treeTextsUptoRow.domain false) (((Rows.OpenSpec.upto Rows.treeTextsSpec).at F).post enc Try.prog Try.f8 false true false false) := by
  refine O.returns_upto (k := Rows.uptoSmall) (s := Rows.OpenSpec.upto Rows.treeTextsSpec) rfl (C := Try.checked) own started (by kernel_rfl) Try.func8
    (O.witnessU (enc := enc) (C := Try.checked) (s := Rows.OpenSpec.upto Rows.treeTextsSpec) rfl false ⟨#[], #[.agg #[.string ByteArray.empty, .slice none 0 0, .slice none 0 0], .int .i64 0], []⟩ 8 (by kernel_rfl) (by kernel_rfl) (by kernel_rfl) (by kernel_rfl) (by kernel_rfl)) ?_
  intro W base args ds gs before hval0 hW hcnd hk0 hsz0 _
  have hsz : (DataW.weightsEach Try.prog (Try.f8.params.toList ++ Rows.treeTextsSpec.plain.varTypes Try.prog) (ds ++ gs)).all (· ≤ reachBytes) = true := hsz0
  have hval : ∀ (j : Nat) t v, Try.f8.params[j]? = some t → args[j]? = some v → Value.okWide Try.prog W .any base t v := hval0
  have hW' := hW
  obtain ⟨p, q, hA0, hV, rfl, hfz, hnd⟩ := hW
  have hA : DataW.TrodAll enc Try.prog W 0 (fun _ => true) true Try.f8.params.toList args.toList ds p := hA0
  rw [Try.params8] at hA hval hsz
  obtain ⟨v0, vs0, d0, ds0, p0, q0, hargs, rfl, rfl, h0, r0⟩ := trodAll_cons hA
  obtain ⟨v1, vs1, d1, ds1, p1, q1, rfl, rfl, rfl, h1, r1⟩ := trodAll_cons r0
  obtain ⟨rfl, rfl, rfl⟩ := trodAll_nil r1
  obtain rfl : args = #[v0, v1] := by cases args; simp_all
  obtain ⟨rfl, rfl⟩ := trodVars_none hV
  have hbulk : Rows.uptoBulkAll ([d0, d1] ++ []) ≤ 1048576 := of_decide_eq_true hk0
  simp only [List.append_nil, Rows.uptoBulkAll, Nat.add_zero] at hbulk
  have k0 := h0
  have lt0 : ∀ x ∈ p0, x.block < W.heap.size := by obtain ⟨m, hm⟩ := k0; exact DataW.trod_lt m _ _ _ hm
  have hq0 : ∀ n ∈ DataW.weights Try.prog 27 d0, n ≤ reachBytes := fun n hn => of_decide_eq_true (List.all_eq_true.1 hsz n (DataW.weights_mem_each (j := 0) rfl rfl n hn))
  obtain ⟨t0, A0, c0, l0, B0, e0, m0, rfl, hf0_0, hf0_1, hf0_2, hf0_3, hf0_4, hf0_5, hf0_6, hf0_7, hf0_8, hf0_9, hf0_10, hm0⟩ := Go.Proofs.Ytodldpdnhcafpaa.H.open27U (hval 0 27 v0 rfl rfl) h0 hq0
  obtain ⟨a1, rfl, rfl, rfl, w1⟩ := open_int Try.underlying3 (hval 1 3 v1 rfl rfl) h1
  have hm1 : 1 ≤ Rows.uptoBulk (DataW.lit (H := H) (.int .i64 a1)) := by simp only [Rows.uptoBulk]; exact Nat.le_refl _
  clear hA0 hval0 hsz0 hsz
  refine (L.texts_walk t0 A0 c0 l0 B0 e0 m0 a1 W hf0_0 hf0_1 hf0_2 hf0_3 hf0_4 hf0_5 hf0_6 hf0_7 hf0_8 hf0_9 hf0_10 w1 (Nat.le_trans (Nat.add_le_add hm0 hm1) hbulk)).mono fun e W' ⟨he, bel⟩ => ?_
  subst he
  exact ⟨_, rfl, _, _, _, [], _, [], hW', trodAll_mk1 (shut_bool Try.underlying4 _), (trodAll_cons_mk (Below.trod laidOut (by kernel_rfl) (of_decide_eq_true (by kernel_rfl)) k0 bel lt0) (trodAll_cons_mk (shut_int Try.underlying3 w1) trodAll_mk0)), rfl, bel.frame _, fun h => by cases h⟩
theorem over : Rows.treeTextsUptoRow.holds Try.pinned (Rows.OpenSpec.upto Rows.treeTextsSpec) :=
  OpenClaim.holds_of_cond 8 Try.f8 rfl rfl rfl rfl rfl rfl rfl ⟨rfl, rfl, rfl, rfl, rfl⟩ rfl rfl rfl rfl rfl (by kernel_rfl) Try.func8 (by kernel_rfl)
    (of_decide_eq_true (by kernel_rfl)) (by unfold Func.isWrapper; first | (rw [if_pos (by decide +kernel)]; kernel_rfl) | (rw [if_neg (by decide +kernel)]; exact ⟨rfl, rfl⟩))
    (fun os started H enc _ F => lifted os started H enc F)
theorem proved : Rows.TreeTextsUptoSaid := over
#print axioms proved
end Go.Proofs.Ytodldpdnhcafpaa.treeTexts
namespace Go.Proofs.Ytodldpdnhcafpaa
/-- The row, under a short name, for the claim. -/
theorem treeTexts_holds : Rows.TreeTextsUptoSaid := treeTexts.proved
end Go.Proofs.Ytodldpdnhcafpaa
