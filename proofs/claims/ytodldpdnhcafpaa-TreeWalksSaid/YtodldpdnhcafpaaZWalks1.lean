/- The law TreeWalks of package monikerlaw holds of the given program: called with any arguments that can be read as data it returns true, and its arguments read behind the call as before. Conditions: those of the given row, no others. -/
import Derived.Test.YtodldpdnhcafpaaZWalks0
import Derived.Test.YtodldpdnhcafpaaRows
import Derived.WalkKit
import Derived.ProofKit
import Derived.OpenShut
import Derived.ShutString
import Derived.ChangeOld
import Derived.Below
import Derived.SizedLaws
-- made by wip/mklwalks.py
namespace Go.Proofs.Ytodldpdnhcafpaa.L
open Go.RowKit Go.Shelf Go.Proofs.YtodldpdnhcafpaaW.PrintWords Go.Proofs.YtodldpdnhcafpaaW.PrintLast Go.Proofs.YtodldpdnhcafpaaW.PrintMore
open Go.Proofs.Ytodldpdnhcafpaa.F Go.Proofs.Ytodldpdnhcafpaa.H Go.Proofs.Ytodldpdnhcafpaa.K
attribute [local go_sem] Oper.semAt_some
set_option linter.unusedVariables false
set_option linter.unusedSimpArgs false
def walks_walk.T2 : Bool × List (List Nat × List Nat) := (true, [([], []), ([0], [0]), ([], []), ([], []), ([3], [3]), ([1, 2, 4, 4], [1, 2, 4]), ([5, 5, 0, 1, 2, 3, 4, 5], [5])])
def walks_walk.B2 : List Nat := [0, 1, 0, 0, 8, 31, 63]
theorem walks_walk.tab2 : rtab .any (opsOf Try.f5 2) = walks_walk.T2 := by kernel_rfl
theorem walks_walk.bits2 : waitsOk walks_walk.T2.2 walks_walk.B2 = true := by kernel_rfl
def walks_walk.T13 : Bool × List (List Nat × List Nat) := (true, [([], []), ([], []), ([1], [1]), ([], []), ([], []), ([2, 3, 4], [2, 3, 4]), ([0, 5, 5], [0, 5]), ([6], [6])])
def walks_walk.B13 : List Nat := [0, 0, 2, 0, 0, 30, 63, 127]
theorem walks_walk.tab13 : rtab .any (opsOf Try.f5 13) = walks_walk.T13 := by kernel_rfl
theorem walks_walk.bits13 : waitsOk walks_walk.T13.2 walks_walk.B13 = true := by kernel_rfl
def walks_walk.T23 : Bool × List (List Nat × List Nat) := (true, [([], []), ([], []), ([1], [1]), ([], []), ([], []), ([2, 3, 4], [2, 3, 4]), ([0, 5, 5], [0, 5]), ([6], [6])])
def walks_walk.B23 : List Nat := [0, 0, 2, 0, 0, 30, 63, 127]
theorem walks_walk.tab23 : rtab .any (opsOf Try.f5 23) = walks_walk.T23 := by kernel_rfl
theorem walks_walk.bits23 : waitsOk walks_walk.T23.2 walks_walk.B23 = true := by kernel_rfl
/-- What lies in got's box, and what has lain since the loops began. -/
def WGot (w5 : World) (gB : Nat) (Av : Option Addr) (cv : Nat) (ws : List Int) (ds : List Nat) (w' : World) : Prop :=
  Below w5.heap.size w5 w' ∧ w'.heap[gB]? = some (.cells #[.slice Av ws.length cv] 33 (0, 0)) ∧ Kd.C (Kd.int .i64) w' Av ws.length ws ∧ ∀ D ∈ ds, w'.heap[D]? = some (.deferred (some []))
theorem WGot.below {w5 : World} {gB : Nat} {Av : Option Addr} {cv : Nat} {ws : List Int} {ds : List Nat} {w' w'' : World} (h : WGot w5 gB Av cv ws ds w') (hb : Below w'.heap.size w' w'') : WGot w5 gB Av cv ws ds w'' :=
  ⟨below_step h.1 hb, blk_below h.2.1 hb, Kd.C_below h.2.2.1 hb, fun D hD => blk_below (h.2.2.2 D hD) hb⟩
theorem fn38 (W : World) (lb : Array Value) : (binOp BinOp.eql 38 (Value.func (.func 50) #[] lb) Value.nilFunc).run Try.prog W = .ok (.bool false) W := by
  first | rfl | (simp [binOp, go_sem, Try.underlying38]; done)
set_option maxHeartbeats 4000000 in
set_option maxRecDepth 100000 in
theorem walks_walk (t : ByteArray) (A1 : Option Addr) (c1 : Nat) (ps : List S61) (A2 : Option Addr) (c2 : Nat) (ns : List S47) (n bits stop : Int) (w : World)
    (hs : t.size ≤ 140737488351232) (hr1 : Kd.C k61 w A1 ps.length ps) (hc1 : ps.length ≤ c1) (hn1 : A1 = none → c1 = 0) (hB1 : ∀ x ∈ ps, B61 x) (hb1 : ps.length * 24 ≤ 140737488351232)
    (hr2 : Kd.C k47 w A2 ns.length ns) (hc2 : ns.length ≤ c2) (hn2 : A2 = none → c2 = 0) (hB2 : ∀ x ∈ ns, B47 x) (hb2 : ns.length * 32 ≤ 140737488351232)
    (hw1 : (Lit.int .i64 n).wf = true) (hw2 : (Lit.int .u64 bits).wf = true) (hw3 : (Lit.int .i64 stop).wf = true) :
    Calls Try.prog 5 #[.agg #[.string t, .slice A1 ps.length c1, .slice A2 ns.length c2], .int .i64 n, .int .u64 bits, .int .i64 stop] w fun e w' => e = .returned (.bool true) ∧ Below w.heap.size w w' := by
  have hu3 := Try.underlying3
  have hu25 := Try.underlying25
  have hu27 := Try.underlying27
  have hu33 := Try.underlying33
  have hu36 := Try.underlying36
  have hu38 := Try.underlying38
  obtain ⟨k1, hk1⟩ := (Q.RWalk_all ns (by omega) bits n).rounds
  obtain ⟨k2, hk2⟩ := (Q.RWalk_upto ns (by omega) stop n).rounds
  obtain ⟨ws1, hws1⟩ : ∃ ws, walkOf ns (chB bits) n = ws := ⟨_, rfl⟩
  obtain ⟨wu, hwu⟩ : ∃ ws, Q.upto (Q.wantOf stop) [] (walkOf ns (fun _ => false) n) = ws := ⟨_, rfl⟩
  rw [hws1] at hk1
  rw [hwu] at hk2
  have HWS1 := Aside0.mk hws1
  have HWU := Aside0.mk hwu
  clear hws1 hwu
  have HK1 := Aside0.mk hk1
  have HK2 := Aside0.mk hk2
  have HNL := Aside0.mk (show ns.length ≤ 4398046511104 by omega)
  have HR1 := Aside0.mk hr1
  have HR2 := Aside0.mk hr2
  have HC1 := Aside0.mk hc1
  have HC2 := Aside0.mk hc2
  have HN1 := Aside0.mk hn1
  have HN2 := Aside0.mk hn2
  clear hr1 hr2 hc1 hc2 hn1 hn2 hB1 hB2 hk1 hk2 hw1 hw2 hw3
  refine (callsIn_wide (n := 3)).1 ?_
  refine callsIn_of_wp_marks Try.func5 rfl trivial ?_ rfl
  simp only [Try.ntmps5, List.size_toArray, List.length_cons, List.length_nil, Nat.reduceAdd, Nat.reduceSub, Array.replicate_succ, Array.replicate_zero, List.push_toArray, List.append_toArray, List.nil_append, List.cons_append]
  refine wpIn_wide.2 ?_
  go_wp2_with (first
    | ((with_reducible refine gate_dst (N := 4) rfl ?_); refine box_event ?hgg1 (N := 4) ?hdg1 (cs := #[.string t, .slice A1 ps.length c1, .slice A2 ns.length c2]) (t := 27) ?hrg1 ?_; (case hdg1 => rfl); (case hgg1 => rfl); (case hrg1 => first | (go_simp; done) | (go_simp; rfl)); intro g1 hge w1 hbox hb; have BK1 := Aside0.mk hbox; have HB := Aside0.mk hb; have HB0 := Aside0.mk hb; clear hbox hge hb)
    | ((with_reducible refine gate_dst (N := 7) rfl ?_); refine box_event ?hg7 (N := 7) ?hd7 (cs := #[.int .i64 stop]) (t := 3) ?hr7 ?_; (case hd7 => rfl); (case hg7 => rfl); (case hr7 => first | (go_simp; done) | (go_simp; rfl)); intro g7 hge w1' hbox hb; have n1_ := Aside0.mk (blk_below BK1.out hb); have n2_ := Aside0.mk (below_step HB.out hb); clear BK1 HB; have BK1 := n1_; have HB := n2_; clear n1_ n2_; have BS := Aside0.mk hbox; have GE7 := Aside0.mk (show w.heap.size ≤ g7 by rw [hge]; exact HB0.out.size); clear hbox hge hb; have hx0 : w1'.cell? ⟨g1, 0, none⟩ = some (.string t) := (blk_cell BK1.out 0).trans rfl; have hx1 : w1'.cell? ⟨g1, 1, none⟩ = some (.slice A1 ps.length c1) := (blk_cell BK1.out 1).trans rfl; have hx2 : w1'.cell? ⟨g1, 2, none⟩ = some (.slice A2 ns.length c2) := (blk_cell BK1.out 2).trans rfl))
  refine (lent_calls t A1 c1 ps A2 c2 ns _ (Kd.C_below HR1.out HB.out) HC1.out HN1.out hb1 (Kd.C_below HR2.out HB.out) HC2.out HN2.out hb2).mono ?_
  rintro e w2 ⟨A, B, rfl, hL1, hL2, hb⟩
  have HL1 := Aside0.mk hL1
  have HL2 := Aside0.mk hL2
  have n1_ := Aside0.mk (blk_below BK1.out hb)
  have n2_ := Aside0.mk (below_step HB.out hb)
  have n3_ := Aside0.mk (blk_below BS.out hb)
  clear BK1 HB BS HB0 hx0 hx1 hx2 hL1 hL2 hb
  have BK1 := n1_
  have HB := n2_
  clear n1_ n2_
  have BS := n3_
  clear n3_
  go_wp2_with (first
    | ((with_reducible refine gate_dst (N := 9) rfl ?_); refine box_event ?hgg2 (N := 9) ?hdg2 (cs := #[.string ⟨#[]⟩, .slice none 0 0, .slice none 0 0]) (t := 27) ?hrg2 ?_; (case hdg2 => rfl); (case hgg2 => rfl); (case hrg2 => first | (go_simp; done) | (go_simp; rfl)); intro g2 hge w3 hbox hb; have BK2 := Aside0.mk hbox; have GE2 := Aside0.mk (show w.heap.size ≤ g2 by rw [hge]; exact HB.out.size); have NE := Aside0.mk (show g1 ≠ g2 by rw [hge]; exact Nat.ne_of_lt (blk_lt BK1.out)); have GL := Aside0.mk (show w2.heap.size ≤ g2 by rw [hge]; exact Nat.le_refl _); have HB3 := Aside0.mk hb; clear hbox hge hb; have hy0 : w3.cell? ⟨g2, 0, none⟩ = some (.string ⟨#[]⟩) := (blk_cell BK2.out 0).trans rfl; have hy1 : w3.cell? ⟨g2, 1, none⟩ = some (.slice none 0 0) := (blk_cell BK2.out 1).trans rfl; have hy2 : w3.cell? ⟨g2, 2, none⟩ = some (.slice none 0 0) := (blk_cell BK2.out 2).trans rfl; have hz0 := blk_frozen BK2.out 0; have hz1 := blk_frozen BK2.out 1; have hz2 := blk_frozen BK2.out 2))
  have hset : Below w2.heap.size w2 (((w3.setCell ⟨g2, 0, none⟩ (.string t)).setCell ⟨g2, 1, none⟩ (.slice A ps.length (ps.length + 2))).setCell ⟨g2, 2, none⟩ (.slice B ns.length (ns.length + 2))) := by
    refine below_set ?_ GL.out
    refine below_set ?_ GL.out
    refine below_set ?_ GL.out
    exact HB3.out
  have hbk : (((w3.setCell ⟨g2, 0, none⟩ (.string t)).setCell ⟨g2, 1, none⟩ (.slice A ps.length (ps.length + 2))).setCell ⟨g2, 2, none⟩ (.slice B ns.length (ns.length + 2))).heap[g2]? = some (.cells #[.string t, .slice A ps.length (ps.length + 2), .slice B ns.length (ns.length + 2)] 27 (0, 0)) := by
    refine blk_put (cs := #[.string t, .slice A ps.length (ps.length + 2), .slice none 0 0]) ?_ 2 _ rfl
    refine blk_put (cs := #[.string t, .slice none 0 0, .slice none 0 0]) ?_ 1 _ rfl
    refine blk_put (cs := #[.string ⟨#[]⟩, .slice none 0 0, .slice none 0 0]) ?_ 0 _ rfl
    exact BK2.out
  obtain ⟨w4, hw4⟩ : ∃ w4, w4 = (((w3.setCell ⟨g2, 0, none⟩ (.string t)).setCell ⟨g2, 1, none⟩ (.slice A ps.length (ps.length + 2))).setCell ⟨g2, 2, none⟩ (.slice B ns.length (ns.length + 2))) := ⟨_, rfl⟩
  rw [← hw4] at hset hbk ⊢
  have hH : Hold t A1 A2 A B c1 c2 ps ns g1 g2 w w4 := ⟨blk_below BK1.out hset, hbk, Kd.C_below (Kd.C_below HR1.out HB.out) hset, Kd.C_below (Kd.C_below HR2.out HB.out) hset, Kd.C_below HL1.out hset, Kd.C_below HL2.out hset, below_step HB.out hset⟩
  have BS4 := blk_below BS.out hset
  clear BS
  clear hw4 hset hbk hy0 hy1 hy2 hz0 hz1 hz2 BK1 BK2 HB HB3 HL1 HL2 GE2 GL NE w3
  refine start_n (n := 7) (S := fun w' => Hold t A1 A2 A B c1 c2 ps ns g1 g2 w w' ∧ w'.heap[g7]? = some (.cells #[.int .i64 stop] 3 (0, 0))) (ds := []) #[false, false, false, false, false, false, false] (by kernel_rfl) rfl rfl ⟨hH.drew, blk_drewN BS4 1⟩ (fun hHeld => ?_)
  refine with_tabW walks_walk.tab2 walks_walk.bits2 (fun HT_ HW_ => ?_)
  generalize w4.drew = wa at hHeld ⊢
  refine pure_ (i := 0) (N := some 19) (v := ?_) (a' := ?_) #[true, false, false, false, false, false, false] rfl rfl (any_of HT_.out (by kernel_rfl)) (fun _ _ _ h => h) (Or.inl ⟨by rfl, ?_⟩) ?_ ?_
  rotate_left
  · intro w'
    go_simp
    with_reducible rfl
  rotate_left
  · simp only [Act.put, List.setIfInBounds_toArray, List.set_cons_zero, List.set_cons_succ, i64_w, i32_w]
    rfl
  refine pure_ (i := 2) (N := some 21) (v := ?_) (a' := ?_) #[true, false, true, false, false, false, false] rfl rfl (any_of HT_.out (by kernel_rfl)) (fun _ _ _ h => h) (Or.inl ⟨by rfl, ?_⟩) ?_ ?_
  rotate_left
  · intro w'
    go_simp
    with_reducible rfl
  rotate_left
  · simp only [Act.put, List.setIfInBounds_toArray, List.set_cons_zero, List.set_cons_succ, i64_w, i32_w]
    rfl
  refine pure_ (i := 3) (N := some 22) (v := ?_) (a' := ?_) #[true, false, true, true, false, false, false] rfl rfl (any_of HT_.out (by kernel_rfl)) (fun _ _ _ h => h) (Or.inl ⟨by rfl, ?_⟩) ?_ ?_
  rotate_left
  · intro w'
    go_simp
    with_reducible rfl
  rotate_left
  · simp only [Act.put, List.setIfInBounds_toArray, List.set_cons_zero, List.set_cons_succ, i64_w, i32_w]
    rfl
  refine take_ (i := 1) (N := some 20) (v := ?_) (a' := ?_) #[true, true, true, true, false, false, false] rfl rfl (take_ofW HT_.out HW_.out (by kernel_rfl)) (fun _ _ _ h => h) (Or.inl ⟨by rfl, ?_⟩) hHeld ?_ ?_
  rotate_left
  · intro w' hS
    have x0 : w'.cell? ⟨g1, 0, none⟩ = some (.string t) := (blk_cell hS.1.b1 0).trans rfl
    have x1 : w'.cell? ⟨g1, 1, none⟩ = some (.slice A1 ps.length c1) := (blk_cell hS.1.b1 1).trans rfl
    have x2 : w'.cell? ⟨g1, 2, none⟩ = some (.slice A2 ns.length c2) := (blk_cell hS.1.b1 2).trans rfl
    have y0 : w'.cell? ⟨g2, 0, none⟩ = some (.string t) := (blk_cell hS.1.b2 0).trans rfl
    have y1 : w'.cell? ⟨g2, 1, none⟩ = some (.slice A ps.length (ps.length + 2)) := (blk_cell hS.1.b2 1).trans rfl
    have y2 : w'.cell? ⟨g2, 2, none⟩ = some (.slice B ns.length (ns.length + 2)) := (blk_cell hS.1.b2 2).trans rfl
    clear hS
    go_simp
    with_reducible rfl
  rotate_left
  · simp only [Act.put, List.setIfInBounds_toArray, List.set_cons_zero, List.set_cons_succ, i64_w, i32_w]
    rfl
  refine one_ (i := 4) (N := some 23) #[true, true, true, true, true, false, false] rfl rfl (one_of HT_.out (by kernel_rfl)) (by decide) (fun K hK => ?_)
  refine goes_ Try.func26 (by kernel_rfl) rfl #[.int .u64 bits] (by rfl) rfl rfl (by (try simp only [List.map_toArray, List.map_cons, List.map_nil]); first | done | rfl) ?_
  refine (chosen.calls bits _).mono ?_
  rintro e w' ⟨bc, rfl, hbc, gbc, hb⟩
  refine ⟨_, rfl, ?_⟩
  have hH := And.intro (Hold.below hHeld.1 hb) (blk_below hHeld.2 hb)
  have HBC := Aside0.mk (hbc)
  clear hHeld hb hbc gbc
  refine hK.out _ _ hH (fun hHeld => ?_)
  clear hH
  clear hK K
  refine norm_ (a' := ?_) ?_ ?_
  rotate_left
  · show Act.put _ (some 23) _ = _
    simp only [Act.put, List.setIfInBounds_toArray, List.set_cons_zero, List.set_cons_succ, i64_w, i32_w]
    rfl
  refine one_ (i := 5) (N := some 24) #[true, true, true, true, true, true, false] rfl rfl (one_of HT_.out (by kernel_rfl)) (by decide) (fun K hK => ?_)
  refine goes_ Try.func25 (by kernel_rfl) rfl #[.agg #[.slice B ns.length (ns.length + 2)], .int .i64 n, .func (.func 52) #[] #[.pointer (some ⟨bc, 0, none⟩)]] (by rfl) rfl rfl (by (try simp only [List.map_toArray, List.map_cons, List.map_nil]); first | done | rfl) ?_
  refine (walk.calls B ns.length (ns.length + 2) n _ (.inr ⟨52, _, rfl⟩) _).mono ?_
  rintro e w' ⟨p1, p2, p3, rfl, hp1, hp2, hp3, gp1, gp2, gp3, hb⟩
  refine ⟨_, rfl, ?_⟩
  have hH := And.intro (Hold.below hHeld.1 hb) (blk_below hHeld.2 hb)
  have n_HBC := Aside0.mk (blk_below HBC.out hb)
  clear HBC
  have HBC := n_HBC
  clear n_HBC
  have HP1 := Aside0.mk (hp1)
  have HP2 := Aside0.mk (hp2)
  have HP3 := Aside0.mk (hp3)
  clear hHeld hb hp1 hp2 hp3 gp1 gp2 gp3
  refine hK.out _ _ hH (fun hHeld => ?_)
  clear hH
  clear hK K
  refine norm_ (a' := ?_) ?_ ?_
  rotate_left
  · show Act.put _ (some 24) _ = _
    simp only [Act.put, List.setIfInBounds_toArray, List.set_cons_zero, List.set_cons_succ, i64_w, i32_w]
    rfl
  refine pure_ (i := 6) (N := some 10) (v := ?_) (a' := ?_) #[true, true, true, true, true, true, true] rfl rfl (any_of HT_.out (by kernel_rfl)) (fun _ _ _ h => h) (Or.inl ⟨by rfl, ?_⟩) ?_ ?_
  rotate_left
  · intro w'
    go_simp
    with_reducible rfl
  rotate_left
  · simp only [Act.put, List.setIfInBounds_toArray, List.set_cons_zero, List.set_cons_succ, i64_w, i32_w]
    rfl
  refine done_ (done_of HT_.out (by kernel_rfl)) ?_
  rw [onlyN_normal]
  have y2 : w'.cell? ⟨g2, 2, none⟩ = some (.slice B ns.length (ns.length + 2)) := (blk_cell hHeld.1.b2 2).trans rfl
  go_wp2_with (fail)
  refine (walk.calls B ns.length (ns.length + 2) n _ (.inl rfl) _).mono ?_
  rintro e w5 ⟨a1, a2, a3, rfl, ha1, ha2, ha3, ga1, ga2, ga3, hb⟩
  have HH := Aside0.mk (Hold.below hHeld.1 hb)
  have n1_ := Aside0.mk (blk_below HBC.out hb)
  have n2_ := Aside0.mk (blk_below HP1.out hb)
  have n3_ := Aside0.mk (blk_below HP2.out hb)
  have n4_ := Aside0.mk (blk_below HP3.out hb)
  have n5_ := Aside0.mk (blk_below hHeld.2 hb)
  have HA1 := Aside0.mk ha1
  have HA2 := Aside0.mk ha2
  have HA3 := Aside0.mk ha3
  clear HBC HP1 HP2 HP3 hHeld y2 hb ha1 ha2 ha3 ga1 ga2 ga3
  have HBC := n1_
  have HP1 := n2_
  have HP2 := n3_
  have HP3 := n4_
  have BS := n5_
  clear n1_ n2_ n3_ n4_ n5_
  have nn1 := fn38 w5 #[.pointer (some ⟨p1, 0, none⟩), .pointer (some ⟨p2, 0, none⟩), .pointer (some ⟨p3, 0, none⟩)]
  have nn2 := fn38 w5 #[.pointer (some ⟨a1, 0, none⟩), .pointer (some ⟨a2, 0, none⟩), .pointer (some ⟨a3, 0, none⟩)]
  go_wp2
  refine name_loop ?_
  intro Lcode hL
  refine name_post ?_
  intro Qpost hQ
  refine wp_loop_rounds 3 ?_
  have key : ∀ (d : Nat) (turn : Int) (ds : List Nat) (u13 u14 u15 u16 u35 u36 u37 u38 u39 u40 u41 u42 u43 u44 u45 u46 u47 u48 u49 u50 u51 u52 u53 u54 u55 u56 u57 u58 u59 u60 u61 u62 u63 u64 u65 u66 u67 u68 u69 u70 u71 u72 u73 u74 u75 u76 : Value) (W : World), 0 ≤ turn → 2 - turn = d →
      (∀ D ∈ ds, w.heap.size ≤ D ∧ W.heap[D]? = some (.deferred (some []))) → ds.Nodup → Below w5.heap.size w5 W →
      Code.rounds Try.prog Lcode Qpost (d + 1) { tmps := #[.agg #[.string t, .slice A1 ps.length c1, .slice A2 ns.length c2], .int .i64 n, .int .u64 bits, .int .i64 stop, .pointer (some ⟨g1, 0, none⟩), undef, undef, .pointer (some ⟨g7, 0, none⟩), .bool false, .pointer (some ⟨g2, 0, none⟩), .func (.func 50) #[] #[.pointer (some ⟨p1, 0, none⟩), .pointer (some ⟨p2, 0, none⟩), .pointer (some ⟨p3, 0, none⟩)], .func (.func 50) #[] #[.pointer (some ⟨a1, 0, none⟩), .pointer (some ⟨a2, 0, none⟩), .pointer (some ⟨a3, 0, none⟩)], .int .i64 turn, u13, u14, u15, u16, .agg #[.string t, .slice A1 ps.length c1, .slice A2 ns.length c2], .agg #[.string t, .slice A ps.length (ps.length + 2), .slice B ns.length (ns.length + 2)], .pointer (some ⟨g2, 2, none⟩), .agg #[.slice B ns.length (ns.length + 2)], .int .i64 n, .int .u64 bits, .func (.func 52) #[] #[.pointer (some ⟨bc, 0, none⟩)], .func (.func 50) #[] #[.pointer (some ⟨p1, 0, none⟩), .pointer (some ⟨p2, 0, none⟩), .pointer (some ⟨p3, 0, none⟩)], .pointer (some ⟨g2, 2, none⟩), .agg #[.slice B ns.length (ns.length + 2)], .int .i64 n, .func (.func 50) #[] #[.pointer (some ⟨a1, 0, none⟩), .pointer (some ⟨a2, 0, none⟩), .pointer (some ⟨a3, 0, none⟩)], .func (.func 50) #[] #[.pointer (some ⟨p1, 0, none⟩), .pointer (some ⟨p2, 0, none⟩), .pointer (some ⟨p3, 0, none⟩)], .bool false, .bool false, .func (.func 50) #[] #[.pointer (some ⟨a1, 0, none⟩), .pointer (some ⟨a2, 0, none⟩), .pointer (some ⟨a3, 0, none⟩)], .bool false, .bool false, u35, u36, u37, u38, u39, u40, u41, u42, u43, u44, u45, u46, u47, u48, u49, u50, u51, u52, u53, u54, u55, u56, u57, u58, u59, u60, u61, u62, u63, u64, u65, u66, u67, u68, u69, u70, u71, u72, u73, u74, u75, u76], defers := ds.map F.mark } W := by
    intro d
    induction d with
    | zero =>
      intro turn ds u13 u14 u15 u16 u35 u36 u37 u38 u39 u40 u41 u42 u43 u44 u45 u46 u47 u48 u49 u50 u51 u52 u53 u54 u55 u56 u57 u58 u59 u60 u61 u62 u63 u64 u65 u66 u67 u68 u69 u70 u71 u72 u73 u74 u75 u76 W h0 hd hm hn hB
      rw [rounds_succ]
      have hge : ¬ turn < 2 := by omega
      rw [← hL]
      subst hQ
      have hH := Hold.below HH.out hB
      have x0 : W.cell? ⟨g1, 0, none⟩ = some (.string t) := (blk_cell hH.b1 0).trans rfl
      have x1 : W.cell? ⟨g1, 1, none⟩ = some (.slice A1 ps.length c1) := (blk_cell hH.b1 1).trans rfl
      have x2 : W.cell? ⟨g1, 2, none⟩ = some (.slice A2 ns.length c2) := (blk_cell hH.b1 2).trans rfl
      have y0 : W.cell? ⟨g2, 0, none⟩ = some (.string t) := (blk_cell hH.b2 0).trans rfl
      have y1 : W.cell? ⟨g2, 1, none⟩ = some (.slice A ps.length (ps.length + 2)) := (blk_cell hH.b2 1).trans rfl
      have y2 : W.cell? ⟨g2, 2, none⟩ = some (.slice B ns.length (ns.length + 2)) := (blk_cell hH.b2 2).trans rfl
      have HH0 := Aside0.mk hH
      have HM := Aside0.mk hm
      have HN := Aside0.mk hn
      clear hL hd hH hm hn hB
      go_wp2_with (fail)
      refine (kept_calls t t A B A1 A2 c1 c2 ps ns _ HH0.out.l1 HH0.out.l2 HH0.out.r1 HC1.out HH0.out.r2 HC2.out (by omega) (by omega)).mono ?_
      rintro e W' ⟨rfl, hb⟩
      go_wp2
      exact out_tmp rfl (.bool true) rfl w ds _ (marks_below HM.out hb) HN.out (below_step HH0.out.be hb)
    | succ d ih =>
      intro turn ds u13 u14 u15 u16 u35 u36 u37 u38 u39 u40 u41 u42 u43 u44 u45 u46 u47 u48 u49 u50 u51 u52 u53 u54 u55 u56 u57 u58 u59 u60 u61 u62 u63 u64 u65 u66 u67 u68 u69 u70 u71 u72 u73 u74 u75 u76 W h0 hd hm hn hB
      rw [rounds_succ]
      generalize hR : Code.rounds Try.prog Lcode Qpost (d + 1) = Rnext
      have hlt : turn < 2 := by omega
      have IH := Aside0.mk ih
      have HM := Aside0.mk hm
      have HN := Aside0.mk hn
      have HBW := Aside0.mk hB
      have HRN := Aside0.mk hR
      have HQQ := Aside0.mk hQ
      have HD := Aside0.mk hd
      have H0 := Aside0.mk h0
      rw [← hL]
      have HLL := Aside0.mk hL
      clear ih hm hn hB hR hQ hL hd h0
      go_wp2_with (fail)
      have b13 : (W.alloc (.cells #[.slice none 0 0] 33)).heap[W.heap.size]? = some (.cells #[.slice none 0 0] 33 (0, 0)) := blk_new W _
      have bb : Below w5.heap.size w5 (W.alloc (.cells #[.slice none 0 0] 33)) := below_alloc HBW.out _
      have mm := marks_below HM.out (below_alloc (Below.refl W.heap.size W) (.cells #[.slice none 0 0] 33))
      have gb : w5.heap.size ≤ W.heap.size := HBW.out.size
      have ml : ∀ D ∈ ds, D < W.heap.size := fun D hD => blk_lt (HM.out D hD).2
      generalize W.alloc (.cells #[.slice none 0 0] 33) = W1 at b13 bb mm ⊢
      generalize W.heap.size = gB at b13 gb ml ⊢
      have BK13 := Aside0.mk b13
      have HB1 := Aside0.mk bb
      have M1 := Aside0.mk mm
      have GB := Aside0.mk gb
      have ML := Aside0.mk ml
      have LB := Aside0.mk (blk_lt b13)
      have HP := Aside0.mk (show p1 < w5.heap.size ∧ p2 < w5.heap.size ∧ p3 < w5.heap.size from ⟨blk_lt HP1.out, blk_lt HP2.out, blk_lt HP3.out⟩)
      have HA := Aside0.mk (show a1 < w5.heap.size ∧ a2 < w5.heap.size ∧ a3 < w5.heap.size from ⟨blk_lt HA1.out, blk_lt HA2.out, blk_lt HA3.out⟩)
      clear b13 bb mm gb ml HM HBW
      refine rf1 (gf := 50) (lb := #[.pointer (some ⟨p1, 0, none⟩), .pointer (some ⟨p2, 0, none⟩), .pointer (some ⟨p3, 0, none⟩)]) (p := 40) (s := 14) rfl (enters_of Try.func50 (by kernel_rfl) rfl) (walk_stops 2 (by omega) p1 p2 p3 w5 W1 B (ns.length + 2) ns n _ (chB bits) HNL.out (C_lent47 HH.out.l2) (by omega) (chosen_skip HBC.out) HB1.out (blk_below HP1.out HB1.out) (blk_below HP2.out HB1.out) (blk_below HP3.out HB1.out)) KpW.trans (KpW_b HB1.out.size (Nat.lt_of_lt_of_le HP.out.1 HB1.out.size) (Nat.lt_of_lt_of_le HP.out.2.1 HB1.out.size) (Nat.lt_of_lt_of_le HP.out.2.2 HB1.out.size))
        (fun pre W' => BoxR (Kd.int .i64) 33 3 gB w5.heap.size W1.heap.size (valsN pre) W' ∧ KeepB W1 gB W' ∧ Below w5.heap.size w5 W')
        (fun _ _ _ => False)
        (OwnFrom.and (boxR_own _) (OwnFrom.and (keepB_own W1 gB) (ownFrom_below (Nat.le_refl _) HB1.out.size)))
        (fun _ _ _ _ _ hs _ _ => hs)
        ⟨⟨_, BK13.out, Kd.R_nil _ _ _ _ _⟩, KeepB.refl _ _, HB1.out⟩ ?assign ?body ?done ?stop
      case assign =>
        intro lp x W K hK
        simp only [List.setIfInBounds_toArray, List.set_cons_zero, List.set_cons_succ] at hK ⊢
        gi_wp2
        exact hK
      case stop => exact fun _ _ _ _ _ _ h _ => h.elim
      case body =>
        rintro lp pre x W2 ⟨⟨v, hv, hR⟩, hk, hB⟩ hlt2
        simp only [List.setIfInBounds_toArray, List.set_cons_zero, List.set_cons_succ]
        obtain ⟨Av, cv, rfl⟩ := Kd.R_slice hR
        have c13 : W2.cell? ⟨gB, 0, none⟩ = some (.slice Av (valsN pre).length cv) := (blk_cell hv 0).trans rfl
        have f13 := blk_frozen hv 0
        gi_wp2_with (gi_at_builtin; refine list_bridge _ (by rfl) _ _ ?_)
        have HV := Aside0.mk hR
        have HW := Aside0.mk hB
        have HBX := Aside0.mk hv
        have HKK := Aside0.mk hk
        have hlen : (valsN pre).length < 17592186044415 := by
          have : (valsN pre).length = pre.length := by simp [valsN]
          have := HNL.out
          omega
        clear hR hB hv hk
        go_wp2_with (first
          | (at_builtin; refine Kd.R_append (Kd.int .i64) (w0 := w5) w5.heap.size rfl (.tmp 41) (.tmp 43) 33 3 (.int .i64 0) 8 rfl Try.underlying33 info3' rfl (by decide) (by omega) (.slice Av (valsN pre).length cv) (valsN pre) x.1 [.int .i64 x.1] (fun k => W1.heap.size ≤ k) (fun _ => False) rfl rfl ?aP (fun _ hk => hk.elim) ?aF ?aO ?aB ?aS ?aL ?_; (case aP => exact rfl); (case aF => exact (fun k hk => Nat.le_trans HKK.out.1 hk)); (case aO => exact HV.out); (case aB => exact HW.out); (case aS => exact HW.out.size); (case aL => omega); intro v1 w1 ho hb1 hg hat; have n0_ := Aside0.mk (blk_grown HBX.out hg (fun e => by have := HV.out.1 _ e.symm; have := LB.out; omega)); have HG := Aside0.mk hg; have HO := Aside0.mk ho; have HB1_ := Aside0.mk hb1; clear c13 f13 ho hb1 hg hat; have c13 : w1.cell? ⟨gB, 0, none⟩ = some (.slice Av (valsN pre).length cv) := (blk_cell n0_.out 0).trans rfl; have f13 := blk_frozen n0_.out 0; obtain ⟨A1_, c1_, e1⟩ := Kd.R_slice HO.out; subst e1))
        obtain ⟨st1, st2, st3, st4, st5⟩ := appR_step HBX.out LB.out HB1.out.size HV.out HW.out.size GB.out HO.out HG.out
        have hln : (valsN pre ++ [x.1]).length = (valsN pre).length + 1 := by rw [List.length_append, List.length_singleton]
        have hsn : valsN (pre ++ [x]) = valsN pre ++ [x.1] := by simp [valsN]
        simp only [hln] at st1 st2 st3 st4 st5
        rw [← hsn] at st2
        clear hln
        (rw [noOut_normal]; gi_wp2)
        exact ⟨st4 _, ⟨st5, st3 p1 (by have := HP.out; have := HB1.out.size; omega) (by have := HP.out; have := GB.out; omega) (by have := HP.out; have := GB.out; have := HB1.out.size; have := HKK.out.1; omega), st3 p2 (by have := HP.out; have := HB1.out.size; omega) (by have := HP.out; have := GB.out; omega) (by have := HP.out; have := GB.out; have := HB1.out.size; have := HKK.out.1; omega), st3 p3 (by have := HP.out; have := HB1.out.size; omega) (by have := HP.out; have := GB.out; omega) (by have := HP.out; have := GB.out; have := HB1.out.size; have := HKK.out.1; omega)⟩, ⟨_, st1, st2⟩, HKK.out.trans (by have := st4 0; exact this.1) (fun k h1 h2 => st3 k h1 h2 (by have := HKK.out.1; omega)), HW.out.trans st5⟩
      case done =>
        rintro D ys W2 hD hys ⟨⟨v, hv, hR⟩, hk, hB⟩ hK
        obtain ⟨Av, cv, rfl⟩ := Kd.R_slice hR
        rw [hys] at hv hR
        rw [HWS1.out] at hv hR
        obtain ⟨_, hcv, hcm⟩ := Kd.R_reads' hR
        have mw : ∀ D' ∈ D :: ds, w.heap.size ≤ D' := fun D' hD' => by
          rcases List.mem_cons.1 hD' with rfl | hD'
          · have := HH.out.be.size; have := HB1.out.size; omega
          · exact (M1.out D' hD').1
        have mm : ∀ D' ∈ D :: ds, W2.heap[D']? = some (.deferred (some [])) := fun D' hD' => by
          rcases List.mem_cons.1 hD' with rfl | hD'
          · exact hK
          · exact hk.blk (M1.out D' hD').2 (by have := ML.out D' hD'; omega)
        have nd : (D :: ds).Nodup := List.nodup_cons.2 ⟨fun h => by have := blk_lt (M1.out D h).2; omega, HN.out⟩
        have hG : WGot w5 gB Av cv ws1 (D :: ds) W2 := ⟨hB, hv, hcm, mm⟩
        have MW := Aside0.mk mw
        have ND := Aside0.mk nd
        have HCV := Aside0.mk hcv
        have HG := Aside0.mk hG
        clear hv hR hk hB hK hcv hcm mw mm nd hys hD hG
        go_upto_region 13 with (fail)
        refine start_n (n := 8) (S := WGot w5 gB Av cv ws1 (D :: ds)) (ds := []) #[false, false, false, false, false, false, false, false] (by kernel_rfl) rfl rfl (HG.out.below (below_drew (Below.refl _ _))) (fun hHeld => ?_)
        refine with_tabW walks_walk.tab13 walks_walk.bits13 (fun HT_ HW_ => ?_)
        generalize W2.drew = wa at hHeld ⊢
        refine pure_ (i := 1) (N := some 46) (v := ?_) (a' := ?_) #[false, true, false, false, false, false, false, false] rfl rfl (any_of HT_.out (by kernel_rfl)) (fun _ _ _ h => h) (Or.inl ⟨by rfl, ?_⟩) ?_ ?_
        rotate_left
        · intro w'
          go_simp
          with_reducible rfl
        rotate_left
        · simp only [Act.put, List.setIfInBounds_toArray, List.set_cons_zero, List.set_cons_succ, i64_w, i32_w]
          rfl
        refine pure_ (i := 3) (N := some 48) (v := ?_) (a' := ?_) #[false, true, false, true, false, false, false, false] rfl rfl (any_of HT_.out (by kernel_rfl)) (fun _ _ _ h => h) (Or.inl ⟨by rfl, ?_⟩) ?_ ?_
        rotate_left
        · intro w'
          go_simp
          with_reducible rfl
        rotate_left
        · simp only [Act.put, List.setIfInBounds_toArray, List.set_cons_zero, List.set_cons_succ, i64_w, i32_w]
          rfl
        refine pure_ (i := 4) (N := some 49) (v := ?_) (a' := ?_) #[false, true, false, true, true, false, false, false] rfl rfl (any_of HT_.out (by kernel_rfl)) (fun _ _ _ h => h) (Or.inl ⟨by rfl, ?_⟩) ?_ ?_
        rotate_left
        · intro w'
          go_simp
          with_reducible rfl
        rotate_left
        · simp only [Act.put, List.setIfInBounds_toArray, List.set_cons_zero, List.set_cons_succ, i64_w, i32_w]
          rfl
        refine take_ (i := 0) (N := some 45) (v := ?_) (a' := ?_) #[true, true, false, true, true, false, false, false] rfl rfl (take_ofW HT_.out HW_.out (by kernel_rfl)) (fun _ _ _ h => h) (Or.inl ⟨by rfl, ?_⟩) hHeld ?_ ?_
        rotate_left
        · intro w' hS
          have hH := Hold.below HH.out hS.1
          have x0 : w'.cell? ⟨g1, 0, none⟩ = some (.string t) := (blk_cell hH.b1 0).trans rfl
          have x1 : w'.cell? ⟨g1, 1, none⟩ = some (.slice A1 ps.length c1) := (blk_cell hH.b1 1).trans rfl
          have x2 : w'.cell? ⟨g1, 2, none⟩ = some (.slice A2 ns.length c2) := (blk_cell hH.b1 2).trans rfl
          have z := (blk_cell hS.2.1 0)
          have z0 : w'.cell? ⟨gB, 0, none⟩ = some (.slice Av ws1.length cv) := z.trans rfl
          clear hH z
          clear hS
          go_simp
          with_reducible rfl
        rotate_left
        · simp only [Act.put, List.setIfInBounds_toArray, List.set_cons_zero, List.set_cons_succ, i64_w, i32_w]
          rfl
        refine take_ (i := 2) (N := some 47) (v := ?_) (a' := ?_) #[true, true, true, true, true, false, false, false] rfl rfl (take_ofW HT_.out HW_.out (by kernel_rfl)) (fun _ _ _ h => h) (Or.inl ⟨by rfl, ?_⟩) hHeld ?_ ?_
        rotate_left
        · intro w' hS
          have hH := Hold.below HH.out hS.1
          have x0 : w'.cell? ⟨g1, 0, none⟩ = some (.string t) := (blk_cell hH.b1 0).trans rfl
          have x1 : w'.cell? ⟨g1, 1, none⟩ = some (.slice A1 ps.length c1) := (blk_cell hH.b1 1).trans rfl
          have x2 : w'.cell? ⟨g1, 2, none⟩ = some (.slice A2 ns.length c2) := (blk_cell hH.b1 2).trans rfl
          have z := (blk_cell hS.2.1 0)
          have z0 : w'.cell? ⟨gB, 0, none⟩ = some (.slice Av ws1.length cv) := z.trans rfl
          clear hH z
          clear hS
          go_simp
          with_reducible rfl
        rotate_left
        · simp only [Act.put, List.setIfInBounds_toArray, List.set_cons_zero, List.set_cons_succ, i64_w, i32_w]
          rfl
        refine one_ (i := 5) (N := some 50) #[true, true, true, true, true, true, false, false] rfl rfl (one_of HT_.out (by kernel_rfl)) (by decide) (fun K hK => ?_)
        refine goes_ Try.func27 (by kernel_rfl) rfl #[.agg #[.slice A2 ns.length c2], .int .i64 n, .int .u64 bits, .int .i64 (-1)] (by rfl) rfl rfl (by (try simp only [List.map_toArray, List.map_cons, List.map_nil]); first | done | rfl) ?_
        refine (monikerref4_Walk.calls _ A2 c2 ns n bits (-1) ws1 _ (Hold.below HH.out hHeld.1).r2 HC2.out HK1.out).mono ?_
        rintro e w' ⟨vy, rfl, hvy, hb⟩
        obtain ⟨Ay, cy, rfl, hcy, CAy⟩ := Kd.R_reads hvy
        refine ⟨_, rfl, ?_⟩
        have hH := hHeld.below hb
        have HAy := Aside0.mk CAy
        have Hcy := Aside0.mk hcy
        clear CAy hcy hvy
        clear hHeld hb
        refine hK.out _ _ hH (fun hHeld => ?_)
        clear hH
        clear hK K
        refine norm_ (a' := ?_) ?_ ?_
        rotate_left
        · show Act.put _ (some 50) _ = _
          simp only [Act.put, List.setIfInBounds_toArray, List.set_cons_zero, List.set_cons_succ, i64_w, i32_w]
          rfl
        refine one_ (i := 6) (N := some 51) #[true, true, true, true, true, true, true, false] rfl rfl (one_of HT_.out (by kernel_rfl)) (by decide) (fun K hK => ?_)
        refine goes_ Try.func22 (by kernel_rfl) rfl #[.slice Av ws1.length cv, .slice Ay ws1.length cy] (by rfl) rfl rfl (by (try simp only [List.map_toArray, List.map_cons, List.map_nil]); first | done | rfl) ?_
        obtain ⟨ks, hks⟩ := (Q.SameInts_is ws1 (Kd.C_max HAy.out)).rounds
        refine (monikerplain_SameInts.calls ks Av cv ws1 Ay cy ws1 true _ hHeld.2.2.1 HCV.out HAy.out Hcy.out hks).mono ?_
        rintro e w' ⟨rfl, hd⟩
        refine ⟨_, rfl, ?_⟩
        have hH := hHeld.below hd.below
        clear hHeld hd hks
        refine hK.out _ _ hH (fun hHeld => ?_)
        clear hH
        clear hK K
        refine norm_ (a' := ?_) ?_ ?_
        rotate_left
        · show Act.put _ (some 51) _ = _
          simp only [Act.put, List.setIfInBounds_toArray, List.set_cons_zero, List.set_cons_succ, i64_w, i32_w]
          rfl
        refine pure_ (i := 7) (N := some 52) (v := ?_) (a' := ?_) #[true, true, true, true, true, true, true, true] rfl rfl (any_of HT_.out (by kernel_rfl)) (fun _ _ _ h => h) (Or.inl ⟨by rfl, ?_⟩) ?_ ?_
        rotate_left
        · intro w'
          go_simp
          with_reducible rfl
        rotate_left
        · simp only [Act.put, List.setIfInBounds_toArray, List.set_cons_zero, List.set_cons_succ, i64_w, i32_w]
          rfl
        refine done_ (done_of HT_.out (by kernel_rfl)) ?_
        rw [onlyN_normal]
        have HG3 := Aside0.mk hHeld
        have c13 : w'.cell? ⟨gB, 0, none⟩ = some (.slice Av ws1.length cv) := (blk_cell hHeld.2.1 0).trans rfl
        have f13 := blk_frozen hHeld.2.1 0
        clear hHeld HG HCV HAy Hcy
        go_wp2_with (fail)
        clear c13 f13
        have b13 : (w'.setCell ⟨gB, 0, none⟩ (.slice none 0 0)).heap[gB]? = some (.cells #[.slice none 0 0] 33 (0, 0)) := blk_put HG3.out.2.1 0 _ rfl
        have bb : Below w5.heap.size w5 (w'.setCell ⟨gB, 0, none⟩ (.slice none 0 0)) := below_set HG3.out.1 GB.out
        have mm := marks_set (w := w) (v := .slice none 0 0) (fun D' hD' => ⟨MW.out D' hD', HG3.out.2.2.2 D' hD'⟩) HG3.out.2.1
        generalize w'.setCell ⟨gB, 0, none⟩ (.slice none 0 0) = W3 at b13 bb mm ⊢
        have BK3 := Aside0.mk b13
        have HB3 := Aside0.mk bb
        have M3 := Aside0.mk mm
        have LB3 := Aside0.mk (blk_lt b13)
        clear b13 bb mm HG3
        refine rf1 (gf := 50) (lb := #[.pointer (some ⟨a1, 0, none⟩), .pointer (some ⟨a2, 0, none⟩), .pointer (some ⟨a3, 0, none⟩)]) (p := 54) (s := 15) rfl (enters_of Try.func50 (by kernel_rfl) rfl) (walk_stops 2 (by omega) a1 a2 a3 w5 W3 B (ns.length + 2) ns n _ (fun _ => false) HNL.out (C_lent47 HH.out.l2) (by omega) (nil_skip w5) HB3.out (blk_below HA1.out HB3.out) (blk_below HA2.out HB3.out) (blk_below HA3.out HB3.out)) KpW.trans (KpW_b HB3.out.size (Nat.lt_of_lt_of_le HA.out.1 HB3.out.size) (Nat.lt_of_lt_of_le HA.out.2.1 HB3.out.size) (Nat.lt_of_lt_of_le HA.out.2.2 HB3.out.size))
          (fun pre W' => BoxR (Kd.int .i64) 33 3 gB w5.heap.size W3.heap.size (valsN pre) W' ∧ KeepB W3 gB W' ∧ Below w5.heap.size w5 W' ∧ (1 ≤ stop → (pre.length : Int) < stop))
          (fun c pre W' => c = .exit 4 ∧ (1 ≤ stop ∧ (pre.length : Int) = stop) ∧ BoxR (Kd.int .i64) 33 3 gB w5.heap.size W3.heap.size (valsN pre) W' ∧ KeepB W3 gB W' ∧ Below w5.heap.size w5 W')
          (OwnFrom.and (boxR_own _) (OwnFrom.and (keepB_own W3 gB) (OwnFrom.and (ownFrom_below (Nat.le_refl _) HB3.out.size) (fun _ _ _ _ h _ _ => h))))
          (fun c => OwnFrom.and (fun _ _ _ _ h _ _ => h) (OwnFrom.and (fun _ _ _ _ h _ _ => h) (OwnFrom.and (boxR_own _) (OwnFrom.and (keepB_own W3 gB) (ownFrom_below (Nat.le_refl _) HB3.out.size)))))
          ⟨⟨_, BK3.out, Kd.R_nil _ _ _ _ _⟩, KeepB.refl _ _, HB3.out, fun h => by show (0 : Int) < stop; omega⟩ ?assign2 ?body2 ?done2 ?stop2
        case assign2 =>
          intro lp x W K hK
          simp only [List.setIfInBounds_toArray, List.set_cons_zero, List.set_cons_succ] at hK ⊢
          gi_wp2
          exact hK
        case body2 =>
          rintro lp pre x W2 ⟨⟨v, hv, hR⟩, hk, hB, hps⟩ hlt2
          simp only [List.setIfInBounds_toArray, List.set_cons_zero, List.set_cons_succ]
          have HPS := Aside0.mk hps
          clear hps
          obtain ⟨Av, cv, rfl⟩ := Kd.R_slice hR
          have c13 : W2.cell? ⟨gB, 0, none⟩ = some (.slice Av (valsN pre).length cv) := (blk_cell hv 0).trans rfl
          have f13 := blk_frozen hv 0
          gi_wp2_with (gi_at_builtin; refine list_bridge _ (by rfl) _ _ ?_)
          have HV := Aside0.mk hR
          have HW := Aside0.mk hB
          have HBX := Aside0.mk hv
          have HKK := Aside0.mk hk
          have hlen : (valsN pre).length < 17592186044415 := by
            have : (valsN pre).length = pre.length := by simp [valsN]
            have := HNL.out
            omega
          clear hR hB hv hk
          go_wp2_with (first
            | (at_builtin; refine Kd.R_append (Kd.int .i64) (w0 := w5) w5.heap.size rfl (.tmp 55) (.tmp 57) 33 3 (.int .i64 0) 8 rfl Try.underlying33 info3' rfl (by decide) (by omega) (.slice Av (valsN pre).length cv) (valsN pre) x.1 [.int .i64 x.1] (fun k => W3.heap.size ≤ k) (fun _ => False) rfl rfl ?aP (fun _ hk => hk.elim) ?aF ?aO ?aB ?aS ?aL ?_; (case aP => exact rfl); (case aF => exact (fun k hk => Nat.le_trans HKK.out.1 hk)); (case aO => exact HV.out); (case aB => exact HW.out); (case aS => exact HW.out.size); (case aL => omega); intro v1 w1 ho hb1 hg hat; have n0_ := Aside0.mk (blk_grown HBX.out hg (fun e => by have := HV.out.1 _ e.symm; have := LB3.out; omega)); have HG := Aside0.mk hg; have HO := Aside0.mk ho; have HB1_ := Aside0.mk hb1; clear c13 f13 ho hb1 hg hat; have c13 : w1.cell? ⟨gB, 0, none⟩ = some (.slice Av (valsN pre).length cv) := (blk_cell n0_.out 0).trans rfl; have f13 := blk_frozen n0_.out 0; obtain ⟨A1_, c1_, e1⟩ := Kd.R_slice HO.out; subst e1))
          obtain ⟨st1, st2, st3, st4, st5⟩ := appR_step HBX.out LB3.out HB3.out.size HV.out HW.out.size GB.out HO.out HG.out
          have hln : (valsN pre ++ [x.1]).length = (valsN pre).length + 1 := by rw [List.length_append, List.length_singleton]
          have hsn : valsN (pre ++ [x]) = valsN pre ++ [x.1] := by simp [valsN]
          simp only [hln] at st1 st2 st3 st4 st5
          rw [← hsn] at st2
          clear hln
          rw [noOut_normal]
          obtain ⟨vn, hvn⟩ : ∃ vn, Value.slice A1_ ((valsN pre).length + 1) c1_ = vn := ⟨_, rfl⟩
          simp only [hvn] at st1 st2 st3 st4 st5 ⊢
          generalize w1.setCell ⟨gB, 0, none⟩ vn = Wn at st1 st2 st3 st4 st5 ⊢
          subst hvn
          have hvl : (valsN pre).length = pre.length := by simp [valsN]
          have c13n : Wn.cell? ⟨gB, 0, none⟩ = some (.slice A1_ ((valsN pre).length + 1) c1_) := (blk_cell st1 0).trans rfl
          have c7 : Wn.cell? ⟨g7, 0, none⟩ = some (.int .i64 stop) := (blk_cell (blk_below BS.out (HW.out.trans st5)) 0).trans rfl
          have hpl : (((pre ++ [x]).length : Nat) : Int) = (pre.length : Int) + 1 := by rw [List.length_append, List.length_singleton]; rfl
          have kb : KeepB W3 gB Wn := HKK.out.trans (by have := st4 0; exact this.1) (fun k h1 h2 => st3 k h1 h2 (by have := HKK.out.1; omega))
          have kp : KpW w5.heap.size a1 a2 a3 W2 Wn := ⟨st5, st3 a1 (by have := HA.out; have := HB3.out.size; omega) (by have := HA.out; have := GB.out; omega) (by have := HA.out; have := HB3.out.size; have := HKK.out.1; omega), st3 a2 (by have := HA.out; have := HB3.out.size; omega) (by have := HA.out; have := GB.out; omega) (by have := HA.out; have := HB3.out.size; have := HKK.out.1; omega), st3 a3 (by have := HA.out; have := HB3.out.size; omega) (by have := HA.out; have := GB.out; omega) (by have := HA.out; have := HB3.out.size; have := HKK.out.1; omega)⟩
          have bn := HW.out.trans st5
          have ST1 := Aside0.mk st1
          have ST2 := Aside0.mk st2
          have ST4 := Aside0.mk st4
          have KB := Aside0.mk kb
          have KP := Aside0.mk kp
          have BN := Aside0.mk bn
          have HVL := Aside0.mk hvl
          have HPL := Aside0.mk hpl
          clear st1 st2 st3 st4 st5 kb kp bn hvl hpl c13 f13
          by_cases hst : (pre.length : Int) + 1 = stop
          · have HST := Aside0.mk hst
            have e1 : ((((valsN pre).length : Nat) : Int) + 1 == stop) = true := by rw [HVL.out, hst]; simp
            have e2 : ((((valsN pre).length + 1 : Nat) : Int) == stop) = true := by rw [← hst, HVL.out]; simp
            clear hst
            gi_wp2
            exact ⟨ST4.out _, rfl, ⟨by have := HST.out; omega, HPL.out.trans HST.out⟩, ⟨_, ST1.out, ST2.out⟩, KB.out, BN.out⟩
          · have HST := Aside0.mk hst
            have e1 : ((((valsN pre).length : Nat) : Int) + 1 == stop) = false := by rw [HVL.out]; simp; exact hst
            have e2 : ((((valsN pre).length + 1 : Nat) : Int) == stop) = false := by rw [HVL.out]; simp; omega
            clear hst
            gi_wp2
            exact ⟨ST4.out _, KP.out, ⟨_, ST1.out, ST2.out⟩, KB.out, BN.out, fun h => by have := HPS.out h; have := HST.out; rw [HPL.out]; omega⟩
        case done2 =>
          rintro D2 ys W4 hD2 hys ⟨⟨v, hv, hR⟩, hk, hB, hps⟩ hK
          have hgot : valsN ys = wu := by
            rw [← HWU.out, hys, Q.upto_done]
            intro h
            rw [← hys]
            have : (valsN ys).length = ys.length := by simp [valsN]
            rw [this]
            exact hps h
          clear hps hys
          obtain ⟨Av2, cv2, rfl⟩ := Kd.R_slice hR
          rw [hgot] at hv hR
          obtain ⟨_, hcv, hcm⟩ := Kd.R_reads' hR
          have mw : ∀ D' ∈ D2 :: D :: ds, w.heap.size ≤ D' := fun D' hD' => by
            rcases List.mem_cons.1 hD' with rfl | hD'
            · have := HH.out.be.size; have := HB3.out.size; omega
            · exact (M3.out D' hD').1
          have mm : ∀ D' ∈ D2 :: D :: ds, W4.heap[D']? = some (.deferred (some [])) := fun D' hD' => by
            rcases List.mem_cons.1 hD' with rfl | hD'
            · exact hK
            · exact hk.blk (M3.out D' hD').2 (fun e => by have := (M3.out D' hD').2; rw [e, BK3.out] at this; cases this)
          have nd : (D2 :: D :: ds).Nodup := List.nodup_cons.2 ⟨fun h => by have := blk_lt (M3.out D2 h).2; omega, ND.out⟩
          have HG := Aside0.mk (show WGot w5 gB Av2 cv2 wu (D2 :: D :: ds) W4 from ⟨hB, hv, hcm, mm⟩)
          have MW2 := Aside0.mk mw
          have ND2 := Aside0.mk nd
          have HCV := Aside0.mk hcv
          have c7 : W4.cell? ⟨g7, 0, none⟩ = some (.int .i64 stop) := (blk_cell (blk_below BS.out HG.out.1) 0).trans rfl
          clear hv hR hk hB hK hcv hcm mw mm nd hgot hD2
          by_cases hs1 : stop < 1
          · have hwt : Q.wantOf stop = -1 := by unfold Q.wantOf; rw [if_pos hs1]
            have HK3 := Aside0.mk HK2.out
            rw [hwt] at HK3
            clear hwt
            go_upto_region 23 with (fail)
            clear c7
            refine start_n (n := 8) (S := WGot w5 gB Av2 cv2 wu (D2 :: D :: ds)) (ds := []) #[false, false, false, false, false, false, false, false] (by kernel_rfl) rfl rfl (HG.out.below (below_drew (Below.refl _ _))) (fun hHeld => ?_)
            refine with_tabW walks_walk.tab23 walks_walk.bits23 (fun HT_ HW_ => ?_)
            generalize W4.drew = wa at hHeld ⊢
            refine pure_ (i := 1) (N := some 67) (v := ?_) (a' := ?_) #[false, true, false, false, false, false, false, false] rfl rfl (any_of HT_.out (by kernel_rfl)) (fun _ _ _ h => h) (Or.inl ⟨by rfl, ?_⟩) ?_ ?_
            rotate_left
            · intro w'
              go_simp
              with_reducible rfl
            rotate_left
            · simp only [Act.put, List.setIfInBounds_toArray, List.set_cons_zero, List.set_cons_succ, i64_w, i32_w]
              rfl
            refine pure_ (i := 3) (N := some 69) (v := ?_) (a' := ?_) #[false, true, false, true, false, false, false, false] rfl rfl (any_of HT_.out (by kernel_rfl)) (fun _ _ _ h => h) (Or.inl ⟨by rfl, ?_⟩) ?_ ?_
            rotate_left
            · intro w'
              go_simp
              with_reducible rfl
            rotate_left
            · simp only [Act.put, List.setIfInBounds_toArray, List.set_cons_zero, List.set_cons_succ, i64_w, i32_w]
              rfl
            refine pure_ (i := 4) (N := some 70) (v := ?_) (a' := ?_) #[false, true, false, true, true, false, false, false] rfl rfl (any_of HT_.out (by kernel_rfl)) (fun _ _ _ h => h) (Or.inl ⟨by rfl, ?_⟩) ?_ ?_
            rotate_left
            · intro w'
              go_simp
              with_reducible rfl
            rotate_left
            · simp only [Act.put, List.setIfInBounds_toArray, List.set_cons_zero, List.set_cons_succ, i64_w, i32_w]
              rfl
            refine take_ (i := 0) (N := some 66) (v := ?_) (a' := ?_) #[true, true, false, true, true, false, false, false] rfl rfl (take_ofW HT_.out HW_.out (by kernel_rfl)) (fun _ _ _ h => h) (Or.inl ⟨by rfl, ?_⟩) hHeld ?_ ?_
            rotate_left
            · intro w' hS
              have hH := Hold.below HH.out hS.1
              have x0 : w'.cell? ⟨g1, 0, none⟩ = some (.string t) := (blk_cell hH.b1 0).trans rfl
              have x1 : w'.cell? ⟨g1, 1, none⟩ = some (.slice A1 ps.length c1) := (blk_cell hH.b1 1).trans rfl
              have x2 : w'.cell? ⟨g1, 2, none⟩ = some (.slice A2 ns.length c2) := (blk_cell hH.b1 2).trans rfl
              have z := (blk_cell hS.2.1 0)
              have z0 : w'.cell? ⟨gB, 0, none⟩ = some (.slice Av2 wu.length cv2) := z.trans rfl
              clear hH z
              clear hS
              go_simp
              with_reducible rfl
            rotate_left
            · simp only [Act.put, List.setIfInBounds_toArray, List.set_cons_zero, List.set_cons_succ, i64_w, i32_w]
              rfl
            refine take_ (i := 2) (N := some 68) (v := ?_) (a' := ?_) #[true, true, true, true, true, false, false, false] rfl rfl (take_ofW HT_.out HW_.out (by kernel_rfl)) (fun _ _ _ h => h) (Or.inl ⟨by rfl, ?_⟩) hHeld ?_ ?_
            rotate_left
            · intro w' hS
              have hH := Hold.below HH.out hS.1
              have x0 : w'.cell? ⟨g1, 0, none⟩ = some (.string t) := (blk_cell hH.b1 0).trans rfl
              have x1 : w'.cell? ⟨g1, 1, none⟩ = some (.slice A1 ps.length c1) := (blk_cell hH.b1 1).trans rfl
              have x2 : w'.cell? ⟨g1, 2, none⟩ = some (.slice A2 ns.length c2) := (blk_cell hH.b1 2).trans rfl
              have z := (blk_cell hS.2.1 0)
              have z0 : w'.cell? ⟨gB, 0, none⟩ = some (.slice Av2 wu.length cv2) := z.trans rfl
              clear hH z
              clear hS
              go_simp
              with_reducible rfl
            rotate_left
            · simp only [Act.put, List.setIfInBounds_toArray, List.set_cons_zero, List.set_cons_succ, i64_w, i32_w]
              rfl
            refine one_ (i := 5) (N := some 71) #[true, true, true, true, true, true, false, false] rfl rfl (one_of HT_.out (by kernel_rfl)) (by decide) (fun K hK => ?_)
            refine goes_ Try.func27 (by kernel_rfl) rfl #[.agg #[.slice A2 ns.length c2], .int .i64 n, .int .u64 0, .int .i64 (-1)] (by rfl) rfl rfl (by (try simp only [List.map_toArray, List.map_cons, List.map_nil]); first | done | rfl) ?_
            refine (monikerref4_Walk.calls _ A2 c2 ns n 0 (-1) wu _ (Hold.below HH.out hHeld.1).r2 HC2.out HK3.out).mono ?_
            rintro e w' ⟨vy, rfl, hvy, hb⟩
            obtain ⟨Ay, cy, rfl, hcy, CAy⟩ := Kd.R_reads hvy
            refine ⟨_, rfl, ?_⟩
            have hH := hHeld.below hb
            have HAy := Aside0.mk CAy
            have Hcy := Aside0.mk hcy
            clear CAy hcy hvy
            clear hHeld hb
            refine hK.out _ _ hH (fun hHeld => ?_)
            clear hH
            clear hK K
            refine norm_ (a' := ?_) ?_ ?_
            rotate_left
            · show Act.put _ (some 71) _ = _
              simp only [Act.put, List.setIfInBounds_toArray, List.set_cons_zero, List.set_cons_succ, i64_w, i32_w]
              rfl
            refine one_ (i := 6) (N := some 72) #[true, true, true, true, true, true, true, false] rfl rfl (one_of HT_.out (by kernel_rfl)) (by decide) (fun K hK => ?_)
            refine goes_ Try.func22 (by kernel_rfl) rfl #[.slice Av2 wu.length cv2, .slice Ay wu.length cy] (by rfl) rfl rfl (by (try simp only [List.map_toArray, List.map_cons, List.map_nil]); first | done | rfl) ?_
            obtain ⟨ks, hks⟩ := (Q.SameInts_is wu (Kd.C_max HAy.out)).rounds
            refine (monikerplain_SameInts.calls ks Av2 cv2 wu Ay cy wu true _ hHeld.2.2.1 HCV.out HAy.out Hcy.out hks).mono ?_
            rintro e w' ⟨rfl, hd⟩
            refine ⟨_, rfl, ?_⟩
            have hH := hHeld.below hd.below
            clear hHeld hd hks
            refine hK.out _ _ hH (fun hHeld => ?_)
            clear hH
            clear hK K
            refine norm_ (a' := ?_) ?_ ?_
            rotate_left
            · show Act.put _ (some 72) _ = _
              simp only [Act.put, List.setIfInBounds_toArray, List.set_cons_zero, List.set_cons_succ, i64_w, i32_w]
              rfl
            refine pure_ (i := 7) (N := some 73) (v := ?_) (a' := ?_) #[true, true, true, true, true, true, true, true] rfl rfl (any_of HT_.out (by kernel_rfl)) (fun _ _ _ h => h) (Or.inl ⟨by rfl, ?_⟩) ?_ ?_
            rotate_left
            · intro w'
              go_simp
              with_reducible rfl
            rotate_left
            · simp only [Act.put, List.setIfInBounds_toArray, List.set_cons_zero, List.set_cons_succ, i64_w, i32_w]
              rfl
            refine done_ (done_of HT_.out (by kernel_rfl)) ?_
            rw [onlyN_normal]
            clear hs1
            go_wp2
            rw [← HRN.out, show wrap64 (turn + 1) = turn + 1 by unfold wrap64; have := H0.out; omega]
            exact IH.out (turn + 1) (D2 :: D :: ds) _ _ _ _ _ _ _ _ _ _ _ _ _ _ _ _ _ _ _ _ _ _ _ _ _ _ _ _ _ _ _ _ _ _ _ _ _ _ _ _ _ _ _ _ _ _ w' (by have := H0.out; omega) (by have := HD.out; omega) (fun D' hD' => ⟨MW2.out D' hD', hHeld.2.2.2 D' hD'⟩) ND2.out hHeld.1
          · have hwt : Q.wantOf stop = stop := by unfold Q.wantOf; rw [if_neg hs1]
            have HK3 := Aside0.mk HK2.out
            rw [hwt] at HK3
            clear hwt
            go_upto_region 23 with (fail)
            clear c7
            refine start_n (n := 8) (S := WGot w5 gB Av2 cv2 wu (D2 :: D :: ds)) (ds := []) #[false, false, false, false, false, false, false, false] (by kernel_rfl) rfl rfl (HG.out.below (below_drew (Below.refl _ _))) (fun hHeld => ?_)
            refine with_tabW walks_walk.tab23 walks_walk.bits23 (fun HT_ HW_ => ?_)
            generalize W4.drew = wa at hHeld ⊢
            refine pure_ (i := 1) (N := some 67) (v := ?_) (a' := ?_) #[false, true, false, false, false, false, false, false] rfl rfl (any_of HT_.out (by kernel_rfl)) (fun _ _ _ h => h) (Or.inl ⟨by rfl, ?_⟩) ?_ ?_
            rotate_left
            · intro w'
              go_simp
              with_reducible rfl
            rotate_left
            · simp only [Act.put, List.setIfInBounds_toArray, List.set_cons_zero, List.set_cons_succ, i64_w, i32_w]
              rfl
            refine pure_ (i := 3) (N := some 69) (v := ?_) (a' := ?_) #[false, true, false, true, false, false, false, false] rfl rfl (any_of HT_.out (by kernel_rfl)) (fun _ _ _ h => h) (Or.inl ⟨by rfl, ?_⟩) ?_ ?_
            rotate_left
            · intro w'
              go_simp
              with_reducible rfl
            rotate_left
            · simp only [Act.put, List.setIfInBounds_toArray, List.set_cons_zero, List.set_cons_succ, i64_w, i32_w]
              rfl
            refine pure_ (i := 4) (N := some 70) (v := ?_) (a' := ?_) #[false, true, false, true, true, false, false, false] rfl rfl (any_of HT_.out (by kernel_rfl)) (fun _ _ _ h => h) (Or.inl ⟨by rfl, ?_⟩) ?_ ?_
            rotate_left
            · intro w'
              go_simp
              with_reducible rfl
            rotate_left
            · simp only [Act.put, List.setIfInBounds_toArray, List.set_cons_zero, List.set_cons_succ, i64_w, i32_w]
              rfl
            refine take_ (i := 0) (N := some 66) (v := ?_) (a' := ?_) #[true, true, false, true, true, false, false, false] rfl rfl (take_ofW HT_.out HW_.out (by kernel_rfl)) (fun _ _ _ h => h) (Or.inl ⟨by rfl, ?_⟩) hHeld ?_ ?_
            rotate_left
            · intro w' hS
              have hH := Hold.below HH.out hS.1
              have x0 : w'.cell? ⟨g1, 0, none⟩ = some (.string t) := (blk_cell hH.b1 0).trans rfl
              have x1 : w'.cell? ⟨g1, 1, none⟩ = some (.slice A1 ps.length c1) := (blk_cell hH.b1 1).trans rfl
              have x2 : w'.cell? ⟨g1, 2, none⟩ = some (.slice A2 ns.length c2) := (blk_cell hH.b1 2).trans rfl
              have z := (blk_cell hS.2.1 0)
              have z0 : w'.cell? ⟨gB, 0, none⟩ = some (.slice Av2 wu.length cv2) := z.trans rfl
              clear hH z
              clear hS
              go_simp
              with_reducible rfl
            rotate_left
            · simp only [Act.put, List.setIfInBounds_toArray, List.set_cons_zero, List.set_cons_succ, i64_w, i32_w]
              rfl
            refine take_ (i := 2) (N := some 68) (v := ?_) (a' := ?_) #[true, true, true, true, true, false, false, false] rfl rfl (take_ofW HT_.out HW_.out (by kernel_rfl)) (fun _ _ _ h => h) (Or.inl ⟨by rfl, ?_⟩) hHeld ?_ ?_
            rotate_left
            · intro w' hS
              have hH := Hold.below HH.out hS.1
              have x0 : w'.cell? ⟨g1, 0, none⟩ = some (.string t) := (blk_cell hH.b1 0).trans rfl
              have x1 : w'.cell? ⟨g1, 1, none⟩ = some (.slice A1 ps.length c1) := (blk_cell hH.b1 1).trans rfl
              have x2 : w'.cell? ⟨g1, 2, none⟩ = some (.slice A2 ns.length c2) := (blk_cell hH.b1 2).trans rfl
              have z := (blk_cell hS.2.1 0)
              have z0 : w'.cell? ⟨gB, 0, none⟩ = some (.slice Av2 wu.length cv2) := z.trans rfl
              clear hH z
              clear hS
              go_simp
              with_reducible rfl
            rotate_left
            · simp only [Act.put, List.setIfInBounds_toArray, List.set_cons_zero, List.set_cons_succ, i64_w, i32_w]
              rfl
            refine one_ (i := 5) (N := some 71) #[true, true, true, true, true, true, false, false] rfl rfl (one_of HT_.out (by kernel_rfl)) (by decide) (fun K hK => ?_)
            refine goes_ Try.func27 (by kernel_rfl) rfl #[.agg #[.slice A2 ns.length c2], .int .i64 n, .int .u64 0, .int .i64 stop] (by rfl) rfl rfl (by (try simp only [List.map_toArray, List.map_cons, List.map_nil]); first | done | rfl) ?_
            refine (monikerref4_Walk.calls _ A2 c2 ns n 0 stop wu _ (Hold.below HH.out hHeld.1).r2 HC2.out HK3.out).mono ?_
            rintro e w' ⟨vy, rfl, hvy, hb⟩
            obtain ⟨Ay, cy, rfl, hcy, CAy⟩ := Kd.R_reads hvy
            refine ⟨_, rfl, ?_⟩
            have hH := hHeld.below hb
            have HAy := Aside0.mk CAy
            have Hcy := Aside0.mk hcy
            clear CAy hcy hvy
            clear hHeld hb
            refine hK.out _ _ hH (fun hHeld => ?_)
            clear hH
            clear hK K
            refine norm_ (a' := ?_) ?_ ?_
            rotate_left
            · show Act.put _ (some 71) _ = _
              simp only [Act.put, List.setIfInBounds_toArray, List.set_cons_zero, List.set_cons_succ, i64_w, i32_w]
              rfl
            refine one_ (i := 6) (N := some 72) #[true, true, true, true, true, true, true, false] rfl rfl (one_of HT_.out (by kernel_rfl)) (by decide) (fun K hK => ?_)
            refine goes_ Try.func22 (by kernel_rfl) rfl #[.slice Av2 wu.length cv2, .slice Ay wu.length cy] (by rfl) rfl rfl (by (try simp only [List.map_toArray, List.map_cons, List.map_nil]); first | done | rfl) ?_
            obtain ⟨ks, hks⟩ := (Q.SameInts_is wu (Kd.C_max HAy.out)).rounds
            refine (monikerplain_SameInts.calls ks Av2 cv2 wu Ay cy wu true _ hHeld.2.2.1 HCV.out HAy.out Hcy.out hks).mono ?_
            rintro e w' ⟨rfl, hd⟩
            refine ⟨_, rfl, ?_⟩
            have hH := hHeld.below hd.below
            clear hHeld hd hks
            refine hK.out _ _ hH (fun hHeld => ?_)
            clear hH
            clear hK K
            refine norm_ (a' := ?_) ?_ ?_
            rotate_left
            · show Act.put _ (some 72) _ = _
              simp only [Act.put, List.setIfInBounds_toArray, List.set_cons_zero, List.set_cons_succ, i64_w, i32_w]
              rfl
            refine pure_ (i := 7) (N := some 73) (v := ?_) (a' := ?_) #[true, true, true, true, true, true, true, true] rfl rfl (any_of HT_.out (by kernel_rfl)) (fun _ _ _ h => h) (Or.inl ⟨by rfl, ?_⟩) ?_ ?_
            rotate_left
            · intro w'
              go_simp
              with_reducible rfl
            rotate_left
            · simp only [Act.put, List.setIfInBounds_toArray, List.set_cons_zero, List.set_cons_succ, i64_w, i32_w]
              rfl
            refine done_ (done_of HT_.out (by kernel_rfl)) ?_
            rw [onlyN_normal]
            clear hs1
            go_wp2
            rw [← HRN.out, show wrap64 (turn + 1) = turn + 1 by unfold wrap64; have := H0.out; omega]
            exact IH.out (turn + 1) (D2 :: D :: ds) _ _ _ _ _ _ _ _ _ _ _ _ _ _ _ _ _ _ _ _ _ _ _ _ _ _ _ _ _ _ _ _ _ _ _ _ _ _ _ _ _ _ _ _ _ _ w' (by have := H0.out; omega) (by have := HD.out; omega) (fun D' hD' => ⟨MW2.out D' hD', hHeld.2.2.2 D' hD'⟩) ND2.out hHeld.1
        case stop2 =>
          rintro D2 c pre W4 hD2 hsp ⟨rfl, ⟨h1, h2⟩, ⟨v, hv, hR⟩, hk, hB⟩ hK
          have hgot : valsN pre = wu := by
            rw [← HWU.out, Q.upto_stop h1 hsp]
            have : (valsN pre).length = pre.length := by simp [valsN]
            rw [this]
            exact h2
          clear h1 h2 hsp
          obtain ⟨Av2, cv2, rfl⟩ := Kd.R_slice hR
          rw [hgot] at hv hR
          obtain ⟨_, hcv, hcm⟩ := Kd.R_reads' hR
          have mw : ∀ D' ∈ D2 :: D :: ds, w.heap.size ≤ D' := fun D' hD' => by
            rcases List.mem_cons.1 hD' with rfl | hD'
            · have := HH.out.be.size; have := HB3.out.size; omega
            · exact (M3.out D' hD').1
          have mm : ∀ D' ∈ D2 :: D :: ds, W4.heap[D']? = some (.deferred (some [])) := fun D' hD' => by
            rcases List.mem_cons.1 hD' with rfl | hD'
            · exact hK
            · exact hk.blk (M3.out D' hD').2 (fun e => by have := (M3.out D' hD').2; rw [e, BK3.out] at this; cases this)
          have nd : (D2 :: D :: ds).Nodup := List.nodup_cons.2 ⟨fun h => by have := blk_lt (M3.out D2 h).2; omega, ND.out⟩
          have HG := Aside0.mk (show WGot w5 gB Av2 cv2 wu (D2 :: D :: ds) W4 from ⟨hB, hv, hcm, mm⟩)
          have MW2 := Aside0.mk mw
          have ND2 := Aside0.mk nd
          have HCV := Aside0.mk hcv
          have c7 : W4.cell? ⟨g7, 0, none⟩ = some (.int .i64 stop) := (blk_cell (blk_below BS.out HG.out.1) 0).trans rfl
          clear hv hR hk hB hK hcv hcm mw mm nd hgot hD2
          by_cases hs1 : stop < 1
          · have hwt : Q.wantOf stop = -1 := by unfold Q.wantOf; rw [if_pos hs1]
            have HK3 := Aside0.mk HK2.out
            rw [hwt] at HK3
            clear hwt
            go_upto_region 23 with (fail)
            clear c7
            refine start_n (n := 8) (S := WGot w5 gB Av2 cv2 wu (D2 :: D :: ds)) (ds := []) #[false, false, false, false, false, false, false, false] (by kernel_rfl) rfl rfl (HG.out.below (below_drew (Below.refl _ _))) (fun hHeld => ?_)
            refine with_tabW walks_walk.tab23 walks_walk.bits23 (fun HT_ HW_ => ?_)
            generalize W4.drew = wa at hHeld ⊢
            refine pure_ (i := 1) (N := some 67) (v := ?_) (a' := ?_) #[false, true, false, false, false, false, false, false] rfl rfl (any_of HT_.out (by kernel_rfl)) (fun _ _ _ h => h) (Or.inl ⟨by rfl, ?_⟩) ?_ ?_
            rotate_left
            · intro w'
              go_simp
              with_reducible rfl
            rotate_left
            · simp only [Act.put, List.setIfInBounds_toArray, List.set_cons_zero, List.set_cons_succ, i64_w, i32_w]
              rfl
            refine pure_ (i := 3) (N := some 69) (v := ?_) (a' := ?_) #[false, true, false, true, false, false, false, false] rfl rfl (any_of HT_.out (by kernel_rfl)) (fun _ _ _ h => h) (Or.inl ⟨by rfl, ?_⟩) ?_ ?_
            rotate_left
            · intro w'
              go_simp
              with_reducible rfl
            rotate_left
            · simp only [Act.put, List.setIfInBounds_toArray, List.set_cons_zero, List.set_cons_succ, i64_w, i32_w]
              rfl
            refine pure_ (i := 4) (N := some 70) (v := ?_) (a' := ?_) #[false, true, false, true, true, false, false, false] rfl rfl (any_of HT_.out (by kernel_rfl)) (fun _ _ _ h => h) (Or.inl ⟨by rfl, ?_⟩) ?_ ?_
            rotate_left
            · intro w'
              go_simp
              with_reducible rfl
            rotate_left
            · simp only [Act.put, List.setIfInBounds_toArray, List.set_cons_zero, List.set_cons_succ, i64_w, i32_w]
              rfl
            refine take_ (i := 0) (N := some 66) (v := ?_) (a' := ?_) #[true, true, false, true, true, false, false, false] rfl rfl (take_ofW HT_.out HW_.out (by kernel_rfl)) (fun _ _ _ h => h) (Or.inl ⟨by rfl, ?_⟩) hHeld ?_ ?_
            rotate_left
            · intro w' hS
              have hH := Hold.below HH.out hS.1
              have x0 : w'.cell? ⟨g1, 0, none⟩ = some (.string t) := (blk_cell hH.b1 0).trans rfl
              have x1 : w'.cell? ⟨g1, 1, none⟩ = some (.slice A1 ps.length c1) := (blk_cell hH.b1 1).trans rfl
              have x2 : w'.cell? ⟨g1, 2, none⟩ = some (.slice A2 ns.length c2) := (blk_cell hH.b1 2).trans rfl
              have z := (blk_cell hS.2.1 0)
              have z0 : w'.cell? ⟨gB, 0, none⟩ = some (.slice Av2 wu.length cv2) := z.trans rfl
              clear hH z
              clear hS
              go_simp
              with_reducible rfl
            rotate_left
            · simp only [Act.put, List.setIfInBounds_toArray, List.set_cons_zero, List.set_cons_succ, i64_w, i32_w]
              rfl
            refine take_ (i := 2) (N := some 68) (v := ?_) (a' := ?_) #[true, true, true, true, true, false, false, false] rfl rfl (take_ofW HT_.out HW_.out (by kernel_rfl)) (fun _ _ _ h => h) (Or.inl ⟨by rfl, ?_⟩) hHeld ?_ ?_
            rotate_left
            · intro w' hS
              have hH := Hold.below HH.out hS.1
              have x0 : w'.cell? ⟨g1, 0, none⟩ = some (.string t) := (blk_cell hH.b1 0).trans rfl
              have x1 : w'.cell? ⟨g1, 1, none⟩ = some (.slice A1 ps.length c1) := (blk_cell hH.b1 1).trans rfl
              have x2 : w'.cell? ⟨g1, 2, none⟩ = some (.slice A2 ns.length c2) := (blk_cell hH.b1 2).trans rfl
              have z := (blk_cell hS.2.1 0)
              have z0 : w'.cell? ⟨gB, 0, none⟩ = some (.slice Av2 wu.length cv2) := z.trans rfl
              clear hH z
              clear hS
              go_simp
              with_reducible rfl
            rotate_left
            · simp only [Act.put, List.setIfInBounds_toArray, List.set_cons_zero, List.set_cons_succ, i64_w, i32_w]
              rfl
            refine one_ (i := 5) (N := some 71) #[true, true, true, true, true, true, false, false] rfl rfl (one_of HT_.out (by kernel_rfl)) (by decide) (fun K hK => ?_)
            refine goes_ Try.func27 (by kernel_rfl) rfl #[.agg #[.slice A2 ns.length c2], .int .i64 n, .int .u64 0, .int .i64 (-1)] (by rfl) rfl rfl (by (try simp only [List.map_toArray, List.map_cons, List.map_nil]); first | done | rfl) ?_
            refine (monikerref4_Walk.calls _ A2 c2 ns n 0 (-1) wu _ (Hold.below HH.out hHeld.1).r2 HC2.out HK3.out).mono ?_
            rintro e w' ⟨vy, rfl, hvy, hb⟩
            obtain ⟨Ay, cy, rfl, hcy, CAy⟩ := Kd.R_reads hvy
            refine ⟨_, rfl, ?_⟩
            have hH := hHeld.below hb
            have HAy := Aside0.mk CAy
            have Hcy := Aside0.mk hcy
            clear CAy hcy hvy
            clear hHeld hb
            refine hK.out _ _ hH (fun hHeld => ?_)
            clear hH
            clear hK K
            refine norm_ (a' := ?_) ?_ ?_
            rotate_left
            · show Act.put _ (some 71) _ = _
              simp only [Act.put, List.setIfInBounds_toArray, List.set_cons_zero, List.set_cons_succ, i64_w, i32_w]
              rfl
            refine one_ (i := 6) (N := some 72) #[true, true, true, true, true, true, true, false] rfl rfl (one_of HT_.out (by kernel_rfl)) (by decide) (fun K hK => ?_)
            refine goes_ Try.func22 (by kernel_rfl) rfl #[.slice Av2 wu.length cv2, .slice Ay wu.length cy] (by rfl) rfl rfl (by (try simp only [List.map_toArray, List.map_cons, List.map_nil]); first | done | rfl) ?_
            obtain ⟨ks, hks⟩ := (Q.SameInts_is wu (Kd.C_max HAy.out)).rounds
            refine (monikerplain_SameInts.calls ks Av2 cv2 wu Ay cy wu true _ hHeld.2.2.1 HCV.out HAy.out Hcy.out hks).mono ?_
            rintro e w' ⟨rfl, hd⟩
            refine ⟨_, rfl, ?_⟩
            have hH := hHeld.below hd.below
            clear hHeld hd hks
            refine hK.out _ _ hH (fun hHeld => ?_)
            clear hH
            clear hK K
            refine norm_ (a' := ?_) ?_ ?_
            rotate_left
            · show Act.put _ (some 72) _ = _
              simp only [Act.put, List.setIfInBounds_toArray, List.set_cons_zero, List.set_cons_succ, i64_w, i32_w]
              rfl
            refine pure_ (i := 7) (N := some 73) (v := ?_) (a' := ?_) #[true, true, true, true, true, true, true, true] rfl rfl (any_of HT_.out (by kernel_rfl)) (fun _ _ _ h => h) (Or.inl ⟨by rfl, ?_⟩) ?_ ?_
            rotate_left
            · intro w'
              go_simp
              with_reducible rfl
            rotate_left
            · simp only [Act.put, List.setIfInBounds_toArray, List.set_cons_zero, List.set_cons_succ, i64_w, i32_w]
              rfl
            refine done_ (done_of HT_.out (by kernel_rfl)) ?_
            rw [onlyN_normal]
            clear hs1
            go_wp2
            rw [← HRN.out, show wrap64 (turn + 1) = turn + 1 by unfold wrap64; have := H0.out; omega]
            exact IH.out (turn + 1) (D2 :: D :: ds) _ _ _ _ _ _ _ _ _ _ _ _ _ _ _ _ _ _ _ _ _ _ _ _ _ _ _ _ _ _ _ _ _ _ _ _ _ _ _ _ _ _ _ _ _ _ w' (by have := H0.out; omega) (by have := HD.out; omega) (fun D' hD' => ⟨MW2.out D' hD', hHeld.2.2.2 D' hD'⟩) ND2.out hHeld.1
          · have hwt : Q.wantOf stop = stop := by unfold Q.wantOf; rw [if_neg hs1]
            have HK3 := Aside0.mk HK2.out
            rw [hwt] at HK3
            clear hwt
            go_upto_region 23 with (fail)
            clear c7
            refine start_n (n := 8) (S := WGot w5 gB Av2 cv2 wu (D2 :: D :: ds)) (ds := []) #[false, false, false, false, false, false, false, false] (by kernel_rfl) rfl rfl (HG.out.below (below_drew (Below.refl _ _))) (fun hHeld => ?_)
            refine with_tabW walks_walk.tab23 walks_walk.bits23 (fun HT_ HW_ => ?_)
            generalize W4.drew = wa at hHeld ⊢
            refine pure_ (i := 1) (N := some 67) (v := ?_) (a' := ?_) #[false, true, false, false, false, false, false, false] rfl rfl (any_of HT_.out (by kernel_rfl)) (fun _ _ _ h => h) (Or.inl ⟨by rfl, ?_⟩) ?_ ?_
            rotate_left
            · intro w'
              go_simp
              with_reducible rfl
            rotate_left
            · simp only [Act.put, List.setIfInBounds_toArray, List.set_cons_zero, List.set_cons_succ, i64_w, i32_w]
              rfl
            refine pure_ (i := 3) (N := some 69) (v := ?_) (a' := ?_) #[false, true, false, true, false, false, false, false] rfl rfl (any_of HT_.out (by kernel_rfl)) (fun _ _ _ h => h) (Or.inl ⟨by rfl, ?_⟩) ?_ ?_
            rotate_left
            · intro w'
              go_simp
              with_reducible rfl
            rotate_left
            · simp only [Act.put, List.setIfInBounds_toArray, List.set_cons_zero, List.set_cons_succ, i64_w, i32_w]
              rfl
            refine pure_ (i := 4) (N := some 70) (v := ?_) (a' := ?_) #[false, true, false, true, true, false, false, false] rfl rfl (any_of HT_.out (by kernel_rfl)) (fun _ _ _ h => h) (Or.inl ⟨by rfl, ?_⟩) ?_ ?_
            rotate_left
            · intro w'
              go_simp
              with_reducible rfl
            rotate_left
            · simp only [Act.put, List.setIfInBounds_toArray, List.set_cons_zero, List.set_cons_succ, i64_w, i32_w]
              rfl
            refine take_ (i := 0) (N := some 66) (v := ?_) (a' := ?_) #[true, true, false, true, true, false, false, false] rfl rfl (take_ofW HT_.out HW_.out (by kernel_rfl)) (fun _ _ _ h => h) (Or.inl ⟨by rfl, ?_⟩) hHeld ?_ ?_
            rotate_left
            · intro w' hS
              have hH := Hold.below HH.out hS.1
              have x0 : w'.cell? ⟨g1, 0, none⟩ = some (.string t) := (blk_cell hH.b1 0).trans rfl
              have x1 : w'.cell? ⟨g1, 1, none⟩ = some (.slice A1 ps.length c1) := (blk_cell hH.b1 1).trans rfl
              have x2 : w'.cell? ⟨g1, 2, none⟩ = some (.slice A2 ns.length c2) := (blk_cell hH.b1 2).trans rfl
              have z := (blk_cell hS.2.1 0)
              have z0 : w'.cell? ⟨gB, 0, none⟩ = some (.slice Av2 wu.length cv2) := z.trans rfl
              clear hH z
              clear hS
              go_simp
              with_reducible rfl
            rotate_left
            · simp only [Act.put, List.setIfInBounds_toArray, List.set_cons_zero, List.set_cons_succ, i64_w, i32_w]
              rfl
            refine take_ (i := 2) (N := some 68) (v := ?_) (a' := ?_) #[true, true, true, true, true, false, false, false] rfl rfl (take_ofW HT_.out HW_.out (by kernel_rfl)) (fun _ _ _ h => h) (Or.inl ⟨by rfl, ?_⟩) hHeld ?_ ?_
            rotate_left
            · intro w' hS
              have hH := Hold.below HH.out hS.1
              have x0 : w'.cell? ⟨g1, 0, none⟩ = some (.string t) := (blk_cell hH.b1 0).trans rfl
              have x1 : w'.cell? ⟨g1, 1, none⟩ = some (.slice A1 ps.length c1) := (blk_cell hH.b1 1).trans rfl
              have x2 : w'.cell? ⟨g1, 2, none⟩ = some (.slice A2 ns.length c2) := (blk_cell hH.b1 2).trans rfl
              have z := (blk_cell hS.2.1 0)
              have z0 : w'.cell? ⟨gB, 0, none⟩ = some (.slice Av2 wu.length cv2) := z.trans rfl
              clear hH z
              clear hS
              go_simp
              with_reducible rfl
            rotate_left
            · simp only [Act.put, List.setIfInBounds_toArray, List.set_cons_zero, List.set_cons_succ, i64_w, i32_w]
              rfl
            refine one_ (i := 5) (N := some 71) #[true, true, true, true, true, true, false, false] rfl rfl (one_of HT_.out (by kernel_rfl)) (by decide) (fun K hK => ?_)
            refine goes_ Try.func27 (by kernel_rfl) rfl #[.agg #[.slice A2 ns.length c2], .int .i64 n, .int .u64 0, .int .i64 stop] (by rfl) rfl rfl (by (try simp only [List.map_toArray, List.map_cons, List.map_nil]); first | done | rfl) ?_
            refine (monikerref4_Walk.calls _ A2 c2 ns n 0 stop wu _ (Hold.below HH.out hHeld.1).r2 HC2.out HK3.out).mono ?_
            rintro e w' ⟨vy, rfl, hvy, hb⟩
            obtain ⟨Ay, cy, rfl, hcy, CAy⟩ := Kd.R_reads hvy
            refine ⟨_, rfl, ?_⟩
            have hH := hHeld.below hb
            have HAy := Aside0.mk CAy
            have Hcy := Aside0.mk hcy
            clear CAy hcy hvy
            clear hHeld hb
            refine hK.out _ _ hH (fun hHeld => ?_)
            clear hH
            clear hK K
            refine norm_ (a' := ?_) ?_ ?_
            rotate_left
            · show Act.put _ (some 71) _ = _
              simp only [Act.put, List.setIfInBounds_toArray, List.set_cons_zero, List.set_cons_succ, i64_w, i32_w]
              rfl
            refine one_ (i := 6) (N := some 72) #[true, true, true, true, true, true, true, false] rfl rfl (one_of HT_.out (by kernel_rfl)) (by decide) (fun K hK => ?_)
            refine goes_ Try.func22 (by kernel_rfl) rfl #[.slice Av2 wu.length cv2, .slice Ay wu.length cy] (by rfl) rfl rfl (by (try simp only [List.map_toArray, List.map_cons, List.map_nil]); first | done | rfl) ?_
            obtain ⟨ks, hks⟩ := (Q.SameInts_is wu (Kd.C_max HAy.out)).rounds
            refine (monikerplain_SameInts.calls ks Av2 cv2 wu Ay cy wu true _ hHeld.2.2.1 HCV.out HAy.out Hcy.out hks).mono ?_
            rintro e w' ⟨rfl, hd⟩
            refine ⟨_, rfl, ?_⟩
            have hH := hHeld.below hd.below
            clear hHeld hd hks
            refine hK.out _ _ hH (fun hHeld => ?_)
            clear hH
            clear hK K
            refine norm_ (a' := ?_) ?_ ?_
            rotate_left
            · show Act.put _ (some 72) _ = _
              simp only [Act.put, List.setIfInBounds_toArray, List.set_cons_zero, List.set_cons_succ, i64_w, i32_w]
              rfl
            refine pure_ (i := 7) (N := some 73) (v := ?_) (a' := ?_) #[true, true, true, true, true, true, true, true] rfl rfl (any_of HT_.out (by kernel_rfl)) (fun _ _ _ h => h) (Or.inl ⟨by rfl, ?_⟩) ?_ ?_
            rotate_left
            · intro w'
              go_simp
              with_reducible rfl
            rotate_left
            · simp only [Act.put, List.setIfInBounds_toArray, List.set_cons_zero, List.set_cons_succ, i64_w, i32_w]
              rfl
            refine done_ (done_of HT_.out (by kernel_rfl)) ?_
            rw [onlyN_normal]
            clear hs1
            go_wp2
            rw [← HRN.out, show wrap64 (turn + 1) = turn + 1 by unfold wrap64; have := H0.out; omega]
            exact IH.out (turn + 1) (D2 :: D :: ds) _ _ _ _ _ _ _ _ _ _ _ _ _ _ _ _ _ _ _ _ _ _ _ _ _ _ _ _ _ _ _ _ _ _ _ _ _ _ _ _ _ _ _ _ _ _ w' (by have := H0.out; omega) (by have := HD.out; omega) (fun D' hD' => ⟨MW2.out D' hD', hHeld.2.2.2 D' hD'⟩) ND2.out hHeld.1
  exact key 2 0 [] _ _ _ _ _ _ _ _ _ _ _ _ _ _ _ _ _ _ _ _ _ _ _ _ _ _ _ _ _ _ _ _ _ _ _ _ _ _ _ _ _ _ _ _ _ _ w5 (by omega) (by omega) (fun D h => by cases h) List.nodup_nil (Below.refl _ _)
end Go.Proofs.Ytodldpdnhcafpaa.L


namespace Go.Proofs.Ytodldpdnhcafpaa.treeWalks
open Go.ChangeShapes Go.WideShapes Go.ChangeAt Go.RowKit Go.Proofs.Ytodldpdnhcafpaa
open Go.ChangeMaps (open_string shut_string)
set_option linter.unusedVariables false
theorem own : ownKnob Try.prog.godebug = none := by kernel_rfl
theorem laidOut : laidOutB Try.prog = true := by kernel_rfl
set_option maxRecDepth 100000 in
theorem lifted (os : Os) (started : os.Started) (H : Type) (enc : TypeId × Value → H) :
    ReturnsInHanded {} Try.checked os 5 .any (Rows.treeWalksSpec.pre6 enc Try.prog Try.f5 Rows.treeWalksRow.domain false) (Rows.treeWalksSpec.post enc Try.prog Try.f5 false true false false) := by
  refine returnsInHanded_of_change_sized (C := Try.checked) own started (by kernel_rfl) Try.func5
    (ChangeSpec.witness6 (enc := enc) (C := Try.checked) false ⟨#[], #[.agg #[.string ByteArray.empty, .slice none 0 0, .slice none 0 0], .int .i64 0, .int .u64 0, .int .i64 0], []⟩ 8 (by kernel_rfl) (by kernel_rfl) (by kernel_rfl) (by kernel_rfl)) ?_
  intro W base args ds gs before hval0 hW hcnd hsz0 _
  have hsz : (DataW.weightsEach Try.prog (Try.f5.params.toList ++ Rows.treeWalksSpec.plain.varTypes Try.prog) (ds ++ gs)).all (· ≤ reachBytes) = true := hsz0
  have hval : ∀ (j : Nat) t v, Try.f5.params[j]? = some t → args[j]? = some v → Value.okWide Try.prog W .any base t v := hval0
  have hW' := hW
  obtain ⟨p, q, hA0, hV, rfl, hfz, hnd⟩ := hW
  have hA : DataW.TrodAll enc Try.prog W 0 (fun _ => true) true Try.f5.params.toList args.toList ds p := hA0
  rw [Try.params5] at hA hval hsz
  obtain ⟨v0, vs0, d0, ds0, p0, q0, hargs, rfl, rfl, h0, r0⟩ := trodAll_cons hA
  obtain ⟨v1, vs1, d1, ds1, p1, q1, rfl, rfl, rfl, h1, r1⟩ := trodAll_cons r0
  obtain ⟨v2, vs2, d2, ds2, p2, q2, rfl, rfl, rfl, h2, r2⟩ := trodAll_cons r1
  obtain ⟨v3, vs3, d3, ds3, p3, q3, rfl, rfl, rfl, h3, r3⟩ := trodAll_cons r2
  obtain ⟨rfl, rfl, rfl⟩ := trodAll_nil r3
  obtain rfl : args = #[v0, v1, v2, v3] := by cases args; simp_all
  obtain ⟨rfl, rfl⟩ := trodVars_none hV
  have k0 := h0
  have lt0 : ∀ x ∈ p0, x.block < W.heap.size := by obtain ⟨m, hm⟩ := k0; exact DataW.trod_lt m _ _ _ hm
  have hq0 : ∀ n ∈ DataW.weights Try.prog 27 d0, n ≤ reachBytes := fun n hn => of_decide_eq_true (List.all_eq_true.1 hsz n (DataW.weights_mem_each (j := 0) rfl rfl n hn))
  obtain ⟨t0, A0, c0, l0, B0, e0, m0, rfl, hf0_0, hf0_1, hf0_2, hf0_3, hf0_4, hf0_5, hf0_6, hf0_7, hf0_8, hf0_9, hf0_10⟩ := Go.Proofs.Ytodldpdnhcafpaa.H.open27 (hval 0 27 v0 rfl rfl) h0 hq0
  obtain ⟨a1, rfl, rfl, rfl, w1⟩ := open_int Try.underlying3 (hval 1 3 v1 rfl rfl) h1
  obtain ⟨a2, rfl, rfl, rfl, w2⟩ := open_int Try.underlying36 (hval 2 36 v2 rfl rfl) h2
  obtain ⟨a3, rfl, rfl, rfl, w3⟩ := open_int Try.underlying3 (hval 3 3 v3 rfl rfl) h3
  clear hA0 hval0 hsz0 hsz
  refine (Go.Proofs.Ytodldpdnhcafpaa.L.walks_walk t0 A0 c0 l0 B0 e0 m0 a1 a2 a3 W hf0_0 hf0_1 hf0_2 hf0_3 hf0_4 hf0_5 hf0_6 hf0_7 hf0_8 hf0_9 hf0_10 w1 w2 w3).mono fun e W' ⟨he, bel⟩ => ?_
  subst he
  exact ⟨_, rfl, _, _, _, [], _, [], hW', trodAll_mk1 (shut_bool Try.underlying4 _), (trodAll_cons_mk (Below.trod laidOut (by kernel_rfl) (of_decide_eq_true (by kernel_rfl)) k0 bel lt0) (trodAll_cons_mk (shut_int Try.underlying3 w1) (trodAll_cons_mk (shut_int Try.underlying36 w2) (trodAll_cons_mk (shut_int Try.underlying3 w3) trodAll_mk0)))), rfl, bel.frame _, fun h => by cases h⟩
theorem over : Rows.treeWalksRow.holds Try.pinned (OpenSpec.ofChange Rows.treeWalksSpec) :=
  OpenClaim.holds_of_wide 5 Try.f5 rfl rfl rfl rfl rfl rfl rfl ⟨rfl, rfl, rfl, rfl, rfl⟩ rfl rfl rfl rfl rfl (by kernel_rfl) Try.func5 (by kernel_rfl)
    (of_decide_eq_true (by kernel_rfl)) (by unfold Func.isWrapper; first | (rw [if_pos (by decide +kernel)]; kernel_rfl) | (rw [if_neg (by decide +kernel)]; exact ⟨rfl, rfl⟩))
    (fun os started H enc _ => lifted os started H enc)
theorem proved : Rows.TreeWalksSaid := over
#print axioms proved
end Go.Proofs.Ytodldpdnhcafpaa.treeWalks
namespace Go.Proofs.Ytodldpdnhcafpaa
/-- The row, under a short name, for the claim. -/
theorem treeWalks_holds : Rows.TreeWalksSaid := treeWalks.proved
end Go.Proofs.Ytodldpdnhcafpaa
