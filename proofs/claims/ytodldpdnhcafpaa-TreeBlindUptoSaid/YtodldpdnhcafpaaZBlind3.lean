/- Texts of the proof of one law (Blind), part 3: functions printed as Lean functions with their walks, and what is proved of them. Conditions: those of each theorem. -/
import Derived.Test.YtodldpdnhcafpaaZBlind2
import Derived.BigRegion
import Derived.Test.YtodldpdnhcafpaaWMore
import Derived.SizedLaws
import Derived.ChangeSlices
import Derived.Deep.Slices
-- Same (33): its contract (made by wip/mkgsame.py)
namespace Go.Proofs.Ytodldpdnhcafpaa.F
open Go.RowKit Go.Shelf Go.Proofs.YtodldpdnhcafpaaW.PrintWords Go.Proofs.YtodldpdnhcafpaaW.PrintLast Go.Proofs.YtodldpdnhcafpaaW.PrintMore
open Go.Proofs.Ytodldpdnhcafpaa.K
attribute [local go_sem] Oper.semAt_some
set_option linter.unusedVariables false
set_option linter.unusedSimpArgs false

/-- The kinds of a run's tokens. -/
def kindsR (l : List S61) (x : S47) : List Int := (tokR l (mx x.f1 0) (mn x.f2 (l.length : Int))).map (fun i => (rd_T61 l i).f0)
def nodeB (l : List S61) (x : S47) (m : List S61) (y : S47) : Bool := decide (x.f0 = y.f0) && (decide (x.f3 = y.f3) && decide (kindsR l x = kindsR m y))
def sameGo (l : List S61) (a : List S47) (m : List S61) (b : List S47) : Nat → Int → Bool
  | 0, _ => true
  | d + 1, n => nodeB l (rd_T47 a n) m (rd_T47 b n) && sameGo l a m b d (n + 1)
def sameB (l : List S61) (a : List S47) (m : List S61) (b : List S47) : Bool := decide (a.length = b.length) && sameGo l a m b a.length 0
def tree_Same.f (k : Nat) (l : List S61) (a : List S47) (m : List S61) (b : List S47) : Option Bool :=
  if l.length < 17592186044415 ∧ m.length < 17592186044415 ∧ a.length < 17592186044415 then some (sameB l a m b) else none
def mark (D : Nat) : Deferred := { target := .collected D, args := #[] }
/-- The way out of Same, whatever marks there are. -/
theorem same_out (w : World) (g8 : Nat) (b : Bool) (tmps : Array Value) (h8 : tmps[8]? = some (.pointer (some ⟨g8, 0, none⟩))) : ∀ (ds : List Nat) (W : World), (∀ D ∈ ds, w.heap.size ≤ D ∧ W.heap[D]? = some (.deferred (some []))) → ds.Nodup →
    W.heap[g8]? = some (.cells #[.bool b] 4 (0, 0)) → Below w.heap.size w W →
    LeavesInM Fence.wide 3 Try.prog Try.f33 tmps (fun e w' => e = .returned (.bool b) ∧ Below w.heap.size w w') (ds.map mark) .returning W
  | [], W, _, _, hb, hB => by
    refine ⟨.bool b, ?_, rfl, hB⟩
    have hc : W.cell? ⟨g8, 0, none⟩ = some (.bool b) := (blk_cell hb 0).trans rfl
    have hres : Try.f33.results = #[.cell 8 4] := rfl
    unfold results
    rw [hres]
    simp only [Array.mapM_eq_mapM_toList, List.mapM_cons, List.mapM_nil] <;> simp [h8] <;> go_simp
  | D :: ds, W, hd, hn, hb, hB => by
    obtain ⟨h1, h2⟩ := hd D List.mem_cons_self
    refine ⟨by simp, .inl ⟨D, _, rfl, run_takeDeferred h2, ?_⟩⟩
    have hne : g8 ≠ D := fun e => by rw [e, h2] at hb; cases hb
    refine same_out w g8 b tmps h8 ds _ (fun D' hD' => ?_) (List.nodup_cons.1 hn).2 ((World.putObj_heap_other hne).trans hb) (hB.grown (grownBy_putObj' W D _) hB.size (fun k e => by cases e; exact h1))
    obtain ⟨a1, a2⟩ := hd D' (List.mem_cons_of_mem _ hD')
    exact ⟨a1, (World.putObj_heap_other (fun e => by subst e; exact (List.nodup_cons.1 hn).1 hD')).trans a2⟩

theorem info59 : (Try.prog.info? 59).map (fun i => (i.zero, i.size, i.bytes)) = some (some (.int .u8 0), 1, 1) := by kernel_rfl
/-- A row in a box has been appended to and stored. -/
theorem appR_step {α : Type} {d : Kd α} {t e : Nat} {W w1 : World} {g base b0 : Nat} {v v1 : Value} {xs ys : List α}
    (hbox : W.heap[g]? = some (.cells #[v] t (0, 0))) (hg0 : g < b0) (hb0 : base ≤ b0) (hr : d.R e W base (fun k => b0 ≤ k) v xs) (hbase : base ≤ W.heap.size) (hge : base ≤ g) (ho : d.R e w1 base (fun k => b0 ≤ k) v1 ys) (hgr : W.grownBy w1 v.ownBlock) :
    (w1.setCell ⟨g, 0, none⟩ v1).heap[g]? = some (.cells #[v1] t (0, 0)) ∧ d.R e (w1.setCell ⟨g, 0, none⟩ v1) base (fun k => b0 ≤ k) v1 ys ∧
    (∀ k, k < b0 → k ≠ g → k < W.heap.size → (w1.setCell ⟨g, 0, none⟩ v1).heap[k]? = W.heap[k]?) ∧ (∀ B, KeepsFrom B W (w1.setCell ⟨g, 0, none⟩ v1)) ∧ Below base W (w1.setCell ⟨g, 0, none⟩ v1) := by
  have hne : ∀ k, k < b0 → some k ≠ v.ownBlock := fun k hk e => by
    have h : b0 ≤ k := hr.1 _ e.symm
    omega
  have h1 : w1.heap[g]? = some (.cells #[v] t (0, 0)) := blk_grown hbox hgr (hne g hg0)
  refine ⟨blk_put h1 0 _ rfl, Kd.R_far (p := ⟨g, 0, none⟩) ho (fun k hk => (by have : b0 ≤ k := hk; show k ≠ g; omega)) v1, fun k hk hkg hlt => ?_, fun B => ⟨by simpa using hgr.size, fun k o _ hk hc => ?_⟩, ?_⟩
  · exact (Below.heap_setCell w1 ⟨g, 0, none⟩ v1 k hkg).trans (hgr.block k hlt (hne k hk))
  · have hkg : k ≠ g := fun e => by rw [e, hbox] at hk; cases hk; cases hc
    refine (Below.heap_setCell w1 ⟨g, 0, none⟩ v1 k hkg).trans ((hgr.block k (blk_lt hk) (fun e => ?_)).trans hk)
    obtain ⟨_, _, _, q, _, cells, hcell⟩ := (Kd.R_bound hr).1 k e.symm
    rw [hcell] at hk
    cases hk
    cases hc
  · exact ((Below.refl base W).grown hgr hbase fun k e => by
      have h : b0 ≤ k := hr.1 _ e
      omega).setCell (p := ⟨g, 0, none⟩) hge v1
theorem marks_set {w W : World} {g8 : Nat} {ds : List Nat} {v : Value} {cs : Array Value} {t : Nat} {d : Nat × Nat} (hm : ∀ D ∈ ds, w.heap.size ≤ D ∧ W.heap[D]? = some (.deferred (some []))) (h8 : W.heap[g8]? = some (.cells cs t d)) :
    ∀ D ∈ ds, w.heap.size ≤ D ∧ (W.setCell ⟨g8, 0, none⟩ v).heap[D]? = some (.deferred (some [])) := fun D hD =>
  ⟨(hm D hD).1, (Below.heap_setCell W ⟨g8, 0, none⟩ v D (fun e => by have := (hm D hD).2; rw [e, h8] at this; cases this)).trans (hm D hD).2⟩
theorem marks_below {w W W' : World} {ds : List Nat} (hm : ∀ D ∈ ds, w.heap.size ≤ D ∧ W.heap[D]? = some (.deferred (some []))) (hb : Below W.heap.size W W') :
    ∀ D ∈ ds, w.heap.size ≤ D ∧ W'.heap[D]? = some (.deferred (some [])) := fun D hD => ⟨(hm D hD).1, blk_below (hm D hD).2 hb⟩

def tree_Same.T12 : Bool × List (List Nat × List Nat) := (true, [([], []), ([], []), ([], []), ([1, 2], [1, 2]), ([3], [3]), ([4], [4]), ([5], [5]), ([0, 6], [0, 6]), ([7, 7, 0, 1, 2, 3, 4, 5, 6, 7], [7])])
def tree_Same.B12 : List Nat := [0, 0, 0, 6, 14, 30, 62, 127, 255]
theorem tree_Same.tab12 : rtab .any (opsOf Try.f33 12) = tree_Same.T12 := by kernel_rfl
theorem tree_Same.bits12 : waitsOk tree_Same.T12.2 tree_Same.B12 = true := by kernel_rfl
set_option maxHeartbeats 4000000 in
set_option maxRecDepth 100000 in
theorem tree_Same.calls (k : Nat) (A0 : Option Addr) (c0 : Nat) (l0 : List S61) (A1_0 : Option Addr) (c1_0 : Nat) (l1_0 : List S47) (A2 : Option Addr) (c2 : Nat) (l2 : List S61) (A3_0 : Option Addr) (c3_0 : Nat) (l3_0 : List S47) (r : Bool) (w : World)
    (hr0 : Kd.C k61 w A0 l0.length l0) (hc0 : l0.length ≤ c0) (hr1_0 : Kd.C k47 w A1_0 l1_0.length l1_0) (hc1_0 : l1_0.length ≤ c1_0) (hr2 : Kd.C k61 w A2 l2.length l2) (hc2 : l2.length ≤ c2) (hr3_0 : Kd.C k47 w A3_0 l3_0.length l3_0) (hc3_0 : l3_0.length ≤ c3_0) (h : tree_Same.f k l0 l1_0 l2 l3_0 = some r) :
    Calls Try.prog 33 #[.slice A0 l0.length c0, .agg #[.slice A1_0 l1_0.length c1_0], .slice A2 l2.length c2, .agg #[.slice A3_0 l3_0.length c3_0]] w fun e w' => e = .returned (.bool r) ∧ Below w.heap.size w w' := by
  have hu4 := Try.underlying4
  have hu22 := Try.underlying22
  have hu23 := Try.underlying23
  have hu25 := Try.underlying25
  have hu47 := Try.underlying47
  have hu61 := Try.underlying61
  have hu75 := Try.underlying75
  have HR0 := Aside0.mk hr0
  have HR1 := Aside0.mk hr1_0
  have HR2 := Aside0.mk hr2
  have HR3 := Aside0.mk hr3_0
  have HB := Aside0.mk (Below.refl w.heap.size w)
  unfold tree_Same.f at h
  have hcond : l0.length < 17592186044415 ∧ l2.length < 17592186044415 ∧ l1_0.length < 17592186044415 := Classical.byContradiction fun hh => by rw [if_neg hh] at h; cases h
  rw [if_pos hcond] at h
  obtain ⟨hL0, hL2, hL1⟩ := hcond
  obtain rfl := Option.some.inj h
  have HL0 := Aside0.mk hL0
  have HL2 := Aside0.mk hL2
  have HL1 := Aside0.mk hL1
  clear h hL0 hL2 hL1 hr0 hr1_0 hr2 hr3_0 hc0 hc1_0 hc2 hc3_0
  refine (callsIn_wide (n := 3)).1 ?_
  refine callsIn_of_wp_marks Try.func33 rfl trivial ?_ rfl
  simp only [Try.ntmps33, List.size_toArray, List.length_cons, List.length_nil, Nat.reduceAdd, Nat.reduceSub, Array.replicate_succ, Array.replicate_zero, List.push_toArray, List.append_toArray, List.nil_append, List.cons_append]
  refine wpIn_wide.2 ?_
  go_upto_region 1 with (first
    | ((with_reducible refine gate_dst (N := 4) rfl ?_); refine box_event ?hgg4 (N := 4) ?hdg4 (cs := #[.slice A0 l0.length c0]) (t := 22) ?hrg4 ?_; (case hdg4 => rfl); (case hgg4 => rfl); (case hrg4 => first | (go_simp; done) | (go_simp; rfl)); intro g4 hg w1 hbox hb; have n0_ := Aside0.mk (below_step HB.out hb); have n1_ := Aside0.mk hbox; have GEg4 := Aside0.mk (show w.heap.size ≤ g4 by rw [hg]; exact HB.out.size); clear HB; have HB := n0_; have BKg4 := n1_; clear n0_ n1_ hb hbox hg)
    | ((with_reducible refine gate_dst (N := 5) rfl ?_); refine box_event ?hgg5 (N := 5) ?hdg5 (cs := #[.slice A1_0 l1_0.length c1_0]) (t := 25) ?hrg5 ?_; (case hdg5 => rfl); (case hgg5 => rfl); (case hrg5 => first | (go_simp; done) | (go_simp; rfl)); intro g5 hg w2 hbox hb; have NEg4g5 := Aside0.mk (show g4 ≠ g5 by rw [hg]; exact Nat.ne_of_lt (blk_lt BKg4.out)); have n0_ := Aside0.mk (below_step HB.out hb); have n1_ := Aside0.mk hbox; have n_BKg4 := Aside0.mk (blk_below BKg4.out hb); have GEg5 := Aside0.mk (show w.heap.size ≤ g5 by rw [hg]; exact HB.out.size); clear HB; have HB := n0_; have BKg5 := n1_; clear BKg4; have BKg4 := n_BKg4; clear n_BKg4; clear n0_ n1_ hb hbox hg)
    | ((with_reducible refine gate_dst (N := 6) rfl ?_); refine box_event ?hgg6 (N := 6) ?hdg6 (cs := #[.slice A2 l2.length c2]) (t := 22) ?hrg6 ?_; (case hdg6 => rfl); (case hgg6 => rfl); (case hrg6 => first | (go_simp; done) | (go_simp; rfl)); intro g6 hg w3 hbox hb; have NEg4g6 := Aside0.mk (show g4 ≠ g6 by rw [hg]; exact Nat.ne_of_lt (blk_lt BKg4.out)); have NEg5g6 := Aside0.mk (show g5 ≠ g6 by rw [hg]; exact Nat.ne_of_lt (blk_lt BKg5.out)); have n0_ := Aside0.mk (below_step HB.out hb); have n1_ := Aside0.mk hbox; have n_BKg4 := Aside0.mk (blk_below BKg4.out hb); have n_BKg5 := Aside0.mk (blk_below BKg5.out hb); have GEg6 := Aside0.mk (show w.heap.size ≤ g6 by rw [hg]; exact HB.out.size); clear HB; have HB := n0_; have BKg6 := n1_; clear BKg4; have BKg4 := n_BKg4; clear n_BKg4; clear BKg5; have BKg5 := n_BKg5; clear n_BKg5; clear n0_ n1_ hb hbox hg)
    | ((with_reducible refine gate_dst (N := 7) rfl ?_); refine box_event ?hgg7 (N := 7) ?hdg7 (cs := #[.slice A3_0 l3_0.length c3_0]) (t := 25) ?hrg7 ?_; (case hdg7 => rfl); (case hgg7 => rfl); (case hrg7 => first | (go_simp; done) | (go_simp; rfl)); intro g7 hg w4 hbox hb; have NEg4g7 := Aside0.mk (show g4 ≠ g7 by rw [hg]; exact Nat.ne_of_lt (blk_lt BKg4.out)); have NEg5g7 := Aside0.mk (show g5 ≠ g7 by rw [hg]; exact Nat.ne_of_lt (blk_lt BKg5.out)); have NEg6g7 := Aside0.mk (show g6 ≠ g7 by rw [hg]; exact Nat.ne_of_lt (blk_lt BKg6.out)); have n0_ := Aside0.mk (below_step HB.out hb); have n1_ := Aside0.mk hbox; have n_BKg4 := Aside0.mk (blk_below BKg4.out hb); have n_BKg5 := Aside0.mk (blk_below BKg5.out hb); have n_BKg6 := Aside0.mk (blk_below BKg6.out hb); have GEg7 := Aside0.mk (show w.heap.size ≤ g7 by rw [hg]; exact HB.out.size); clear HB; have HB := n0_; have BKg7 := n1_; clear BKg4; have BKg4 := n_BKg4; clear n_BKg4; clear BKg5; have BKg5 := n_BKg5; clear n_BKg5; clear BKg6; have BKg6 := n_BKg6; clear n_BKg6; clear n0_ n1_ hb hbox hg)
    | ((with_reducible refine gate_dst (N := 8) rfl ?_); refine box_event ?hgg8 (N := 8) ?hdg8 (cs := #[.bool false]) (t := 4) ?hrg8 ?_; (case hdg8 => rfl); (case hgg8 => rfl); (case hrg8 => first | (go_simp; done) | (go_simp; rfl)); intro g8 hg w5 hbox hb; have NEg4g8 := Aside0.mk (show g4 ≠ g8 by rw [hg]; exact Nat.ne_of_lt (blk_lt BKg4.out)); have NEg5g8 := Aside0.mk (show g5 ≠ g8 by rw [hg]; exact Nat.ne_of_lt (blk_lt BKg5.out)); have NEg6g8 := Aside0.mk (show g6 ≠ g8 by rw [hg]; exact Nat.ne_of_lt (blk_lt BKg6.out)); have NEg7g8 := Aside0.mk (show g7 ≠ g8 by rw [hg]; exact Nat.ne_of_lt (blk_lt BKg7.out)); have n0_ := Aside0.mk (below_step HB.out hb); have n1_ := Aside0.mk hbox; have n_BKg4 := Aside0.mk (blk_below BKg4.out hb); have n_BKg5 := Aside0.mk (blk_below BKg5.out hb); have n_BKg6 := Aside0.mk (blk_below BKg6.out hb); have n_BKg7 := Aside0.mk (blk_below BKg7.out hb); have GEg8 := Aside0.mk (show w.heap.size ≤ g8 by rw [hg]; exact HB.out.size); clear HB; have HB := n0_; have BKg8 := n1_; clear BKg4; have BKg4 := n_BKg4; clear n_BKg4; clear BKg5; have BKg5 := n_BKg5; clear n_BKg5; clear BKg6; have BKg6 := n_BKg6; clear n_BKg6; clear BKg7; have BKg7 := n_BKg7; clear n_BKg7; clear n0_ n1_ hb hbox hg))
  have q5 : w5.cell? ⟨g5, 0, none⟩ = some (.slice A1_0 l1_0.length c1_0) := (blk_cell BKg5.out 0).trans rfl
  have q7 : w5.cell? ⟨g7, 0, none⟩ = some (.slice A3_0 l3_0.length c3_0) := (blk_cell BKg7.out 0).trans rfl
  by_cases hlen : l1_0.length = l3_0.length
  · have hle : ((l1_0.length : Int) != (l3_0.length : Int)) = false := by rw [hlen]; simp
    have HLE := Aside0.mk hlen
    clear hlen
    go_wp2
    refine name_loop ?_
    intro Lcode hL
    refine name_post ?_
    intro Qpost hQ
    refine wp_loop_rounds (l1_0.length + 1) ?_
    have key : ∀ (d : Nat) (n : Int) (ds : List Nat) (u9 u10 u11 u12 u13 u14 u15 u27 u28 u29 u30 u31 u32 u33 u34 u35 u36 u37 u38 u39 u40 u41 u42 u43 u44 u45 u46 u47 u48 u49 u50 u51 u52 u53 u54 u55 u56 u57 u58 u59 u60 u61 u62 u63 u64 u65 u66 u67 u68 u69 u70 u71 u72 u73 u74 u75 u76 u77 u78 u79 u80 u81 u82 u83 u84 u85 u86 : Value) (W : World), 0 ≤ n → (l1_0.length : Int) - n = d → sameGo l0 l1_0 l2 l3_0 d n = sameB l0 l1_0 l2 l3_0 →
        (∀ D ∈ ds, w.heap.size ≤ D ∧ W.heap[D]? = some (.deferred (some []))) → ds.Nodup →
        (W.heap[g4]? = some (.cells #[.slice A0 l0.length c0] 22 (0, 0)) ∧ W.heap[g6]? = some (.cells #[.slice A2 l2.length c2] 22 (0, 0)) ∧ W.heap[g7]? = some (.cells #[.slice A3_0 l3_0.length c3_0] 25 (0, 0)) ∧ W.heap[g8]? = some (.cells #[.bool false] 4 (0, 0))) →
        Below w.heap.size w W → Code.rounds Try.prog Lcode Qpost (d + 1) { tmps := #[.slice A0 l0.length c0, .agg #[.slice A1_0 l1_0.length c1_0], .slice A2 l2.length c2, .agg #[.slice A3_0 l3_0.length c3_0], .pointer (some ⟨g4, 0, none⟩), .pointer (some ⟨g5, 0, none⟩), .pointer (some ⟨g6, 0, none⟩), .pointer (some ⟨g7, 0, none⟩), .pointer (some ⟨g8, 0, none⟩), u9, u10, u11, u12, u13, u14, u15, .pointer (some ⟨g5, 0, none⟩), .slice A1_0 l1_0.length c1_0, .int .i64 (l1_0.length : Int), .pointer (some ⟨g7, 0, none⟩), .slice A3_0 l3_0.length c3_0, .int .i64 (l3_0.length : Int), .bool false, .pointer (some ⟨g5, 0, none⟩), .slice A1_0 l1_0.length c1_0, .int .i64 (l1_0.length : Int), .int .i64 n, u27, u28, u29, u30, u31, u32, u33, u34, u35, u36, u37, u38, u39, u40, u41, u42, u43, u44, u45, u46, u47, u48, u49, u50, u51, u52, u53, u54, u55, u56, u57, u58, u59, u60, u61, u62, u63, u64, u65, u66, u67, u68, u69, u70, u71, u72, u73, u74, u75, u76, u77, u78, u79, u80, u81, u82, u83, u84, u85, u86], defers := ds.map mark } W := by
      intro d
      induction d with
      | zero =>
        intro n ds u9 u10 u11 u12 u13 u14 u15 u27 u28 u29 u30 u31 u32 u33 u34 u35 u36 u37 u38 u39 u40 u41 u42 u43 u44 u45 u46 u47 u48 u49 u50 u51 u52 u53 u54 u55 u56 u57 u58 u59 u60 u61 u62 u63 u64 u65 u66 u67 u68 u69 u70 u71 u72 u73 u74 u75 u76 u77 u78 u79 u80 u81 u82 u83 u84 u85 u86 W h0 hd hs hm hn hbk hB
        rw [rounds_succ]
        have hge : ¬ n < (l1_0.length : Int) := by omega
        have hsb : sameB l0 l1_0 l2 l3_0 = true := hs.symm
        rw [← hL]
        subst hQ
        have q8 : W.cell? ⟨g8, 0, none⟩ = some (.bool false) := (blk_cell hbk.2.2.2 0).trans rfl
        have f8 := blk_frozen hbk.2.2.2 0
        clear hL hs hd
        go_wp2
        exact same_out w g8 true _ rfl ds _ (marks_set hm hbk.2.2.2) hn (blk_put hbk.2.2.2 0 _ rfl) (below_set hB GEg8.out)
      | succ d ih =>
        intro n ds u9 u10 u11 u12 u13 u14 u15 u27 u28 u29 u30 u31 u32 u33 u34 u35 u36 u37 u38 u39 u40 u41 u42 u43 u44 u45 u46 u47 u48 u49 u50 u51 u52 u53 u54 u55 u56 u57 u58 u59 u60 u61 u62 u63 u64 u65 u66 u67 u68 u69 u70 u71 u72 u73 u74 u75 u76 u77 u78 u79 u80 u81 u82 u83 u84 u85 u86 W h0 hd hs hm hn hbk hB
        rw [rounds_succ]
        generalize hR : Code.rounds Try.prog Lcode Qpost (d + 1) = Rnext
        have hlt : n < (l1_0.length : Int) := by omega
        have hlt3 : n < (l3_0.length : Int) := by have := HLE.out; omega
        obtain ⟨ad1, e1, hx0, hx1, hx2, hx3⟩ := at_T47 (Kd.C_below HR1.out hB) n h0 hlt
        obtain ⟨ad3, e3, hy0, hy1, hy2, hy3⟩ := at_T47 (Kd.C_below HR3.out hB) n h0 hlt3
        subst e1
        subst e3
        have q7 : W.cell? ⟨g7, 0, none⟩ = some (.slice (some ad3) l3_0.length c3_0) := (blk_cell hbk.2.2.1 0).trans rfl
        have p0 := eq_true h0
        have ba : Below W.heap.size W (W.alloc (.cells #[.int .u8 (rd_T47 l1_0 n).f0, .int .i64 (rd_T47 l1_0 n).f1, .int .i64 (rd_T47 l1_0 n).f2, .int .i64 (rd_T47 l1_0 n).f3] 47)) := below_alloc (Below.refl _ _) _
        have q7a := (ba.cell (World.block_lt_of_cell? _ _ q7)).trans q7
        have ya0 := (ba.cell (World.block_lt_of_cell? _ _ hy0)).trans hy0
        have ya1 := (ba.cell (World.block_lt_of_cell? _ _ hy1)).trans hy1
        have ya2 := (ba.cell (World.block_lt_of_cell? _ _ hy2)).trans hy2
        have ya3 := (ba.cell (World.block_lt_of_cell? _ _ hy3)).trans hy3
        clear ba
        have IH := Aside0.mk ih
        have HM := Aside0.mk hm
        have HN := Aside0.mk hn
        have HK := Aside0.mk hbk
        have HS := Aside0.mk hs
        have HBW := Aside0.mk hB
        have HRN := Aside0.mk hR
        have HQQ := Aside0.mk hQ
        have HD := Aside0.mk hd
        rw [← hL]
        have HLL := Aside0.mk hL
        clear ih hm hn hbk hs hB hR hQ hL hd
        go_upto_region 7 with (fail)
        have b10 : ((W.alloc (.cells #[.int .u8 (rd_T47 l1_0 n).f0, .int .i64 (rd_T47 l1_0 n).f1, .int .i64 (rd_T47 l1_0 n).f2, .int .i64 (rd_T47 l1_0 n).f3] 47)).alloc (.cells #[.int .u8 (rd_T47 l3_0 n).f0, .int .i64 (rd_T47 l3_0 n).f1, .int .i64 (rd_T47 l3_0 n).f2, .int .i64 (rd_T47 l3_0 n).f3] 47)).heap[W.heap.size]? = some (.cells #[.int .u8 (rd_T47 l1_0 n).f0, .int .i64 (rd_T47 l1_0 n).f1, .int .i64 (rd_T47 l1_0 n).f2, .int .i64 (rd_T47 l1_0 n).f3] 47 (0, 0)) := blk_alloc (blk_new W _) _
        have b11 : ((W.alloc (.cells #[.int .u8 (rd_T47 l1_0 n).f0, .int .i64 (rd_T47 l1_0 n).f1, .int .i64 (rd_T47 l1_0 n).f2, .int .i64 (rd_T47 l1_0 n).f3] 47)).alloc (.cells #[.int .u8 (rd_T47 l3_0 n).f0, .int .i64 (rd_T47 l3_0 n).f1, .int .i64 (rd_T47 l3_0 n).f2, .int .i64 (rd_T47 l3_0 n).f3] 47)).heap[W.heap.size + 1]? = some (.cells #[.int .u8 (rd_T47 l3_0 n).f0, .int .i64 (rd_T47 l3_0 n).f1, .int .i64 (rd_T47 l3_0 n).f2, .int .i64 (rd_T47 l3_0 n).f3] 47 (0, 0)) := by
          have e := blk_new (W.alloc (.cells #[.int .u8 (rd_T47 l1_0 n).f0, .int .i64 (rd_T47 l1_0 n).f1, .int .i64 (rd_T47 l1_0 n).f2, .int .i64 (rd_T47 l1_0 n).f3] 47)) (.cells #[.int .u8 (rd_T47 l3_0 n).f0, .int .i64 (rd_T47 l3_0 n).f1, .int .i64 (rd_T47 l3_0 n).f2, .int .i64 (rd_T47 l3_0 n).f3] 47)
          rwa [World.size_alloc] at e
        have bb : Below W.heap.size W ((W.alloc (.cells #[.int .u8 (rd_T47 l1_0 n).f0, .int .i64 (rd_T47 l1_0 n).f1, .int .i64 (rd_T47 l1_0 n).f2, .int .i64 (rd_T47 l1_0 n).f3] 47)).alloc (.cells #[.int .u8 (rd_T47 l3_0 n).f0, .int .i64 (rd_T47 l3_0 n).f1, .int .i64 (rd_T47 l3_0 n).f2, .int .i64 (rd_T47 l3_0 n).f3] 47)) := below_alloc (below_alloc (Below.refl _ _) _) _
        have g10w : W.heap.size ≤ W.heap.size := Nat.le_refl _
        have g11w : W.heap.size ≤ W.heap.size + 1 := Nat.le_succ _
        generalize (W.alloc (.cells #[.int .u8 (rd_T47 l1_0 n).f0, .int .i64 (rd_T47 l1_0 n).f1, .int .i64 (rd_T47 l1_0 n).f2, .int .i64 (rd_T47 l1_0 n).f3] 47)).alloc (.cells #[.int .u8 (rd_T47 l3_0 n).f0, .int .i64 (rd_T47 l3_0 n).f1, .int .i64 (rd_T47 l3_0 n).f2, .int .i64 (rd_T47 l3_0 n).f3] 47) = W1 at b10 b11 bb ⊢
        obtain ⟨g11, hg11⟩ : ∃ g, W.heap.size + 1 = g := ⟨_, rfl⟩
        rw [hg11] at b11 g11w ⊢
        obtain ⟨g10, hg10⟩ : ∃ g, W.heap.size = g := ⟨_, rfl⟩
        rw [hg10] at b10 ⊢
        rw [hg10] at g10w g11w
        have BK10 := Aside0.mk b10
        have BK11 := Aside0.mk b11
        have HB1 := Aside0.mk bb
        have G10 := Aside0.mk hg10
        have G11 := Aside0.mk hg11
        clear b10 b11 bb hg10 hg11 g10w g11w hx0 hx1 hx2 hx3 hy0 hy1 hy2 hy3 q7 p0 q7a ya0 ya1 ya2 ya3
        have q10 : W1.cell? ⟨g10, 0, none⟩ = some (.int .u8 (rd_T47 l1_0 n).f0) := (blk_cell BK10.out 0).trans rfl
        have q103 : W1.cell? ⟨g10, 3, none⟩ = some (.int .i64 (rd_T47 l1_0 n).f3) := (blk_cell BK10.out 3).trans rfl
        have q11 : W1.cell? ⟨g11, 0, none⟩ = some (.int .u8 (rd_T47 l3_0 n).f0) := (blk_cell BK11.out 0).trans rfl
        have q113 : W1.cell? ⟨g11, 3, none⟩ = some (.int .i64 (rd_T47 l3_0 n).f3) := (blk_cell BK11.out 3).trans rfl
        by_cases hkk : (rd_T47 l1_0 n).f0 = (rd_T47 l3_0 n).f0 ∧ (rd_T47 l1_0 n).f3 = (rd_T47 l3_0 n).f3
        · obtain ⟨k0, k3⟩ := hkk
          have z0 : ((rd_T47 l1_0 n).f0 != (rd_T47 l3_0 n).f0) = false := by rw [k0]; simp
          have z3 : ((rd_T47 l1_0 n).f3 != (rd_T47 l3_0 n).f3) = false := by rw [k3]; simp
          have K0 := Aside0.mk k0
          have K3 := Aside0.mk k3
          clear k0 k3
          go_upto_region 10 with (fail)
          have b12 : (W1.alloc (.cells #[.slice none 0 0] 75)).heap[W1.heap.size]? = some (.cells #[.slice none 0 0] 75 (0, 0)) := blk_new W1 _
          have ba : Below W1.heap.size W1 (W1.alloc (.cells #[.slice none 0 0] 75)) := below_alloc (Below.refl _ _) _
          generalize W1.alloc (.cells #[.slice none 0 0] 75) = W2 at b12 ba ⊢
          obtain ⟨g12, hg12⟩ : ∃ g, W1.heap.size = g := ⟨_, rfl⟩
          rw [hg12] at b12 ⊢
          have NB := Aside0.mk (HB1.out.trans (ba.mono HB1.out.size))
          have N10 := Aside0.mk (blk_below BK10.out ba)
          have N11 := Aside0.mk (blk_below BK11.out ba)
          have G12 := Aside0.mk hg12
          have BK12 := Aside0.mk b12
          have E12 := Aside0.mk (show g10 < g12 ∧ g11 < g12 by have := blk_lt BK10.out; have := blk_lt BK11.out; omega)
          clear HB1 BK10 BK11 q10 q103 q11 q113 b12 ba z0 z3 hg12
          have HB1 := NB
          have BK10 := N10
          have BK11 := N11
          clear NB N10 N11
          have q4 : W2.cell? ⟨g4, 0, none⟩ = some (.slice A0 l0.length c0) := (blk_cell (blk_below HK.out.1 HB1.out) 0).trans rfl
          have q0 : W2.cell? ⟨g10, 0, none⟩ = some (.int .u8 (rd_T47 l1_0 n).f0) := (blk_cell BK10.out 0).trans rfl
          have q1 : W2.cell? ⟨g10, 1, none⟩ = some (.int .i64 (rd_T47 l1_0 n).f1) := (blk_cell BK10.out 1).trans rfl
          have q2 : W2.cell? ⟨g10, 2, none⟩ = some (.int .i64 (rd_T47 l1_0 n).f2) := (blk_cell BK10.out 2).trans rfl
          have q3 : W2.cell? ⟨g10, 3, none⟩ = some (.int .i64 (rd_T47 l1_0 n).f3) := (blk_cell BK10.out 3).trans rfl
          go_wp2_with (fail)
          refine (tokens.calls A0 l0.length c0 _ _ _ _ _).mono ?_
          rintro e W4 ⟨b1, b2, rfl, k1, k2, gb1, gb2, hb4⟩
          have NB := Aside0.mk (HB1.out.trans (hb4.mono HB1.out.size))
          have N10 := Aside0.mk (blk_below BK10.out hb4)
          have N11 := Aside0.mk (blk_below BK11.out hb4)
          have N12 := Aside0.mk (blk_below BK12.out hb4)
          have F1 := Aside0.mk (show b1 ≠ g12 by have := blk_lt BK12.out; omega)
          have F2 := Aside0.mk (show b2 ≠ g12 by have := blk_lt BK12.out; omega)
          have K1 := Aside0.mk k1
          have K2 := Aside0.mk k2
          clear HB1 BK10 BK11 BK12 q4 q0 q1 q2 q3 k1 k2 gb1 gb2 hb4
          have HB1 := NB
          have BK10 := N10
          have BK11 := N11
          have BK12 := N12
          clear NB N10 N11 N12
          have HBW4 := Aside0.mk (below_step HBW.out HB1.out)
          have GL12 := Aside0.mk (show g12 < W4.heap.size from blk_lt BK12.out)
          have GB4 := Aside0.mk (show w.heap.size ≤ W4.heap.size from HBW4.out.size)
          have GE12 := Aside0.mk (show w.heap.size ≤ g12 by have := HBW.out.size; have := E12.out.1; have := G10.out; omega)
          have E4 := Aside0.mk (show g4 ≠ g12 by have := blk_lt HK.out.1; have := E12.out.1; have := G10.out; omega)
          go_wp2
          refine rf1 (gf := 62) (lb := #[.pointer (some ⟨b1, 0, none⟩), .pointer (some ⟨b2, 0, none⟩)]) (p := 51) (s := 13) rfl (enters_of Try.func62 (by kernel_rfl) rfl) (tokens_stops 2 (by omega) b1 b2 w W4 A0 c0 l0 _ _ _ _ (by have := HL0.out; omega) HR0.out HBW4.out K1.out K2.out) KpT.trans (KpT_b GB4.out (blk_lt K1.out) (blk_lt K2.out))
            (fun pre W' => BoxR (Kd.int .u8) 75 59 g12 w.heap.size W4.heap.size ((valsT pre).map (fun i => (rd_T61 l0 i).f0)) W' ∧ KeepB W4 g12 W' ∧ Below w.heap.size w W')
            (fun _ _ _ => False)
            (OwnFrom.and (boxR_own _) (OwnFrom.and (keepB_own W4 g12) (ownFrom_below (Nat.le_refl _) GB4.out)))
            (fun _ _ _ _ _ hs _ _ => hs)
            ⟨⟨_, BK12.out, Kd.R_nil _ _ _ _ _⟩, KeepB.refl _ _, HBW4.out⟩ ?assign ?body ?done ?stop
          case assign =>
            intro lp x W K hK
            simp only [List.setIfInBounds_toArray, List.set_cons_zero, List.set_cons_succ] at hK ⊢
            gi_wp2
            exact hK
          case stop => exact fun _ _ _ _ _ _ h _ => h.elim
          case body =>
            rintro lp pre x W5 ⟨⟨v, hv, hR⟩, hk, hB⟩ hlt
            simp only [List.setIfInBounds_toArray, List.set_cons_zero, List.set_cons_succ]
            obtain ⟨ms, hms⟩ : ∃ ms, (valsT pre).map (fun i => (rd_T61 l0 i).f0) = ms := ⟨_, rfl⟩
            rw [hms] at hR
            have hml : ms.length = pre.length := by rw [← hms]; simp [valsT]
            have hsn : (valsT (pre ++ [x])).map (fun i => (rd_T61 l0 i).f0) = ms ++ [(rd_T61 l0 x.1).f0] := by rw [← hms]; simp [valsT]
            obtain ⟨adx, ex, hx0, hx1, hx2⟩ := at_T61 (Kd.C_below HR0.out hB) x.1 x.2.1 x.2.2.1
            have HLN := Aside0.mk (show ms.length < 17592186044415 by have := HL0.out; omega)
            have HSN := Aside0.mk hsn
            obtain ⟨Av, cv, rfl⟩ := Kd.R_slice hR
            have HG4 := Aside0.mk (hk.blk (blk_below HK.out.1 HB1.out) E4.out)
            subst ex
            have HX := Aside0.mk hv
            have HV := Aside0.mk hR
            have HKB := Aside0.mk hk
            have HW := Aside0.mk hB
            have p1 := eq_true x.2.1
            have p2 := eq_true x.2.2.1
            clear hv hR hk hB hms hml hsn
            gi_wp2
            refine start_in (by rfl) (n := 9) (S := fun w' => Below W5.heap.size W5 w') (ds := [7, 8]) #[false, false, false, false, false, false, false, false, false] (by kernel_rfl) rfl rfl (below_drew (Below.refl _ _)) (fun hHeld => ?_)
            refine with_tabW tree_Same.tab12 tree_Same.bits12 (fun HT_ HW_ => ?_)
            generalize W5.drew = wb at hHeld ⊢
            refine pure_ (i := 2) (N := some 54) (v := ?_) (a' := ?_) #[false, false, true, false, false, false, false, false, false] rfl rfl (any_of HT_.out (by kernel_rfl)) (fun _ _ _ h => h) (Or.inl ⟨by rfl, ?_⟩) ?_ ?_
            rotate_left
            · intro w'
              go_simp
              with_reducible rfl
            rotate_left
            · simp only [Act.put, List.setIfInBounds_toArray, List.set_cons_zero, List.set_cons_succ, i64_w, i32_w]
              rfl
            refine take_ (i := 0) (N := some 52) (v := ?_) (a' := ?_) #[true, false, true, false, false, false, false, false, false] rfl rfl (take_ofW HT_.out HW_.out (by kernel_rfl)) (fun _ _ _ h => h) (Or.inl ⟨by rfl, ?_⟩) hHeld ?_ ?_
            rotate_left
            · intro w' hS
              have q12 : w'.cell? ⟨g12, 0, none⟩ = some (.slice Av ms.length cv) := (blk_cell (blk_below HX.out hS) 0).trans rfl
              have q4 : w'.cell? ⟨g4, 0, none⟩ = some (.slice (some adx) l0.length c0) := (blk_cell (blk_below HG4.out hS) 0).trans rfl
              have y0 := (hS.cell (World.block_lt_of_cell? _ _ hx0)).trans hx0
              clear hS
              go_simp
              with_reducible rfl
            rotate_left
            · simp only [Act.put, List.setIfInBounds_toArray, List.set_cons_zero, List.set_cons_succ, i64_w, i32_w]
              rfl
            refine take_ (i := 1) (N := some 53) (v := ?_) (a' := ?_) #[true, true, true, false, false, false, false, false, false] rfl rfl (take_ofW HT_.out HW_.out (by kernel_rfl)) (fun _ _ _ h => h) (Or.inl ⟨by rfl, ?_⟩) hHeld ?_ ?_
            rotate_left
            · intro w' hS
              have q12 : w'.cell? ⟨g12, 0, none⟩ = some (.slice Av ms.length cv) := (blk_cell (blk_below HX.out hS) 0).trans rfl
              have q4 : w'.cell? ⟨g4, 0, none⟩ = some (.slice (some adx) l0.length c0) := (blk_cell (blk_below HG4.out hS) 0).trans rfl
              have y0 := (hS.cell (World.block_lt_of_cell? _ _ hx0)).trans hx0
              clear hS
              go_simp
              with_reducible rfl
            rotate_left
            · simp only [Act.put, List.setIfInBounds_toArray, List.set_cons_zero, List.set_cons_succ, i64_w, i32_w]
              rfl
            refine pure_ (i := 3) (N := some 55) (v := ?_) (a' := ?_) #[true, true, true, true, false, false, false, false, false] rfl rfl (any_of HT_.out (by kernel_rfl)) (fun _ _ _ h => h) (Or.inl ⟨by rfl, ?_⟩) ?_ ?_
            rotate_left
            · intro w'
              go_simp
              with_reducible rfl
            rotate_left
            · simp only [Act.put, List.setIfInBounds_toArray, List.set_cons_zero, List.set_cons_succ, i64_w, i32_w]
              rfl
            refine pure_ (i := 4) (N := some 56) (v := ?_) (a' := ?_) #[true, true, true, true, true, false, false, false, false] rfl rfl (any_of HT_.out (by kernel_rfl)) (fun _ _ _ h => h) (Or.inl ⟨by rfl, ?_⟩) ?_ ?_
            rotate_left
            · intro w'
              go_simp
              with_reducible rfl
            rotate_left
            · simp only [Act.put, List.setIfInBounds_toArray, List.set_cons_zero, List.set_cons_succ, i64_w, i32_w]
              rfl
            refine take_ (i := 5) (N := some 57) (v := ?_) (a' := ?_) #[true, true, true, true, true, true, false, false, false] rfl rfl (take_ofW HT_.out HW_.out (by kernel_rfl)) (fun _ _ _ h => h) (Or.inl ⟨by rfl, ?_⟩) hHeld ?_ ?_
            rotate_left
            · intro w' hS
              have q12 : w'.cell? ⟨g12, 0, none⟩ = some (.slice Av ms.length cv) := (blk_cell (blk_below HX.out hS) 0).trans rfl
              have q4 : w'.cell? ⟨g4, 0, none⟩ = some (.slice (some adx) l0.length c0) := (blk_cell (blk_below HG4.out hS) 0).trans rfl
              have y0 := (hS.cell (World.block_lt_of_cell? _ _ hx0)).trans hx0
              clear hS
              go_simp
              with_reducible rfl
            rotate_left
            · simp only [Act.put, List.setIfInBounds_toArray, List.set_cons_zero, List.set_cons_succ, i64_w, i32_w]
              rfl
            refine one_ (i := 6) (N := some 58) #[true, true, true, true, true, true, true, false, false] rfl rfl (one_of HT_.out (by kernel_rfl)) (by decide) (fun K hK => ?_)
            refine value_ (w1 := ?_) (v := ?_) (by rfl) rfl ?_ ?_
            rotate_left 2
            · go_simp
              constructor
              · rfl
              · rfl
            refine hK.out _ _ (below_alloc hHeld _) (fun hHeld2 => ?_)
            clear hK K
            refine norm_ (a' := ?_) ?_ ?_
            rotate_left
            · show Act.put _ (some 58) _ = _
              simp only [Act.put, List.setIfInBounds_toArray, List.set_cons_zero, List.set_cons_succ, i64_w, i32_w]
              rfl
            refine last_ (i := 7) (N := some 59) #[true, true, true, true, true, true, true, true, false] rfl rfl (one_of HT_.out (by kernel_rfl)) (by decide) (fun K hK => ?_)
            refine Kd.R_append_step (Kd.int .u8) (w0 := w) w.heap.size (by rfl) (.tmp 52) (.tmp 58) 75 59 (.int .u8 0) 1 rfl Try.underlying75 info59 rfl (by decide) (by omega) (.slice Av ms.length cv) ms ((rd_T61 l0 x.1).f0) [.int .u8 ((rd_T61 l0 x.1).f0)] (fun k => W4.heap.size ≤ k) (fun _ => False) rfl rfl ?aP (fun _ hk => hk.elim) ?aF ?aO ?aB ?aS ?aL ?_
            (case aP => exact rfl)
            (case aF => exact (fun k hk => by have := HKB.out.1; have := hHeld.size; show W4.heap.size ≤ k; omega))
            (case aO => exact Kd.R_below HV.out hHeld)
            (case aB => exact below_step HW.out hHeld)
            (case aS => exact (below_step HW.out hHeld).size)
            (case aL => have := HLN.out; omega)
            intro v1 w7 ho hb1 hg hat
            have AP := Aside0.mk (appR_step (blk_below HX.out hHeld) GL12.out GB4.out (Kd.R_below HV.out hHeld) (below_step HW.out hHeld).size GE12.out ho hg)
            have HBO := Aside0.mk hb1
            have h7 := blk_grown (blk_below HX.out hHeld) hg (fun e => by have h : W4.heap.size ≤ g12 := HV.out.1 _ e.symm; have := GL12.out; omega)
            have q12' : w7.cell? ⟨g12, 0, none⟩ = some (.slice Av ms.length cv) := (blk_cell h7 0).trans rfl
            have f12' := blk_frozen h7 0
            obtain ⟨A7, c7, e7⟩ := Kd.R_slice ho
            subst e7
            obtain ⟨ms2, hms2⟩ : ∃ z, ms ++ [(rd_T61 l0 x.1).f0] = z := ⟨_, rfl⟩
            skip
            refine hK.out _ _ ?_
            clear hK K
            refine norm_ (a' := ?_) ?_ ?_
            rotate_left
            · show Act.put _ (some 59) _ = _
              simp only [Act.put, List.setIfInBounds_toArray, List.set_cons_zero, List.set_cons_succ, i64_w, i32_w]
              rfl
            refine last_ (i := 8) (N := none) #[true, true, true, true, true, true, true, true, true] rfl rfl (one_of HT_.out (by kernel_rfl)) (by decide) (fun K hK => ?_)
            refine skip_ (w1 := ?_) (by rfl) rfl ?_ ?_
            rotate_left 1
            · go_simp
              rfl
            refine hK.out _ _ ?_
            clear hK K
            refine done_ (done_of HT_.out (by kernel_rfl)) ?_
            (rw [noOut_normal]; gi_wp2)
            have ap := AP.out
            rw [hms2] at ap
            obtain ⟨ap1, ap2, ap3, ap4, ap5⟩ := ap
            have hs0 := HKB.out.1
            have hs1 := hHeld.size
            have hs4 := HW.out.size
            refine ⟨KeepsFrom.trans (keeps_below hHeld _) (ap4 _), ⟨(hHeld.mono hs4).trans ap5, (ap3 b1 (blk_lt K1.out) F1.out (by have := blk_lt K1.out; omega)).trans (hHeld.block b1 (by have := blk_lt K1.out; omega)), (ap3 b2 (blk_lt K2.out) F2.out (by have := blk_lt K2.out; omega)).trans (hHeld.block b2 (by have := blk_lt K2.out; omega))⟩, ⟨_, ap1, ?_⟩, HKB.out.trans (KeepsFrom.trans (keeps_below hHeld 0) (ap4 0)).size (fun k h1 h2 => (ap3 k h1 h2 (by omega)).trans (hHeld.block k (by omega))), (HW.out.trans (hHeld.mono hs4)).trans ap5⟩
            rw [HSN.out, hms2]
            exact ap2
          case done =>
            rintro D ys W6 hD hys ⟨⟨v, hv, hR⟩, hk, hB⟩ hKD
            rw [hys] at hR
            have hkk : (tokR l0 (mx (rd_T47 l1_0 n).f1 0) (mn (rd_T47 l1_0 n).f2 (l0.length : Int))).map (fun i => (rd_T61 l0 i).f0) = kindsR l0 (rd_T47 l1_0 n) := rfl
            rw [hkk] at hR
            obtain ⟨ks, hks⟩ : ∃ ks, kindsR l0 (rd_T47 l1_0 n) = ks := ⟨_, rfl⟩
            rw [hks] at hR
            obtain ⟨Av, cv, rfl⟩ := Kd.R_slice hR
            have e4 : ∀ {b : Nat} {o : Obj}, W.heap[b]? = some o → W6.heap[b]? = some o := fun {b o} h => hk.blk (blk_below h HB1.out) (by have := blk_lt h; have := E12.out.1; have := G10.out; omega)
            have M6 := Aside0.mk (show ∀ D' ∈ D :: ds, w.heap.size ≤ D' ∧ W6.heap[D']? = some (.deferred (some [])) from fun D' hD' => by
              rcases List.mem_cons.1 hD' with rfl | hD'
              · exact ⟨by have := GB4.out; omega, hKD⟩
              · exact ⟨(HM.out D' hD').1, e4 (HM.out D' hD').2⟩)
            have N6 := Aside0.mk (show (D :: ds).Nodup from List.nodup_cons.2 ⟨fun h => by have := blk_lt (HM.out D h).2; have := HB1.out.size; omega, HN.out⟩)
            have J4 := Aside0.mk (e4 HK.out.1)
            have J6 := Aside0.mk (e4 HK.out.2.1)
            have J7 := Aside0.mk (e4 HK.out.2.2.1)
            have J8 := Aside0.mk (e4 HK.out.2.2.2)
            have J11 := Aside0.mk (hk.blk BK11.out (by have := E12.out.2; omega))
            have J12 := Aside0.mk hv
            have JR := Aside0.mk (Kd.R_mono (Kd.R_bound hR) (ok' := fun k => k ≠ W6.heap.size) (fun k hk => by have := hk.2.2.1; show k ≠ W6.heap.size; omega))
            have JB := Aside0.mk hB
            have HKS := Aside0.mk hks
            have L6 := Aside0.mk (show W.heap.size ≤ W6.heap.size from Nat.le_trans HB1.out.size hk.1)
            clear hv hR hk hB hKD hD hys hkk hks e4 HB1 BK10 BK11 BK12 HBW4 GL12 GB4 GE12 E4 K1 K2 F1 F2
            go_upto_region 14 with (fail)
            have b14 : (W6.alloc (.cells #[.int .i64 0] 3)).heap[W6.heap.size]? = some (.cells #[.int .i64 0] 3 (0, 0)) := blk_new W6 _
            have ba : Below W6.heap.size W6 (W6.alloc (.cells #[.int .i64 0] 3)) := below_alloc (Below.refl _ _) _
            generalize W6.alloc (.cells #[.int .i64 0] 3) = W7 at b14 ba ⊢
            obtain ⟨g14, hg14⟩ : ∃ g, W6.heap.size = g := ⟨_, rfl⟩
            rw [hg14] at b14 ⊢
            have G14 := Aside0.mk hg14
            have BK14 := Aside0.mk b14
            have HBA := Aside0.mk ba
            clear b14 ba hg14
            have q6 : W7.cell? ⟨g6, 0, none⟩ = some (.slice A2 l2.length c2) := (blk_cell (blk_below J6.out HBA.out) 0).trans rfl
            have q0 : W7.cell? ⟨g11, 0, none⟩ = some (.int .u8 (rd_T47 l3_0 n).f0) := (blk_cell (blk_below J11.out HBA.out) 0).trans rfl
            have q1 : W7.cell? ⟨g11, 1, none⟩ = some (.int .i64 (rd_T47 l3_0 n).f1) := (blk_cell (blk_below J11.out HBA.out) 1).trans rfl
            have q2 : W7.cell? ⟨g11, 2, none⟩ = some (.int .i64 (rd_T47 l3_0 n).f2) := (blk_cell (blk_below J11.out HBA.out) 2).trans rfl
            have q3 : W7.cell? ⟨g11, 3, none⟩ = some (.int .i64 (rd_T47 l3_0 n).f3) := (blk_cell (blk_below J11.out HBA.out) 3).trans rfl
            go_wp2_with (fail)
            refine (tokens.calls A2 l2.length c2 _ _ _ _ _).mono ?_
            rintro e W8 ⟨b3, b4, rfl, k3, k4, gb3, gb4, hb8⟩
            have hb68 := HBA.out.trans (hb8.mono HBA.out.size)
            have M8 := Aside0.mk (marks_below M6.out hb68)
            have P4 := Aside0.mk (blk_below J4.out hb68)
            have P6 := Aside0.mk (blk_below J6.out hb68)
            have P7 := Aside0.mk (blk_below J7.out hb68)
            have P8 := Aside0.mk (blk_below J8.out hb68)
            have P12 := Aside0.mk (blk_below J12.out hb68)
            have PR := Aside0.mk (Kd.R_below JR.out hb68)
            have PB := Aside0.mk (below_step JB.out hb68)
            have P14 := Aside0.mk (blk_below BK14.out hb8)
            have K3_ := Aside0.mk k3
            have K4_ := Aside0.mk k4
            have lt6 : ∀ {b : Nat} {o : Obj}, W6.heap[b]? = some o → b < g14 := fun {b o} h => by have := blk_lt h; have := G14.out; omega
            have Q4 := Aside0.mk (lt6 J4.out)
            have Q6 := Aside0.mk (lt6 J6.out)
            have Q7 := Aside0.mk (lt6 J7.out)
            have Q8 := Aside0.mk (lt6 J8.out)
            have Q12 := Aside0.mk (lt6 J12.out)
            have QM := Aside0.mk (show ∀ D' ∈ D :: ds, D' < g14 from fun D' h => lt6 (M6.out D' h).2)
            have F3 := Aside0.mk (show b3 ≠ g14 by have := blk_lt BK14.out; omega)
            have F4 := Aside0.mk (show b4 ≠ g14 by have := blk_lt BK14.out; omega)
            have GE14 := Aside0.mk (show w.heap.size ≤ g14 by have := JB.out.size; have := G14.out; omega)
            rw [G14.out] at PR
            clear lt6 hb68 hb8 HBA k3 k4 gb3 gb4 M6 J4 J6 J7 J8 J11 J12 JR JB q6 q0 q1 q2 q3 BK14
            go_wp2
            refine rf1 (gf := 62) (lb := #[.pointer (some ⟨b3, 0, none⟩), .pointer (some ⟨b4, 0, none⟩)]) (p := 63) (s := 15) rfl (enters_of Try.func62 (by kernel_rfl) rfl) (tokens_stops 2 (by omega) b3 b4 w W8 A2 c2 l2 _ _ _ _ (by have := HL2.out; omega) HR2.out PB.out K3_.out K4_.out) KpT.trans (KpT_b PB.out.size (blk_lt K3_.out) (blk_lt K4_.out))
              (fun pre W' => (W'.heap[g14]? = some (.cells #[.int .i64 (pre.length : Int)] 3 (0, 0)) ∧ (valsT pre).map (fun i => (rd_T61 l2 i).f0) = ks.take pre.length ∧ pre.length ≤ ks.length) ∧ KeepB W8 g14 W' ∧ Below w.heap.size w W')
              (fun c pre W' => c = .ret ∧ ¬ ((valsT pre).map (fun i => (rd_T61 l2 i).f0) <+: ks) ∧ W'.heap[g8]? = some (.cells #[.bool false] 4 (0, 0)) ∧ (∀ k, k < W8.heap.size → k ≠ g14 → k ≠ g8 → W'.heap[k]? = W8.heap[k]?) ∧ W8.heap.size ≤ W'.heap.size ∧ Below w.heap.size w W')
              (OwnFrom.and (fun _ _ _ _ h hg hr => ⟨blk_own h.1 hg (fun r e => (hr r e).2), h.2⟩) (OwnFrom.and (keepB_own W8 g14) (ownFrom_below (Nat.le_refl _) PB.out.size)))
              (fun _ _ _ _ _ h hg hr => ⟨h.1, h.2.1, blk_own h.2.2.1 hg (fun r e => (hr r e).2), fun k a b c => (hg.block k (Nat.lt_of_lt_of_le a h.2.2.2.2.1) (fun e => by have := (hr k e.symm).1; omega)).trans (h.2.2.2.1 k a b c), Nat.le_trans h.2.2.2.2.1 hg.size, h.2.2.2.2.2.grown hg h.2.2.2.2.2.size (fun k e => Nat.le_trans PB.out.size (hr k e).1)⟩)
              ⟨⟨P14.out, rfl, Nat.zero_le _⟩, KeepB.refl _ _, PB.out⟩ ?assign2 ?body2 ?done2 ?stop2
            case assign2 =>
              intro lp x W K hK
              simp only [List.setIfInBounds_toArray, List.set_cons_zero, List.set_cons_succ] at hK ⊢
              gi_wp2
              exact hK
            case stop2 =>
              rintro D2 c pre W9 hD2 hsp ⟨rfl, hnp, h8, hkk, hsz, hB9⟩ hKD
              have hne : ¬ kindsR l0 (rd_T47 l1_0 n) = kindsR l2 (rd_T47 l3_0 n) := fun e => hnp (by rw [← HKS.out, e]; exact hsp.map _)
              have hs0 : sameB l0 l1_0 l2 l3_0 = false := by
                rw [← HS.out]
                show (nodeB l0 (rd_T47 l1_0 n) l2 (rd_T47 l3_0 n) && _) = false
                unfold nodeB
                rw [decide_eq_false hne, Bool.and_false, Bool.and_false]
                rfl
              have hmk : ∀ D' ∈ D2 :: D :: ds, w.heap.size ≤ D' ∧ W9.heap[D']? = some (.deferred (some [])) := fun D' hD' => by
                rcases List.mem_cons.1 hD' with rfl | hD'
                · exact ⟨by have := PB.out.size; omega, hKD⟩
                · exact ⟨(M8.out D' hD').1, (hkk D' (blk_lt (M8.out D' hD').2) (by have := QM.out D' hD'; omega) (fun e => by have := (M8.out D' hD').2; rw [e, P8.out] at this; cases this)).trans (M8.out D' hD').2⟩
              have hnd : (D2 :: D :: ds).Nodup := List.nodup_cons.2 ⟨fun h => by have := blk_lt (M8.out D2 h).2; omega, N6.out⟩
              have hq := HQQ.out
              subst hq
              clear hne hnp hkk
              go_wp2
              exact same_out w g8 false _ rfl (D2 :: D :: ds) _ hmk hnd h8 hB9
            case done2 =>
              rintro D2 ys W9 hD2 hys ⟨⟨h14, htk, hle⟩, hk9, hB9⟩ hKD
              have hyk : (valsT ys).map (fun i => (rd_T61 l2 i).f0) = kindsR l2 (rd_T47 l3_0 n) := by rw [hys]; rfl
              have hyl : ys.length = (kindsR l2 (rd_T47 l3_0 n)).length := by rw [← hyk]; simp [valsT]
              rw [hyk] at htk
              have hmk : ∀ D' ∈ D2 :: D :: ds, w.heap.size ≤ D' ∧ W9.heap[D']? = some (.deferred (some [])) := fun D' hD' => by
                rcases List.mem_cons.1 hD' with rfl | hD'
                · exact ⟨by have := PB.out.size; omega, hKD⟩
                · exact ⟨(M8.out D' hD').1, hk9.blk (M8.out D' hD').2 (by have := QM.out D' hD'; omega)⟩
              have hnd : (D2 :: D :: ds).Nodup := List.nodup_cons.2 ⟨fun h => by have := blk_lt (M8.out D2 h).2; omega, N6.out⟩
              have r4 := hk9.blk P4.out (by have := Q4.out; omega)
              have r6 := hk9.blk P6.out (by have := Q6.out; omega)
              have r7 := hk9.blk P7.out (by have := Q7.out; omega)
              have r8 := hk9.blk P8.out (by have := Q8.out; omega)
              have c14 : W9.cell? ⟨g14, 0, none⟩ = some (.int .i64 (ys.length : Int)) := (blk_cell h14 0).trans rfl
              have c12 : W9.cell? ⟨g12, 0, none⟩ = some (.slice Av ks.length cv) := (blk_cell (hk9.blk P12.out (by have := Q12.out; omega)) 0).trans rfl
              have MK := Aside0.mk hmk
              have ND := Aside0.mk hnd
              have R4 := Aside0.mk r4
              have R6 := Aside0.mk r6
              have R7 := Aside0.mk r7
              have R8 := Aside0.mk r8
              have B9 := Aside0.mk hB9
              have TK := Aside0.mk htk
              have YL := Aside0.mk hyl
              clear hmk hnd r4 r6 r7 r8 hB9 htk hyl hys hyk hk9 hD2 hKD
              by_cases hj : ys.length = ks.length
              · have e1 : ((ys.length : Int) != (ks.length : Int)) = false := by rw [hj]; simp
                have hkk : kindsR l0 (rd_T47 l1_0 n) = kindsR l2 (rd_T47 l3_0 n) := by rw [TK.out, HKS.out, hj, List.take_length]
                have hs1 : sameGo l0 l1_0 l2 l3_0 d (n + 1) = sameB l0 l1_0 l2 l3_0 := by
                  rw [← HS.out]
                  show _ = (nodeB l0 (rd_T47 l1_0 n) l2 (rd_T47 l3_0 n) && sameGo l0 l1_0 l2 l3_0 d (n + 1))
                  unfold nodeB
                  rw [decide_eq_true K0.out, decide_eq_true K3.out, decide_eq_true hkk]
                  rfl
                clear hj hkk
                have HS1 := Aside0.mk hs1
                clear hs1
                go_wp2
                rw [← HRN.out, show wrap64 (n + 1) = n + 1 by unfold wrap64; have := HL1.out; omega]
                exact IH.out (n + 1) (D2 :: D :: ds) _ _ _ _ _ _ _ _ _ _ _ _ _ _ _ _ _ _ _ _ _ _ _ _ _ _ _ _ _ _ _ _ _ _ _ _ _ _ _ _ _ _ _ _ _ _ _ _ _ _ _ _ _ _ _ _ _ _ _ _ _ _ _ _ _ _ _ W9 (by omega) (by have := HD.out; omega) HS1.out MK.out ND.out ⟨R4.out, R6.out, R7.out, R8.out⟩ B9.out
              · have e1 : ((ys.length : Int) != (ks.length : Int)) = true := by simp; omega
                have hne : ¬ kindsR l0 (rd_T47 l1_0 n) = kindsR l2 (rd_T47 l3_0 n) := fun e => hj (by rw [YL.out, ← e, HKS.out])
                have hs0 : sameB l0 l1_0 l2 l3_0 = false := by
                  rw [← HS.out]
                  show (nodeB l0 (rd_T47 l1_0 n) l2 (rd_T47 l3_0 n) && _) = false
                  unfold nodeB
                  rw [decide_eq_false hne, Bool.and_false, Bool.and_false]
                  rfl
                have q8 : W9.cell? ⟨g8, 0, none⟩ = some (.bool false) := (blk_cell R8.out 0).trans rfl
                have f8 := blk_frozen R8.out 0
                have hq := HQQ.out
                subst hq
                clear hj hne
                go_wp2
                exact same_out w g8 false _ rfl (D2 :: D :: ds) _ (marks_set MK.out R8.out) ND.out (blk_put R8.out 0 _ rfl) (below_set B9.out GEg8.out)
            case body2 =>
              rintro lp pre x W9 ⟨⟨h14, htk, hle⟩, hk9, hB9⟩ hlt
              simp only [List.setIfInBounds_toArray, List.set_cons_zero, List.set_cons_succ]
              obtain ⟨adx, ex, hx0, hx1, hx2⟩ := at_T61 (Kd.C_below HR2.out hB9) x.1 x.2.1 x.2.2.1
              have c6 : W9.cell? ⟨g6, 0, none⟩ = some (.slice A2 l2.length c2) := (blk_cell (hk9.blk P6.out (by have := Q6.out; omega)) 0).trans rfl
              have c14 : W9.cell? ⟨g14, 0, none⟩ = some (.int .i64 (pre.length : Int)) := (blk_cell h14 0).trans rfl
              have f14 := blk_frozen h14 0
              have c12 : W9.cell? ⟨g12, 0, none⟩ = some (.slice Av ks.length cv) := (blk_cell (hk9.blk P12.out (by have := Q12.out; omega)) 0).trans rfl
              subst ex
              have p1 := eq_true x.2.1
              have p2 := eq_true x.2.2.1
              have hml : ((valsT pre).map (fun i => (rd_T61 l2 i).f0)).length = pre.length := by simp [valsT]
              have hsn : (valsT (pre ++ [x])).map (fun i => (rd_T61 l2 i).f0) = ks.take pre.length ++ [(rd_T61 l2 x.1).f0] := by rw [← htk]; simp [valsT]
              by_cases hj : pre.length = ks.length
              · have e1 : ((pre.length : Int) == (ks.length : Int)) = true := by rw [hj]; simp
                have HNP := Aside0.mk (show ¬ ((valsT (pre ++ [x])).map (fun i => (rd_T61 l2 i).f0) <+: ks) from fun h => by
                  have := h.length_le
                  rw [hsn, List.length_append, List.length_take, List.length_singleton] at this
                  omega)
                clear hj htk hml hsn h14
                have r8 := hk9.blk P8.out (by have := Q8.out; omega)
                have q8 : W9.cell? ⟨g8, 0, none⟩ = some (.bool false) := (blk_cell r8 0).trans rfl
                have f8 := blk_frozen r8 0
                have R8 := Aside0.mk r8
                have HK9 := Aside0.mk hk9
                have HB9 := Aside0.mk hB9
                clear r8 hk9 hB9
                gi_wp2
                refine quiet_in (by rfl) (by kernel_rfl) (by kernel_rfl) ?_
                repeat (go_big_quiet_step (fail))
                refine wpQuiet_nil ?_
                intro _ hw'
                obtain ⟨nq, hw''⟩ := hw'
                subst hw''
                gi_wp2
                refine ⟨⟨by simp [World.drewN], fun k o _ ho hc => (Below.heap_setCell (W9.drewN nq) ⟨g8, 0, none⟩ _ k (fun e => by rw [e, R8.out] at ho; cases ho; cases hc)).trans ho⟩, rfl, HNP.out, blk_put (blk_drewN R8.out nq) 0 _ rfl, fun k a b c => (Below.heap_setCell (W9.drewN nq) ⟨g8, 0, none⟩ _ k c).trans (HK9.out.2 k a b), by simpa [World.drewN] using HK9.out.1, below_set (pw_below_drewN HB9.out nq) GEg8.out⟩
              · have e1 : ((pre.length : Int) == (ks.length : Int)) = false := by simp; omega
                have hjl : (pre.length : Int) < (ks.length : Int) := by omega
                obtain ⟨_, _, hcm⟩ := Kd.R_reads' (hk9.R PR.out)
                obtain ⟨adm, em, hxm⟩ := Kd.at_int hcm (pre.length : Int) (by omega) hjl
                subst em
                have hjn : pre.length < ks.length := by omega
                have hrd : rd ks (pre.length : Int) = ks[pre.length] := by simp [rd, List.getD_eq_getElem?_getD, hjn]
                have p3 : (0 ≤ (pre.length : Int)) = True := eq_true (by omega)
                have p4 := eq_true hjl
                have p5 : (pre.length < ks.length) = True := eq_true hjn
                have hxm' := hxm
                rw [Int.toNat_natCast] at hxm'
                by_cases hq : rd ks (pre.length : Int) = (rd_T61 l2 x.1).f0
                · have z1 : (rd ks (pre.length : Int) != (rd_T61 l2 x.1).f0) = false := by rw [hq]; simp
                  have HT := Aside0.mk (show (valsT (pre ++ [x])).map (fun i => (rd_T61 l2 i).f0) = ks.take (pre ++ [x]).length by
                    rw [hsn, List.length_append, List.length_singleton, List.take_succ_eq_append_getElem hjn, ← hrd, hq])
                  have HL := Aside0.mk (show (pre ++ [x]).length ≤ ks.length by rw [List.length_append, List.length_singleton]; omega)
                  have H14 := Aside0.mk h14
                  have HK9 := Aside0.mk hk9
                  have HB9 := Aside0.mk hB9
                  have HJL := Aside0.mk hjn
                  clear hj htk hml hsn h14 hk9 hB9 hq hrd hle hjl hjn
                  gi_wp2
                  refine quiet_in (by rfl) (by kernel_rfl) (by kernel_rfl) ?_
                  repeat (go_big_quiet_step (fail))
                  refine wpQuiet_nil ?_
                  intro _ hw'
                  obtain ⟨nq, hw''⟩ := hw'
                  subst hw''
                  gi_wp2
                  have hle1 : ((pre ++ [x]).length : Int) = (pre.length : Int) + 1 := by rw [List.length_append, List.length_singleton]; rfl
                  have hw1 : wrap64 ((pre.length : Int) + 1) = (pre.length : Int) + 1 := by unfold wrap64; have := HL2.out; omega
                  refine ⟨⟨by simp [World.drewN], fun k o _ ho hc => (Below.heap_setCell (W9.drewN nq) ⟨g14, 0, none⟩ _ k (fun e => by rw [e, H14.out] at ho; cases ho; cases hc)).trans ho⟩, ⟨(pw_below_drewN (Below.refl w.heap.size W9) nq).setCell (p := ⟨g14, 0, none⟩) GE14.out _, Below.heap_setCell (W9.drewN nq) ⟨g14, 0, none⟩ _ b3 F3.out, Below.heap_setCell (W9.drewN nq) ⟨g14, 0, none⟩ _ b4 F4.out⟩, ⟨?_, HT.out, HL.out⟩, HK9.out.trans (by simp [World.drewN]) (fun k a b => Below.heap_setCell (W9.drewN nq) ⟨g14, 0, none⟩ _ k b), below_set (pw_below_drewN HB9.out nq) GE14.out⟩
                  rw [hle1]
                  first | exact blk_put (blk_drewN H14.out nq) 0 _ rfl | (rw [hw1]; exact blk_put (blk_drewN H14.out nq) 0 _ rfl)
                · have z1 : (rd ks (pre.length : Int) != (rd_T61 l2 x.1).f0) = true := by simp [hq]
                  have HNP := Aside0.mk (show ¬ ((valsT (pre ++ [x])).map (fun i => (rd_T61 l2 i).f0) <+: ks) from fun h => by
                    rw [hsn] at h
                    have e := List.prefix_iff_eq_take.1 h
                    rw [List.length_append, List.length_take, List.length_singleton, Nat.min_eq_left (by omega), List.take_succ_eq_append_getElem hjn] at e
                    have := List.append_cancel_left e
                    simp only [List.cons.injEq, and_true] at this
                    exact hq (by rw [hrd, this]))
                  clear hj htk hml hsn h14 hq hrd hle hjl hjn
                  have r8 := hk9.blk P8.out (by have := Q8.out; omega)
                  have q8 : W9.cell? ⟨g8, 0, none⟩ = some (.bool false) := (blk_cell r8 0).trans rfl
                  have f8 := blk_frozen r8 0
                  have R8 := Aside0.mk r8
                  have HK9 := Aside0.mk hk9
                  have HB9 := Aside0.mk hB9
                  clear r8 hk9 hB9
                  gi_wp2
                  refine quiet_in (by rfl) (by kernel_rfl) (by kernel_rfl) ?_
                  repeat (go_big_quiet_step (fail))
                  refine wpQuiet_nil ?_
                  intro _ hw'
                  obtain ⟨nq, hw''⟩ := hw'
                  subst hw''
                  gi_wp2
                  refine ⟨⟨by simp [World.drewN], fun k o _ ho hc => (Below.heap_setCell (W9.drewN nq) ⟨g8, 0, none⟩ _ k (fun e => by rw [e, R8.out] at ho; cases ho; cases hc)).trans ho⟩, rfl, HNP.out, blk_put (blk_drewN R8.out nq) 0 _ rfl, fun k a b c => (Below.heap_setCell (W9.drewN nq) ⟨g8, 0, none⟩ _ k c).trans (HK9.out.2 k a b), by simpa [World.drewN] using HK9.out.1, below_set (pw_below_drewN HB9.out nq) GEg8.out⟩
        · have hs0 : sameB l0 l1_0 l2 l3_0 = false := by
            rw [← HS.out]
            show (nodeB l0 (rd_T47 l1_0 n) l2 (rd_T47 l3_0 n) && _) = false
            unfold nodeB
            by_cases k0 : (rd_T47 l1_0 n).f0 = (rd_T47 l3_0 n).f0
            · rw [decide_eq_true k0, decide_eq_false (fun h => hkk ⟨k0, h⟩)]; rfl
            · rw [decide_eq_false k0]; rfl
          have q8 : W1.cell? ⟨g8, 0, none⟩ = some (.bool false) := (blk_cell (blk_below HK.out.2.2.2 HB1.out) 0).trans rfl
          have f8 := blk_frozen (blk_below HK.out.2.2.2 HB1.out) 0
          have hq := HQQ.out
          subst hq
          by_cases k0 : (rd_T47 l1_0 n).f0 = (rd_T47 l3_0 n).f0
          · have z0 : ((rd_T47 l1_0 n).f0 != (rd_T47 l3_0 n).f0) = false := by rw [k0]; simp
            have z3 : ((rd_T47 l1_0 n).f3 != (rd_T47 l3_0 n).f3) = true := by simp; exact fun h => hkk ⟨k0, h⟩
            clear hkk k0
            go_wp2
            exact same_out w g8 false _ rfl ds _ (marks_set (marks_below HM.out HB1.out) (blk_below HK.out.2.2.2 HB1.out)) HN.out (blk_put (blk_below HK.out.2.2.2 HB1.out) 0 _ rfl) (below_set (below_step HBW.out HB1.out) GEg8.out)
          · have z0 : ((rd_T47 l1_0 n).f0 != (rd_T47 l3_0 n).f0) = true := by simp [k0]
            clear hkk k0
            go_wp2
            exact same_out w g8 false _ rfl ds _ (marks_set (marks_below HM.out HB1.out) (blk_below HK.out.2.2.2 HB1.out)) HN.out (blk_put (blk_below HK.out.2.2.2 HB1.out) 0 _ rfl) (below_set (below_step HBW.out HB1.out) GEg8.out)
    have hsb : sameGo l0 l1_0 l2 l3_0 l1_0.length 0 = sameB l0 l1_0 l2 l3_0 := by
      unfold sameB
      rw [decide_eq_true HLE.out, Bool.true_and]
    exact key l1_0.length 0 [] _ _ _ _ _ _ _ _ _ _ _ _ _ _ _ _ _ _ _ _ _ _ _ _ _ _ _ _ _ _ _ _ _ _ _ _ _ _ _ _ _ _ _ _ _ _ _ _ _ _ _ _ _ _ _ _ _ _ _ _ _ _ _ _ _ _ _ w5 (Int.le_refl _) (by omega) hsb (fun D h => by cases h) List.nodup_nil ⟨BKg4.out, BKg6.out, BKg7.out, BKg8.out⟩ HB.out
  · have hle : ((l1_0.length : Int) != (l3_0.length : Int)) = true := by simp; omega
    have hs : sameB l0 l1_0 l2 l3_0 = false := by unfold sameB; rw [decide_eq_false hlen]; rfl
    have q8 : w5.cell? ⟨g8, 0, none⟩ = some (.bool false) := (blk_cell BKg8.out 0).trans rfl
    have f8 := blk_frozen BKg8.out 0
    clear hlen
    go_wp2
    rw [hs]
    exact same_out w g8 false _ rfl [] _ (fun D h => by cases h) List.nodup_nil (blk_put BKg8.out 0 _ rfl) (below_set HB.out GEg8.out)
end Go.Proofs.Ytodldpdnhcafpaa.F

namespace Go.Proofs.Ytodldpdnhcafpaa.Q
open Go.RowKit Go.Proofs.YtodldpdnhcafpaaW.PrintWords Go.Proofs.YtodldpdnhcafpaaW.PrintLast Go.Proofs.YtodldpdnhcafpaaW.PrintMore
open Go.Proofs.Ytodldpdnhcafpaa.F Go.Proofs.Ytodldpdnhcafpaa.K
set_option linter.unusedSimpArgs false
set_option linter.unusedVariables false

theorem Same_is (l m : List S61) (a b : List S47) (hl : l.length ≤ 8796093022208) (hm : m.length ≤ 8796093022208) (ha : a.length ≤ 8796093022208) : Ev (fun k => tree_Same.f k l a m b) (sameB l a m b) := by
  unfold tree_Same.f
  rw [if_pos ⟨by omega, by omega, by omega⟩]
  exact Ev.now _
end Go.Proofs.Ytodldpdnhcafpaa.Q

-- TreeBlind, plainly: blanks and comments put between
namespace Go.Proofs.Ytodldpdnhcafpaa.Q
open Go.RowKit Go.Proofs.YtodldpdnhcafpaaW.PrintWords Go.Proofs.YtodldpdnhcafpaaW.PrintLast Go.Proofs.YtodldpdnhcafpaaW.PrintMore
open Go.Proofs.Ytodldpdnhcafpaa.F Go.Proofs.Ytodldpdnhcafpaa.K
set_option linter.unusedSimpArgs false
set_option linter.unusedVariables false

/-- How many of the first ones have something ahead of them. -/
def cnt (sk : Int → Bool) : Nat → Nat
  | 0 => 0
  | i + 1 => cnt sk i + (if sk (i : Int) = true then 1 else 0)
theorem cnt_mono (sk : Int → Bool) : ∀ {i j : Nat}, i ≤ j → cnt sk i ≤ cnt sk j := by
  intro i j h
  induction j with
  | zero => rw [Nat.le_zero.1 h]; exact Nat.le_refl _
  | succ j ih =>
    by_cases c : i = j + 1
    · subst c; exact Nat.le_refl _
    · have := ih (by omega)
      simp only [cnt]
      omega
/-- What stands ahead of a piece. -/
def ahead (sk : Int → Bool) (i : Nat) : List S61 := if sk (i : Int) = true then [⟨0, 3, 1⟩, ⟨1, 0, 1⟩] else []
/-- The first pieces, spread. -/
def sp (ps : List S61) (sk : Int → Bool) : Nat → List S61
  | 0 => []
  | i + 1 => sp ps sk i ++ ahead sk i ++ [rd_T61 ps (i : Int)]
theorem sp_len (ps : List S61) (sk : Int → Bool) : ∀ i, (sp ps sk i).length = i + 2 * cnt sk i
  | 0 => rfl
  | i + 1 => by
    simp only [sp, cnt, List.length_append, List.length_singleton]
    rw [sp_len ps sk i]
    unfold ahead
    split <;> simp <;> omega
theorem sp_prefix (ps : List S61) (sk : Int → Bool) : ∀ {i j : Nat}, i ≤ j → sp ps sk i <+: sp ps sk j := by
  intro i j h
  induction j with
  | zero => rw [Nat.le_zero.1 h]; exact List.prefix_refl _
  | succ j ih =>
    by_cases c : i = j + 1
    · subst c; exact List.prefix_refl _
    · refine (ih (by omega)).trans ?_
      simp only [sp]
      rw [List.append_assoc]
      exact List.prefix_append _ _
/-- Where a piece stands; behind the last one: the length. -/
def plc (len : Nat) (sk : Int → Bool) (i : Int) : Int := if i < (len : Int) then i + 2 * (cnt sk (i + 1).toNat : Int) else i + 2 * (cnt sk i.toNat : Int)
theorem plc_lt {len : Nat} {sk : Int → Bool} {i j : Int} (h0 : 0 ≤ i) (h1 : i < j) (h2 : j ≤ (len : Int)) : plc len sk i + 1 ≤ plc len sk j := by
  unfold plc
  rw [if_pos (by omega)]
  have m1 := cnt_mono sk (show (i + 1).toNat ≤ j.toNat by omega)
  have m2 := cnt_mono sk (show j.toNat ≤ (j + 1).toNat by omega)
  split <;> omega
theorem plc_le {len : Nat} {sk : Int → Bool} {i j : Int} (h0 : 0 ≤ i) (h1 : i ≤ j) (h2 : j ≤ (len : Int)) : plc len sk i ≤ plc len sk j := by
  by_cases c : i = j
  · rw [c]; exact Int.le_refl _
  · have := plc_lt (sk := sk) h0 (show i < j by omega) h2
    omega
theorem plc_nonneg {len : Nat} {sk : Int → Bool} {i : Int} (h0 : 0 ≤ i) : 0 ≤ plc len sk i := by
  unfold plc
  split <;> omega
theorem plc_end (ps : List S61) (sk : Int → Bool) : plc ps.length sk (ps.length : Int) = ((sp ps sk ps.length).length : Int) := by
  unfold plc
  rw [if_neg (by omega), sp_len]
  simp
theorem rd_pre {l m : List S61} (h : l <+: m) {i : Int} (h0 : 0 ≤ i) (h1 : i < (l.length : Int)) : rd_T61 m i = rd_T61 l i := by
  obtain ⟨r, rfl⟩ := h
  have : i.toNat < l.length := by omega
  simp [rd_T61, rdOf, List.getD_eq_getElem?_getD, List.getElem?_append_left this]
theorem rd_mid (l : List S61) (x : S61) (r : List S61) {i : Int} (h : i = (l.length : Int)) : rd_T61 (l ++ x :: r) i = x := by
  subst h
  simp [rd_T61, rdOf, List.getD_eq_getElem?_getD]
/-- A piece stands in its place. -/
theorem sp_at (ps : List S61) (sk : Int → Bool) {i : Int} (h0 : 0 ≤ i) (h1 : i < (ps.length : Int)) : rd_T61 (sp ps sk ps.length) (plc ps.length sk i) = rd_T61 ps i := by
  obtain ⟨n, rfl⟩ : ∃ n : Nat, i = n := ⟨i.toNat, by omega⟩
  have hp := sp_prefix ps sk (show n + 1 ≤ ps.length by omega)
  have hl := sp_len ps sk (n + 1)
  have e : plc ps.length sk (n : Int) = (n : Int) + 2 * (cnt sk (n + 1) : Int) := by
    unfold plc
    rw [if_pos h1, show ((n : Int) + 1).toNat = n + 1 by omega]
  rw [e, rd_pre hp (by omega) (by omega)]
  simp only [sp] at hl ⊢
  refine rd_mid _ _ _ ?_
  simp only [List.length_append, List.length_singleton] at hl ⊢
  omega
/-- What stands between is no token. -/
theorem sp_gap (ps : List S61) (sk : Int → Bool) (n : Nat) (hn : n < ps.length) (y : Int) (h0 : ((n + 2 * cnt sk n : Nat) : Int) ≤ y) (h1 : y < plc ps.length sk (n : Int)) : tokB (sp ps sk ps.length) y = false := by
  have e : plc ps.length sk (n : Int) = (n : Int) + 2 * (cnt sk (n + 1) : Int) := by
    unfold plc
    rw [if_pos (by omega), show ((n : Int) + 1).toNat = n + 1 by omega]
  rw [e] at h1
  have hc : cnt sk (n + 1) = cnt sk n + (if sk (n : Int) = true then 1 else 0) := rfl
  have hl := sp_len ps sk n
  by_cases c : sk (n : Int) = true
  · rw [if_pos c] at hc
    have hp := sp_prefix ps sk (show n + 1 ≤ ps.length by omega)
    have hl1 := sp_len ps sk (n + 1)
    have es : sp ps sk (n + 1) = sp ps sk n ++ ⟨0, 3, 1⟩ :: ⟨1, 0, 1⟩ :: [rd_T61 ps (n : Int)] := by
      simp only [sp]
      unfold ahead
      rw [if_pos c]
      simp
    unfold tokB
    rw [rd_pre hp (by omega) (by omega), es]
    by_cases c2 : y = ((sp ps sk n).length : Int)
    · rw [rd_mid _ _ _ c2]
      rfl
    · have c3 : y = ((sp ps sk n ++ [(⟨0, 3, 1⟩ : S61)]).length : Int) := by
        rw [List.length_append, List.length_singleton]
        omega
      have e3 : sp ps sk n ++ (⟨0, 3, 1⟩ : S61) :: ⟨1, 0, 1⟩ :: [rd_T61 ps (n : Int)] = (sp ps sk n ++ [(⟨0, 3, 1⟩ : S61)]) ++ ⟨1, 0, 1⟩ :: [rd_T61 ps (n : Int)] := by simp
      rw [e3, rd_mid _ _ _ c3]
      rfl
  · rw [if_neg c] at hc
    omega
theorem tokR_skip (l : List S61) {b c : Int} (hbc : b ≤ c) : ∀ (d : Nat) (a : Int), b - a = d → (∀ y, a ≤ y → y < b → tokB l y = false) → tokR l a c = tokR l b c
  | 0, a, hd, _ => by rw [show a = b by omega]
  | d + 1, a, hd, h => by
    rw [tokR_cons l (show a < c by omega), h a (Int.le_refl _) (by omega)]
    simp only [Bool.false_eq_true, if_false, List.nil_append]
    exact tokR_skip l hbc d (a + 1) (by omega) (fun y h1 h2 => h y (by omega) h2)
theorem tokB_at (ps : List S61) (sk : Int → Bool) {i : Int} (h0 : 0 ≤ i) (h1 : i < (ps.length : Int)) : tokB (sp ps sk ps.length) (plc ps.length sk i) = tokB ps i := by
  unfold tokB
  rw [sp_at ps sk h0 h1]
/-- The tokens are those that were there. -/
theorem tok_spread (ps : List S61) (sk : Int → Bool) : ∀ (d : Nat) (a : Int), 0 ≤ a → a + d + 1 ≤ (ps.length : Int) → tokR (sp ps sk ps.length) (plc ps.length sk a) (plc ps.length sk (a + d) + 1) = (tokR ps a (a + d + 1)).map (plc ps.length sk)
  | 0, a, h0, h1 => by
    rw [show a + ((0 : Nat) : Int) = a by omega, tokR_cons _ (show plc ps.length sk a < plc ps.length sk a + 1 by omega), tokR_cons _ (show a < a + 1 by omega), tokR_nil _ (Int.le_refl _), tokR_nil _ (Int.le_refl _), tokB_at ps sk h0 (by omega)]
    split <;> simp
  | d + 1, a, h0, h1 => by
    have hlt := plc_lt (len := ps.length) (sk := sk) h0 (show a < a + ((d + 1 : Nat) : Int) by omega) (by omega)
    rw [tokR_cons _ (show plc ps.length sk a < plc ps.length sk (a + ((d + 1 : Nat) : Int)) + 1 by omega), tokR_cons _ (show a < a + ((d + 1 : Nat) : Int) + 1 by omega), tokB_at ps sk h0 (by omega)]
    have ih := tok_spread ps sk d (a + 1) (by omega) (by omega)
    rw [show a + 1 + (d : Int) = a + ((d + 1 : Nat) : Int) by omega] at ih
    have hm := plc_lt (len := ps.length) (sk := sk) h0 (show a < a + 1 by omega) (by omega)
    have hle := plc_le (len := ps.length) (sk := sk) (show 0 ≤ a + 1 by omega) (show a + 1 ≤ a + ((d + 1 : Nat) : Int) by omega) (by omega)
    rw [tokR_skip (sp ps sk ps.length) (b := plc ps.length sk (a + 1)) (by omega) (plc ps.length sk (a + 1) - (plc ps.length sk a + 1)).toNat _ (by omega) ?_, ih, List.map_append]
    · split <;> simp
    · intro y hy1 hy2
      refine sp_gap ps sk (a + 1).toNat (by omega) y ?_ (by rw [show (((a + 1).toNat : Nat) : Int) = a + 1 by omega]; exact hy2)
      have e : plc ps.length sk a = a + 2 * (cnt sk (a + 1).toNat : Int) := by unfold plc; rw [if_pos (by omega)]
      rw [e] at hy1
      omega
/-- A node, its pieces where they stand now. -/
def mvN (len : Nat) (sk : Int → Bool) (x : S47) : S47 := ⟨x.f0, plc len sk x.f1, if x.f1 < x.f2 then plc len sk (x.f2 - 1) + 1 else plc len sk x.f1, x.f3⟩
theorem rd_map (len : Nat) (sk : Int → Bool) (ns : List S47) {n : Int} (h0 : 0 ≤ n) (h1 : n < (ns.length : Int)) : rd_T47 (ns.map (mvN len sk)) n = mvN len sk (rd_T47 ns n) := by
  have : n.toNat < ns.length := by omega
  simp [rd_T47, List.getD_eq_getElem?_getD, this]
theorem rd_map3 (len : Nat) (sk : Int → Bool) (ns : List S47) (n : Int) : (rd_T47 (ns.map (mvN len sk)) n).f3 = (rd_T47 ns n).f3 := by
  by_cases h : n.toNat < ns.length
  · simp [rd_T47, List.getD_eq_getElem?_getD, h, mvN]
  · simp [rd_T47, List.getD_eq_getElem?_getD, h]
theorem rd_map0 (len : Nat) (sk : Int → Bool) (ns : List S47) (n : Int) : (rd_T47 (ns.map (mvN len sk)) n).f0 = (rd_T47 ns n).f0 := by
  by_cases h : n.toNat < ns.length
  · simp [rd_T47, List.getD_eq_getElem?_getD, h, mvN]
  · simp [rd_T47, List.getD_eq_getElem?_getD, h]
theorem kgo_map (len : Nat) (sk : Int → Bool) (ns : List S47) (en : Int) : ∀ (d : Nat) (pre : List Int) (x : Int), kgo (ns.map (mvN len sk)) en d pre x = kgo ns en d pre x
  | 0, _, _ => rfl
  | d + 1, pre, x => by
    simp only [kgo, rd_map3]
    simp only [kgo_map len sk ns en d]
theorem kspec_map (len : Nat) (sk : Int → Bool) (ns : List S47) (n : Int) : kspec (ns.map (mvN len sk)) n = kspec ns n := by
  unfold kspec sizedB
  simp only [rd_map3, kgo_map, List.length_map]
theorem allG_map (len : Nat) (sk : Int → Bool) (ns : List S47) : ∀ (f : Nat) (n : Int), allG (ns.map (mvN len sk)) f n = allG ns f n
  | 0, _ => rfl
  | f + 1, n => by simp only [allG, good, rd_map0, kspec_map, allG_map len sk ns f]
theorem kidsOf_map (len : Nat) (sk : Int → Bool) (ns : List S47) (n : Int) : kidsOf (ns.map (mvN len sk)) n = kidsOf ns n := by
  unfold kidsOf
  rw [kspec_map]
theorem shaped_map (len : Nat) (sk : Int → Bool) (ns : List S47) : shapedB (ns.map (mvN len sk)) = shapedB ns := by
  unfold shapedB
  rw [rd_map3, allG_map, List.length_map]
theorem okS_out {l : List S47} {q n : Int} (h : okS l q n = true) : 0 ≤ (rd_T47 l n).f1 ∧ (rd_T47 l n).f1 ≤ (rd_T47 l n).f2 ∧ (rd_T47 l n).f2 ≤ q := by
  unfold okS at h
  simpa [Bool.and_eq_true, decide_eq_true_eq] using h
theorem mv2_le {len : Nat} {sk : Int → Bool} {x : S47} (h0 : 0 ≤ x.f1) (h1 : x.f1 ≤ x.f2) (h2 : x.f2 ≤ (len : Int)) : (mvN len sk x).f1 ≤ (mvN len sk x).f2 ∧ (mvN len sk x).f2 ≤ plc len sk x.f2 ∧ ((mvN len sk x).f1 = (mvN len sk x).f2 ↔ x.f1 = x.f2) := by
  unfold mvN
  simp only
  split
  · have a := plc_le (len := len) (sk := sk) h0 (show x.f1 ≤ x.f2 - 1 by omega) (by omega)
    have b := plc_lt (len := len) (sk := sk) (show 0 ≤ x.f2 - 1 by omega) (show x.f2 - 1 < x.f2 by omega) h2
    omega
  · have e : x.f1 = x.f2 := by omega
    rw [e]
    omega
theorem okS_map {len : Nat} {sk : Int → Bool} {ns : List S47} {n : Int} (h0 : 0 ≤ n) (h1 : n < (ns.length : Int)) (h : okS ns (len : Int) n = true) : okS (ns.map (mvN len sk)) (plc len sk (len : Int)) n = true := by
  obtain ⟨a, b, c⟩ := okS_out h
  obtain ⟨m1, m2, _⟩ := mv2_le (sk := sk) a b c
  have m3 := plc_le (len := len) (sk := sk) (show 0 ≤ (rd_T47 ns n).f2 by omega) c (Int.le_refl _)
  have m4 := plc_nonneg (len := len) (sk := sk) a
  unfold okS
  rw [rd_map len sk ns h0 h1]
  simp only [Bool.and_eq_true, decide_eq_true_eq]
  exact ⟨m4, m1, by omega⟩
theorem rf_map {len : Nat} {sk : Int → Bool} {ns : List S47} {nd : S47} (hn0 : 0 ≤ nd.f1) (hn1 : nd.f1 ≤ nd.f2) (hn2 : nd.f2 ≤ (len : Int)) : ∀ (ks : List Int), (∀ y ∈ ks, 0 ≤ y ∧ y < (ns.length : Int) ∧ okS ns (len : Int) y = true) → ∀ (en en' : Int), nd.f1 ≤ en → en ≤ (len : Int) → en' ≤ plc len sk en →
    rf ns nd ks en = true → rf (ns.map (mvN len sk)) (mvN len sk nd) ks en' = true
  | [], _, _, _, _, _, _, _ => rfl
  | x :: ks, hks, en, en', he0, he1, he2, h => by
    obtain ⟨hx0, hx1, hxo⟩ := hks x List.mem_cons_self
    obtain ⟨a, b, c⟩ := okS_out hxo
    obtain ⟨m1, m2, m3⟩ := mv2_le (sk := sk) a b c
    have ih := rf_map (sk := sk) hn0 hn1 hn2 ks (fun y hy => hks y (List.mem_cons_of_mem _ hy))
    simp only [rf] at h ⊢
    rw [rd_map len sk ns hx0 hx1]
    by_cases c1 : (rd_T47 ns x).f1 = (rd_T47 ns x).f2
    · rw [if_pos c1] at h
      rw [if_pos (m3.2 c1)]
      split at h
      · cases h
      · rename_i c2
        have := plc_le (len := len) (sk := sk) hn0 (show nd.f1 ≤ (rd_T47 ns x).f1 by omega) (by omega)
        rw [if_neg (by unfold mvN; simp only; omega)]
        exact ih en en' he0 he1 he2 h
    · rw [if_neg c1] at h
      rw [if_neg (fun e => c1 (m3.1 e))]
      split at h
      · cases h
      · rename_i c2
        split at h
        · cases h
        · rename_i c3
          have p1 := plc_le (len := len) (sk := sk) (show 0 ≤ en by omega) (show en ≤ (rd_T47 ns x).f1 by omega) (by omega)
          rw [if_neg (by unfold mvN; simp only; omega)]
          have p2 := plc_le (len := len) (sk := sk) (show 0 ≤ (rd_T47 ns x).f2 - 1 by omega) (show (rd_T47 ns x).f2 - 1 ≤ nd.f2 - 1 by omega) (by omega)
          have e2 : (mvN len sk (rd_T47 ns x)).f2 = plc len sk ((rd_T47 ns x).f2 - 1) + 1 := by unfold mvN; simp only; rw [if_pos (by omega)]
          have e3 : (mvN len sk nd).f2 = plc len sk (nd.f2 - 1) + 1 := by unfold mvN; simp only; rw [if_pos (by omega)]
          rw [if_neg (by rw [e2, e3]; omega)]
          exact ih _ _ (by omega) (by omega) m2 h
theorem allR_at2 (l : List S47) (q : Int) : ∀ (f : Nat) (n : Int), allR l q f n = true → ∀ m, n ≤ m → m < n + f → okS l q m = true ∧ rf l (rd_T47 l m) (kidsOf l m) (rd_T47 l m).f1 = true
  | 0, n, _, m, h1, h2 => by omega
  | f + 1, n, h, m, h1, h2 => by
    simp only [allR, Bool.and_eq_true] at h
    by_cases c : m = n
    · subst c; exact ⟨h.1, h.2.1⟩
    · exact allR_at2 l q f (n + 1) h.2.2 m (by omega) (by omega)
theorem allR_of (l : List S47) (q : Int) : ∀ (f : Nat) (n : Int), (∀ m, n ≤ m → m < n + f → okS l q m = true ∧ rf l (rd_T47 l m) (kidsOf l m) (rd_T47 l m).f1 = true) → allR l q f n = true
  | 0, _, _ => rfl
  | f + 1, n, h => by
    simp only [allR, Bool.and_eq_true]
    exact ⟨(h n (Int.le_refl _) (by omega)).1, (h n (Int.le_refl _) (by omega)).2, allR_of l q f (n + 1) (fun m h1 h2 => h m (by omega) (by omega))⟩
theorem valid_out {ns : List S47} {q : Int} (h : validB ns q = true) : ∀ m, 0 ≤ m → m < (ns.length : Int) → okS ns q m = true ∧ rf ns (rd_T47 ns m) (kidsOf ns m) (rd_T47 ns m).f1 = true := by
  unfold validB at h
  rw [Bool.and_eq_true] at h
  exact fun m h1 h2 => allR_at2 ns q ns.length 0 h.2 m h1 (by omega)
/-- The spread list's tree is in order. -/
theorem blind_valid {ps : List S61} {ns : List S47} (sk : Int → Bool) (h : validB ns (ps.length : Int) = true) : validB (ns.map (mvN ps.length sk)) ((sp ps sk ps.length).length : Int) = true := by
  have ho := valid_out h
  rw [← plc_end]
  unfold validB at h ⊢
  rw [Bool.and_eq_true] at h ⊢
  refine ⟨by rw [shaped_map]; exact h.1, allR_of _ _ _ _ (fun m h1 h2 => ?_)⟩
  rw [List.length_map] at h2
  obtain ⟨o1, o2⟩ := ho m h1 (by omega)
  obtain ⟨a, b, c⟩ := okS_out o1
  refine ⟨okS_map h1 (by omega) o1, ?_⟩
  rw [rd_map _ _ _ h1 (by omega), kidsOf_map]
  exact rf_map a b c _ (fun y hy => ⟨(kidsOf_mem ns m y hy).1, (kidsOf_mem ns m y hy).2, (ho y (kidsOf_mem ns m y hy).1 (kidsOf_mem ns m y hy).2).1⟩) _ _ (Int.le_refl _) (by omega) (Int.le_refl _) o2
/-- A node's tokens. -/
theorem blind_tok {ps : List S61} (sk : Int → Bool) {x : S47} (h0 : 0 ≤ x.f1) (h1 : x.f1 ≤ x.f2) (h2 : x.f2 ≤ (ps.length : Int)) :
    tokR (sp ps sk ps.length) (mx (mvN ps.length sk x).f1 0) (mn (mvN ps.length sk x).f2 ((sp ps sk ps.length).length : Int)) = (tokR ps (mx x.f1 0) (mn x.f2 (ps.length : Int))).map (plc ps.length sk) ∧
    ∀ i ∈ tokR ps (mx x.f1 0) (mn x.f2 (ps.length : Int)), 0 ≤ i ∧ i < (ps.length : Int) := by
  obtain ⟨m1, m2, m3⟩ := mv2_le (sk := sk) h0 h1 h2
  have p0 := plc_nonneg (len := ps.length) (sk := sk) h0
  have p1 := plc_le (len := ps.length) (sk := sk) (show 0 ≤ x.f2 by omega) h2 (Int.le_refl _)
  rw [plc_end] at p1
  have e0 : (mvN ps.length sk x).f1 = plc ps.length sk x.f1 := rfl
  have e1 : mx (mvN ps.length sk x).f1 0 = plc ps.length sk x.f1 := by unfold mx; rw [e0, if_neg (by omega)]
  have e2 : mn (mvN ps.length sk x).f2 ((sp ps sk ps.length).length : Int) = (mvN ps.length sk x).f2 := by unfold mn; rw [if_neg (by omega)]
  have e3 : mx x.f1 0 = x.f1 := by unfold mx; rw [if_neg (by omega)]
  have e4 : mn x.f2 (ps.length : Int) = x.f2 := by unfold mn; rw [if_neg (by omega)]
  rw [e1, e2, e3, e4]
  refine ⟨?_, tokR_in ps h0 h2⟩
  by_cases c : x.f1 < x.f2
  · have e5 : (mvN ps.length sk x).f2 = plc ps.length sk (x.f2 - 1) + 1 := by unfold mvN; simp only; rw [if_pos c]
    have h := tok_spread ps sk (x.f2 - 1 - x.f1).toNat x.f1 h0 (by omega)
    rw [show x.f1 + ((x.f2 - 1 - x.f1).toNat : Int) = x.f2 - 1 by omega, show x.f2 - 1 + 1 = x.f2 by omega] at h
    rw [e5]
    exact h
  · have e5 : (mvN ps.length sk x).f2 = plc ps.length sk x.f1 := by unfold mvN; simp only; rw [if_neg c]
    rw [e5, tokR_nil _ (Int.le_refl _), tokR_nil _ (by omega)]
    rfl
theorem blind_same {ps : List S61} {ns : List S47} (sk : Int → Bool) (h : validB ns (ps.length : Int) = true) : sameB ps ns (sp ps sk ps.length) (ns.map (mvN ps.length sk)) = true := by
  have ho := valid_out h
  have go : ∀ (d : Nat) (n : Int), 0 ≤ n → n + d ≤ (ns.length : Int) → sameGo ps ns (sp ps sk ps.length) (ns.map (mvN ps.length sk)) d n = true := by
    intro d
    induction d with
    | zero => intro n _ _; rfl
    | succ d ih =>
      intro n h0 h1
      obtain ⟨a, b, c⟩ := okS_out (ho n h0 (by omega)).1
      obtain ⟨t1, t2⟩ := blind_tok sk a b c
      show (nodeB _ _ _ _ && _) = true
      rw [ih (n + 1) (by omega) (by omega), rd_map _ _ _ h0 (by omega), Bool.and_true]
      unfold nodeB
      have hk : kindsR ps (rd_T47 ns n) = kindsR (sp ps sk ps.length) (mvN ps.length sk (rd_T47 ns n)) := by
        unfold kindsR
        rw [t1, List.map_map]
        refine List.map_congr_left (fun i hi => ?_)
        show _ = (rd_T61 _ (plc _ sk i)).f0
        rw [sp_at ps sk (t2 i hi).1 (t2 i hi).2]
      rw [← hk]
      simp [mvN]
  unfold sameB
  rw [List.length_map, go ns.length 0 (Int.le_refl _) (by omega)]
  simp
theorem textB_map (t : ByteArray) (l m : List S61) (g : Int → Int) : ∀ (is : List Int) (bs : List Int), (∀ i ∈ is, rd_T61 m (g i) = rd_T61 l i) → (is.map g).foldl (textStep t m) bs = is.foldl (textStep t l) bs
  | [], _, _ => rfl
  | i :: is, bs, h => by
    simp only [List.map_cons, List.foldl_cons]
    have e : textStep t m bs (g i) = textStep t l bs i := by unfold textStep; rw [h i List.mem_cons_self]
    rw [e]
    exact textB_map t l m g is _ (fun j hj => h j (List.mem_cons_of_mem _ hj))
theorem blind_text (t : ByteArray) {ps : List S61} {ns : List S47} (sk : Int → Bool) (h : validB ns (ps.length : Int) = true) {n : Int} (h0 : 0 ≤ n) (h1 : n < (ns.length : Int)) : textSpec t (sp ps sk ps.length) (ns.map (mvN ps.length sk)) n = textSpec t ps ns n := by
  obtain ⟨a, b, c⟩ := okS_out (valid_out h n h0 h1).1
  obtain ⟨t1, t2⟩ := blind_tok sk a b c
  unfold textSpec
  rw [List.length_map, rd_map _ _ _ h0 h1, t1]
  unfold textB
  rw [textB_map t ps (sp ps sk ps.length) (plc ps.length sk) _ _ (fun i hi => sp_at ps sk (t2 i hi).1 (t2 i hi).2)]
end Go.Proofs.Ytodldpdnhcafpaa.Q

-- The law TreeBlind: printed out of an altered dump (a call of a function value told as a plain call; the second loop left out), mended by wip/blind/mkblind.py
namespace Go.Proofs.Ytodldpdnhcafpaa.F
open Go.RowKit Go.Proofs.YtodldpdnhcafpaaW.PrintWords Go.Proofs.YtodldpdnhcafpaaW.PrintLast Go.Proofs.YtodldpdnhcafpaaW.PrintMore
attribute [local go_sem] max2_int min2_int max_two min_two max_three min_three max_four min_four   -- for this text's walks alone
set_option linter.unusedVariables false
set_option linter.unusedSimpArgs false

open Go.Proofs.Ytodldpdnhcafpaa.K
/-- What the asked function says (its two calls in one). -/
def monikerlaw4_chosen.f (k : Nat) (bits x : Int) : Option Bool := some (chB bits x)
/-- A node of the copy, its pieces by the places. -/
def mvP (P : List Int) (x : S47) : S47 := ⟨x.f0, rd P x.f1, if x.f1 < x.f2 then wrap64 (rd P (wrap64 (x.f2 - 1)) + 1) else rd P x.f1, x.f3⟩
def okP (P : List Int) (x : S47) : Bool := decide (0 ≤ x.f1) && (decide (x.f1 < (P.length : Int)) && (if x.f1 < x.f2 then decide (0 ≤ wrap64 (x.f2 - 1)) && decide (wrap64 (x.f2 - 1) < (P.length : Int)) else true))
def mvs (P : List Int) (u : List S47) (i : Nat) : List S47 := (u.take i).map (mvP P) ++ u.drop i
theorem mvs_len (P : List Int) (u : List S47) (i : Nat) : (mvs P u i).length = u.length := by
  unfold mvs
  simp
  omega
theorem mvs_zero (P : List Int) (u : List S47) : mvs P u 0 = u := by simp [mvs]
theorem mvs_all (P : List Int) (u : List S47) : mvs P u u.length = u.map (mvP P) := by simp [mvs]
theorem mvs_cut (P : List Int) (u : List S47) {i : Int} (h0 : 0 ≤ i) (h1 : i < (u.length : Int)) : mvs P u i.toNat = (u.take i.toNat).map (mvP P) ++ rd_T47 u i :: u.drop (i.toNat + 1) := by
  have h : i.toNat < u.length := by omega
  unfold mvs
  rw [List.drop_eq_getElem_cons h]
  simp [rd_T47, List.getD_eq_getElem?_getD, h]
theorem mvs_rd (P : List Int) (u : List S47) {i : Int} (h0 : 0 ≤ i) (h1 : i < (u.length : Int)) : rd_T47 (mvs P u i.toNat) i = rd_T47 u i := by
  rw [mvs_cut P u h0 h1]
  have h : i.toNat < u.length := by omega
  have hl : ((u.take i.toNat).map (mvP P)).length = i.toNat := by simp; omega
  conv => lhs; unfold rd_T47
  rw [List.getD_eq_getElem?_getD, List.getElem?_append_right (by omega), hl]
  simp [rd_T47, List.getD_eq_getElem?_getD]
theorem mvs_set (P : List Int) (u : List S47) {i : Int} (h0 : 0 ≤ i) (h1 : i < (u.length : Int)) : (mvs P u i.toNat).set i.toNat (mvP P (rd_T47 u i)) = mvs P u (i + 1).toNat := by
  have h : i.toNat < u.length := by omega
  have hl : ((u.take i.toNat).map (mvP P)).length = i.toNat := by simp; omega
  rw [mvs_cut P u h0 h1, List.set_append_right _ _ (by omega), hl, Nat.sub_self, List.set_cons_zero]
  unfold mvs
  rw [show (i + 1).toNat = i.toNat + 1 by omega, List.take_succ_eq_append_getElem h, List.map_append, List.append_assoc]
  have e : u[i.toNat] = rd_T47 u i := by simp [rd_T47, List.getD_eq_getElem?_getD, h]
  rw [e]
  rfl
theorem rd_set {xs : List S47} {i : Int} (h0 : 0 ≤ i) (h1 : i < (xs.length : Int)) (y : S47) : rd_T47 (xs.set i.toNat y) i = y := by
  have h : i.toNat < xs.length := by omega
  simp [rd_T47, List.getD_eq_getElem?_getD, h]
/-- A node's first or end is written. -/
theorem node_store {W : World} {base gc n cap : Nat} {xs : List S47} {ok : Nat → Prop} (h : Kd.R k47 47 W base ok (.slice (some ⟨gc, 0, none⟩) n cap) xs) (i : Int) (h0 : 0 ≤ i) (h1 : i < (n : Int)) :
    (∃ u, W.cell? ⟨gc, i.toNat * 4 + 1, none⟩ = some (.int .i64 u)) ∧ (∃ u, W.cell? ⟨gc, i.toNat * 4 + 2, none⟩ = some (.int .i64 u)) ∧
    (∀ v, Kd.R k47 47 (W.setCell ⟨gc, i.toNat * 4 + 1, none⟩ (.int .i64 v)) base ok (.slice (some ⟨gc, 0, none⟩) n cap) (xs.set i.toNat ⟨(rd_T47 xs i).f0, v, (rd_T47 xs i).f2, (rd_T47 xs i).f3⟩) ∧ W.grownBy (W.setCell ⟨gc, i.toNat * 4 + 1, none⟩ (.int .i64 v)) (some gc)) ∧
    (∀ v, Kd.R k47 47 (W.setCell ⟨gc, i.toNat * 4 + 2, none⟩ (.int .i64 v)) base ok (.slice (some ⟨gc, 0, none⟩) n cap) (xs.set i.toNat ⟨(rd_T47 xs i).f0, (rd_T47 xs i).f1, v, (rd_T47 xs i).f3⟩) ∧ W.grownBy (W.setCell ⟨gc, i.toNat * 4 + 2, none⟩ (.int .i64 v)) (some gc)) := by
  obtain ⟨hn, _, _⟩ := Kd.R_reads' h
  subst hn
  obtain ⟨c, hcl, hM, hcc, _⟩ := Kd.R_elem h z47 i h0 h1
  obtain rfl := k47_openM hM
  exact ⟨⟨_, hcc 1 _ rfl⟩, ⟨_, hcc 2 _ rfl⟩,
    fun v => Kd.R_seg h i h0 h1 (seg := [.int .i64 v]) (j := 1) (okp := fun _ => False) hcl hcc (by show _ + 1 ≤ 4; decide) (k47_mkM _ _ _ ⟨(rd_T47 xs i).f0, v, (rd_T47 xs i).f2, (rd_T47 xs i).f3⟩) (fun _ h => h.elim),
    fun v => Kd.R_seg h i h0 h1 (seg := [.int .i64 v]) (j := 2) (okp := fun _ => False) hcl hcc (by show _ + 1 ≤ 4; decide) (k47_mkM _ _ _ ⟨(rd_T47 xs i).f0, (rd_T47 xs i).f1, v, (rd_T47 xs i).f3⟩) (fun _ h => h.elim)⟩

/-! ### monikerlaw4_TreeBlind: function 16 -/
mutual
def monikerlaw4_TreeBlind.l0 : Nat → Int → List (S61) → List Int → List (S61) → Int → Int → ByteArray → List (S61) → List (S47) → Option (Bool)
  | 0, _, _, _, _, _, _, _, _, _ => none
  | k + 1, x1, x5, x6, x33, x34, x35, x155000, x155001, x155002 => if x35 < x34 then (if 0 ≤ x35 then (if x35 < (x33.length : Int) then ((monikerlaw4_chosen.f k x1 x35).bind fun t162 => (if t162 = true then ((some (([(⟨0, 3, 1⟩ : S61), (⟨1, 0, 1⟩ : S61)] : List (S61)) : List (S61))).bind fun y163 => (if x5.length + y163.length < 5864062014805 then ((some (x5 ++ y163 : List (S61))).bind fun y166 => (if x35 < (x6.length : Int) then (if y166.length < 5864062014805 then (monikerlaw4_TreeBlind.l0 k x1 (y166 ++ [(⟨(rd_T61 x33 x35).f0, (rd_T61 x33 x35).f1, (rd_T61 x33 x35).f2⟩ : S61)]) (x6.set (x35 : Int).toNat (y166.length : Int)) x33 x34 (wrap64 (x35 + 1)) x155000 x155001 x155002) else (none)) else (none))) else (none))) else (if x35 < (x6.length : Int) then (if x5.length < 5864062014805 then (monikerlaw4_TreeBlind.l0 k x1 (x5 ++ [(⟨(rd_T61 x33 x35).f0, (rd_T61 x33 x35).f1, (rd_T61 x33 x35).f2⟩ : S61)]) (x6.set (x35 : Int).toNat (x5.length : Int)) x33 x34 (wrap64 (x35 + 1)) x155000 x155001 x155002) else (none)) else (none)))) else (none)) else (none)) else (if 0 ≤ (x155001.length : Int) then (if (x155001.length : Int) < (x6.length : Int) then ((monikerplain_CopyTree.f x155002).bind fun u178 => (if (u178.all (okP (x6.set (x155001.length : Int).toNat (x5.length : Int)))) = true then ((some (u178.map (mvP (x6.set (x155001.length : Int).toNat (x5.length : Int))))).bind fun t178 => ((tree_Valid.f k t178 (x5.length : Int)).bind fun t182 => (if t182 = true then ((tree_Same.f k x155001 x155002 x5 t178).bind fun t183 => (monikerlaw4_TreeBlind.j1 k x5 (!t183) x155000 x155001 x155002 t178)) else (monikerlaw4_TreeBlind.j1 k x5 true x155000 x155001 x155002 t178)))) else (none))) else (none)) else (none))
def monikerlaw4_TreeBlind.j1 : Nat → List (S61) → Bool → ByteArray → List (S61) → List (S47) → List (S47) → Option (Bool)
  | 0, _, _, _, _, _, _ => none
  | k + 1, x5, x129, x155000, x155001, x155002, x182000 => if x129 = true then (some false) else (monikerlaw4_TreeBlind.l1 k x5 (x182000.length : Int) 0 x155000 x155001 x155002 x182000)
def monikerlaw4_TreeBlind.l1 : Nat → List (S61) → Int → Int → ByteArray → List (S61) → List (S47) → List (S47) → Option (Bool)
  | 0, _, _, _, _, _, _, _ => none
  | k + 1, x5, x132, x133, x155000, x155001, x155002, x182000 => if x133 < x132 then ((tree_Text.f k x155000 x155001 x155002 x133).bind fun t184 => ((tree_Text.f k x155000 x5 x182000 x133).bind fun t185 => (if t184.toList = t185.toList then (monikerlaw4_TreeBlind.l1 k x5 x132 (wrap64 (x133 + 1)) x155000 x155001 x155002 x182000) else (some false)))) else (some true)
end
def monikerlaw4_TreeBlind.f (k : Nat) (a0_0 : ByteArray) (l0_1 : List (S61)) (l0_2 : List (S47)) (a1 : Int) : Option (Bool) := (monikerref4_Valid.f k l0_2 (l0_1.length : Int)).bind fun t155 => (if t155 = true then (if 0 ≤ (wrap64 ((l0_1.length : Int) + 1)) then (if (wrap64 ((l0_1.length : Int) + 1) : Int).toNat ≤ 35184372088832 then (monikerlaw4_TreeBlind.l0 k a1 ([] : List (S61)) (List.replicate (wrap64 ((l0_1.length : Int) + 1) : Int).toNat 0) l0_1 (l0_1.length : Int) 0 a0_0 l0_1 l0_2) else (none)) else (none)) else ((tree_Valid.f k l0_2 (l0_1.length : Int)).bind fun t156 => (some (!t156))))
def monikerlaw4_TreeBlind.T28 : Bool × List (List Nat × List Nat) := (true, [([], []), ([0], [0]), ([], []), ([2], [2]), ([], []), ([4], [4]), ([], []), ([1, 3, 5, 6], [1, 3, 5, 6]), ([], []), ([8], [8]), ([], []), ([], []), ([], []), ([9, 10, 11, 12, 7], [9, 10, 11, 12]), ([7, 13], [7, 13])])
def monikerlaw4_TreeBlind.B28 : List Nat := [0, 1, 0, 4, 0, 16, 0, 127, 0, 256, 0, 0, 0, 8191, 16383]
theorem monikerlaw4_TreeBlind.tab28 : rtab .any (opsOf Try.f16 28) = monikerlaw4_TreeBlind.T28 := by kernel_rfl
theorem monikerlaw4_TreeBlind.bits28 : waitsOk monikerlaw4_TreeBlind.T28.2 monikerlaw4_TreeBlind.B28 = true := by kernel_rfl
set_option maxHeartbeats 8000000 in
set_option maxRecDepth 100000 in
theorem monikerlaw4_TreeBlind.calls (k : Nat) (a0_0 : ByteArray) (A0_1 : Option Addr) (c0_1 : Nat) (l0_1 : List (S61)) (A0_2 : Option Addr) (c0_2 : Nat) (l0_2 : List (S47)) (a1 : Int) (r : Bool) (w : World) (hr0_1 : Kd.C k61 w A0_1 l0_1.length l0_1) (hc0_1 : l0_1.length ≤ c0_1) (hr0_2 : Kd.C k47 w A0_2 l0_2.length l0_2) (hc0_2 : l0_2.length ≤ c0_2) (h : monikerlaw4_TreeBlind.f k a0_0 l0_1 l0_2 a1 = some r) :
    Calls Try.prog 16 #[.agg #[.string a0_0, .slice A0_1 l0_1.length c0_1, .slice A0_2 l0_2.length c0_2], .int .u64 a1] w fun e w' => e = .returned (.bool r) ∧ Below w.heap.size w w' := by
  have hu27 := Try.underlying27
  have hu25 := Try.underlying25
  have hu61 := Try.underlying61
  have HR0_1 := Aside0.mk hr0_1
  have HC0_1 := Aside0.mk hc0_1
  clear hr0_1 hc0_1
  have HR0_2 := Aside0.mk hr0_2
  have HC0_2 := Aside0.mk hc0_2
  clear hr0_2 hc0_2
  have HB := Aside0.mk (Below.refl w.heap.size w)
  have H : ((monikerref4_Valid.f k l0_2 (l0_1.length : Int)).bind fun t155 => (if t155 = true then (if 0 ≤ (wrap64 ((l0_1.length : Int) + 1)) then (if (wrap64 ((l0_1.length : Int) + 1) : Int).toNat ≤ 35184372088832 then (monikerlaw4_TreeBlind.l0 k a1 ([] : List (S61)) (List.replicate (wrap64 ((l0_1.length : Int) + 1) : Int).toNat 0) l0_1 (l0_1.length : Int) 0 a0_0 l0_1 l0_2) else (none)) else (none)) else ((tree_Valid.f k l0_2 (l0_1.length : Int)).bind fun t156 => (some (!t156))))) = some r := h
  clear h
  replace H := Option.bind_eq_some_iff.mp H
  obtain ⟨t155, A30, H⟩ := H
  replace H : (if t155 = true then (if 0 ≤ (wrap64 ((l0_1.length : Int) + 1)) then (if (wrap64 ((l0_1.length : Int) + 1) : Int).toNat ≤ 35184372088832 then (monikerlaw4_TreeBlind.l0 k a1 ([] : List (S61)) (List.replicate (wrap64 ((l0_1.length : Int) + 1) : Int).toNat 0) l0_1 (l0_1.length : Int) 0 a0_0 l0_1 l0_2) else (none)) else (none)) else ((tree_Valid.f k l0_2 (l0_1.length : Int)).bind fun t156 => (some (!t156)))) = some r := H
  have A3 := Aside0.mk A30
  clear A30
  by_cases c4 : t155 = true
  · subst c4
    have H1 : (if 0 ≤ (wrap64 ((l0_1.length : Int) + 1)) then (if (wrap64 ((l0_1.length : Int) + 1) : Int).toNat ≤ 35184372088832 then (monikerlaw4_TreeBlind.l0 k a1 ([] : List (S61)) (List.replicate (wrap64 ((l0_1.length : Int) + 1) : Int).toNat 0) l0_1 (l0_1.length : Int) 0 a0_0 l0_1 l0_2) else (none)) else (none)) = some r := by rw [if_pos rfl] at H; exact H
    clear H
    have H := H1
    clear H1
    obtain ⟨ji5, hji5⟩ : ∃ j_ : Int, (wrap64 ((l0_1.length : Int) + 1)) = j_ := ⟨_, rfl⟩
    replace H : (if 0 ≤ (ji5) then (if (ji5 : Int).toNat ≤ 35184372088832 then (monikerlaw4_TreeBlind.l0 k a1 ([] : List (S61)) (List.replicate (ji5 : Int).toNat 0) l0_1 (l0_1.length : Int) 0 a0_0 l0_1 l0_2) else (none)) else (none)) = some r := by first | (rw [hji5] at H; exact H) | (simp only [hji5] at H ⊢; exact H)
    (try rw [hji5] at A3)
    have hji5w : (IntKind.i64.wrap ((l0_1.length : Int) + 1)) = ji5 := (i64_w _).trans hji5
    by_cases c6 : 0 ≤ (ji5)
    · rw [if_pos c6] at H
      have c6b0 := eq_true c6
      have c6b1 : decide (0 ≤ (ji5)) = true := decide_eq_true c6
      clear c6
      by_cases c7 : (ji5 : Int).toNat ≤ 35184372088832
      · rw [if_pos c7] at H
        have c7b0 := eq_true c7
        have c7b1 : decide ((ji5 : Int).toNat ≤ 35184372088832) = true := decide_eq_true c7
        clear c7
        obtain ⟨y157, hy157⟩ : ∃ y_ : List Int, y_ = (List.replicate (ji5 : Int).toNat 0) := ⟨_, rfl⟩
        replace H : (monikerlaw4_TreeBlind.l0 k a1 ([] : List (S61)) y157 l0_1 (l0_1.length : Int) 0 a0_0 l0_1 l0_2) = some r := by first | (rw [hy157]; with_reducible exact H) | (have H2_ := (Option.bind_some _ _).symm.trans H; rw [hy157]; with_reducible exact H2_) | (have H2_ := (Option.bind_some _ _).symm.trans H; with_reducible exact H2_) | with_reducible exact H | (rw [hy157]; exact H) | exact H
        have Ny157 := Aside0.mk hy157
        clear hy157
        have H' := Aside0.mk H
        clear H
        go_enter Try.func16, Try.ntmps16
        go_wp2_with (first | ((with_reducible refine gate_dst (N := 2) rfl ?_); refine box_event ?hg (N := 2) ?hd (cs := #[.string a0_0, .slice A0_1 l0_1.length c0_1, .slice A0_2 l0_2.length c0_2]) (t := 27) ?hr ?_; (case hd => rfl); (case hg => rfl); (case hr => first | (go_simp; done) | (go_simp; rfl)); intro gb154 hg w8 hbox hb; have n0_ := Aside0.mk (below_step (by repeat (first | (with_reducible first | exact HB.out | apply below_alloc | apply pw_below_drewN | apply below_drew1) | exact HB.out)) hb); have n1_ := Aside0.mk (hbox); have n2_ := Aside0.mk ((by rw [hg]; exact (below_size (by repeat (first | (with_reducible first | exact HB.out | apply below_alloc | apply pw_below_drewN | apply below_drew1) | exact HB.out))) : w.heap.size ≤ gb154)); have n3_ := Aside0.mk ((by rw [hg]; exact (below_size (by repeat (first | (with_reducible first | exact HB.out | apply below_alloc | apply pw_below_drewN | apply below_drew1) | exact HB.out))) : w.heap.size ≤ gb154)); clear HB; have HB := n0_; have BK154 := n1_; have GW154 := n2_; have GE154 := n3_; clear n0_ n1_ n2_ n3_; clear hb hbox hg; have hcz9_0 : w8.cell? ⟨gb154, 0, none⟩ = some (.string a0_0) := (blk_cell BK154.out 0).trans rfl; have hcz9_1 : w8.cell? ⟨gb154, 1, none⟩ = some (.slice A0_1 l0_1.length c0_1) := (blk_cell BK154.out 1).trans rfl; have hcz9_2 : w8.cell? ⟨gb154, 2, none⟩ = some (.slice A0_2 l0_2.length c0_2) := (blk_cell BK154.out 2).trans rfl; have hfz9_0 := blk_frozen BK154.out 0; have hfz9_1 := blk_frozen BK154.out 1; have hfz9_2 := blk_frozen BK154.out 2) | ((with_reducible refine gate_callee (f := 42) rfl ?_); refine goesL_ (some 18) rfl rfl Try.func42 (by kernel_rfl) rfl #[.agg #[.slice A0_2 l0_2.length c0_2], .int .i64 (l0_1.length : Int)] rfl (by (try simp only [List.map_toArray, List.map_cons, List.map_nil]); first | done | rfl | (simp only [List.length_drop, List.length_take]; rfl)) ?_; (with_reducible refine (monikerref4_Valid.calls k _ _ l0_2 (l0_1.length : Int) true _ ?side1 ?side2 A3.out).mono ?_); (case side1 => repeat (first | exact (Kd.C_below HR0_2.out HB.out) | (with_reducible refine Kd.C_alloc ?_ _) | (with_reducible refine Kd.C_drewN ?_ _) | (with_reducible refine Kd.C_drew ?_))); (case side2 => exact HC0_2.out); rintro e w10 ⟨rfl, hb⟩; refine ⟨_, rfl, ?_⟩; have n0_ := Aside0.mk (blk_below (g := gb154) (o := .cells #[.string a0_0, .slice A0_1 l0_1.length c0_1, .slice A0_2 l0_2.length c0_2] 27 (0, 0)) (by (with_reducible repeat (first | refine blk_drewN ?_ _ | refine blk_drew ?_ | refine blk_alloc ?_ _)); exact BK154.out) hb); have n1_ := Aside0.mk (below_step (by repeat (first | (with_reducible first | exact HB.out | apply below_alloc | apply pw_below_drewN | apply below_drew1 | refine below_set ?_ GE154.out) | exact HB.out)) hb); clear BK154; clear HB; have BK154 := n0_; have HB := n1_; clear n0_ n1_; (try clear hb); (try clear hb2); (try clear hk); (try clear hi); have hcz11_0 : w10.cell? ⟨gb154, 0, none⟩ = some (.string a0_0) := (blk_cell BK154.out 0).trans rfl; have hcz11_1 : w10.cell? ⟨gb154, 1, none⟩ = some (.slice A0_1 l0_1.length c0_1) := (blk_cell BK154.out 1).trans rfl; have hcz11_2 : w10.cell? ⟨gb154, 2, none⟩ = some (.slice A0_2 l0_2.length c0_2) := (blk_cell BK154.out 2).trans rfl; have hfz11_0 := blk_frozen BK154.out 0; have hfz11_1 := blk_frozen BK154.out 1; have hfz11_2 := blk_frozen BK154.out 2) | ((with_reducible refine gate_dst (N := 31) rfl ?_); refine Kd.R_make (Kd.int .i64) _ 3 rfl (N := 31) rfl 33 _ _ rfl ji5 rfl rfl Try.underlying33 (.int .i64 0) 8 info3 rfl (by decide) (by omega) 0 (ok := fun _ => True) (okp := fun _ => True) rfl (fun _ hk => hk) trivial (of_decide_eq_true (by first | (with_reducible assumption) | assumption)) (Nat.le_trans (Nat.mul_le_mul_right _ (of_decide_eq_true (by first | (with_reducible assumption) | assumption) : ji5.toNat ≤ 35184372088832)) (by omega)) (Below.refl _ _) (Nat.le_refl _) ?_; intro v158 w12 ho13 hb hg_ hnew_; clear hg_ hnew_; (first | rw [← Ny157.out] at ho13 | (simp only [Int.reduceToNat] at ho13; rw [← Ny157.out] at ho13)); have n0_ := Aside0.mk (Kd.R_lower ho13 (below_size (by repeat (first | (with_reducible first | exact HB.out | apply below_alloc | apply pw_below_drewN | apply below_drew1 | refine below_set ?_ GE154.out) | exact HB.out)))); have n1_ := Aside0.mk (blk_below (g := gb154) (o := .cells #[.string a0_0, .slice A0_1 l0_1.length c0_1, .slice A0_2 l0_2.length c0_2] 27 (0, 0)) (by (with_reducible repeat (first | refine blk_drewN ?_ _ | refine blk_drew ?_ | refine blk_alloc ?_ _)); exact BK154.out) hb); have n2_ := Aside0.mk (below_step (by repeat (first | (with_reducible first | exact HB.out | apply below_alloc | apply pw_below_drewN | apply below_drew1 | refine below_set ?_ GE154.out) | exact HB.out)) hb); clear BK154; clear HB; have HO159 := n0_; have BK154 := n1_; have HB := n2_; clear n0_ n1_ n2_; clear hb ho13; have hcz14_0 : w12.cell? ⟨gb154, 0, none⟩ = some (.string a0_0) := (blk_cell BK154.out 0).trans rfl; have hcz14_1 : w12.cell? ⟨gb154, 1, none⟩ = some (.slice A0_1 l0_1.length c0_1) := (blk_cell BK154.out 1).trans rfl; have hcz14_2 : w12.cell? ⟨gb154, 2, none⟩ = some (.slice A0_2 l0_2.length c0_2) := (blk_cell BK154.out 2).trans rfl; have hfz14_0 := blk_frozen BK154.out 0; have hfz14_1 := blk_frozen BK154.out 1; have hfz14_2 := blk_frozen BK154.out 2))
        go_loopg [5, 35] k (fun kq v5 v35 w' => ∃ (x5_1 : List (S61)) (x6_1 : List Int) (x35_1 : Int), v35 = .int .i64 x35_1 ∧ Aside0 (monikerlaw4_TreeBlind.l0 kq a1 x5_1 x6_1 l0_1 (l0_1.length : Int) x35_1 a0_0 l0_1 l0_2 = some r) ∧ Aside0 (kq ≤ k) ∧ Aside0 (Kd.R k61 61 w' w.heap.size (fun _ => True) v5 x5_1) ∧ Aside0 (Kd.R (Kd.int .i64) 3 w' w.heap.size (fun _ => True) v158 x6_1) ∧ Aside0 (w'.heap[gb154]? = some (.cells #[.string a0_0, (.slice A0_1 l0_1.length c0_1), (.slice A0_2 l0_2.length c0_2)] 27 (0, 0))) ∧ Aside0 (Below w.heap.size w w'))
        case atStart => exact ⟨(([] : List (S61))), (y157), (0), (by first | rfl | (simp; done) | (simp [*]; done)), H', ⟨Nat.le_refl _⟩, ⟨by first | exact Kd.R_nil _ _ _ _ _ | exact Kd.N_nil _ _ _ _ _ | exact Kd.V_nil _ _ _ _ _ | exact Kd.Q_nil _ _ _ _ _ | exact Kd.S_nil _ _ _ _ _⟩, ⟨by (with_reducible repeat (first | apply Kd.R_alloc | apply Kd.R_drewN | apply Kd.R_drew)); exact HO159.out⟩, ⟨by (with_reducible repeat (first | refine blk_drewN ?_ _ | refine blk_drew ?_ | refine blk_alloc ?_ _)); exact BK154.out⟩, ⟨by repeat (first | (with_reducible first | exact HB.out | apply below_alloc | apply pw_below_drewN | apply below_drew1 | refine below_set ?_ GE154.out) | exact HB.out)⟩⟩
        case round =>
          clear H'
          try clear c1
          try clear p2
          try clear c4
          try clear c6
          try clear c6b0
          try clear c6b1
          try clear p6
          try clear c7
          try clear c7b0
          try clear c7b1
          try clear hcz11_0
          try clear hcz11_1
          try clear hcz11_2
          try clear hcz14_0
          try clear hcz14_1
          try clear hcz14_2
          try clear hcz9_0
          try clear hcz9_1
          try clear hcz9_2
          try clear hfz11_0
          try clear hfz11_1
          try clear hfz11_2
          try clear hfz14_0
          try clear hfz14_1
          try clear hfz14_2
          try clear hfz9_0
          try clear hfz9_1
          try clear hfz9_2
          obtain ⟨x5_1, x6_1, x35_1, rfl, HA, HK1, HO_5, HO_6, BK154, HB⟩ := hrel
          cases gk with
          | zero => exact absurd HA.out (by simp [monikerlaw4_TreeBlind.l0])
          | succ k1 =>
            have H := HA.out
            clear HA
            simp only [monikerlaw4_TreeBlind.l0] at H
            by_cases c15 : x35_1 < (l0_1.length : Int)
            · rw [if_pos c15] at H
              have c15b0 : decide (x35_1 < (l0_1.length : Int)) = true := decide_eq_true c15
              clear c15
              by_cases c16 : 0 ≤ x35_1
              · rw [if_pos c16] at H
                have c16b0 : decide (0 ≤ x35_1) = true := decide_eq_true c16
                clear c16
                by_cases c17 : x35_1 < (l0_1.length : Int)
                · rw [if_pos c17] at H
                  have c17b0 : decide (x35_1 < (l0_1.length : Int)) = true := decide_eq_true c17
                  clear c17
                  replace H := Option.bind_eq_some_iff.mp H
                  obtain ⟨t162, A180, H⟩ := H
                  replace H : (if t162 = true then ((some (([(⟨0, 3, 1⟩ : S61), (⟨1, 0, 1⟩ : S61)] : List (S61)) : List (S61))).bind fun y163 => (if x5_1.length + y163.length < 5864062014805 then ((some (x5_1 ++ y163 : List (S61))).bind fun y166 => (if x35_1 < (x6_1.length : Int) then (if y166.length < 5864062014805 then (monikerlaw4_TreeBlind.l0 k1 a1 (y166 ++ [(⟨(rd_T61 l0_1 x35_1).f0, (rd_T61 l0_1 x35_1).f1, (rd_T61 l0_1 x35_1).f2⟩ : S61)]) (x6_1.set (x35_1 : Int).toNat (y166.length : Int)) l0_1 (l0_1.length : Int) (wrap64 (x35_1 + 1)) a0_0 l0_1 l0_2) else (none)) else (none))) else (none))) else (if x35_1 < (x6_1.length : Int) then (if x5_1.length < 5864062014805 then (monikerlaw4_TreeBlind.l0 k1 a1 (x5_1 ++ [(⟨(rd_T61 l0_1 x35_1).f0, (rd_T61 l0_1 x35_1).f1, (rd_T61 l0_1 x35_1).f2⟩ : S61)]) (x6_1.set (x35_1 : Int).toNat (x5_1.length : Int)) l0_1 (l0_1.length : Int) (wrap64 (x35_1 + 1)) a0_0 l0_1 l0_2) else (none)) else (none))) = some r := H
                  have A18 := Aside0.mk A180
                  clear A180
                  by_cases c19 : t162 = true
                  · subst c19
                    have H1 : ((some (([(⟨0, 3, 1⟩ : S61), (⟨1, 0, 1⟩ : S61)] : List (S61)) : List (S61))).bind fun y163 => (if x5_1.length + y163.length < 5864062014805 then ((some (x5_1 ++ y163 : List (S61))).bind fun y166 => (if x35_1 < (x6_1.length : Int) then (if y166.length < 5864062014805 then (monikerlaw4_TreeBlind.l0 k1 a1 (y166 ++ [(⟨(rd_T61 l0_1 x35_1).f0, (rd_T61 l0_1 x35_1).f1, (rd_T61 l0_1 x35_1).f2⟩ : S61)]) (x6_1.set (x35_1 : Int).toNat (y166.length : Int)) l0_1 (l0_1.length : Int) (wrap64 (x35_1 + 1)) a0_0 l0_1 l0_2) else (none)) else (none))) else (none))) = some r := by rw [if_pos rfl] at H; exact H
                    clear H
                    have H := H1
                    clear H1
                    obtain ⟨y163, hy163⟩ : ∃ y_ : List (S61), y_ = (([(⟨0, 3, 1⟩ : S61), (⟨1, 0, 1⟩ : S61)] : List (S61))) := ⟨_, rfl⟩
                    replace H : (if x5_1.length + y163.length < 5864062014805 then ((some (x5_1 ++ y163 : List (S61))).bind fun y166 => (if x35_1 < (x6_1.length : Int) then (if y166.length < 5864062014805 then (monikerlaw4_TreeBlind.l0 k1 a1 (y166 ++ [(⟨(rd_T61 l0_1 x35_1).f0, (rd_T61 l0_1 x35_1).f1, (rd_T61 l0_1 x35_1).f2⟩ : S61)]) (x6_1.set (x35_1 : Int).toNat (y166.length : Int)) l0_1 (l0_1.length : Int) (wrap64 (x35_1 + 1)) a0_0 l0_1 l0_2) else (none)) else (none))) else (none)) = some r := by first | (rw [hy163]; with_reducible exact H) | (have H2_ := (Option.bind_some _ _).symm.trans H; rw [hy163]; with_reducible exact H2_) | (have H2_ := (Option.bind_some _ _).symm.trans H; with_reducible exact H2_) | with_reducible exact H | (rw [hy163]; exact H) | exact H
                    have Ny163 := Aside0.mk hy163
                    clear hy163
                    by_cases c20 : x5_1.length + y163.length < 5864062014805
                    · rw [if_pos c20] at H
                      have LMc20 := Aside0.mk c20
                      clear c20
                      obtain ⟨y166, hy166⟩ : ∃ y_ : List (S61), y_ = (x5_1 ++ y163) := ⟨_, rfl⟩
                      replace H : (if x35_1 < (x6_1.length : Int) then (if y166.length < 5864062014805 then (monikerlaw4_TreeBlind.l0 k1 a1 (y166 ++ [(⟨(rd_T61 l0_1 x35_1).f0, (rd_T61 l0_1 x35_1).f1, (rd_T61 l0_1 x35_1).f2⟩ : S61)]) (x6_1.set (x35_1 : Int).toNat (y166.length : Int)) l0_1 (l0_1.length : Int) (wrap64 (x35_1 + 1)) a0_0 l0_1 l0_2) else (none)) else (none)) = some r := by first | (rw [hy166]; with_reducible exact H) | (have H2_ := (Option.bind_some _ _).symm.trans H; rw [hy166]; with_reducible exact H2_) | (have H2_ := (Option.bind_some _ _).symm.trans H; with_reducible exact H2_) | with_reducible exact H | (rw [hy166]; exact H) | exact H
                      have Ny166 := Aside0.mk hy166
                      clear hy166
                      by_cases c21 : x35_1 < (x6_1.length : Int)
                      · rw [if_pos c21] at H
                        have c21b0 : decide (x35_1 < (x6_1.length : Int)) = true := decide_eq_true c21
                        clear c21
                        obtain ⟨y169, hy169⟩ : ∃ y_ : List Int, y_ = (x6_1.set (x35_1 : Int).toNat (y166.length : Int)) := ⟨_, rfl⟩
                        replace H : (if y166.length < 5864062014805 then (monikerlaw4_TreeBlind.l0 k1 a1 (y166 ++ [(⟨(rd_T61 l0_1 x35_1).f0, (rd_T61 l0_1 x35_1).f1, (rd_T61 l0_1 x35_1).f2⟩ : S61)]) y169 l0_1 (l0_1.length : Int) (wrap64 (x35_1 + 1)) a0_0 l0_1 l0_2) else (none)) = some r := by first | (rw [hy169]; with_reducible exact H) | (have H2_ := (Option.bind_some _ _).symm.trans H; rw [hy169]; with_reducible exact H2_) | (have H2_ := (Option.bind_some _ _).symm.trans H; with_reducible exact H2_) | with_reducible exact H | (rw [hy169]; exact H) | exact H
                        have Ny169 := Aside0.mk hy169
                        clear hy169
                        by_cases c23 : y166.length < 5864062014805
                        · rw [if_pos c23] at H
                          have LMc23 := Aside0.mk c23
                          clear c23
                          obtain ⟨y170, hy170⟩ : ∃ y_ : List (S61), y_ = (y166 ++ [(⟨(rd_T61 l0_1 x35_1).f0, (rd_T61 l0_1 x35_1).f1, (rd_T61 l0_1 x35_1).f2⟩ : S61)]) := ⟨_, rfl⟩
                          replace H : (monikerlaw4_TreeBlind.l0 k1 a1 y170 y169 l0_1 (l0_1.length : Int) (wrap64 (x35_1 + 1)) a0_0 l0_1 l0_2) = some r := by first | (rw [hy170]; with_reducible exact H) | (have H2_ := (Option.bind_some _ _).symm.trans H; rw [hy170]; with_reducible exact H2_) | (have H2_ := (Option.bind_some _ _).symm.trans H; with_reducible exact H2_) | with_reducible exact H | (rw [hy170]; exact H) | exact H
                          have Ny170 := Aside0.mk hy170
                          clear hy170
                          have H' := Aside0.mk H
                          clear H
                          have p160 : 0 ≤ (x35_1 : Int) := of_decide_eq_true (by first | (with_reducible assumption) | assumption)
                          have q160 : x35_1 < (l0_1.length : Int) := of_decide_eq_true (by first | (with_reducible assumption) | assumption)
                          obtain ⟨ad160, e160, hx160_0, hx160_1, hx160_2⟩ := at_T61 HR0_1.out x35_1 p160 q160
                          cases e160
                          replace hx160_0 := (HB.out.cell (World.block_lt_of_cell? w _ hx160_0)).trans hx160_0
                          replace hx160_1 := (HB.out.cell (World.block_lt_of_cell? w _ hx160_1)).trans hx160_1
                          replace hx160_2 := (HB.out.cell (World.block_lt_of_cell? w _ hx160_2)).trans hx160_2
                          replace p160 := eq_true p160
                          replace q160 := eq_true q160
                          have EG : ∀ args W, (callFunc 52 args).run Try.prog W = .ok (.enter 52 args) W := fun args W => enters_ Try.func52 (by kernel_rfl) rfl args W
                          go_wp2_with (first | ((with_reducible refine gate_dst (N := 8) rfl ?_); refine box_event ?hg (N := 8) ?hd (cs := #[.int .u8 0, .int .i64 0, .int .i64 0]) (t := 61) ?hr ?_; (case hd => rfl); (case hg => rfl); (case hr => first | (go_simp; done) | (go_simp; rfl)); intro gb161 hg w24 hbox hb; have n0_ := Aside0.mk (Kd.R_below (Kd.R_elderB (by (with_reducible repeat (first | apply Kd.R_alloc | apply Kd.R_drewN | apply Kd.R_drew)); exact HO_5.out) gb161 (Nat.le_of_eq hg.symm)) hb); have n1_ := Aside0.mk (Kd.R_below (by (with_reducible repeat (first | apply Kd.R_alloc | apply Kd.R_drewN | apply Kd.R_drew)); exact HO_6.out) hb); have n2_ := Aside0.mk (blk_below (g := gb154) (o := .cells #[.string a0_0, .slice (some ad160) l0_1.length c0_1, .slice A0_2 l0_2.length c0_2] 27 (0, 0)) (by (with_reducible repeat (first | refine blk_drewN ?_ _ | refine blk_drew ?_ | refine blk_alloc ?_ _)); exact BK154.out) hb); have n3_ := Aside0.mk (below_step (by repeat (first | (with_reducible first | exact HB.out | apply below_alloc | apply pw_below_drewN | apply below_drew1 | refine below_set ?_ GE154.out) | exact HB.out)) hb); have n4_ := Aside0.mk (hbox); have n5_ := Aside0.mk ((by rw [hg]; exact (below_size (by repeat (first | (with_reducible first | exact HB.out | apply below_alloc | apply pw_below_drewN | apply below_drew1 | refine below_set ?_ GE154.out) | exact HB.out))) : w.heap.size ≤ gb161)); have n6_ := Aside0.mk ((by rw [hg]; exact (below_size (by repeat (first | (with_reducible first | exact HB.out | apply below_alloc | apply pw_below_drewN | apply below_drew1 | refine below_set ?_ GE154.out) | exact HB.out))) : w.heap.size ≤ gb161)); have n7_ := Aside0.mk ((by rw [hg]; exact Nat.ne_of_lt (blk_lt (g := gb154) (o := .cells #[.string a0_0, .slice (some ad160) l0_1.length c0_1, .slice A0_2 l0_2.length c0_2] 27 (0, 0)) (by (with_reducible repeat (first | refine blk_drewN ?_ _ | refine blk_drew ?_ | refine blk_alloc ?_ _)); exact BK154.out)) : gb154 ≠ gb161)); have n8_ := Aside0.mk ((by rw [hg]; exact Nat.ne_of_gt (blk_lt (g := gb154) (o := .cells #[.string a0_0, .slice (some ad160) l0_1.length c0_1, .slice A0_2 l0_2.length c0_2] 27 (0, 0)) (by (with_reducible repeat (first | refine blk_drewN ?_ _ | refine blk_drew ?_ | refine blk_alloc ?_ _)); exact BK154.out)) : gb161 ≠ gb154)); clear HO_5; clear HO_6; clear BK154; clear HB; have HO_5 := n0_; have HO_6 := n1_; have BK154 := n2_; have HB := n3_; have BK161 := n4_; have GW161 := n5_; have GE161 := n6_; have NB154_161 := n7_; have NB161_154 := n8_; clear n0_ n1_ n2_ n3_ n4_ n5_ n6_ n7_ n8_; clear hb hbox hg; have hnb25 := NB161_154.out; have hnc25 := NB154_161.out; have hcz26_0 : w24.cell? ⟨gb161, 0, none⟩ = some (.int .u8 0) := (blk_cell BK161.out 0).trans rfl; have hcz26_1 : w24.cell? ⟨gb161, 1, none⟩ = some (.int .i64 0) := (blk_cell BK161.out 1).trans rfl; have hcz26_2 : w24.cell? ⟨gb161, 2, none⟩ = some (.int .i64 0) := (blk_cell BK161.out 2).trans rfl; have hfz26_0 := blk_frozen BK161.out 0; have hfz26_1 := blk_frozen BK161.out 1; have hfz26_2 := blk_frozen BK161.out 2) | ((with_reducible refine gate_callee (f := 26) rfl ?_); refine goesL_ (some 41) rfl rfl Try.func26 (by kernel_rfl) rfl #[.int .u64 a1] rfl (by (try simp only [List.map_toArray, List.map_cons, List.map_nil]); first | done | rfl | (simp only [List.length_drop, List.length_take]; rfl)) ?_; (with_reducible refine (chosen.calls a1 _).mono ?_); rintro e w27 ⟨bq, rfl, hbq, gbq, hb⟩; refine ⟨_, rfl, ?_⟩; have n0_ := Aside0.mk (Kd.R_below (by (with_reducible repeat (first | apply Kd.R_alloc | apply Kd.R_drewN | apply Kd.R_drew)); exact (Kd.R_mono (Kd.R_far (p := ⟨gb161, 2, none⟩) (Kd.R_far (p := ⟨gb161, 1, none⟩) (Kd.R_far (p := ⟨gb161, 0, none⟩) (Kd.R_mono HO_5.out (fun k_ hk => (⟨hk, hk.2⟩ : _ ∧ k_ ≠ gb161))) (fun _ hk => hk.2) (.int .u8 ((rd_T61 l0_1 x35_1).f0))) (fun _ hk => hk.2) (.int .i64 ((rd_T61 l0_1 x35_1).f1))) (fun _ hk => hk.2) (.int .i64 ((rd_T61 l0_1 x35_1).f2))) (fun _ h_ => h_.1))) hb); have n1_ := Aside0.mk (Kd.R_below (by (with_reducible repeat (first | apply Kd.R_alloc | apply Kd.R_drewN | apply Kd.R_drew)); exact (Kd.R_mono (Kd.R_far (p := ⟨gb161, 2, none⟩) (Kd.R_far (p := ⟨gb161, 1, none⟩) (Kd.R_far (p := ⟨gb161, 0, none⟩) (Kd.R_types HO_6.out BK161.out (by decide)) (fun _ hk => hk.2) (.int .u8 ((rd_T61 l0_1 x35_1).f0))) (fun _ hk => hk.2) (.int .i64 ((rd_T61 l0_1 x35_1).f1))) (fun _ hk => hk.2) (.int .i64 ((rd_T61 l0_1 x35_1).f2))) (fun _ h_ => h_.1))) hb); have n2_ := Aside0.mk (blk_below (g := gb154) (o := .cells #[.string a0_0, .slice (some ad160) l0_1.length c0_1, .slice A0_2 l0_2.length c0_2] 27 (0, 0)) (by (with_reducible repeat (first | refine blk_drewN ?_ _ | refine blk_drew ?_ | refine blk_alloc ?_ _)); refine blk_far ?_ NB154_161.out _; (with_reducible repeat (first | refine blk_drewN ?_ _ | refine blk_drew ?_ | refine blk_alloc ?_ _)); refine blk_far ?_ NB154_161.out _; (with_reducible repeat (first | refine blk_drewN ?_ _ | refine blk_drew ?_ | refine blk_alloc ?_ _)); refine blk_far ?_ NB154_161.out _; (with_reducible repeat (first | refine blk_drewN ?_ _ | refine blk_drew ?_ | refine blk_alloc ?_ _)); exact BK154.out) hb); have n3_ := Aside0.mk (blk_below (g := gb161) (o := .cells #[.int .u8 ((rd_T61 l0_1 x35_1).f0), .int .i64 ((rd_T61 l0_1 x35_1).f1), .int .i64 ((rd_T61 l0_1 x35_1).f2)] 61 (0, 0)) (by (with_reducible repeat (first | refine blk_drewN ?_ _ | refine blk_drew ?_ | refine blk_alloc ?_ _)); refine blk_put (cs := #[.int .u8 ((rd_T61 l0_1 x35_1).f0), .int .i64 ((rd_T61 l0_1 x35_1).f1), .int .i64 0]) ?_ 2 _ rfl; (with_reducible repeat (first | refine blk_drewN ?_ _ | refine blk_drew ?_ | refine blk_alloc ?_ _)); refine blk_put (cs := #[.int .u8 ((rd_T61 l0_1 x35_1).f0), .int .i64 0, .int .i64 0]) ?_ 1 _ rfl; (with_reducible repeat (first | refine blk_drewN ?_ _ | refine blk_drew ?_ | refine blk_alloc ?_ _)); refine blk_put (cs := #[.int .u8 0, .int .i64 0, .int .i64 0]) ?_ 0 _ rfl; (with_reducible repeat (first | refine blk_drewN ?_ _ | refine blk_drew ?_ | refine blk_alloc ?_ _)); exact BK161.out) hb); have n4_ := Aside0.mk (below_step (by repeat (first | (with_reducible first | exact HB.out | apply below_alloc | apply pw_below_drewN | apply below_drew1 | refine below_set ?_ GE154.out | refine below_set ?_ GE161.out) | exact HB.out)) hb); clear HO_5; clear HO_6; clear BK154; clear BK161; clear HB; have HO_5 := n0_; have HO_6 := n1_; have BK154 := n2_; have BK161 := n3_; have HB := n4_; clear n0_ n1_ n2_ n3_ n4_; have HBQ := Aside0.mk hbq; clear hbq gbq; (try clear hb)))
                          refine (chosen1.calls a1 x35_1 bq _ HBQ.out).mono ?_
                          rintro e w27q ⟨hbe, hb⟩
                          have hct : chB a1 x35_1 = true := Option.some.inj A18.out
                          rw [hct] at hbe
                          subst hbe
                          have n0_ := Aside0.mk (Kd.R_below HO_5.out hb)
                          have n1_ := Aside0.mk (Kd.R_below HO_6.out hb)
                          have n2_ := Aside0.mk (blk_below BK154.out hb)
                          have n3_ := Aside0.mk (blk_below BK161.out hb)
                          have n4_ := Aside0.mk (below_step HB.out hb)
                          clear HO_5 HO_6 BK154 BK161 HB HBQ hct hb EG
                          have HO_5 := n0_
                          have HO_6 := n1_
                          have BK154 := n2_
                          have BK161 := n3_
                          have HB := n4_
                          clear n0_ n1_ n2_ n3_ n4_
                          skip
                          go_wp2_with (first | ((with_reducible refine gate_dst (N := 47) rfl ?_); refine Kd.R_lit k61 _ 61 ?hg (N := 47) ?hd (xs := ([(⟨0, 3, 1⟩ : S61), (⟨1, 0, 1⟩ : S61)] : List (S61))) (inner := [.int .u8 0, .int .i64 3, .int .i64 1, .int .u8 1, .int .i64 0, .int .i64 1]) (ok := fun _ => True) (okp := fun _ => True) ?hr ?hp (fun _ hk => hk) trivial (Below.refl _ _) (Nat.le_refl _) (by simp) ?_; (case hd => rfl); (case hg => rfl); (case hr => first | (go_simp; done) | (go_simp; rfl)); (case hp => exact (Reps.c3 (show Kd.M k61 _ _ _ (⟨0, 3, 1⟩ : S61) [.int .u8 0, .int .i64 3, .int .i64 1] from (k61_mkM _ _ _ (⟨0, 3, 1⟩ : S61) )) (Reps.c3 (show Kd.M k61 _ _ _ (⟨1, 0, 1⟩ : S61) [.int .u8 1, .int .i64 0, .int .i64 1] from (k61_mkM _ _ _ (⟨1, 0, 1⟩ : S61) )) (Reps.none _ _)))); intro v164 w28 ho29 hb hg_ hnew_; clear hg_ hnew_; (first | rw [← Ny163.out] at ho29 | (simp only [Int.reduceToNat] at ho29; rw [← Ny163.out] at ho29)); have n0_ := Aside0.mk (Kd.R_elder' (by (with_reducible repeat (first | apply Kd.R_alloc | apply Kd.R_drewN | apply Kd.R_drew)); exact HO_5.out) (Kd.R_base ho29) hb); have n1_ := Aside0.mk (Kd.R_below (by (with_reducible repeat (first | apply Kd.R_alloc | apply Kd.R_drewN | apply Kd.R_drew)); exact HO_6.out) hb); have n2_ := Aside0.mk (Kd.R_lower (Kd.R_newB (Kd.R_new' ho29 (Kd.R_lt (by (with_reducible repeat (first | apply Kd.R_alloc | apply Kd.R_drewN | apply Kd.R_drew)); exact HO_5.out))) (g := gb161) (o := .cells #[.int .u8 ((rd_T61 l0_1 x35_1).f0), .int .i64 ((rd_T61 l0_1 x35_1).f1), .int .i64 ((rd_T61 l0_1 x35_1).f2)] 61 (0, 0)) (by (with_reducible repeat (first | refine blk_drewN ?_ _ | refine blk_drew ?_ | refine blk_alloc ?_ _)); exact BK161.out)) (below_size (by repeat (first | (with_reducible first | exact HB.out | apply below_alloc | apply pw_below_drewN | apply below_drew1 | refine below_set ?_ GE154.out | refine below_set ?_ GE161.out) | exact HB.out)))); have n3_ := Aside0.mk (blk_below (g := gb154) (o := .cells #[.string a0_0, .slice (some ad160) l0_1.length c0_1, .slice A0_2 l0_2.length c0_2] 27 (0, 0)) (by (with_reducible repeat (first | refine blk_drewN ?_ _ | refine blk_drew ?_ | refine blk_alloc ?_ _)); exact BK154.out) hb); have n4_ := Aside0.mk (blk_below (g := gb161) (o := .cells #[.int .u8 ((rd_T61 l0_1 x35_1).f0), .int .i64 ((rd_T61 l0_1 x35_1).f1), .int .i64 ((rd_T61 l0_1 x35_1).f2)] 61 (0, 0)) (by (with_reducible repeat (first | refine blk_drewN ?_ _ | refine blk_drew ?_ | refine blk_alloc ?_ _)); exact BK161.out) hb); have n5_ := Aside0.mk (below_step (by repeat (first | (with_reducible first | exact HB.out | apply below_alloc | apply pw_below_drewN | apply below_drew1 | refine below_set ?_ GE154.out | refine below_set ?_ GE161.out) | exact HB.out)) hb); clear HO_5; clear HO_6; clear BK154; clear BK161; clear HB; have HO_5 := n0_; have HO_6 := n1_; have HO165 := n2_; have BK154 := n3_; have BK161 := n4_; have HB := n5_; clear n0_ n1_ n2_ n3_ n4_ n5_; clear hb ho29; obtain ⟨Ao31, co31, eo31⟩ := Kd.R_slice HO165.out; subst eo31) | ((with_reducible refine gate_builtin (b := .append) (xs := #[.tmp 44, .tmp 47]) rfl ?_); at_builtin; refine Kd.R_append_rows k61 (w0 := w) w.heap.size rfl (.tmp 44) (.tmp 47) 22 61 (.agg #[(.int .u8 0), (.int .i64 0), (.int .i64 0)]) 24 rfl Try.underlying22 info61 rfl (by decide) (by omega) u5 x5_1 y163 _ _ _ (fun k_ => some k_ ≠ (.slice Ao31 y163.length co31 : Value).ownBlock ∧ k_ ≠ gb161) (fun _ => False) rfl rfl ?aO ?aR (fun _ _ h => h) (fun _ h => h.elim) ?aF ?aB ?aS ?aL ?_; (case aR => repeat (first | exact (Kd.R_reads' HO165.out).2.2 | (with_reducible refine Kd.C_alloc ?_ _) | (with_reducible refine Kd.C_drewN ?_ _) | (with_reducible refine Kd.C_drew ?_))); (case aB => exact (by repeat (first | (with_reducible first | exact HB.out | apply below_alloc | apply pw_below_drewN | apply below_drew1 | refine below_set ?_ GE154.out | refine below_set ?_ GE161.out) | exact HB.out))); (case aF => exact (fun k_ hk => ⟨Kd.fresh' (Kd.R_lt (by (with_reducible repeat (first | apply Kd.R_alloc | apply Kd.R_drewN | apply Kd.R_drew)); exact HO165.out)) k_ hk, Kd.freshB (g := gb161) (o := .cells #[.int .u8 ((rd_T61 l0_1 x35_1).f0), .int .i64 ((rd_T61 l0_1 x35_1).f1), .int .i64 ((rd_T61 l0_1 x35_1).f2)] 61 (0, 0)) (by (with_reducible repeat (first | refine blk_drewN ?_ _ | refine blk_drew ?_ | refine blk_alloc ?_ _)); exact BK161.out) k_ hk⟩)); (case aO => exact (by (with_reducible repeat (first | apply Kd.R_alloc | apply Kd.R_drewN | apply Kd.R_drew)); exact Kd.R_mono HO_5.out (fun _ hk => ⟨hk.2, hk.1.2⟩))); (case aS => exact (below_size (by repeat (first | (with_reducible first | exact HB.out | apply below_alloc | apply pw_below_drewN | apply below_drew1 | refine below_set ?_ GE154.out | refine below_set ?_ GE161.out) | exact HB.out)))); (case aL => have := LMc20.out; omega); intro v167 w30 ho hb hg hat; rw [← Ny166.out] at ho; have n0_ := Aside0.mk (Kd.R_over' (by (with_reducible repeat (first | apply Kd.R_alloc | apply Kd.R_drewN | apply Kd.R_drew)); exact HO_6.out) (Kd.R_typed (by (with_reducible repeat (first | apply Kd.R_alloc | apply Kd.R_drewN | apply Kd.R_drew)); exact HO_5.out)) (by decide) hg); have n1_ := Aside0.mk (blk_grown (g := gb154) (o := .cells #[.string a0_0, .slice (some ad160) l0_1.length c0_1, .slice A0_2 l0_2.length c0_2] 27 (0, 0)) (by (with_reducible repeat (first | refine blk_drewN ?_ _ | refine blk_drew ?_ | refine blk_alloc ?_ _)); exact BK154.out) hg (Kd.R_ne HO_5.out BK154.out (by decide))); have n2_ := Aside0.mk (blk_grown (g := gb161) (o := .cells #[.int .u8 ((rd_T61 l0_1 x35_1).f0), .int .i64 ((rd_T61 l0_1 x35_1).f1), .int .i64 ((rd_T61 l0_1 x35_1).f2)] 61 (0, 0)) (by (with_reducible repeat (first | refine blk_drewN ?_ _ | refine blk_drew ?_ | refine blk_alloc ?_ _)); exact BK161.out) hg (Kd.R_away HO_5.out (fun _ hk => hk.1.2))); have n3_ := Aside0.mk (Kd.R_after (ok := (fun k_ => k_ ≠ gb161)) (by (with_reducible repeat (first | apply Kd.R_alloc | apply Kd.R_drewN | apply Kd.R_drew)); exact Kd.R_mono HO165.out (fun _ hk => ⟨hk.2, hk.1.2⟩)) hg hat); have n4_ := Aside0.mk (hb); have n5_ := Aside0.mk (ho); clear HO_6; clear BK154; clear BK161; clear HO165; clear HB; clear HO_5; have HO_6 := n0_; have BK154 := n1_; have BK161 := n2_; have HO165 := n3_; have HB := n4_; have HO168 := n5_; clear n0_ n1_ n2_ n3_ n4_ n5_; clear ho hb hg hat; obtain ⟨Ao32, co32, eo32⟩ := Kd.R_slice HO168.out; subst eo32; have p22 : 0 ≤ (x35_1 : Int) := of_decide_eq_true (by first | (with_reducible assumption) | assumption); have q22 : (x35_1 : Int) < ((x6_1.length : Int) : Int) := of_decide_eq_true (by first | (with_reducible assumption) | assumption); obtain ⟨go22, co22, eo22, gb22, gl22, cl22, HG22⟩ := Kd.R_form HO_6.out (by omega); (first | cases eo22 | (injection eo22 with ea_ en_ ec_; (first | subst ea_ | (injection ea_ with ea_; subst ea_)); subst ec_; clear en_)); have GB22 := Aside0.mk gb22; have GG22 := Aside0.mk HG22; clear gb22 gl22 HG22; obtain ⟨hx22_0, hf22_0⟩ := Kd.R_celln 0 HO_6.out (x35_1 : Int) p22 q22; replace p22 := eq_true p22; replace q22 := eq_true q22; obtain ⟨hy33_, hz33_⟩ := Kd.R_celln 0 HO_6.out (x35_1 : Int) (of_decide_eq_true (by first | (with_reducible assumption) | assumption)) (of_decide_eq_true (by first | (with_reducible assumption) | assumption)); have HP33 := Kd.R_putg HO_6.out (x35_1 : Int) (y166.length : Int)) | ((with_reducible refine gate_store (t := 3) (p := 53) rfl ?_); refine store_event (t := 3) (p := 53) (v := ?vo_w34) (w1 := (w30.setCell ⟨go22, (x35_1 : Int).toNat, none⟩ (.int .i64 (y166.length : Int)))) ?hg ?ho ?hn ?hr ?_; (case ho => rfl); (case hg => rfl); (case hn => rfl); (case hr => first | (go_simp; done) | (go_simp; rfl)); intro w34 hw; have hg : w30.grownBy w34 (some go22) := (by rw [hw]; exact HP33.2); have hp_ : Kd.R (Kd.int .i64) 3 w34 w.heap.size (fun _ => True) (.slice (some ⟨go22, 0, none⟩) x6_1.length co22) y169 := (by rw [hw, Ny169.out]; exact HP33.1); clear HP33; have n0_ := Aside0.mk (hp_); have n1_ := Aside0.mk (blk_grown (g := gb154) (o := .cells #[.string a0_0, .slice (some ad160) l0_1.length c0_1, .slice A0_2 l0_2.length c0_2] 27 (0, 0)) (by (with_reducible repeat (first | refine blk_drewN ?_ _ | refine blk_drew ?_ | refine blk_alloc ?_ _)); exact BK154.out) hg (Kd.R_ne HO_6.out BK154.out (by decide))); have n2_ := Aside0.mk (blk_grown (g := gb161) (o := .cells #[.int .u8 ((rd_T61 l0_1 x35_1).f0), .int .i64 ((rd_T61 l0_1 x35_1).f1), .int .i64 ((rd_T61 l0_1 x35_1).f2)] 61 (0, 0)) (by (with_reducible repeat (first | refine blk_drewN ?_ _ | refine blk_drew ?_ | refine blk_alloc ?_ _)); exact BK161.out) hg (Kd.R_ne HO_6.out BK161.out (by decide))); have n3_ := Aside0.mk (Kd.R_over' (v := (.slice (some ⟨go22, 0, none⟩) x6_1.length co22)) (by (with_reducible repeat (first | apply Kd.R_alloc | apply Kd.R_drewN | apply Kd.R_drew)); exact HO165.out) (Kd.R_typed HO_6.out) (by decide) hg); have n4_ := Aside0.mk (Kd.R_over' (v := (.slice (some ⟨go22, 0, none⟩) x6_1.length co22)) (by (with_reducible repeat (first | apply Kd.R_alloc | apply Kd.R_drewN | apply Kd.R_drew)); exact HO168.out) (Kd.R_typed HO_6.out) (by decide) hg); have n5_ := Aside0.mk ((by rw [hw]; exact below_set (HB.out) GB22.out : Below w.heap.size w w34)); clear HO_6; clear BK154; clear BK161; clear HO165; clear HO168; clear HB; have HO_6 := n0_; have BK154 := n1_; have BK161 := n2_; have HO165 := n3_; have HO168 := n4_; have HB := n5_; clear n0_ n1_ n2_ n3_ n4_ n5_; clear hg hw hp_; have hcz35_0 : w34.cell? ⟨gb161, 0, none⟩ = some (.int .u8 ((rd_T61 l0_1 x35_1).f0)) := (blk_cell BK161.out 0).trans rfl; have hcz35_1 : w34.cell? ⟨gb161, 1, none⟩ = some (.int .i64 ((rd_T61 l0_1 x35_1).f1)) := (blk_cell BK161.out 1).trans rfl; have hcz35_2 : w34.cell? ⟨gb161, 2, none⟩ = some (.int .i64 ((rd_T61 l0_1 x35_1).f2)) := (blk_cell BK161.out 2).trans rfl; have hfz35_0 := blk_frozen BK161.out 0; have hfz35_1 := blk_frozen BK161.out 1; have hfz35_2 := blk_frozen BK161.out 2) | ((with_reducible refine gate_builtin (b := .append) (xs := #[.tmp 54, .tmp 56]) rfl ?_); at_builtin; refine Kd.R_append k61 (w0 := w) w.heap.size rfl (.tmp 54) (.tmp 56) 22 61 (.agg #[(.int .u8 0), (.int .i64 0), (.int .i64 0)]) 24 rfl Try.underlying22 info61 rfl (by decide) (by omega) (.slice Ao32 y166.length co32) y166 (⟨(rd_T61 l0_1 x35_1).f0, (rd_T61 l0_1 x35_1).f1, (rd_T61 l0_1 x35_1).f2⟩ : S61) [.int .u8 ((rd_T61 l0_1 x35_1).f0), .int .i64 ((rd_T61 l0_1 x35_1).f1), .int .i64 ((rd_T61 l0_1 x35_1).f2)] (fun k_ => some k_ ≠ (.slice Ao31 y163.length co31 : Value).ownBlock ∧ k_ ≠ gb161) (fun _ => False) rfl rfl ?aP (fun _ hk => hk.elim) ?aF ?aO ?aB ?aS ?aL ?_; (case aP => exact k61_mkM _ _ _ (⟨(rd_T61 l0_1 x35_1).f0, (rd_T61 l0_1 x35_1).f1, (rd_T61 l0_1 x35_1).f2⟩ : S61)); (case aB => exact (by repeat (first | (with_reducible first | exact HB.out | apply below_alloc | apply pw_below_drewN | apply below_drew1 | refine below_set ?_ GE154.out | refine below_set ?_ GE161.out) | exact HB.out))); (case aF => exact (fun k_ hk => ⟨Kd.fresh' (Kd.R_lt (by (with_reducible repeat (first | apply Kd.R_alloc | apply Kd.R_drewN | apply Kd.R_drew)); exact HO165.out)) k_ hk, Kd.freshB (g := gb161) (o := .cells #[.int .u8 ((rd_T61 l0_1 x35_1).f0), .int .i64 ((rd_T61 l0_1 x35_1).f1), .int .i64 ((rd_T61 l0_1 x35_1).f2)] 61 (0, 0)) (by (with_reducible repeat (first | refine blk_drewN ?_ _ | refine blk_drew ?_ | refine blk_alloc ?_ _)); exact BK161.out) k_ hk⟩)); (case aO => exact (by (with_reducible repeat (first | apply Kd.R_alloc | apply Kd.R_drewN | apply Kd.R_drew)); exact HO168.out)); (case aS => exact (below_size (by repeat (first | (with_reducible first | exact HB.out | apply below_alloc | apply pw_below_drewN | apply below_drew1 | refine below_set ?_ GE154.out | refine below_set ?_ GE161.out) | exact HB.out)))); (case aL => have := LMc23.out; omega); intro v171 w36 ho hb hg hat; rw [← Ny170.out] at ho; have n0_ := Aside0.mk (Kd.R_over' (by (with_reducible repeat (first | apply Kd.R_alloc | apply Kd.R_drewN | apply Kd.R_drew)); exact HO_6.out) (Kd.R_typed (by (with_reducible repeat (first | apply Kd.R_alloc | apply Kd.R_drewN | apply Kd.R_drew)); exact HO168.out)) (by decide) hg); have n1_ := Aside0.mk (blk_grown (g := gb154) (o := .cells #[.string a0_0, .slice (some ad160) l0_1.length c0_1, .slice A0_2 l0_2.length c0_2] 27 (0, 0)) (by (with_reducible repeat (first | refine blk_drewN ?_ _ | refine blk_drew ?_ | refine blk_alloc ?_ _)); exact BK154.out) hg (Kd.R_ne HO168.out BK154.out (by decide))); have n2_ := Aside0.mk (blk_grown (g := gb161) (o := .cells #[.int .u8 ((rd_T61 l0_1 x35_1).f0), .int .i64 ((rd_T61 l0_1 x35_1).f1), .int .i64 ((rd_T61 l0_1 x35_1).f2)] 61 (0, 0)) (by (with_reducible repeat (first | refine blk_drewN ?_ _ | refine blk_drew ?_ | refine blk_alloc ?_ _)); exact BK161.out) hg (Kd.R_away HO168.out (fun _ hk => hk.2))); have n3_ := Aside0.mk (Kd.R_after (ok := (fun k_ => k_ ≠ gb161)) (by (with_reducible repeat (first | apply Kd.R_alloc | apply Kd.R_drewN | apply Kd.R_drew)); exact HO165.out) hg hat); have n4_ := Aside0.mk (hb); have n5_ := Aside0.mk (ho); clear HO_6; clear BK154; clear BK161; clear HO165; clear HB; clear HO168; have HO_6 := n0_; have BK154 := n1_; have BK161 := n2_; have HO165 := n3_; have HB := n4_; have HO172 := n5_; clear n0_ n1_ n2_ n3_ n4_ n5_; clear ho hb hg hat))
                          go_roundg k1
                          case measure => have := HK1.out; omega
                          case rel => exact ⟨(y170), (y169), (wrap64 (x35_1 + 1)), (by first | rfl | (simp; done) | (simp [*]; done)), H', ⟨by have := HK1.out; omega⟩, ⟨by (with_reducible repeat (first | apply Kd.R_alloc | apply Kd.R_drewN | apply Kd.R_drew)); exact Kd.R_mono HO172.out (fun _ hk => trivial)⟩, ⟨by (with_reducible repeat (first | apply Kd.R_alloc | apply Kd.R_drewN | apply Kd.R_drew)); exact HO_6.out⟩, ⟨by (with_reducible repeat (first | refine blk_drewN ?_ _ | refine blk_drew ?_ | refine blk_alloc ?_ _)); exact BK154.out⟩, ⟨by repeat (first | (with_reducible first | exact HB.out | apply below_alloc | apply pw_below_drewN | apply below_drew1 | refine below_set ?_ GE154.out | refine below_set ?_ GE161.out) | exact HB.out)⟩⟩
                        · rw [if_neg c23] at H
                          exact absurd H (by simp)
                      · rw [if_neg c21] at H
                        exact absurd H (by simp)
                    · rw [if_neg c20] at H
                      exact absurd H (by simp)
                  · replace c19 := Bool.eq_false_iff.mpr c19
                    subst c19
                    have H1 : (if x35_1 < (x6_1.length : Int) then (if x5_1.length < 5864062014805 then (monikerlaw4_TreeBlind.l0 k1 a1 (x5_1 ++ [(⟨(rd_T61 l0_1 x35_1).f0, (rd_T61 l0_1 x35_1).f1, (rd_T61 l0_1 x35_1).f2⟩ : S61)]) (x6_1.set (x35_1 : Int).toNat (x5_1.length : Int)) l0_1 (l0_1.length : Int) (wrap64 (x35_1 + 1)) a0_0 l0_1 l0_2) else (none)) else (none)) = some r := by rw [if_neg (show ¬ (false = true) by decide)] at H; exact H
                    clear H
                    have H := H1
                    clear H1
                    by_cases c37 : x35_1 < (x6_1.length : Int)
                    · rw [if_pos c37] at H
                      have c37b0 : decide (x35_1 < (x6_1.length : Int)) = true := decide_eq_true c37
                      clear c37
                      obtain ⟨y173, hy173⟩ : ∃ y_ : List Int, y_ = (x6_1.set (x35_1 : Int).toNat (x5_1.length : Int)) := ⟨_, rfl⟩
                      replace H : (if x5_1.length < 5864062014805 then (monikerlaw4_TreeBlind.l0 k1 a1 (x5_1 ++ [(⟨(rd_T61 l0_1 x35_1).f0, (rd_T61 l0_1 x35_1).f1, (rd_T61 l0_1 x35_1).f2⟩ : S61)]) y173 l0_1 (l0_1.length : Int) (wrap64 (x35_1 + 1)) a0_0 l0_1 l0_2) else (none)) = some r := by first | (rw [hy173]; with_reducible exact H) | (have H2_ := (Option.bind_some _ _).symm.trans H; rw [hy173]; with_reducible exact H2_) | (have H2_ := (Option.bind_some _ _).symm.trans H; with_reducible exact H2_) | with_reducible exact H | (rw [hy173]; exact H) | exact H
                      have Ny173 := Aside0.mk hy173
                      clear hy173
                      by_cases c39 : x5_1.length < 5864062014805
                      · rw [if_pos c39] at H
                        have LMc39 := Aside0.mk c39
                        clear c39
                        obtain ⟨y174, hy174⟩ : ∃ y_ : List (S61), y_ = (x5_1 ++ [(⟨(rd_T61 l0_1 x35_1).f0, (rd_T61 l0_1 x35_1).f1, (rd_T61 l0_1 x35_1).f2⟩ : S61)]) := ⟨_, rfl⟩
                        replace H : (monikerlaw4_TreeBlind.l0 k1 a1 y174 y173 l0_1 (l0_1.length : Int) (wrap64 (x35_1 + 1)) a0_0 l0_1 l0_2) = some r := by first | (rw [hy174]; with_reducible exact H) | (have H2_ := (Option.bind_some _ _).symm.trans H; rw [hy174]; with_reducible exact H2_) | (have H2_ := (Option.bind_some _ _).symm.trans H; with_reducible exact H2_) | with_reducible exact H | (rw [hy174]; exact H) | exact H
                        have Ny174 := Aside0.mk hy174
                        clear hy174
                        have H' := Aside0.mk H
                        clear H
                        have p160 : 0 ≤ (x35_1 : Int) := of_decide_eq_true (by first | (with_reducible assumption) | assumption)
                        have q160 : x35_1 < (l0_1.length : Int) := of_decide_eq_true (by first | (with_reducible assumption) | assumption)
                        obtain ⟨ad160, e160, hx160_0, hx160_1, hx160_2⟩ := at_T61 HR0_1.out x35_1 p160 q160
                        cases e160
                        replace hx160_0 := (HB.out.cell (World.block_lt_of_cell? w _ hx160_0)).trans hx160_0
                        replace hx160_1 := (HB.out.cell (World.block_lt_of_cell? w _ hx160_1)).trans hx160_1
                        replace hx160_2 := (HB.out.cell (World.block_lt_of_cell? w _ hx160_2)).trans hx160_2
                        replace p160 := eq_true p160
                        replace q160 := eq_true q160
                        have EG : ∀ args W, (callFunc 52 args).run Try.prog W = .ok (.enter 52 args) W := fun args W => enters_ Try.func52 (by kernel_rfl) rfl args W
                        go_wp2_with (first | ((with_reducible refine gate_dst (N := 8) rfl ?_); refine box_event ?hg (N := 8) ?hd (cs := #[.int .u8 0, .int .i64 0, .int .i64 0]) (t := 61) ?hr ?_; (case hd => rfl); (case hg => rfl); (case hr => first | (go_simp; done) | (go_simp; rfl)); intro gb161 hg w40 hbox hb; have n0_ := Aside0.mk (Kd.R_below (Kd.R_elderB (by (with_reducible repeat (first | apply Kd.R_alloc | apply Kd.R_drewN | apply Kd.R_drew)); exact HO_5.out) gb161 (Nat.le_of_eq hg.symm)) hb); have n1_ := Aside0.mk (Kd.R_below (by (with_reducible repeat (first | apply Kd.R_alloc | apply Kd.R_drewN | apply Kd.R_drew)); exact HO_6.out) hb); have n2_ := Aside0.mk (blk_below (g := gb154) (o := .cells #[.string a0_0, .slice (some ad160) l0_1.length c0_1, .slice A0_2 l0_2.length c0_2] 27 (0, 0)) (by (with_reducible repeat (first | refine blk_drewN ?_ _ | refine blk_drew ?_ | refine blk_alloc ?_ _)); exact BK154.out) hb); have n3_ := Aside0.mk (below_step (by repeat (first | (with_reducible first | exact HB.out | apply below_alloc | apply pw_below_drewN | apply below_drew1 | refine below_set ?_ GE154.out) | exact HB.out)) hb); have n4_ := Aside0.mk (hbox); have n5_ := Aside0.mk ((by rw [hg]; exact (below_size (by repeat (first | (with_reducible first | exact HB.out | apply below_alloc | apply pw_below_drewN | apply below_drew1 | refine below_set ?_ GE154.out) | exact HB.out))) : w.heap.size ≤ gb161)); have n6_ := Aside0.mk ((by rw [hg]; exact (below_size (by repeat (first | (with_reducible first | exact HB.out | apply below_alloc | apply pw_below_drewN | apply below_drew1 | refine below_set ?_ GE154.out) | exact HB.out))) : w.heap.size ≤ gb161)); have n7_ := Aside0.mk ((by rw [hg]; exact Nat.ne_of_lt (blk_lt (g := gb154) (o := .cells #[.string a0_0, .slice (some ad160) l0_1.length c0_1, .slice A0_2 l0_2.length c0_2] 27 (0, 0)) (by (with_reducible repeat (first | refine blk_drewN ?_ _ | refine blk_drew ?_ | refine blk_alloc ?_ _)); exact BK154.out)) : gb154 ≠ gb161)); have n8_ := Aside0.mk ((by rw [hg]; exact Nat.ne_of_gt (blk_lt (g := gb154) (o := .cells #[.string a0_0, .slice (some ad160) l0_1.length c0_1, .slice A0_2 l0_2.length c0_2] 27 (0, 0)) (by (with_reducible repeat (first | refine blk_drewN ?_ _ | refine blk_drew ?_ | refine blk_alloc ?_ _)); exact BK154.out)) : gb161 ≠ gb154)); clear HO_5; clear HO_6; clear BK154; clear HB; have HO_5 := n0_; have HO_6 := n1_; have BK154 := n2_; have HB := n3_; have BK161 := n4_; have GW161 := n5_; have GE161 := n6_; have NB154_161 := n7_; have NB161_154 := n8_; clear n0_ n1_ n2_ n3_ n4_ n5_ n6_ n7_ n8_; clear hb hbox hg; have hnb41 := NB161_154.out; have hnc41 := NB154_161.out; have hcz42_0 : w40.cell? ⟨gb161, 0, none⟩ = some (.int .u8 0) := (blk_cell BK161.out 0).trans rfl; have hcz42_1 : w40.cell? ⟨gb161, 1, none⟩ = some (.int .i64 0) := (blk_cell BK161.out 1).trans rfl; have hcz42_2 : w40.cell? ⟨gb161, 2, none⟩ = some (.int .i64 0) := (blk_cell BK161.out 2).trans rfl; have hfz42_0 := blk_frozen BK161.out 0; have hfz42_1 := blk_frozen BK161.out 1; have hfz42_2 := blk_frozen BK161.out 2) | ((with_reducible refine gate_callee (f := 26) rfl ?_); refine goesL_ (some 41) rfl rfl Try.func26 (by kernel_rfl) rfl #[.int .u64 a1] rfl (by (try simp only [List.map_toArray, List.map_cons, List.map_nil]); first | done | rfl | (simp only [List.length_drop, List.length_take]; rfl)) ?_; (with_reducible refine (chosen.calls a1 _).mono ?_); rintro e w43 ⟨bq, rfl, hbq, gbq, hb⟩; refine ⟨_, rfl, ?_⟩; have n0_ := Aside0.mk (Kd.R_below (by (with_reducible repeat (first | apply Kd.R_alloc | apply Kd.R_drewN | apply Kd.R_drew)); exact (Kd.R_mono (Kd.R_far (p := ⟨gb161, 2, none⟩) (Kd.R_far (p := ⟨gb161, 1, none⟩) (Kd.R_far (p := ⟨gb161, 0, none⟩) (Kd.R_mono HO_5.out (fun k_ hk => (⟨hk, hk.2⟩ : _ ∧ k_ ≠ gb161))) (fun _ hk => hk.2) (.int .u8 ((rd_T61 l0_1 x35_1).f0))) (fun _ hk => hk.2) (.int .i64 ((rd_T61 l0_1 x35_1).f1))) (fun _ hk => hk.2) (.int .i64 ((rd_T61 l0_1 x35_1).f2))) (fun _ h_ => h_.1))) hb); have n1_ := Aside0.mk (Kd.R_below (by (with_reducible repeat (first | apply Kd.R_alloc | apply Kd.R_drewN | apply Kd.R_drew)); exact (Kd.R_mono (Kd.R_far (p := ⟨gb161, 2, none⟩) (Kd.R_far (p := ⟨gb161, 1, none⟩) (Kd.R_far (p := ⟨gb161, 0, none⟩) (Kd.R_types HO_6.out BK161.out (by decide)) (fun _ hk => hk.2) (.int .u8 ((rd_T61 l0_1 x35_1).f0))) (fun _ hk => hk.2) (.int .i64 ((rd_T61 l0_1 x35_1).f1))) (fun _ hk => hk.2) (.int .i64 ((rd_T61 l0_1 x35_1).f2))) (fun _ h_ => h_.1))) hb); have n2_ := Aside0.mk (blk_below (g := gb154) (o := .cells #[.string a0_0, .slice (some ad160) l0_1.length c0_1, .slice A0_2 l0_2.length c0_2] 27 (0, 0)) (by (with_reducible repeat (first | refine blk_drewN ?_ _ | refine blk_drew ?_ | refine blk_alloc ?_ _)); refine blk_far ?_ NB154_161.out _; (with_reducible repeat (first | refine blk_drewN ?_ _ | refine blk_drew ?_ | refine blk_alloc ?_ _)); refine blk_far ?_ NB154_161.out _; (with_reducible repeat (first | refine blk_drewN ?_ _ | refine blk_drew ?_ | refine blk_alloc ?_ _)); refine blk_far ?_ NB154_161.out _; (with_reducible repeat (first | refine blk_drewN ?_ _ | refine blk_drew ?_ | refine blk_alloc ?_ _)); exact BK154.out) hb); have n3_ := Aside0.mk (blk_below (g := gb161) (o := .cells #[.int .u8 ((rd_T61 l0_1 x35_1).f0), .int .i64 ((rd_T61 l0_1 x35_1).f1), .int .i64 ((rd_T61 l0_1 x35_1).f2)] 61 (0, 0)) (by (with_reducible repeat (first | refine blk_drewN ?_ _ | refine blk_drew ?_ | refine blk_alloc ?_ _)); refine blk_put (cs := #[.int .u8 ((rd_T61 l0_1 x35_1).f0), .int .i64 ((rd_T61 l0_1 x35_1).f1), .int .i64 0]) ?_ 2 _ rfl; (with_reducible repeat (first | refine blk_drewN ?_ _ | refine blk_drew ?_ | refine blk_alloc ?_ _)); refine blk_put (cs := #[.int .u8 ((rd_T61 l0_1 x35_1).f0), .int .i64 0, .int .i64 0]) ?_ 1 _ rfl; (with_reducible repeat (first | refine blk_drewN ?_ _ | refine blk_drew ?_ | refine blk_alloc ?_ _)); refine blk_put (cs := #[.int .u8 0, .int .i64 0, .int .i64 0]) ?_ 0 _ rfl; (with_reducible repeat (first | refine blk_drewN ?_ _ | refine blk_drew ?_ | refine blk_alloc ?_ _)); exact BK161.out) hb); have n4_ := Aside0.mk (below_step (by repeat (first | (with_reducible first | exact HB.out | apply below_alloc | apply pw_below_drewN | apply below_drew1 | refine below_set ?_ GE154.out | refine below_set ?_ GE161.out) | exact HB.out)) hb); clear HO_5; clear HO_6; clear BK154; clear BK161; clear HB; have HO_5 := n0_; have HO_6 := n1_; have BK154 := n2_; have BK161 := n3_; have HB := n4_; clear n0_ n1_ n2_ n3_ n4_; have HBQ := Aside0.mk hbq; clear hbq gbq; (try clear hb)))
                        refine (chosen1.calls a1 x35_1 bq _ HBQ.out).mono ?_
                        rintro e w43q ⟨hbe, hb⟩
                        have hct : chB a1 x35_1 = false := Option.some.inj A18.out
                        rw [hct] at hbe
                        subst hbe
                        have n0_ := Aside0.mk (Kd.R_below HO_5.out hb)
                        have n1_ := Aside0.mk (Kd.R_below HO_6.out hb)
                        have n2_ := Aside0.mk (blk_below BK154.out hb)
                        have n3_ := Aside0.mk (blk_below BK161.out hb)
                        have n4_ := Aside0.mk (below_step HB.out hb)
                        clear HO_5 HO_6 BK154 BK161 HB HBQ hct hb EG
                        have HO_5 := n0_
                        have HO_6 := n1_
                        have BK154 := n2_
                        have BK161 := n3_
                        have HB := n4_
                        clear n0_ n1_ n2_ n3_ n4_
                        skip; obtain ⟨Ao44, co44, eo44⟩ := Kd.R_slice HO_5.out; subst eo44; have p38 : 0 ≤ (x35_1 : Int) := of_decide_eq_true (by first | (with_reducible assumption) | assumption); have q38 : (x35_1 : Int) < ((x6_1.length : Int) : Int) := of_decide_eq_true (by first | (with_reducible assumption) | assumption); obtain ⟨go38, co38, eo38, gb38, gl38, cl38, HG38⟩ := Kd.R_form HO_6.out (by omega); (first | cases eo38 | (injection eo38 with ea_ en_ ec_; (first | subst ea_ | (injection ea_ with ea_; subst ea_)); subst ec_; clear en_)); have GB38 := Aside0.mk gb38; have GG38 := Aside0.mk HG38; clear gb38 gl38 HG38; obtain ⟨hx38_0, hf38_0⟩ := Kd.R_celln 0 HO_6.out (x35_1 : Int) p38 q38; replace p38 := eq_true p38; replace q38 := eq_true q38; obtain ⟨hy45_, hz45_⟩ := Kd.R_celln 0 HO_6.out (x35_1 : Int) (of_decide_eq_true (by first | (with_reducible assumption) | assumption)) (of_decide_eq_true (by first | (with_reducible assumption) | assumption)); have HP45 := Kd.R_putg HO_6.out (x35_1 : Int) (x5_1.length : Int)
                        go_wp2_with (first | ((with_reducible refine gate_store (t := 3) (p := 53) rfl ?_); refine store_event (t := 3) (p := 53) (v := ?vo_w46) (w1 := (w43q.setCell ⟨go38, (x35_1 : Int).toNat, none⟩ (.int .i64 (x5_1.length : Int)))) ?hg ?ho ?hn ?hr ?_; (case ho => rfl); (case hg => rfl); (case hn => rfl); (case hr => first | (go_simp; done) | (go_simp; rfl)); intro w46 hw; have hg : w43q.grownBy w46 (some go38) := (by rw [hw]; exact HP45.2); have hp_ : Kd.R (Kd.int .i64) 3 w46 w.heap.size (fun _ => True) (.slice (some ⟨go38, 0, none⟩) x6_1.length co38) y173 := (by rw [hw, Ny173.out]; exact HP45.1); clear HP45; have n0_ := Aside0.mk (Kd.R_over' (v := (.slice (some ⟨go38, 0, none⟩) x6_1.length co38)) (by (with_reducible repeat (first | apply Kd.R_alloc | apply Kd.R_drewN | apply Kd.R_drew)); exact HO_5.out) (Kd.R_typed HO_6.out) (by decide) hg); have n1_ := Aside0.mk (hp_); have n2_ := Aside0.mk (blk_grown (g := gb154) (o := .cells #[.string a0_0, .slice (some ad160) l0_1.length c0_1, .slice A0_2 l0_2.length c0_2] 27 (0, 0)) (by (with_reducible repeat (first | refine blk_drewN ?_ _ | refine blk_drew ?_ | refine blk_alloc ?_ _)); exact BK154.out) hg (Kd.R_ne HO_6.out BK154.out (by decide))); have n3_ := Aside0.mk (blk_grown (g := gb161) (o := .cells #[.int .u8 ((rd_T61 l0_1 x35_1).f0), .int .i64 ((rd_T61 l0_1 x35_1).f1), .int .i64 ((rd_T61 l0_1 x35_1).f2)] 61 (0, 0)) (by (with_reducible repeat (first | refine blk_drewN ?_ _ | refine blk_drew ?_ | refine blk_alloc ?_ _)); exact BK161.out) hg (Kd.R_ne HO_6.out BK161.out (by decide))); have n4_ := Aside0.mk ((by rw [hw]; exact below_set (HB.out) GB38.out : Below w.heap.size w w46)); clear HO_5; clear HO_6; clear BK154; clear BK161; clear HB; have HO_5 := n0_; have HO_6 := n1_; have BK154 := n2_; have BK161 := n3_; have HB := n4_; clear n0_ n1_ n2_ n3_ n4_; clear hg hw hp_; have hcz47_0 : w46.cell? ⟨gb161, 0, none⟩ = some (.int .u8 ((rd_T61 l0_1 x35_1).f0)) := (blk_cell BK161.out 0).trans rfl; have hcz47_1 : w46.cell? ⟨gb161, 1, none⟩ = some (.int .i64 ((rd_T61 l0_1 x35_1).f1)) := (blk_cell BK161.out 1).trans rfl; have hcz47_2 : w46.cell? ⟨gb161, 2, none⟩ = some (.int .i64 ((rd_T61 l0_1 x35_1).f2)) := (blk_cell BK161.out 2).trans rfl; have hfz47_0 := blk_frozen BK161.out 0; have hfz47_1 := blk_frozen BK161.out 1; have hfz47_2 := blk_frozen BK161.out 2) | ((with_reducible refine gate_builtin (b := .append) (xs := #[.tmp 54, .tmp 56]) rfl ?_); at_builtin; refine Kd.R_append k61 (w0 := w) w.heap.size rfl (.tmp 54) (.tmp 56) 22 61 (.agg #[(.int .u8 0), (.int .i64 0), (.int .i64 0)]) 24 rfl Try.underlying22 info61 rfl (by decide) (by omega) (.slice Ao44 x5_1.length co44) x5_1 (⟨(rd_T61 l0_1 x35_1).f0, (rd_T61 l0_1 x35_1).f1, (rd_T61 l0_1 x35_1).f2⟩ : S61) [.int .u8 ((rd_T61 l0_1 x35_1).f0), .int .i64 ((rd_T61 l0_1 x35_1).f1), .int .i64 ((rd_T61 l0_1 x35_1).f2)] (fun k_ => k_ ≠ gb161) (fun _ => False) rfl rfl ?aP (fun _ hk => hk.elim) ?aF ?aO ?aB ?aS ?aL ?_; (case aP => exact k61_mkM _ _ _ (⟨(rd_T61 l0_1 x35_1).f0, (rd_T61 l0_1 x35_1).f1, (rd_T61 l0_1 x35_1).f2⟩ : S61)); (case aB => exact (by repeat (first | (with_reducible first | exact HB.out | apply below_alloc | apply pw_below_drewN | apply below_drew1 | refine below_set ?_ GE154.out | refine below_set ?_ GE161.out) | exact HB.out))); (case aF => exact (fun k_ hk => Kd.freshB (g := gb161) (o := .cells #[.int .u8 ((rd_T61 l0_1 x35_1).f0), .int .i64 ((rd_T61 l0_1 x35_1).f1), .int .i64 ((rd_T61 l0_1 x35_1).f2)] 61 (0, 0)) (by (with_reducible repeat (first | refine blk_drewN ?_ _ | refine blk_drew ?_ | refine blk_alloc ?_ _)); exact BK161.out) k_ hk)); (case aO => exact (by (with_reducible repeat (first | apply Kd.R_alloc | apply Kd.R_drewN | apply Kd.R_drew)); exact Kd.R_mono HO_5.out (fun _ hk => hk.2))); (case aS => exact (below_size (by repeat (first | (with_reducible first | exact HB.out | apply below_alloc | apply pw_below_drewN | apply below_drew1 | refine below_set ?_ GE154.out | refine below_set ?_ GE161.out) | exact HB.out)))); (case aL => have := LMc39.out; omega); intro v175 w48 ho hb hg hat; rw [← Ny174.out] at ho; have n0_ := Aside0.mk (Kd.R_over' (by (with_reducible repeat (first | apply Kd.R_alloc | apply Kd.R_drewN | apply Kd.R_drew)); exact HO_6.out) (Kd.R_typed (by (with_reducible repeat (first | apply Kd.R_alloc | apply Kd.R_drewN | apply Kd.R_drew)); exact HO_5.out)) (by decide) hg); have n1_ := Aside0.mk (blk_grown (g := gb154) (o := .cells #[.string a0_0, .slice (some ad160) l0_1.length c0_1, .slice A0_2 l0_2.length c0_2] 27 (0, 0)) (by (with_reducible repeat (first | refine blk_drewN ?_ _ | refine blk_drew ?_ | refine blk_alloc ?_ _)); exact BK154.out) hg (Kd.R_ne HO_5.out BK154.out (by decide))); have n2_ := Aside0.mk (blk_grown (g := gb161) (o := .cells #[.int .u8 ((rd_T61 l0_1 x35_1).f0), .int .i64 ((rd_T61 l0_1 x35_1).f1), .int .i64 ((rd_T61 l0_1 x35_1).f2)] 61 (0, 0)) (by (with_reducible repeat (first | refine blk_drewN ?_ _ | refine blk_drew ?_ | refine blk_alloc ?_ _)); exact BK161.out) hg (Kd.R_away HO_5.out (fun _ hk => hk.2))); have n3_ := Aside0.mk (hb); have n4_ := Aside0.mk (ho); clear HO_6; clear BK154; clear BK161; clear HB; clear HO_5; have HO_6 := n0_; have BK154 := n1_; have BK161 := n2_; have HB := n3_; have HO176 := n4_; clear n0_ n1_ n2_ n3_ n4_; clear ho hb hg hat))
                        go_roundg k1
                        case measure => have := HK1.out; omega
                        case rel => exact ⟨(y174), (y173), (wrap64 (x35_1 + 1)), (by first | rfl | (simp; done) | (simp [*]; done)), H', ⟨by have := HK1.out; omega⟩, ⟨by (with_reducible repeat (first | apply Kd.R_alloc | apply Kd.R_drewN | apply Kd.R_drew)); exact Kd.R_mono HO176.out (fun _ hk => trivial)⟩, ⟨by (with_reducible repeat (first | apply Kd.R_alloc | apply Kd.R_drewN | apply Kd.R_drew)); exact HO_6.out⟩, ⟨by (with_reducible repeat (first | refine blk_drewN ?_ _ | refine blk_drew ?_ | refine blk_alloc ?_ _)); exact BK154.out⟩, ⟨by repeat (first | (with_reducible first | exact HB.out | apply below_alloc | apply pw_below_drewN | apply below_drew1 | refine below_set ?_ GE154.out | refine below_set ?_ GE161.out) | exact HB.out)⟩⟩
                      · rw [if_neg c39] at H
                        exact absurd H (by simp)
                    · rw [if_neg c37] at H
                      exact absurd H (by simp)
                · rw [if_neg c17] at H
                  exact absurd H (by simp)
              · rw [if_neg c16] at H
                exact absurd H (by simp)
            · rw [if_neg c15] at H
              have c15b0 : decide (x35_1 < (l0_1.length : Int)) = false := decide_eq_false c15
              clear c15
              by_cases c49 : 0 ≤ (l0_1.length : Int)
              · rw [if_pos c49] at H
                have c49b0 : decide (0 ≤ (l0_1.length : Int)) = true := decide_eq_true c49
                have c49b1 : decide (0 ≤ l0_1.length) = true := decide_eq_true (by omega)
                clear c49
                by_cases c50 : (l0_1.length : Int) < (x6_1.length : Int)
                · rw [if_pos c50] at H
                  have c50b0 : decide ((l0_1.length : Int) < (x6_1.length : Int)) = true := decide_eq_true c50
                  have c50b1 : decide (l0_1.length < x6_1.length) = true := decide_eq_true (Int.ofNat_lt.mp c50)
                  clear c50
                  obtain ⟨y177, hy177⟩ : ∃ y_ : List Int, y_ = (x6_1.set ((l0_1.length : Int) : Int).toNat (x5_1.length : Int)) := ⟨_, rfl⟩
                  rw [← hy177] at H
                  have Ny177 := Aside0.mk hy177
                  clear hy177
                  replace H := Option.bind_eq_some_iff.mp H
                  obtain ⟨u178, A520, H⟩ := H
                  have A52 := Aside0.mk A520
                  clear A520
                  by_cases cM : u178.all (okP y177) = true
                  · rw [if_pos cM] at H
                    have CM := Aside0.mk cM
                    clear cM
                    obtain ⟨t178, ht178⟩ : ∃ t_, t_ = u178.map (mvP y177) := ⟨_, rfl⟩
                    rw [← ht178] at H
                    replace H : ((tree_Valid.f k1 t178 (x5_1.length : Int)).bind fun t182 => (if t182 = true then ((tree_Same.f k1 l0_1 l0_2 x5_1 t178).bind fun t183 => (monikerlaw4_TreeBlind.j1 k1 x5_1 (!t183) a0_0 l0_1 l0_2 t178)) else (monikerlaw4_TreeBlind.j1 k1 x5_1 true a0_0 l0_1 l0_2 t178))) = some r := H
                    have NT := Aside0.mk ht178
                    clear ht178
                    have HC53 := Aside0.mk H
                    clear H
                    have hcz54_0 : wr.cell? ⟨gb154, 0, none⟩ = some (.string a0_0) := (blk_cell BK154.out 0).trans rfl
                    have hcz54_1 : wr.cell? ⟨gb154, 1, none⟩ = some (.slice A0_1 l0_1.length c0_1) := (blk_cell BK154.out 1).trans rfl
                    have hcz54_2 : wr.cell? ⟨gb154, 2, none⟩ = some (.slice A0_2 l0_2.length c0_2) := (blk_cell BK154.out 2).trans rfl
                    have hfz54_0 := blk_frozen BK154.out 0
                    have hfz54_1 := blk_frozen BK154.out 1
                    have hfz54_2 := blk_frozen BK154.out 2
                    obtain ⟨Ao55, co55, eo55⟩ := Kd.R_slice HO_5.out
                    subst eo55
                    have p51 : 0 ≤ ((l0_1.length : Int) : Int) := of_decide_eq_true (by first | (with_reducible assumption) | assumption)
                    have q51 : ((l0_1.length : Int) : Int) < ((x6_1.length : Int) : Int) := of_decide_eq_true (by first | (with_reducible assumption) | assumption)
                    obtain ⟨go51, co51, eo51, gb51, gl51, cl51, HG51⟩ := Kd.R_form HO_6.out (by omega)
                    (first | cases eo51 | (injection eo51 with ea_ en_ ec_; (first | subst ea_ | (injection ea_ with ea_; subst ea_)); subst ec_; clear en_))
                    have GB51 := Aside0.mk gb51
                    have GG51 := Aside0.mk HG51
                    clear gb51 gl51 HG51
                    obtain ⟨hx51_0, hf51_0⟩ := Kd.R_celln 0 HO_6.out ((l0_1.length : Int) : Int) p51 q51
                    replace p51 := eq_true p51
                    replace q51 := eq_true q51
                    have HP56 := Kd.R_putg HO_6.out ((l0_1.length : Int) : Int) (x5_1.length : Int)
                    have hx51_1 := hx51_0
                    have hf51_1 := hf51_0
                    simp only [Int.toNat_natCast] at hx51_1 hf51_1
                    go_upto_region 15 with (first | ((with_reducible refine gate_store (t := 3) (p := 65) rfl ?_); refine store_event (t := 3) (p := 65) (v := ?vo_w57) (w1 := (wr.setCell ⟨go51, ((l0_1.length : Int) : Int).toNat, none⟩ (.int .i64 (x5_1.length : Int)))) ?hg ?ho ?hn ?hr ?_; (case ho => rfl); (case hg => rfl); (case hn => rfl); (case hr => first | (go_simp; done) | (go_simp; rfl)); intro w57 hw; have hg : wr.grownBy w57 (some go51) := (by rw [hw]; exact HP56.2); have hp_ : Kd.R (Kd.int .i64) 3 w57 w.heap.size (fun _ => True) (.slice (some ⟨go51, 0, none⟩) x6_1.length co51) y177 := (by rw [hw, Ny177.out]; exact HP56.1); clear HP56; have n0_ := Aside0.mk (Kd.R_over' (v := (.slice (some ⟨go51, 0, none⟩) x6_1.length co51)) (by (with_reducible repeat (first | apply Kd.R_alloc | apply Kd.R_drewN | apply Kd.R_drew)); exact HO_5.out) (Kd.R_typed HO_6.out) (by decide) hg); have n1_ := Aside0.mk (hp_); have n2_ := Aside0.mk (blk_grown (g := gb154) (o := .cells #[.string a0_0, .slice A0_1 l0_1.length c0_1, .slice A0_2 l0_2.length c0_2] 27 (0, 0)) (by (with_reducible repeat (first | refine blk_drewN ?_ _ | refine blk_drew ?_ | refine blk_alloc ?_ _)); exact BK154.out) hg (Kd.R_ne HO_6.out BK154.out (by decide))); have n3_ := Aside0.mk ((by rw [hw]; exact below_set (HB.out) GB51.out : Below w.heap.size w w57)); clear HO_5; clear HO_6; clear BK154; clear HB; have HO_5 := n0_; have HO_6 := n1_; have BK154 := n2_; have HB := n3_; clear n0_ n1_ n2_ n3_; clear hg hw hp_; have hcz58_0 : w57.cell? ⟨gb154, 0, none⟩ = some (.string a0_0) := (blk_cell BK154.out 0).trans rfl; have hcz58_1 : w57.cell? ⟨gb154, 1, none⟩ = some (.slice A0_1 l0_1.length c0_1) := (blk_cell BK154.out 1).trans rfl; have hcz58_2 : w57.cell? ⟨gb154, 2, none⟩ = some (.slice A0_2 l0_2.length c0_2) := (blk_cell BK154.out 2).trans rfl; have hfz58_0 := blk_frozen BK154.out 0; have hfz58_1 := blk_frozen BK154.out 1; have hfz58_2 := blk_frozen BK154.out 2) | ((with_reducible refine gate_callee (f := 45) rfl ?_); refine goesL_ (some 68) rfl rfl Try.func45 (by kernel_rfl) rfl #[.agg #[.slice A0_2 l0_2.length c0_2]] rfl (by (try simp only [List.map_toArray, List.map_cons, List.map_nil]); first | done | rfl | (simp only [List.length_drop, List.length_take]; rfl)) ?_; (with_reducible refine (monikerplain_CopyTree.calls _ _ l0_2 u178 _ ?side1 ?side2 A52.out).mono ?_); (case side1 => repeat (first | exact (Kd.C_below HR0_2.out HB.out) | (with_reducible refine Kd.C_alloc ?_ _) | (with_reducible refine Kd.C_drewN ?_ _) | (with_reducible refine Kd.C_drew ?_))); (case side2 => exact HC0_2.out); rintro e w59 ⟨v179, rfl, ho0, hb⟩; refine ⟨_, rfl, ?_⟩; have n0_ := Aside0.mk (Kd.R_below (by (with_reducible repeat (first | apply Kd.R_alloc | apply Kd.R_drewN | apply Kd.R_drew)); exact HO_5.out) hb); have n1_ := Aside0.mk (Kd.R_below (by (with_reducible repeat (first | apply Kd.R_alloc | apply Kd.R_drewN | apply Kd.R_drew)); exact HO_6.out) hb); have n2_ := Aside0.mk (Kd.R_lower ho0 (below_size (by repeat (first | (with_reducible first | exact HB.out | apply below_alloc | apply pw_below_drewN | apply below_drew1 | refine below_set ?_ GE154.out) | exact HB.out)))); have n3_ := Aside0.mk (blk_below (g := gb154) (o := .cells #[.string a0_0, .slice A0_1 l0_1.length c0_1, .slice A0_2 l0_2.length c0_2] 27 (0, 0)) (by (with_reducible repeat (first | refine blk_drewN ?_ _ | refine blk_drew ?_ | refine blk_alloc ?_ _)); exact BK154.out) hb); have n4_ := Aside0.mk (below_step (by repeat (first | (with_reducible first | exact HB.out | apply below_alloc | apply pw_below_drewN | apply below_drew1 | refine below_set ?_ GE154.out) | exact HB.out)) hb); clear HO_5; clear HO_6; clear BK154; clear HB; have HO_5 := n0_; have HO_6 := n1_; have HO180 := n2_; have BK154 := n3_; have HB := n4_; clear n0_ n1_ n2_ n3_ n4_; (try clear hb); (try clear hb2); (try clear hk); (try clear hi); (try clear ho0)) | ((with_reducible refine gate_dst (N := 9) rfl ?_); refine box_event ?hg (N := 9) ?hd (cs := #[.slice none 0 0]) (t := 25) ?hr ?_; (case hd => rfl); (case hg => rfl); (case hr => first | (go_simp; done) | (go_simp; rfl)); intro gb181 hg w60 hbox hb; have n0_ := Aside0.mk (Kd.R_below (by (with_reducible repeat (first | apply Kd.R_alloc | apply Kd.R_drewN | apply Kd.R_drew)); exact HO_5.out) hb); have n1_ := Aside0.mk (Kd.R_below (by (with_reducible repeat (first | apply Kd.R_alloc | apply Kd.R_drewN | apply Kd.R_drew)); exact HO_6.out) hb); have n2_ := Aside0.mk (Kd.R_below (by (with_reducible repeat (first | apply Kd.R_alloc | apply Kd.R_drewN | apply Kd.R_drew)); exact HO180.out) hb); have n3_ := Aside0.mk (blk_below (g := gb154) (o := .cells #[.string a0_0, .slice A0_1 l0_1.length c0_1, .slice A0_2 l0_2.length c0_2] 27 (0, 0)) (by (with_reducible repeat (first | refine blk_drewN ?_ _ | refine blk_drew ?_ | refine blk_alloc ?_ _)); exact BK154.out) hb); have n4_ := Aside0.mk (below_step (by repeat (first | (with_reducible first | exact HB.out | apply below_alloc | apply pw_below_drewN | apply below_drew1 | refine below_set ?_ GE154.out) | exact HB.out)) hb); have n5_ := Aside0.mk (hbox); have n6_ := Aside0.mk ((by rw [hg]; exact (below_size (by repeat (first | (with_reducible first | exact HB.out | apply below_alloc | apply pw_below_drewN | apply below_drew1 | refine below_set ?_ GE154.out) | exact HB.out))) : w.heap.size ≤ gb181)); have n7_ := Aside0.mk ((by rw [hg]; exact (below_size (by repeat (first | (with_reducible first | exact HB.out | apply below_alloc | apply pw_below_drewN | apply below_drew1 | refine below_set ?_ GE154.out) | exact HB.out))) : w.heap.size ≤ gb181)); have n8_ := Aside0.mk ((by rw [hg]; exact Nat.ne_of_lt (blk_lt (g := gb154) (o := .cells #[.string a0_0, .slice A0_1 l0_1.length c0_1, .slice A0_2 l0_2.length c0_2] 27 (0, 0)) (by (with_reducible repeat (first | refine blk_drewN ?_ _ | refine blk_drew ?_ | refine blk_alloc ?_ _)); exact BK154.out)) : gb154 ≠ gb181)); have n9_ := Aside0.mk ((by rw [hg]; exact Nat.ne_of_gt (blk_lt (g := gb154) (o := .cells #[.string a0_0, .slice A0_1 l0_1.length c0_1, .slice A0_2 l0_2.length c0_2] 27 (0, 0)) (by (with_reducible repeat (first | refine blk_drewN ?_ _ | refine blk_drew ?_ | refine blk_alloc ?_ _)); exact BK154.out)) : gb181 ≠ gb154)); clear HO_5; clear HO_6; clear HO180; clear BK154; clear HB; have HO_5 := n0_; have HO_6 := n1_; have HO180 := n2_; have BK154 := n3_; have HB := n4_; have BK181 := n5_; have GW181 := n6_; have GE181 := n7_; have NB154_181 := n8_; have NB181_154 := n9_; clear n0_ n1_ n2_ n3_ n4_ n5_ n6_ n7_ n8_ n9_; clear hb hbox hg; obtain ⟨Ao61, co61, eo61⟩ := Kd.R_slice HO180.out; subst eo61; have hnb62 := NB181_154.out; have hnc62 := NB154_181.out; have hcz63_0 : w60.cell? ⟨gb181, 0, none⟩ = some (.slice none 0 0) := (blk_cell BK181.out 0).trans rfl; have hfz63_0 := blk_frozen BK181.out 0))
                    go_wp2_with (fail)
                    try clear hcz54_0 hcz54_1 hcz54_2 hfz54_0 hfz54_1 hfz54_2
                    try clear hcz63_0
                    try clear hfz63_0
                    have n0_ := Aside0.mk (Kd.R_set HO_5.out BK181.out (by decide) 0 (.slice Ao61 u178.length co61))
                    have n1_ := Aside0.mk (Kd.R_set HO_6.out BK181.out (by decide) 0 (.slice Ao61 u178.length co61))
                    have n2_ := Aside0.mk (Kd.R_set HO180.out BK181.out (by decide) 0 (.slice Ao61 u178.length co61))
                    have n3_ := Aside0.mk (blk_far (p := ⟨gb181, 0, none⟩) BK154.out NB154_181.out (.slice Ao61 u178.length co61))
                    have n4_ := Aside0.mk (blk_put (cs := #[.slice none 0 0]) BK181.out 0 (.slice Ao61 u178.length co61) rfl)
                    have n5_ := Aside0.mk (below_set (j := 0) (v := .slice Ao61 u178.length co61) HB.out GE181.out)
                    clear HO_5 HO_6 HO180 BK154 BK181 HB
                    have HO_5 := n0_
                    have HO_6 := n1_
                    have HO180 := n2_
                    have BK154 := n3_
                    have BK181 := n4_
                    have HB := n5_
                    clear n0_ n1_ n2_ n3_ n4_ n5_
                    have LY := Aside0.mk (show y177.length = x6_1.length from (Kd.R_reads' HO_6.out).1.symm)
                    have UL := Aside0.mk (show u178.length ≤ 9223372036854775807 from by have := Kd.C_max (Kd.R_reads' HO180.out).2.2; omega)
                    go_loopg [72] (u178.length) (fun gk v72 w' => ∃ i : Int, v72 = .int .i64 i ∧ Aside0 (0 ≤ i ∧ i ≤ (u178.length : Int) ∧ ((u178.length : Int) - i).toNat ≤ gk) ∧ Aside0 (Kd.R k61 61 w' w.heap.size (fun _ => True) (.slice Ao55 x5_1.length co55) x5_1) ∧ Aside0 (Kd.R (Kd.int .i64) 3 w' w.heap.size (fun _ => True) (.slice (some ⟨go51, 0, none⟩) x6_1.length co51) y177) ∧ Aside0 (Kd.R k47 47 w' w.heap.size (fun _ => True) (.slice Ao61 u178.length co61) (mvs y177 u178 i.toNat)) ∧ Aside0 (w'.heap[gb154]? = some (.cells #[.string a0_0, .slice A0_1 l0_1.length c0_1, .slice A0_2 l0_2.length c0_2] 27 (0, 0))) ∧ Aside0 (w'.heap[gb181]? = some (.cells #[.slice Ao61 u178.length co61] 25 (0, 0))) ∧ Aside0 (Below w.heap.size w w'))
                    case atStart => exact ⟨0, rfl, ⟨⟨Int.le_refl _, by omega, by omega⟩⟩, ⟨Kd.R_mono HO_5.out (fun _ _ => trivial)⟩, ⟨Kd.R_mono HO_6.out (fun _ _ => trivial)⟩, ⟨by rw [show (0 : Int).toNat = 0 from rfl, mvs_zero]; exact Kd.R_mono HO180.out (fun _ _ => trivial)⟩, BK154, BK181, HB⟩
                    case round =>
                      clear HO_5 HO_6 HO180 BK154 BK181 HB
                      obtain ⟨i, rfl, HI, HO_5, HO_6, HO180, BK154, BK181, HB⟩ := hrel
                      by_cases hi : i < (u178.length : Int)
                      · have hI0 := HI.out.1
                        have hC := (Kd.R_reads' HO180.out).2.2
                        obtain ⟨gC, cC, eC, gbC, glC, clC, HGC⟩ := Kd.R_form HO180.out (by rw [mvs_len]; omega)
                        injection eC with ea en ec
                        subst ea
                        subst ec
                        obtain ⟨X, hX⟩ : ∃ X, rd_T47 u178 i = X := ⟨_, rfl⟩
                        have hxo : okP y177 X = true := List.all_eq_true.1 CM.out _ (by
                          have hin : i.toNat < u178.length := by omega
                          have e : X = u178[i.toNat] := by rw [← hX]; simp [rd_T47, List.getD_eq_getElem?_getD, hin]
                          rw [e]
                          exact List.getElem_mem _)
                        have XB := Aside0.mk (show 0 ≤ X.f1 ∧ X.f1 < (x6_1.length : Int) ∧ (X.f1 < X.f2 → 0 ≤ wrap64 (X.f2 - 1) ∧ wrap64 (X.f2 - 1) < (x6_1.length : Int)) by
                          unfold okP at hxo
                          rw [← LY.out]
                          simp only [Bool.and_eq_true, decide_eq_true_eq] at hxo
                          refine ⟨hxo.1, hxo.2.1, fun h => ?_⟩
                          have := hxo.2.2
                          rw [if_pos h] at this
                          simpa [Bool.and_eq_true, decide_eq_true_eq] using this)
                        obtain ⟨ad, e1, y0, y1, y2, y3⟩ := at_T47 hC i hI0 (by rw [mvs_len]; exact hi)
                        obtain rfl : (⟨gC, 0, none⟩ : Addr) = ad := by injection e1
                        rw [mvs_rd y177 u178 hI0 hi, hX] at y0 y1 y2 y3
                        have HAD : (⟨gC, 0, none⟩ : Addr).add (i.toNat * 4) = ⟨gC, i.toNat * 4, none⟩ := by simp [Addr.add]; intro h; exact h.symm
                        have z0 : wr.cell? ⟨gC, i.toNat * 4, none⟩ = some (.int .u8 X.f0) := by have h := y0; rw [HAD] at h; exact h
                        have z1 : wr.cell? ⟨gC, i.toNat * 4 + 1, none⟩ = some (.int .i64 X.f1) := by have h := y1; rw [HAD] at h; exact h
                        have z2 : wr.cell? ⟨gC, i.toNat * 4 + 2, none⟩ = some (.int .i64 X.f2) := by have h := y2; rw [HAD] at h; exact h
                        have z3 : wr.cell? ⟨gC, i.toNat * 4 + 3, none⟩ = some (.int .i64 X.f3) := by have h := y3; rw [HAD] at h; exact h
                        clear y0 y1 y2 y3 HAD
                        have k1_ : (0 ≤ i) = True := eq_true hI0
                        have k2_ : (i < (u178.length : Int)) = True := eq_true hi
                        have HIL := Aside0.mk hi
                        have HX := Aside0.mk hX
                        have GC := Aside0.mk (show w.heap.size ≤ gC ∧ gC < wr.heap.size from ⟨gbC, glC⟩)
                        have TC := Aside0.mk HGC
                        clear hI0 hC en gbC glC HGC hxo e1 hi hX
                        go_upto_region 18 with (first
                          | ((with_reducible refine gate_dst (N := 11) rfl ?_); refine box_event ?hg11 (N := 11) ?hd11 (cs := #[.int .u8 0, .int .i64 0, .int .i64 0, .int .i64 0]) (t := 47) ?hr11 ?_; (case hd11 => rfl); (case hg11 => rfl); (case hr11 => first | (go_simp; done) | (go_simp; rfl)); intro g11 hg w11 hbox hb; have HBX := Aside0.mk hbox; have HBB := Aside0.mk hb; have HGE := Aside0.mk (show wr.heap.size ≤ g11 by rw [hg]; exact Nat.le_refl _); clear hbox hb hg; have hz0 : w11.cell? ⟨g11, 0, none⟩ = some (.int .u8 0) := (blk_cell HBX.out 0).trans rfl; have hz1 : w11.cell? ⟨g11, 1, none⟩ = some (.int .i64 0) := (blk_cell HBX.out 1).trans rfl; have hz2 : w11.cell? ⟨g11, 2, none⟩ = some (.int .i64 0) := (blk_cell HBX.out 2).trans rfl; have hz3 : w11.cell? ⟨g11, 3, none⟩ = some (.int .i64 0) := (blk_cell HBX.out 3).trans rfl; have hf0 := blk_frozen HBX.out 0; have hf1 := blk_frozen HBX.out 1; have hf2 := blk_frozen HBX.out 2; have hf3 := blk_frozen HBX.out 3))
                        have hset : Below wr.heap.size wr ((((w11.setCell ⟨g11, 0, none⟩ (.int .u8 X.f0)).setCell ⟨g11, 1, none⟩ (.int .i64 X.f1)).setCell ⟨g11, 2, none⟩ (.int .i64 X.f2)).setCell ⟨g11, 3, none⟩ (.int .i64 X.f3)) := by
                          refine below_set ?_ HGE.out
                          refine below_set ?_ HGE.out
                          refine below_set ?_ HGE.out
                          refine below_set ?_ HGE.out
                          exact HBB.out
                        have hbk : ((((w11.setCell ⟨g11, 0, none⟩ (.int .u8 X.f0)).setCell ⟨g11, 1, none⟩ (.int .i64 X.f1)).setCell ⟨g11, 2, none⟩ (.int .i64 X.f2)).setCell ⟨g11, 3, none⟩ (.int .i64 X.f3)).heap[g11]? = some (.cells #[.int .u8 X.f0, .int .i64 X.f1, .int .i64 X.f2, .int .i64 X.f3] 47 (0, 0)) := by
                          refine blk_put (cs := #[.int .u8 X.f0, .int .i64 X.f1, .int .i64 X.f2, .int .i64 0]) ?_ 3 _ rfl
                          refine blk_put (cs := #[.int .u8 X.f0, .int .i64 X.f1, .int .i64 0, .int .i64 0]) ?_ 2 _ rfl
                          refine blk_put (cs := #[.int .u8 X.f0, .int .i64 0, .int .i64 0, .int .i64 0]) ?_ 1 _ rfl
                          refine blk_put (cs := #[.int .u8 0, .int .i64 0, .int .i64 0, .int .i64 0]) ?_ 0 _ rfl
                          exact HBX.out
                        clear z0 z1 z2 z3 hz0 hz1 hz2 hz3 hf0 hf1 hf2 hf3
                        obtain ⟨w12, hw12⟩ : ∃ w12, w12 = (((w11.setCell ⟨g11, 0, none⟩ (.int .u8 X.f0)).setCell ⟨g11, 1, none⟩ (.int .i64 X.f1)).setCell ⟨g11, 2, none⟩ (.int .i64 X.f2)).setCell ⟨g11, 3, none⟩ (.int .i64 X.f3) := ⟨_, rfl⟩
                        rw [← hw12] at hset hbk ⊢
                        clear hw12 HBX HBB
                        have n0_ := Aside0.mk (Kd.R_below HO_5.out hset)
                        have n1_ := Aside0.mk (Kd.R_below HO_6.out hset)
                        have n2_ := Aside0.mk (Kd.R_below HO180.out hset)
                        have n3_ := Aside0.mk (blk_below BK154.out hset)
                        have n4_ := Aside0.mk (blk_below BK181.out hset)
                        have n5_ := Aside0.mk (below_step HB.out hset)
                        clear HO_5 HO_6 HO180 BK154 BK181 HB
                        have HO_5 := n0_
                        have HO_6 := n1_
                        have HO180 := n2_
                        have BK154 := n3_
                        have BK181 := n4_
                        have HB := n5_
                        clear n0_ n1_ n2_ n3_ n4_ n5_
                        have B11 := Aside0.mk hbk
                        have L11 := Aside0.mk (show gC < g11 ∧ gC ≠ g11 from ⟨by have := GC.out; have := HGE.out; omega, by have := GC.out; have := HGE.out; omega⟩)
                        clear hset hbk
                        obtain ⟨hs1, hs2, hS1, hS2⟩ := node_store HO180.out i HI.out.1 HIL.out
                        obtain ⟨cells, hcells⟩ := Kd.R_typed HO180.out gC (by simp [Value.ownBlock])
                        have fz1 := blk_frozen hcells (i.toNat * 4 + 1)
                        obtain ⟨pc, pf⟩ := Kd.R_celln 0 HO_6.out X.f1 XB.out.1 XB.out.2.1
                        have m1_ : (0 ≤ X.f1) = True := eq_true XB.out.1
                        have m2_ : (X.f1 < (x6_1.length : Int)) = True := eq_true XB.out.2.1
                        have x9 : w12.cell? ⟨gb181, 0, none⟩ = some (.slice (some ⟨gC, 0, none⟩) u178.length co61) := (blk_cell BK181.out 0).trans rfl
                        have x11 : w12.cell? ⟨g11, 1, none⟩ = some (.int .i64 X.f1) := (blk_cell B11.out 1).trans rfl
                        obtain ⟨u1, hu1⟩ := hs1
                        have HS1 := Aside0.mk (hS1 (rdOf 0 y177 X.f1))
                        have HTY := Aside0.mk hcells
                        clear hs2 hS1 hS2 hcells
                        go_region
                        clear pc pf hu1 fz1 m1_ m2_ x9 x11
                        have n0_ := Aside0.mk (Kd.R_drew (Kd.R_set HO_5.out HTY.out (by decide) (i.toNat * 4 + 1) (.int .i64 (rdOf 0 y177 X.f1))))
                        have n1_ := Aside0.mk (Kd.R_drew (Kd.R_set HO_6.out HTY.out (by decide) (i.toNat * 4 + 1) (.int .i64 (rdOf 0 y177 X.f1))))
                        have n2_ := Aside0.mk (Kd.R_drew HS1.out.1)
                        have n3_ := Aside0.mk (blk_drew (blk_far (p := ⟨gC, i.toNat * 4 + 1, none⟩) BK154.out (fun e => by have h := BK154.out; rw [show gb154 = gC from e, HTY.out] at h; cases h) (.int .i64 (rdOf 0 y177 X.f1))))
                        have n4_ := Aside0.mk (blk_drew (blk_far (p := ⟨gC, i.toNat * 4 + 1, none⟩) BK181.out (fun e => by have h := BK181.out; rw [show gb181 = gC from e, HTY.out] at h; cases h) (.int .i64 (rdOf 0 y177 X.f1))))
                        have n6_ := Aside0.mk (blk_drew (blk_far (p := ⟨gC, i.toNat * 4 + 1, none⟩) B11.out (fun e => L11.out.2 (show gC = g11 from (show g11 = gC from e).symm)) (.int .i64 (rdOf 0 y177 X.f1))))
                        have n5_ := Aside0.mk (below_drew (below_set (j := i.toNat * 4 + 1) (v := .int .i64 (rdOf 0 y177 X.f1)) HB.out GC.out.1))
                        clear HO_5 HO_6 HO180 BK154 BK181 B11 HB HTY HS1
                        have HO_5 := n0_
                        have HO_6 := n1_
                        have HO180 := n2_
                        have BK154 := n3_
                        have BK181 := n4_
                        have B11 := n6_
                        have HB := n5_
                        clear n0_ n1_ n2_ n3_ n4_ n5_ n6_
                        generalize (w12.setCell ⟨gC, i.toNat * 4 + 1, none⟩ (.int .i64 (rdOf 0 y177 X.f1))).drew = w13 at HO_5 HO_6 HO180 BK154 BK181 B11 HB ⊢
                        have x9 : w13.cell? ⟨gb181, 0, none⟩ = some (.slice (some ⟨gC, 0, none⟩) u178.length co61) := (blk_cell BK181.out 0).trans rfl
                        have x11 : w13.cell? ⟨g11, 1, none⟩ = some (.int .i64 X.f1) := (blk_cell B11.out 1).trans rfl
                        have x12 : w13.cell? ⟨g11, 2, none⟩ = some (.int .i64 X.f2) := (blk_cell B11.out 2).trans rfl
                        by_cases cf : X.f1 < X.f2
                        · have CF := Aside0.mk cf
                          have c1_ : (X.f1 < X.f2) = True := eq_true cf
                          have OK2 := Aside0.mk (XB.out.2.2 cf)
                          clear cf
                          obtain ⟨pc, pf⟩ := Kd.R_celln 0 HO_6.out (wrap64 (X.f2 - 1)) OK2.out.1 OK2.out.2
                          have m1_ : (0 ≤ (wrap64 (X.f2 - 1))) = True := eq_true OK2.out.1
                          have m2_ : ((wrap64 (X.f2 - 1)) < (x6_1.length : Int)) = True := eq_true OK2.out.2
                          obtain ⟨_, hs2, _, hS2⟩ := node_store HO180.out i HI.out.1 HIL.out
                          obtain ⟨cells, hcells⟩ := Kd.R_typed HO180.out gC (by simp [Value.ownBlock])
                          have fz1 := blk_frozen hcells (i.toNat * 4 + 2)
                          obtain ⟨u2, hu2⟩ := hs2
                          have HS2 := Aside0.mk (hS2 (wrap64 (rdOf 0 y177 (wrap64 (X.f2 - 1)) + 1)))
                          have HTY := Aside0.mk hcells
                          clear hS2 hcells
                          go_upto_region 20 with (fail)
                          go_region
                          clear pc pf hu2 fz1 m1_ m2_ x9 x11 x12
                          have n0_ := Aside0.mk (Kd.R_drew (Kd.R_set HO_5.out HTY.out (by decide) (i.toNat * 4 + 2) (.int .i64 (wrap64 (rdOf 0 y177 (wrap64 (X.f2 - 1)) + 1)))))
                          have n1_ := Aside0.mk (Kd.R_drew (Kd.R_set HO_6.out HTY.out (by decide) (i.toNat * 4 + 2) (.int .i64 (wrap64 (rdOf 0 y177 (wrap64 (X.f2 - 1)) + 1)))))
                          have n2_ := Aside0.mk (Kd.R_drew HS2.out.1)
                          have n3_ := Aside0.mk (blk_drew (blk_far (p := ⟨gC, i.toNat * 4 + 2, none⟩) BK154.out (fun e => by have h := BK154.out; rw [show gb154 = gC from e, HTY.out] at h; cases h) (.int .i64 (wrap64 (rdOf 0 y177 (wrap64 (X.f2 - 1)) + 1)))))
                          have n4_ := Aside0.mk (blk_drew (blk_far (p := ⟨gC, i.toNat * 4 + 2, none⟩) BK181.out (fun e => by have h := BK181.out; rw [show gb181 = gC from e, HTY.out] at h; cases h) (.int .i64 (wrap64 (rdOf 0 y177 (wrap64 (X.f2 - 1)) + 1)))))
                          have n6_ := Aside0.mk (blk_drew (blk_far (p := ⟨gC, i.toNat * 4 + 2, none⟩) B11.out (fun e => L11.out.2 (show gC = g11 from (show g11 = gC from e).symm)) (.int .i64 (wrap64 (rdOf 0 y177 (wrap64 (X.f2 - 1)) + 1)))))
                          have n5_ := Aside0.mk (below_drew (below_set (j := i.toNat * 4 + 2) (v := .int .i64 (wrap64 (rdOf 0 y177 (wrap64 (X.f2 - 1)) + 1))) HB.out GC.out.1))
                          clear HO_5 HO_6 HO180 BK154 BK181 B11 HB HTY HS2
                          have HO_5 := n0_
                          have HO_6 := n1_
                          have HO180 := n2_
                          have BK154 := n3_
                          have BK181 := n4_
                          have B11 := n6_
                          have HB := n5_
                          clear n0_ n1_ n2_ n3_ n4_ n5_ n6_
                          generalize (w13.setCell ⟨gC, i.toNat * 4 + 2, none⟩ (.int .i64 (wrap64 (rdOf 0 y177 (wrap64 (X.f2 - 1)) + 1)))).drew = w14 at HO_5 HO_6 HO180 BK154 BK181 B11 HB ⊢
                          have n0_ := Aside0.mk (show Kd.R k47 47 w14 w.heap.size (fun _ => True) (.slice (some ⟨gC, 0, none⟩) u178.length co61) (mvs y177 u178 (i + 1).toNat) by
                            have h := HO180.out
                            have hm : i < ((mvs y177 u178 i.toNat).length : Int) := by rw [mvs_len]; exact HIL.out
                            rw [rd_set HI.out.1 hm, List.set_set, mvs_rd y177 u178 HI.out.1 HIL.out, HX.out] at h
                            rw [← mvs_set y177 u178 HI.out.1 HIL.out, HX.out]
                            have e : mvP y177 X = ⟨X.f0, (rdOf 0 y177 X.f1), (wrap64 (rdOf 0 y177 (wrap64 (X.f2 - 1)) + 1)), X.f3⟩ := by unfold mvP; simp only [if_pos CF.out]; rfl
                            rw [e]
                            exact h)
                          clear HO180
                          have HO180 := n0_
                          clear n0_
                          have hwi : wrap64 (i + 1) = i + 1 := by unfold wrap64; have := HI.out; have := HIL.out; have := UL.out; omega
                          go_wp2_with (fail)
                          go_roundg ((u178.length : Int) - (i + 1)).toNat
                          case measure => have := HI.out; have := HIL.out; omega
                          case rel => exact ⟨i + 1, by first | rfl | rw [hwi], ⟨⟨by have := HI.out; omega, by have := HIL.out; omega, by omega⟩⟩, HO_5, HO_6, HO180, BK154, BK181, HB⟩
                        · have CF := Aside0.mk cf
                          have c1_ : (X.f1 < X.f2) = False := eq_false cf
                          clear cf
                          obtain ⟨pc, pf⟩ := Kd.R_celln 0 HO_6.out X.f1 XB.out.1 XB.out.2.1
                          have m1_ : (0 ≤ X.f1) = True := eq_true XB.out.1
                          have m2_ : (X.f1 < (x6_1.length : Int)) = True := eq_true XB.out.2.1
                          obtain ⟨_, hs2, _, hS2⟩ := node_store HO180.out i HI.out.1 HIL.out
                          obtain ⟨cells, hcells⟩ := Kd.R_typed HO180.out gC (by simp [Value.ownBlock])
                          have fz1 := blk_frozen hcells (i.toNat * 4 + 2)
                          obtain ⟨u2, hu2⟩ := hs2
                          have HS2 := Aside0.mk (hS2 (rdOf 0 y177 X.f1))
                          have HTY := Aside0.mk hcells
                          clear hS2 hcells
                          go_upto_region 21 with (fail)
                          go_region
                          clear pc pf hu2 fz1 m1_ m2_ x9 x11 x12
                          have n0_ := Aside0.mk (Kd.R_drew (Kd.R_set HO_5.out HTY.out (by decide) (i.toNat * 4 + 2) (.int .i64 (rdOf 0 y177 X.f1))))
                          have n1_ := Aside0.mk (Kd.R_drew (Kd.R_set HO_6.out HTY.out (by decide) (i.toNat * 4 + 2) (.int .i64 (rdOf 0 y177 X.f1))))
                          have n2_ := Aside0.mk (Kd.R_drew HS2.out.1)
                          have n3_ := Aside0.mk (blk_drew (blk_far (p := ⟨gC, i.toNat * 4 + 2, none⟩) BK154.out (fun e => by have h := BK154.out; rw [show gb154 = gC from e, HTY.out] at h; cases h) (.int .i64 (rdOf 0 y177 X.f1))))
                          have n4_ := Aside0.mk (blk_drew (blk_far (p := ⟨gC, i.toNat * 4 + 2, none⟩) BK181.out (fun e => by have h := BK181.out; rw [show gb181 = gC from e, HTY.out] at h; cases h) (.int .i64 (rdOf 0 y177 X.f1))))
                          have n6_ := Aside0.mk (blk_drew (blk_far (p := ⟨gC, i.toNat * 4 + 2, none⟩) B11.out (fun e => L11.out.2 (show gC = g11 from (show g11 = gC from e).symm)) (.int .i64 (rdOf 0 y177 X.f1))))
                          have n5_ := Aside0.mk (below_drew (below_set (j := i.toNat * 4 + 2) (v := .int .i64 (rdOf 0 y177 X.f1)) HB.out GC.out.1))
                          clear HO_5 HO_6 HO180 BK154 BK181 B11 HB HTY HS2
                          have HO_5 := n0_
                          have HO_6 := n1_
                          have HO180 := n2_
                          have BK154 := n3_
                          have BK181 := n4_
                          have B11 := n6_
                          have HB := n5_
                          clear n0_ n1_ n2_ n3_ n4_ n5_ n6_
                          generalize (w13.setCell ⟨gC, i.toNat * 4 + 2, none⟩ (.int .i64 (rdOf 0 y177 X.f1))).drew = w14 at HO_5 HO_6 HO180 BK154 BK181 B11 HB ⊢
                          have n0_ := Aside0.mk (show Kd.R k47 47 w14 w.heap.size (fun _ => True) (.slice (some ⟨gC, 0, none⟩) u178.length co61) (mvs y177 u178 (i + 1).toNat) by
                            have h := HO180.out
                            have hm : i < ((mvs y177 u178 i.toNat).length : Int) := by rw [mvs_len]; exact HIL.out
                            rw [rd_set HI.out.1 hm, List.set_set, mvs_rd y177 u178 HI.out.1 HIL.out, HX.out] at h
                            rw [← mvs_set y177 u178 HI.out.1 HIL.out, HX.out]
                            have e : mvP y177 X = ⟨X.f0, (rdOf 0 y177 X.f1), (rdOf 0 y177 X.f1), X.f3⟩ := by unfold mvP; simp only [if_neg CF.out]; rfl
                            rw [e]
                            exact h)
                          clear HO180
                          have HO180 := n0_
                          clear n0_
                          have hwi : wrap64 (i + 1) = i + 1 := by unfold wrap64; have := HI.out; have := HIL.out; have := UL.out; omega
                          go_wp2_with (fail)
                          go_roundg ((u178.length : Int) - (i + 1)).toNat
                          case measure => have := HI.out; have := HIL.out; omega
                          case rel => exact ⟨i + 1, by first | rfl | rw [hwi], ⟨⟨by have := HI.out; omega, by have := HIL.out; omega, by omega⟩⟩, HO_5, HO_6, HO180, BK154, BK181, HB⟩
                      · have hie : i = (u178.length : Int) := by have := HI.out; omega
                        subst hie
                        have n0_ := Aside0.mk (show Kd.R k47 47 wr w.heap.size (fun _ => True) (.slice Ao61 t178.length co61) t178 by
                          have h := HO180.out
                          rw [Int.toNat_natCast, mvs_all, ← NT.out] at h
                          rw [show t178.length = u178.length by rw [NT.out, List.length_map]]
                          exact h)
                        have hlt : u178.length = t178.length := by rw [NT.out, List.length_map]
                        rw [hlt] at BK181 ⊢
                        clear HO180 HI hi LY UL hlt
                        have HO180 := n0_
                        clear n0_
                        go_upto_region 23 with (fail)
                        (try simp only [Act.put, List.setIfInBounds_toArray, List.set_cons_zero, List.set_cons_succ])
                        go_cut [129] (fun v129 wc => ∃ (kq : Nat) (x129_52 : Bool), v129 = .bool x129_52 ∧ Aside0 (monikerlaw4_TreeBlind.j1 kq x5_1 x129_52 a0_0 l0_1 l0_2 t178 = some r) ∧ Aside0 (kq ≤ k1) ∧ Aside0 (Kd.R k61 61 wc w.heap.size (fun _ => True) (.slice Ao55 x5_1.length co55) x5_1) ∧ Aside0 (Kd.R k47 47 wc w.heap.size (fun _ => True) (.slice Ao61 t178.length co61) t178) ∧ Aside0 (wc.heap[gb154]? = some (.cells #[.string a0_0, (.slice A0_1 l0_1.length c0_1), (.slice A0_2 l0_2.length c0_2)] 27 (0, 0))) ∧ Aside0 (wc.heap[gb181]? = some (.cells #[(.slice Ao61 t178.length co61)] 25 (0, 0))) ∧ Aside0 (Below w.heap.size w wc))
                        case first =>
                          have H := HC53.out
                          clear HC53
                          replace H := Option.bind_eq_some_iff.mp H
                          obtain ⟨t182, A640, H⟩ := H
                          replace H : (if t182 = true then ((tree_Same.f k1 l0_1 l0_2 x5_1 t178).bind fun t183 => (monikerlaw4_TreeBlind.j1 k1 x5_1 (!t183) a0_0 l0_1 l0_2 t178)) else (monikerlaw4_TreeBlind.j1 k1 x5_1 true a0_0 l0_1 l0_2 t178)) = some r := H
                          have A64 := Aside0.mk A640
                          clear A640
                          by_cases c65 : t182 = true
                          · subst c65
                            have H1 : ((tree_Same.f k1 l0_1 l0_2 x5_1 t178).bind fun t183 => (monikerlaw4_TreeBlind.j1 k1 x5_1 (!t183) a0_0 l0_1 l0_2 t178)) = some r := by rw [if_pos rfl] at H; exact H
                            clear H
                            have H := H1
                            clear H1
                            replace H := Option.bind_eq_some_iff.mp H
                            obtain ⟨t183, A660, H⟩ := H
                            replace H : (monikerlaw4_TreeBlind.j1 k1 x5_1 (!t183) a0_0 l0_1 l0_2 t178) = some r := H
                            have A66 := Aside0.mk A660
                            clear A660
                            have H' := Aside0.mk H
                            clear H
                            have hnb67 := NB181_154.out
                            have hnc67 := NB154_181.out
                            have hcz68_0 : wr.cell? ⟨gb181, 0, none⟩ = some (.slice Ao61 t178.length co61) := (blk_cell BK181.out 0).trans rfl
                            have hfz68_0 := blk_frozen BK181.out 0
                            go_wp2_with (first | ((with_reducible refine gate_callee (f := 44) rfl ?_); refine goesL_ (some 118) rfl rfl Try.func44 (by kernel_rfl) rfl #[.agg #[.slice Ao61 t178.length co61], .int .i64 (x5_1.length : Int)] rfl (by (try simp only [List.map_toArray, List.map_cons, List.map_nil]); first | done | rfl | (simp only [List.length_drop, List.length_take]; rfl)) ?_; (with_reducible refine (tree_Valid.calls k1 _ _ t178 (x5_1.length : Int) true _ ?side1 ?side2 A64.out).mono ?_); (case side1 => refine (Kd.R_reads' (e := 47) (base := w.heap.size) (ok := fun k_ => True) (n := t178.length) (c := co61) ?_).2.2; exact (by (with_reducible repeat (first | apply Kd.R_alloc | apply Kd.R_drewN | apply Kd.R_drew)); exact HO180.out)); (case side2 => exact (Kd.R_reads' HO180.out).2.1); rintro e w69 ⟨rfl, hb⟩; refine ⟨_, rfl, ?_⟩; have n0_ := Aside0.mk (Kd.R_below (by (with_reducible repeat (first | apply Kd.R_alloc | apply Kd.R_drewN | apply Kd.R_drew)); exact HO_5.out) hb); have n1_ := Aside0.mk (Kd.R_below (by (with_reducible repeat (first | apply Kd.R_alloc | apply Kd.R_drewN | apply Kd.R_drew)); exact HO_6.out) hb); have n2_ := Aside0.mk (Kd.R_below (by (with_reducible repeat (first | apply Kd.R_alloc | apply Kd.R_drewN | apply Kd.R_drew)); exact HO180.out) hb); have n3_ := Aside0.mk (blk_below (g := gb154) (o := .cells #[.string a0_0, .slice A0_1 l0_1.length c0_1, .slice A0_2 l0_2.length c0_2] 27 (0, 0)) (by (with_reducible repeat (first | refine blk_drewN ?_ _ | refine blk_drew ?_ | refine blk_alloc ?_ _)); (with_reducible repeat (first | refine blk_drewN ?_ _ | refine blk_drew ?_ | refine blk_alloc ?_ _)); exact BK154.out) hb); have n4_ := Aside0.mk (blk_below (g := gb181) (o := .cells #[.slice Ao61 t178.length co61] 25 (0, 0)) (by (with_reducible repeat (first | refine blk_drewN ?_ _ | refine blk_drew ?_ | refine blk_alloc ?_ _)); (with_reducible repeat (first | refine blk_drewN ?_ _ | refine blk_drew ?_ | refine blk_alloc ?_ _)); exact BK181.out) hb); have n5_ := Aside0.mk (below_step (by repeat (first | (with_reducible first | exact HB.out | apply below_alloc | apply pw_below_drewN | apply below_drew1 | refine below_set ?_ GE154.out | refine below_set ?_ GE181.out) | exact HB.out)) hb); clear HO_5; clear HO_6; clear HO180; clear BK154; clear BK181; clear HB; have HO_5 := n0_; have HO_6 := n1_; have HO180 := n2_; have BK154 := n3_; have BK181 := n4_; have HB := n5_; clear n0_ n1_ n2_ n3_ n4_ n5_; (try clear hb); (try clear hb2); (try clear hk); (try clear hi); have hcz70_0 : w69.cell? ⟨gb154, 0, none⟩ = some (.string a0_0) := (blk_cell BK154.out 0).trans rfl; have hcz70_1 : w69.cell? ⟨gb154, 1, none⟩ = some (.slice A0_1 l0_1.length c0_1) := (blk_cell BK154.out 1).trans rfl; have hcz70_2 : w69.cell? ⟨gb154, 2, none⟩ = some (.slice A0_2 l0_2.length c0_2) := (blk_cell BK154.out 2).trans rfl; have hfz70_0 := blk_frozen BK154.out 0; have hfz70_1 := blk_frozen BK154.out 1; have hfz70_2 := blk_frozen BK154.out 2; have hcz71_0 : w69.cell? ⟨gb181, 0, none⟩ = some (.slice Ao61 t178.length co61) := (blk_cell BK181.out 0).trans rfl; have hfz71_0 := blk_frozen BK181.out 0) | (go_at_call 33; (with_reducible refine (tree_Same.calls k1 _ _ l0_1 _ _ l0_2 _ _ x5_1 _ _ t178 t183 _ ?side1 ?side2 ?side3 ?side4 ?side5 ?side6 ?side7 ?side8 A66.out).mono ?_); (case side1 => repeat (first | exact (Kd.C_below HR0_1.out HB.out) | (with_reducible refine Kd.C_alloc ?_ _) | (with_reducible refine Kd.C_drewN ?_ _) | (with_reducible refine Kd.C_drew ?_))); (case side2 => exact HC0_1.out); (case side3 => repeat (first | exact (Kd.C_below HR0_2.out HB.out) | (with_reducible refine Kd.C_alloc ?_ _) | (with_reducible refine Kd.C_drewN ?_ _) | (with_reducible refine Kd.C_drew ?_))); (case side4 => exact HC0_2.out); (case side5 => repeat (first | exact (Kd.R_reads' HO_5.out).2.2 | (with_reducible refine Kd.C_alloc ?_ _) | (with_reducible refine Kd.C_drewN ?_ _) | (with_reducible refine Kd.C_drew ?_))); (case side6 => exact (Kd.R_reads' HO_5.out).2.1); (case side7 => repeat (first | exact (Kd.R_reads' HO180.out).2.2 | (with_reducible refine Kd.C_alloc ?_ _) | (with_reducible refine Kd.C_drewN ?_ _) | (with_reducible refine Kd.C_drew ?_))); (case side8 => exact (Kd.R_reads' HO180.out).2.1); rintro e w72 ⟨rfl, hb⟩; have n0_ := Aside0.mk (Kd.R_below (by (with_reducible repeat (first | apply Kd.R_alloc | apply Kd.R_drewN | apply Kd.R_drew)); exact HO_5.out) hb); have n1_ := Aside0.mk (Kd.R_below (by (with_reducible repeat (first | apply Kd.R_alloc | apply Kd.R_drewN | apply Kd.R_drew)); exact HO_6.out) hb); have n2_ := Aside0.mk (Kd.R_below (by (with_reducible repeat (first | apply Kd.R_alloc | apply Kd.R_drewN | apply Kd.R_drew)); exact HO180.out) hb); have n3_ := Aside0.mk (blk_below (g := gb154) (o := .cells #[.string a0_0, .slice A0_1 l0_1.length c0_1, .slice A0_2 l0_2.length c0_2] 27 (0, 0)) (by (with_reducible repeat (first | refine blk_drewN ?_ _ | refine blk_drew ?_ | refine blk_alloc ?_ _)); exact BK154.out) hb); have n4_ := Aside0.mk (blk_below (g := gb181) (o := .cells #[.slice Ao61 t178.length co61] 25 (0, 0)) (by (with_reducible repeat (first | refine blk_drewN ?_ _ | refine blk_drew ?_ | refine blk_alloc ?_ _)); exact BK181.out) hb); have n5_ := Aside0.mk (below_step (by repeat (first | (with_reducible first | exact HB.out | apply below_alloc | apply pw_below_drewN | apply below_drew1 | refine below_set ?_ GE154.out | refine below_set ?_ GE181.out) | exact HB.out)) hb); clear HO_5; clear HO_6; clear HO180; clear BK154; clear BK181; clear HB; have HO_5 := n0_; have HO_6 := n1_; have HO180 := n2_; have BK154 := n3_; have BK181 := n4_; have HB := n5_; clear n0_ n1_ n2_ n3_ n4_ n5_; (try clear hb); (try clear hb2); (try clear hk); (try clear hi)))
                            go_meet
                            case rel => exact ⟨_, (!t183), (by first | rfl | (simp; done) | (simp [*]; done)), H', ⟨by have := HK1.out; first | omega | exact Nat.le_refl _⟩, ⟨by (with_reducible repeat (first | apply Kd.R_alloc | apply Kd.R_drewN | apply Kd.R_drew)); exact HO_5.out⟩, ⟨by (with_reducible repeat (first | apply Kd.R_alloc | apply Kd.R_drewN | apply Kd.R_drew)); exact HO180.out⟩, ⟨by (with_reducible repeat (first | refine blk_drewN ?_ _ | refine blk_drew ?_ | refine blk_alloc ?_ _)); exact BK154.out⟩, ⟨by (with_reducible repeat (first | refine blk_drewN ?_ _ | refine blk_drew ?_ | refine blk_alloc ?_ _)); exact BK181.out⟩, ⟨by repeat (first | (with_reducible first | exact HB.out | apply below_alloc | apply pw_below_drewN | apply below_drew1 | refine below_set ?_ GE154.out | refine below_set ?_ GE181.out) | exact HB.out)⟩⟩
                          · replace c65 := Bool.eq_false_iff.mpr c65
                            subst c65
                            have H1 : (monikerlaw4_TreeBlind.j1 k1 x5_1 true a0_0 l0_1 l0_2 t178) = some r := by rw [if_neg (show ¬ (false = true) by decide)] at H; exact H
                            clear H
                            have H := H1
                            clear H1
                            have H' := Aside0.mk H
                            clear H
                            have hnb73 := NB181_154.out
                            have hnc73 := NB154_181.out
                            have hcz74_0 : wr.cell? ⟨gb181, 0, none⟩ = some (.slice Ao61 t178.length co61) := (blk_cell BK181.out 0).trans rfl
                            have hfz74_0 := blk_frozen BK181.out 0
                            go_wp2_with (first | ((with_reducible refine gate_callee (f := 44) rfl ?_); refine goesL_ (some 118) rfl rfl Try.func44 (by kernel_rfl) rfl #[.agg #[.slice Ao61 t178.length co61], .int .i64 (x5_1.length : Int)] rfl (by (try simp only [List.map_toArray, List.map_cons, List.map_nil]); first | done | rfl | (simp only [List.length_drop, List.length_take]; rfl)) ?_; (with_reducible refine (tree_Valid.calls k1 _ _ t178 (x5_1.length : Int) false _ ?side1 ?side2 A64.out).mono ?_); (case side1 => refine (Kd.R_reads' (e := 47) (base := w.heap.size) (ok := fun k_ => True) (n := t178.length) (c := co61) ?_).2.2; exact (by (with_reducible repeat (first | apply Kd.R_alloc | apply Kd.R_drewN | apply Kd.R_drew)); exact HO180.out)); (case side2 => exact (Kd.R_reads' HO180.out).2.1); rintro e w75 ⟨rfl, hb⟩; refine ⟨_, rfl, ?_⟩; have n0_ := Aside0.mk (Kd.R_below (by (with_reducible repeat (first | apply Kd.R_alloc | apply Kd.R_drewN | apply Kd.R_drew)); exact HO_5.out) hb); have n1_ := Aside0.mk (Kd.R_below (by (with_reducible repeat (first | apply Kd.R_alloc | apply Kd.R_drewN | apply Kd.R_drew)); exact HO_6.out) hb); have n2_ := Aside0.mk (Kd.R_below (by (with_reducible repeat (first | apply Kd.R_alloc | apply Kd.R_drewN | apply Kd.R_drew)); exact HO180.out) hb); have n3_ := Aside0.mk (blk_below (g := gb154) (o := .cells #[.string a0_0, .slice A0_1 l0_1.length c0_1, .slice A0_2 l0_2.length c0_2] 27 (0, 0)) (by (with_reducible repeat (first | refine blk_drewN ?_ _ | refine blk_drew ?_ | refine blk_alloc ?_ _)); (with_reducible repeat (first | refine blk_drewN ?_ _ | refine blk_drew ?_ | refine blk_alloc ?_ _)); exact BK154.out) hb); have n4_ := Aside0.mk (blk_below (g := gb181) (o := .cells #[.slice Ao61 t178.length co61] 25 (0, 0)) (by (with_reducible repeat (first | refine blk_drewN ?_ _ | refine blk_drew ?_ | refine blk_alloc ?_ _)); (with_reducible repeat (first | refine blk_drewN ?_ _ | refine blk_drew ?_ | refine blk_alloc ?_ _)); exact BK181.out) hb); have n5_ := Aside0.mk (below_step (by repeat (first | (with_reducible first | exact HB.out | apply below_alloc | apply pw_below_drewN | apply below_drew1 | refine below_set ?_ GE154.out | refine below_set ?_ GE181.out) | exact HB.out)) hb); clear HO_5; clear HO_6; clear HO180; clear BK154; clear BK181; clear HB; have HO_5 := n0_; have HO_6 := n1_; have HO180 := n2_; have BK154 := n3_; have BK181 := n4_; have HB := n5_; clear n0_ n1_ n2_ n3_ n4_ n5_; (try clear hb); (try clear hb2); (try clear hk); (try clear hi)))
                            go_meet
                            case rel => exact ⟨_, (true), (by first | rfl | (simp; done) | (simp [*]; done)), H', ⟨by have := HK1.out; first | omega | exact Nat.le_refl _⟩, ⟨by (with_reducible repeat (first | apply Kd.R_alloc | apply Kd.R_drewN | apply Kd.R_drew)); exact HO_5.out⟩, ⟨by (with_reducible repeat (first | apply Kd.R_alloc | apply Kd.R_drewN | apply Kd.R_drew)); exact HO180.out⟩, ⟨by (with_reducible repeat (first | refine blk_drewN ?_ _ | refine blk_drew ?_ | refine blk_alloc ?_ _)); exact BK154.out⟩, ⟨by (with_reducible repeat (first | refine blk_drewN ?_ _ | refine blk_drew ?_ | refine blk_alloc ?_ _)); exact BK181.out⟩, ⟨by repeat (first | (with_reducible first | exact HB.out | apply below_alloc | apply pw_below_drewN | apply below_drew1 | refine below_set ?_ GE154.out | refine below_set ?_ GE181.out) | exact HB.out)⟩⟩
                        case rest =>
                          clear HC53
                          try clear c1
                          try clear p1
                          try clear q1
                          try clear hx1
                          try clear c2
                          try clear p2
                          try clear q2
                          try clear hx2
                          try clear hf2
                          try clear c3
                          try clear p3
                          try clear q3
                          try clear hx3
                          try clear hf3
                          try clear c4
                          try clear c5
                          try clear p5
                          try clear q5
                          try clear hx5
                          try clear hf5
                          try clear c6
                          try clear c6b0
                          try clear c6b1
                          try clear p6
                          try clear c7
                          try clear c7b0
                          try clear c7b1
                          try clear c15
                          try clear c15b0
                          try clear c16
                          try clear c16b0
                          try clear p16
                          try clear q16
                          try clear hx16
                          try clear c17
                          try clear c17b0
                          try clear c19
                          try clear c20
                          try clear c21
                          try clear c21b0
                          try clear p22
                          try clear q22
                          try clear hx22
                          try clear hf22
                          try clear c23
                          try clear c25
                          try clear c26
                          try clear c37
                          try clear c37b0
                          try clear p38
                          try clear q38
                          try clear hx38
                          try clear hf38
                          try clear c39
                          try clear c41
                          try clear c42
                          try clear c44
                          try clear c45
                          try clear c49
                          try clear c49b0
                          try clear c49b1
                          try clear c50
                          try clear c50b0
                          try clear c50b1
                          try clear p51
                          try clear q51
                          try clear hx51
                          try clear hf51
                          try clear c62
                          try clear p64
                          try clear c65
                          try clear c67
                          try clear c73
                          try clear hcz11_0
                          try clear hcz11_1
                          try clear hcz11_2
                          try clear hcz14_0
                          try clear hcz14_1
                          try clear hcz14_2
                          try clear hcz26_0
                          try clear hcz26_1
                          try clear hcz26_2
                          try clear hcz35_0
                          try clear hcz35_1
                          try clear hcz35_2
                          try clear hcz42_0
                          try clear hcz42_1
                          try clear hcz42_2
                          try clear hcz47_0
                          try clear hcz47_1
                          try clear hcz47_2
                          try clear hcz54_0
                          try clear hcz54_1
                          try clear hcz54_2
                          try clear hcz58_0
                          try clear hcz58_1
                          try clear hcz58_2
                          try clear hcz63_0
                          try clear hcz68_0
                          try clear hcz70_0
                          try clear hcz70_1
                          try clear hcz70_2
                          try clear hcz71_0
                          try clear hcz74_0
                          try clear hcz9_0
                          try clear hcz9_1
                          try clear hcz9_2
                          try clear hfz11_0
                          try clear hfz11_1
                          try clear hfz11_2
                          try clear hfz14_0
                          try clear hfz14_1
                          try clear hfz14_2
                          try clear hfz26_0
                          try clear hfz26_1
                          try clear hfz26_2
                          try clear hfz35_0
                          try clear hfz35_1
                          try clear hfz35_2
                          try clear hfz42_0
                          try clear hfz42_1
                          try clear hfz42_2
                          try clear hfz47_0
                          try clear hfz47_1
                          try clear hfz47_2
                          try clear hfz54_0
                          try clear hfz54_1
                          try clear hfz54_2
                          try clear hfz58_0
                          try clear hfz58_1
                          try clear hfz58_2
                          try clear hfz63_0
                          try clear hfz68_0
                          try clear hfz70_0
                          try clear hfz70_1
                          try clear hfz70_2
                          try clear hfz71_0
                          try clear hfz74_0
                          try clear hfz9_0
                          try clear hfz9_1
                          try clear hfz9_2
                          try clear hx160_0
                          try clear hx160_1
                          try clear hx160_2
                          try clear hx22_0
                          try clear hx38_0
                          try clear hx51_0
                          try clear p160
                          try clear p2
                          try clear p22
                          try clear p38
                          try clear p51
                          try clear p6
                          try clear q160
                          try clear q22
                          try clear q38
                          try clear q51
                          obtain ⟨kq, x129_52, rfl, HA, HJ52, HO_5, HO_182000, BK154, BK181, HB⟩ := hcut
                          cases kq with
                          | zero => exact absurd HA.out (by simp [monikerlaw4_TreeBlind.j1])
                          | succ kj52 =>
                            have H := HA.out
                            clear HA
                            simp only [monikerlaw4_TreeBlind.j1] at H
                            by_cases c76 : x129_52 = true
                            · subst c76
                              have H1 : (some false) = some r := by rw [if_pos rfl] at H; exact H
                              clear H
                              have H := H1
                              clear H1
                              obtain rfl := Option.some.inj H
                              go_wp2
                              go_ret
                              exact ⟨by first | rfl | (simp [errW_none, errW_some] <;> rfl) | (simp only [← hji5]; first | rfl | (simp [errW_none, errW_some] <;> rfl)) | (simp [*, errW_none, errW_some] <;> rfl), by repeat (first | (with_reducible first | exact HB.out | apply below_alloc | apply pw_below_drewN | apply below_drew1 | refine below_set ?_ GE154.out | refine below_set ?_ GE181.out) | exact HB.out)⟩
                            · replace c76 := Bool.eq_false_iff.mpr c76
                              subst c76
                              have H1 : (monikerlaw4_TreeBlind.l1 kj52 x5_1 (t178.length : Int) 0 a0_0 l0_1 l0_2 t178) = some r := by rw [if_neg (show ¬ (false = true) by decide)] at H; exact H
                              clear H
                              have H := H1
                              clear H1
                              have H' := Aside0.mk H
                              clear H
                              have hnb77 := NB181_154.out
                              have hnc77 := NB154_181.out
                              have hcz78_0 : wc.cell? ⟨gb181, 0, none⟩ = some (.slice Ao61 t178.length co61) := (blk_cell BK181.out 0).trans rfl
                              have hfz78_0 := blk_frozen BK181.out 0
                              go_wp2
                              go_loopg [133] kj52 (fun kq v133 w' => ∃ (x133_3 : Int), v133 = .int .i64 x133_3 ∧ Aside0 (monikerlaw4_TreeBlind.l1 kq x5_1 (t178.length : Int) x133_3 a0_0 l0_1 l0_2 t178 = some r) ∧ Aside0 (kq ≤ kj52) ∧ Aside0 (Kd.R k61 61 w' w.heap.size (fun _ => True) (.slice Ao55 x5_1.length co55) x5_1) ∧ Aside0 (Kd.R k47 47 w' w.heap.size (fun _ => True) (.slice Ao61 t178.length co61) t178) ∧ Aside0 (w'.heap[gb154]? = some (.cells #[.string a0_0, (.slice A0_1 l0_1.length c0_1), (.slice A0_2 l0_2.length c0_2)] 27 (0, 0))) ∧ Aside0 (w'.heap[gb181]? = some (.cells #[(.slice Ao61 t178.length co61)] 25 (0, 0))) ∧ Aside0 (Below w.heap.size w w'))
                              case atStart => exact ⟨(0), (by first | rfl | (simp; done) | (simp [*]; done)), H', ⟨Nat.le_refl _⟩, ⟨by (with_reducible repeat (first | apply Kd.R_alloc | apply Kd.R_drewN | apply Kd.R_drew)); exact HO_5.out⟩, ⟨by (with_reducible repeat (first | apply Kd.R_alloc | apply Kd.R_drewN | apply Kd.R_drew)); exact HO_182000.out⟩, ⟨by (with_reducible repeat (first | refine blk_drewN ?_ _ | refine blk_drew ?_ | refine blk_alloc ?_ _)); exact BK154.out⟩, ⟨by (with_reducible repeat (first | refine blk_drewN ?_ _ | refine blk_drew ?_ | refine blk_alloc ?_ _)); exact BK181.out⟩, ⟨by repeat (first | (with_reducible first | exact HB.out | apply below_alloc | apply pw_below_drewN | apply below_drew1 | refine below_set ?_ GE154.out | refine below_set ?_ GE181.out) | exact HB.out)⟩⟩
                              case round =>
                                clear H'
                                try clear c1
                                try clear p1
                                try clear q1
                                try clear hx1
                                try clear c2
                                try clear p2
                                try clear q2
                                try clear hx2
                                try clear hf2
                                try clear c3
                                try clear p3
                                try clear q3
                                try clear hx3
                                try clear hf3
                                try clear c4
                                try clear c5
                                try clear p5
                                try clear q5
                                try clear hx5
                                try clear hf5
                                try clear c6
                                try clear c6b0
                                try clear c6b1
                                try clear p6
                                try clear c7
                                try clear c7b0
                                try clear c7b1
                                try clear c15
                                try clear c15b0
                                try clear c16
                                try clear c16b0
                                try clear p16
                                try clear q16
                                try clear hx16
                                try clear c17
                                try clear c17b0
                                try clear c19
                                try clear c20
                                try clear c21
                                try clear c21b0
                                try clear p22
                                try clear q22
                                try clear hx22
                                try clear hf22
                                try clear c23
                                try clear c25
                                try clear c26
                                try clear c37
                                try clear c37b0
                                try clear p38
                                try clear q38
                                try clear hx38
                                try clear hf38
                                try clear c39
                                try clear c41
                                try clear c42
                                try clear c44
                                try clear c45
                                try clear c49
                                try clear c49b0
                                try clear c49b1
                                try clear c50
                                try clear c50b0
                                try clear c50b1
                                try clear p51
                                try clear q51
                                try clear hx51
                                try clear hf51
                                try clear c62
                                try clear p64
                                try clear c65
                                try clear c67
                                try clear c73
                                try clear c76
                                try clear c77
                                try clear hcz11_0
                                try clear hcz11_1
                                try clear hcz11_2
                                try clear hcz14_0
                                try clear hcz14_1
                                try clear hcz14_2
                                try clear hcz26_0
                                try clear hcz26_1
                                try clear hcz26_2
                                try clear hcz35_0
                                try clear hcz35_1
                                try clear hcz35_2
                                try clear hcz42_0
                                try clear hcz42_1
                                try clear hcz42_2
                                try clear hcz47_0
                                try clear hcz47_1
                                try clear hcz47_2
                                try clear hcz54_0
                                try clear hcz54_1
                                try clear hcz54_2
                                try clear hcz58_0
                                try clear hcz58_1
                                try clear hcz58_2
                                try clear hcz63_0
                                try clear hcz68_0
                                try clear hcz70_0
                                try clear hcz70_1
                                try clear hcz70_2
                                try clear hcz71_0
                                try clear hcz74_0
                                try clear hcz78_0
                                try clear hcz9_0
                                try clear hcz9_1
                                try clear hcz9_2
                                try clear hfz11_0
                                try clear hfz11_1
                                try clear hfz11_2
                                try clear hfz14_0
                                try clear hfz14_1
                                try clear hfz14_2
                                try clear hfz26_0
                                try clear hfz26_1
                                try clear hfz26_2
                                try clear hfz35_0
                                try clear hfz35_1
                                try clear hfz35_2
                                try clear hfz42_0
                                try clear hfz42_1
                                try clear hfz42_2
                                try clear hfz47_0
                                try clear hfz47_1
                                try clear hfz47_2
                                try clear hfz54_0
                                try clear hfz54_1
                                try clear hfz54_2
                                try clear hfz58_0
                                try clear hfz58_1
                                try clear hfz58_2
                                try clear hfz63_0
                                try clear hfz68_0
                                try clear hfz70_0
                                try clear hfz70_1
                                try clear hfz70_2
                                try clear hfz71_0
                                try clear hfz74_0
                                try clear hfz78_0
                                try clear hfz9_0
                                try clear hfz9_1
                                try clear hfz9_2
                                try clear hx160_0
                                try clear hx160_1
                                try clear hx160_2
                                try clear hx22_0
                                try clear hx38_0
                                try clear hx51_0
                                try clear p1
                                try clear p16
                                try clear p160
                                try clear p2
                                try clear p22
                                try clear p3
                                try clear p38
                                try clear p5
                                try clear p51
                                try clear p6
                                try clear p64
                                try clear q1
                                try clear q16
                                try clear q160
                                try clear q2
                                try clear q22
                                try clear q3
                                try clear q38
                                try clear q5
                                try clear q51
                                obtain ⟨x133_3, rfl, HA, HK3, HO_5, HO_182000, BK154, BK181, HB⟩ := hrel
                                cases gk with
                                | zero => exact absurd HA.out (by simp [monikerlaw4_TreeBlind.l1])
                                | succ k3 =>
                                  have H := HA.out
                                  clear HA
                                  simp only [monikerlaw4_TreeBlind.l1] at H
                                  by_cases c79 : x133_3 < (t178.length : Int)
                                  · rw [if_pos c79] at H
                                    have c79b0 : decide (x133_3 < (t178.length : Int)) = true := decide_eq_true c79
                                    clear c79
                                    replace H := Option.bind_eq_some_iff.mp H
                                    obtain ⟨t184, A800, H⟩ := H
                                    replace H : ((tree_Text.f k3 a0_0 x5_1 t178 x133_3).bind fun t185 => (if t184.toList = t185.toList then (monikerlaw4_TreeBlind.l1 k3 x5_1 (t178.length : Int) (wrap64 (x133_3 + 1)) a0_0 l0_1 l0_2 t178) else (some false))) = some r := H
                                    have A80 := Aside0.mk A800
                                    clear A800
                                    replace H := Option.bind_eq_some_iff.mp H
                                    obtain ⟨t185, A810, H⟩ := H
                                    replace H : (if t184.toList = t185.toList then (monikerlaw4_TreeBlind.l1 k3 x5_1 (t178.length : Int) (wrap64 (x133_3 + 1)) a0_0 l0_1 l0_2 t178) else (some false)) = some r := H
                                    have A81 := Aside0.mk A810
                                    clear A810
                                    by_cases c82 : t184.toList = t185.toList
                                    · rw [if_pos c82] at H
                                      have c82b0 : (t184.toList == t185.toList) = true := beq_iff_eq.mpr c82
                                      have c82b1 : (t184.toList != t185.toList) = false := bne_eq_false_iff_eq.mpr c82
                                      clear c82
                                      have H' := Aside0.mk H
                                      clear H
                                      try go_wp2
                                      have n0_ := Aside0.mk (Kd.R_drew HO_5.out)
                                      have n1_ := Aside0.mk (Kd.R_drew HO_182000.out)
                                      have n2_ := Aside0.mk (blk_drew BK154.out)
                                      have n3_ := Aside0.mk (blk_drew BK181.out)
                                      have n4_ := Aside0.mk (below_drew1 HB.out)
                                      clear HO_5
                                      clear HO_182000
                                      clear BK154
                                      clear BK181
                                      clear HB
                                      have HO_5 := n0_
                                      have HO_182000 := n1_
                                      have BK154 := n2_
                                      have BK181 := n3_
                                      have HB := n4_
                                      clear n0_ n1_ n2_ n3_ n4_
                                      refine start_ (n := 15) (S := fun w' => w'.cell? ⟨gb154, 0, none⟩ = some (.string a0_0) ∧ w'.cell? ⟨gb154, 1, none⟩ = some (.slice A0_1 l0_1.length c0_1) ∧ w'.cell? ⟨gb154, 2, none⟩ = some (.slice A0_2 l0_2.length c0_2) ∧ w'.cell? ⟨gb181, 0, none⟩ = some (.slice Ao61 t178.length co61)) (ds := []) #[false, false, false, false, false, false, false, false, false, false, false, false, false, false, false] (by kernel_rfl) rfl rfl ⟨(blk_cell BK154.out 0).trans rfl, (blk_cell BK154.out 1).trans rfl, (blk_cell BK154.out 2).trans rfl, (blk_cell BK181.out 0).trans rfl⟩ (fun hHeld => ?_); refine with_tabW monikerlaw4_TreeBlind.tab28 monikerlaw4_TreeBlind.bits28 (fun HT_ HW_ => ?_)
                                      generalize wr.drew = w83 at HO_5 HO_182000 BK154 BK181 HB hHeld ⊢
                                      refine pure_ (i := 0) (N := some 136) (v := ?_) (a' := ?_) #[true, false, false, false, false, false, false, false, false, false, false, false, false, false, false] rfl rfl (any_of HT_.out (by kernel_rfl)) (fun _ _ _ h => h) (Or.inl ⟨by rfl, ?_⟩) ?_ ?_
                                      rotate_left
                                      · intro w'
                                        go_simp
                                        with_reducible rfl
                                      rotate_left
                                      · simp only [Act.put, List.setIfInBounds_toArray, List.set_cons_zero, List.set_cons_succ, i64_w, i32_w]
                                        rfl
                                      refine pure_ (i := 2) (N := some 138) (v := ?_) (a' := ?_) #[true, false, true, false, false, false, false, false, false, false, false, false, false, false, false] rfl rfl (any_of HT_.out (by kernel_rfl)) (fun _ _ _ h => h) (Or.inl ⟨by rfl, ?_⟩) ?_ ?_
                                      rotate_left
                                      · intro w'
                                        go_simp
                                        with_reducible rfl
                                      rotate_left
                                      · simp only [Act.put, List.setIfInBounds_toArray, List.set_cons_zero, List.set_cons_succ, i64_w, i32_w]
                                        rfl
                                      refine pure_ (i := 4) (N := some 140) (v := ?_) (a' := ?_) #[true, false, true, false, true, false, false, false, false, false, false, false, false, false, false] rfl rfl (any_of HT_.out (by kernel_rfl)) (fun _ _ _ h => h) (Or.inl ⟨by rfl, ?_⟩) ?_ ?_
                                      rotate_left
                                      · intro w'
                                        go_simp
                                        with_reducible rfl
                                      rotate_left
                                      · simp only [Act.put, List.setIfInBounds_toArray, List.set_cons_zero, List.set_cons_succ, i64_w, i32_w]
                                        rfl
                                      refine pure_ (i := 6) (N := some 142) (v := ?_) (a' := ?_) #[true, false, true, false, true, false, true, false, false, false, false, false, false, false, false] rfl rfl (any_of HT_.out (by kernel_rfl)) (fun _ _ _ h => h) (Or.inl ⟨by rfl, ?_⟩) ?_ ?_
                                      rotate_left
                                      · intro w'
                                        go_simp
                                        with_reducible rfl
                                      rotate_left
                                      · simp only [Act.put, List.setIfInBounds_toArray, List.set_cons_zero, List.set_cons_succ, i64_w, i32_w]
                                        rfl
                                      refine pure_ (i := 8) (N := some 144) (v := ?_) (a' := ?_) #[true, false, true, false, true, false, true, false, true, false, false, false, false, false, false] rfl rfl (any_of HT_.out (by kernel_rfl)) (fun _ _ _ h => h) (Or.inl ⟨by rfl, ?_⟩) ?_ ?_
                                      rotate_left
                                      · intro w'
                                        go_simp
                                        with_reducible rfl
                                      rotate_left
                                      · simp only [Act.put, List.setIfInBounds_toArray, List.set_cons_zero, List.set_cons_succ, i64_w, i32_w]
                                        rfl
                                      refine pure_ (i := 10) (N := some 146) (v := ?_) (a' := ?_) #[true, false, true, false, true, false, true, false, true, false, true, false, false, false, false] rfl rfl (any_of HT_.out (by kernel_rfl)) (fun _ _ _ h => h) (Or.inl ⟨by rfl, ?_⟩) ?_ ?_
                                      rotate_left
                                      · intro w'
                                        go_simp
                                        with_reducible rfl
                                      rotate_left
                                      · simp only [Act.put, List.setIfInBounds_toArray, List.set_cons_zero, List.set_cons_succ, i64_w, i32_w]
                                        rfl
                                      refine pure_ (i := 12) (N := some 148) (v := ?_) (a' := ?_) #[true, false, true, false, true, false, true, false, true, false, true, false, true, false, false] rfl rfl (any_of HT_.out (by kernel_rfl)) (fun _ _ _ h => h) (Or.inl ⟨by rfl, ?_⟩) ?_ ?_
                                      rotate_left
                                      · intro w'
                                        go_simp
                                        with_reducible rfl
                                      rotate_left
                                      · simp only [Act.put, List.setIfInBounds_toArray, List.set_cons_zero, List.set_cons_succ, i64_w, i32_w]
                                        rfl
                                      refine take_ (i := 1) (N := some 137) (v := ?_) (a' := ?_) #[true, true, true, false, true, false, true, false, true, false, true, false, true, false, false] rfl rfl (take_ofW HT_.out HW_.out (by kernel_rfl)) (fun _ _ _ h => h) (Or.inl ⟨by rfl, ?_⟩) hHeld ?_ ?_
                                      rotate_left
                                      · rintro w' ⟨s0, s1, s2, s3⟩
                                        go_simp
                                        with_reducible rfl
                                      rotate_left
                                      · simp only [Act.put, List.setIfInBounds_toArray, List.set_cons_zero, List.set_cons_succ, i64_w, i32_w]
                                        rfl
                                      refine take_ (i := 3) (N := some 139) (v := ?_) (a' := ?_) #[true, true, true, true, true, false, true, false, true, false, true, false, true, false, false] rfl rfl (take_ofW HT_.out HW_.out (by kernel_rfl)) (fun _ _ _ h => h) (Or.inl ⟨by rfl, ?_⟩) hHeld ?_ ?_
                                      rotate_left
                                      · rintro w' ⟨s0, s1, s2, s3⟩
                                        go_simp
                                        with_reducible rfl
                                      rotate_left
                                      · simp only [Act.put, List.setIfInBounds_toArray, List.set_cons_zero, List.set_cons_succ, i64_w, i32_w]
                                        rfl
                                      refine take_ (i := 5) (N := some 141) (v := ?_) (a' := ?_) #[true, true, true, true, true, true, true, false, true, false, true, false, true, false, false] rfl rfl (take_ofW HT_.out HW_.out (by kernel_rfl)) (fun _ _ _ h => h) (Or.inl ⟨by rfl, ?_⟩) hHeld ?_ ?_
                                      rotate_left
                                      · rintro w' ⟨s0, s1, s2, s3⟩
                                        go_simp
                                        with_reducible rfl
                                      rotate_left
                                      · simp only [Act.put, List.setIfInBounds_toArray, List.set_cons_zero, List.set_cons_succ, i64_w, i32_w]
                                        rfl
                                      refine take_ (i := 9) (N := some 145) (v := ?_) (a' := ?_) #[true, true, true, true, true, true, true, false, true, true, true, false, true, false, false] rfl rfl (take_ofW HT_.out HW_.out (by kernel_rfl)) (fun _ _ _ h => h) (Or.inl ⟨by rfl, ?_⟩) hHeld ?_ ?_
                                      rotate_left
                                      · rintro w' ⟨s0, s1, s2, s3⟩
                                        go_simp
                                        with_reducible rfl
                                      rotate_left
                                      · simp only [Act.put, List.setIfInBounds_toArray, List.set_cons_zero, List.set_cons_succ, i64_w, i32_w]
                                        rfl
                                      refine take_ (i := 11) (N := some 147) (v := ?_) (a' := ?_) #[true, true, true, true, true, true, true, false, true, true, true, true, true, false, false] rfl rfl (take_ofW HT_.out HW_.out (by kernel_rfl)) (fun _ _ _ h => h) (Or.inl ⟨by rfl, ?_⟩) hHeld ?_ ?_
                                      rotate_left
                                      · rintro w' ⟨s0, s1, s2, s3⟩
                                        go_simp
                                        with_reducible rfl
                                      rotate_left
                                      · simp only [Act.put, List.setIfInBounds_toArray, List.set_cons_zero, List.set_cons_succ, i64_w, i32_w]
                                        rfl
                                      refine one_ (i := 7) (N := some 143) #[true, true, true, true, true, true, true, true, true, true, true, true, true, false, false] rfl rfl (one_of HT_.out (by kernel_rfl)) (by decide) (fun K hK => ?_)
                                      refine goes_ Try.func29 (by kernel_rfl) rfl #[.string a0_0, .slice A0_1 l0_1.length c0_1, .agg #[.slice A0_2 l0_2.length c0_2], .int .i64 x133_3] (by rfl) rfl rfl (by (try simp only [List.map_toArray, List.map_cons, List.map_nil]); first | done | rfl | (simp only [List.length_drop, List.length_take]; rfl)) ?_
                                      with_reducible refine (tree_Text.calls k3 a0_0 _ _ l0_1 _ _ l0_2 x133_3 t184 _ ?side1 ?side2 ?side3 ?side4 A80.out).mono ?_
                                      (case side1 => repeat (first | exact (Kd.C_below HR0_1.out HB.out) | (with_reducible refine Kd.C_alloc ?_ _) | (with_reducible refine Kd.C_drewN ?_ _) | (with_reducible refine Kd.C_drew ?_)))
                                      (case side2 => exact HC0_1.out)
                                      (case side3 => repeat (first | exact (Kd.C_below HR0_2.out HB.out) | (with_reducible refine Kd.C_alloc ?_ _) | (with_reducible refine Kd.C_drewN ?_ _) | (with_reducible refine Kd.C_drew ?_)))
                                      (case side4 => exact HC0_2.out)
                                      rintro e w84 ⟨rfl, hb⟩
                                      refine ⟨_, rfl, ?_⟩
                                      have n0_ := Aside0.mk (Kd.R_below (by (with_reducible repeat (first | apply Kd.R_alloc | apply Kd.R_drewN | apply Kd.R_drew)); exact HO_5.out) hb)
                                      have n1_ := Aside0.mk (Kd.R_below (by (with_reducible repeat (first | apply Kd.R_alloc | apply Kd.R_drewN | apply Kd.R_drew)); exact HO_182000.out) hb)
                                      have n2_ := Aside0.mk (blk_below (g := gb154) (o := .cells #[.string a0_0, .slice A0_1 l0_1.length c0_1, .slice A0_2 l0_2.length c0_2] 27 (0, 0)) (by (with_reducible repeat (first | refine blk_drewN ?_ _ | refine blk_drew ?_ | refine blk_alloc ?_ _)); exact BK154.out) hb)
                                      have n3_ := Aside0.mk (blk_below (g := gb181) (o := .cells #[.slice Ao61 t178.length co61] 25 (0, 0)) (by (with_reducible repeat (first | refine blk_drewN ?_ _ | refine blk_drew ?_ | refine blk_alloc ?_ _)); exact BK181.out) hb)
                                      have n4_ := Aside0.mk (below_step (by repeat (first | (with_reducible first | exact HB.out | apply below_alloc | apply pw_below_drewN | apply below_drew1 | refine below_set ?_ GE154.out | refine below_set ?_ GE181.out) | exact HB.out)) hb)
                                      clear HO_5
                                      clear HO_182000
                                      clear BK154
                                      clear BK181
                                      clear HB
                                      have HO_5 := n0_
                                      have HO_182000 := n1_
                                      have BK154 := n2_
                                      have BK181 := n3_
                                      have HB := n4_
                                      clear n0_ n1_ n2_ n3_ n4_
                                      (try clear hb)
                                      (try clear hb2)
                                      (try clear hk)
                                      (try clear hi)
                                      refine hK.out _ _ ⟨(blk_cell BK154.out 0).trans rfl, (blk_cell BK154.out 1).trans rfl, (blk_cell BK154.out 2).trans rfl, (blk_cell BK181.out 0).trans rfl⟩ (fun hHeld => ?_)
                                      clear hK K
                                      refine norm_ (a' := ?_) ?_ ?_
                                      rotate_left
                                      · show Act.put _ (some 143) _ = _
                                        simp only [Act.put, List.setIfInBounds_toArray, List.set_cons_zero, List.set_cons_succ, i64_w, i32_w]
                                        rfl
                                      refine one_ (i := 13) (N := some 149) #[true, true, true, true, true, true, true, true, true, true, true, true, true, true, false] rfl rfl (one_of HT_.out (by kernel_rfl)) (by decide) (fun K hK => ?_)
                                      refine goes_ Try.func29 (by kernel_rfl) rfl #[.string a0_0, .slice Ao55 x5_1.length co55, .agg #[.slice Ao61 t178.length co61], .int .i64 x133_3] (by rfl) rfl rfl (by (try simp only [List.map_toArray, List.map_cons, List.map_nil]); first | done | rfl | (simp only [List.length_drop, List.length_take]; rfl)) ?_
                                      with_reducible refine (tree_Text.calls k3 a0_0 _ _ x5_1 _ _ t178 x133_3 t185 _ ?side1 ?side2 ?side3 ?side4 A81.out).mono ?_
                                      (case side1 => repeat (first | exact (Kd.R_reads' HO_5.out).2.2 | (with_reducible refine Kd.C_alloc ?_ _) | (with_reducible refine Kd.C_drewN ?_ _) | (with_reducible refine Kd.C_drew ?_)))
                                      (case side2 => exact (Kd.R_reads' HO_5.out).2.1)
                                      (case side3 => repeat (first | exact (Kd.R_reads' HO_182000.out).2.2 | (with_reducible refine Kd.C_alloc ?_ _) | (with_reducible refine Kd.C_drewN ?_ _) | (with_reducible refine Kd.C_drew ?_)))
                                      (case side4 => exact (Kd.R_reads' HO_182000.out).2.1)
                                      rintro e w85 ⟨rfl, hb⟩
                                      refine ⟨_, rfl, ?_⟩
                                      have n0_ := Aside0.mk (Kd.R_below (by (with_reducible repeat (first | apply Kd.R_alloc | apply Kd.R_drewN | apply Kd.R_drew)); exact HO_5.out) hb)
                                      have n1_ := Aside0.mk (Kd.R_below (by (with_reducible repeat (first | apply Kd.R_alloc | apply Kd.R_drewN | apply Kd.R_drew)); exact HO_182000.out) hb)
                                      have n2_ := Aside0.mk (blk_below (g := gb154) (o := .cells #[.string a0_0, .slice A0_1 l0_1.length c0_1, .slice A0_2 l0_2.length c0_2] 27 (0, 0)) (by (with_reducible repeat (first | refine blk_drewN ?_ _ | refine blk_drew ?_ | refine blk_alloc ?_ _)); exact BK154.out) hb)
                                      have n3_ := Aside0.mk (blk_below (g := gb181) (o := .cells #[.slice Ao61 t178.length co61] 25 (0, 0)) (by (with_reducible repeat (first | refine blk_drewN ?_ _ | refine blk_drew ?_ | refine blk_alloc ?_ _)); exact BK181.out) hb)
                                      have n4_ := Aside0.mk (below_step (by repeat (first | (with_reducible first | exact HB.out | apply below_alloc | apply pw_below_drewN | apply below_drew1 | refine below_set ?_ GE154.out | refine below_set ?_ GE181.out) | exact HB.out)) hb)
                                      clear HO_5
                                      clear HO_182000
                                      clear BK154
                                      clear BK181
                                      clear HB
                                      have HO_5 := n0_
                                      have HO_182000 := n1_
                                      have BK154 := n2_
                                      have BK181 := n3_
                                      have HB := n4_
                                      clear n0_ n1_ n2_ n3_ n4_
                                      (try clear hb)
                                      (try clear hb2)
                                      (try clear hk)
                                      (try clear hi)
                                      refine hK.out _ _ ⟨(blk_cell BK154.out 0).trans rfl, (blk_cell BK154.out 1).trans rfl, (blk_cell BK154.out 2).trans rfl, (blk_cell BK181.out 0).trans rfl⟩ (fun hHeld => ?_)
                                      clear hK K
                                      refine norm_ (a' := ?_) ?_ ?_
                                      rotate_left
                                      · show Act.put _ (some 149) _ = _
                                        simp only [Act.put, List.setIfInBounds_toArray, List.set_cons_zero, List.set_cons_succ, i64_w, i32_w]
                                        rfl
                                      refine pure_ (i := 14) (N := some 150) (v := ?_) (a' := ?_) #[true, true, true, true, true, true, true, true, true, true, true, true, true, true, true] rfl rfl (any_of HT_.out (by kernel_rfl)) (fun _ _ _ h => h) (Or.inl ⟨by rfl, ?_⟩) ?_ ?_
                                      rotate_left
                                      · intro w'
                                        go_simp
                                        with_reducible rfl
                                      rotate_left
                                      · simp only [Act.put, List.setIfInBounds_toArray, List.set_cons_zero, List.set_cons_succ, i64_w, i32_w]
                                        rfl
                                      refine done_ (done_of HT_.out (by kernel_rfl)) ?_
                                      try go_wp2
                                      go_roundg k3
                                      case measure => have := HK1.out; have := HJ52.out; have := HK3.out; omega
                                      case rel => exact ⟨(wrap64 (x133_3 + 1)), (by first | rfl | (simp; done) | (simp [*]; done)), H', ⟨by have := HK1.out; have := HJ52.out; have := HK3.out; omega⟩, ⟨by (with_reducible repeat (first | apply Kd.R_alloc | apply Kd.R_drewN | apply Kd.R_drew)); exact HO_5.out⟩, ⟨by (with_reducible repeat (first | apply Kd.R_alloc | apply Kd.R_drewN | apply Kd.R_drew)); exact HO_182000.out⟩, ⟨by (with_reducible repeat (first | refine blk_drewN ?_ _ | refine blk_drew ?_ | refine blk_alloc ?_ _)); exact BK154.out⟩, ⟨by (with_reducible repeat (first | refine blk_drewN ?_ _ | refine blk_drew ?_ | refine blk_alloc ?_ _)); exact BK181.out⟩, ⟨by repeat (first | (with_reducible first | exact HB.out | apply below_alloc | apply pw_below_drewN | apply below_drew1 | refine below_set ?_ GE154.out | refine below_set ?_ GE181.out) | exact HB.out)⟩⟩
                                    · rw [if_neg c82] at H
                                      have c82b0 : (t184.toList == t185.toList) = false := beq_eq_false_iff_ne.mpr c82
                                      have c82b1 : (t184.toList != t185.toList) = true := bne_iff_ne.mpr c82
                                      obtain rfl := Option.some.inj H
                                      try go_wp2
                                      have n0_ := Aside0.mk (Kd.R_drew HO_5.out)
                                      have n1_ := Aside0.mk (Kd.R_drew HO_182000.out)
                                      have n2_ := Aside0.mk (blk_drew BK154.out)
                                      have n3_ := Aside0.mk (blk_drew BK181.out)
                                      have n4_ := Aside0.mk (below_drew1 HB.out)
                                      clear HO_5
                                      clear HO_182000
                                      clear BK154
                                      clear BK181
                                      clear HB
                                      have HO_5 := n0_
                                      have HO_182000 := n1_
                                      have BK154 := n2_
                                      have BK181 := n3_
                                      have HB := n4_
                                      clear n0_ n1_ n2_ n3_ n4_
                                      refine start_ (n := 15) (S := fun w' => w'.cell? ⟨gb154, 0, none⟩ = some (.string a0_0) ∧ w'.cell? ⟨gb154, 1, none⟩ = some (.slice A0_1 l0_1.length c0_1) ∧ w'.cell? ⟨gb154, 2, none⟩ = some (.slice A0_2 l0_2.length c0_2) ∧ w'.cell? ⟨gb181, 0, none⟩ = some (.slice Ao61 t178.length co61)) (ds := []) #[false, false, false, false, false, false, false, false, false, false, false, false, false, false, false] (by kernel_rfl) rfl rfl ⟨(blk_cell BK154.out 0).trans rfl, (blk_cell BK154.out 1).trans rfl, (blk_cell BK154.out 2).trans rfl, (blk_cell BK181.out 0).trans rfl⟩ (fun hHeld => ?_); refine with_tabW monikerlaw4_TreeBlind.tab28 monikerlaw4_TreeBlind.bits28 (fun HT_ HW_ => ?_)
                                      generalize wr.drew = w86 at HO_5 HO_182000 BK154 BK181 HB hHeld ⊢
                                      refine pure_ (i := 0) (N := some 136) (v := ?_) (a' := ?_) #[true, false, false, false, false, false, false, false, false, false, false, false, false, false, false] rfl rfl (any_of HT_.out (by kernel_rfl)) (fun _ _ _ h => h) (Or.inl ⟨by rfl, ?_⟩) ?_ ?_
                                      rotate_left
                                      · intro w'
                                        go_simp
                                        with_reducible rfl
                                      rotate_left
                                      · simp only [Act.put, List.setIfInBounds_toArray, List.set_cons_zero, List.set_cons_succ, i64_w, i32_w]
                                        rfl
                                      refine pure_ (i := 2) (N := some 138) (v := ?_) (a' := ?_) #[true, false, true, false, false, false, false, false, false, false, false, false, false, false, false] rfl rfl (any_of HT_.out (by kernel_rfl)) (fun _ _ _ h => h) (Or.inl ⟨by rfl, ?_⟩) ?_ ?_
                                      rotate_left
                                      · intro w'
                                        go_simp
                                        with_reducible rfl
                                      rotate_left
                                      · simp only [Act.put, List.setIfInBounds_toArray, List.set_cons_zero, List.set_cons_succ, i64_w, i32_w]
                                        rfl
                                      refine pure_ (i := 4) (N := some 140) (v := ?_) (a' := ?_) #[true, false, true, false, true, false, false, false, false, false, false, false, false, false, false] rfl rfl (any_of HT_.out (by kernel_rfl)) (fun _ _ _ h => h) (Or.inl ⟨by rfl, ?_⟩) ?_ ?_
                                      rotate_left
                                      · intro w'
                                        go_simp
                                        with_reducible rfl
                                      rotate_left
                                      · simp only [Act.put, List.setIfInBounds_toArray, List.set_cons_zero, List.set_cons_succ, i64_w, i32_w]
                                        rfl
                                      refine pure_ (i := 6) (N := some 142) (v := ?_) (a' := ?_) #[true, false, true, false, true, false, true, false, false, false, false, false, false, false, false] rfl rfl (any_of HT_.out (by kernel_rfl)) (fun _ _ _ h => h) (Or.inl ⟨by rfl, ?_⟩) ?_ ?_
                                      rotate_left
                                      · intro w'
                                        go_simp
                                        with_reducible rfl
                                      rotate_left
                                      · simp only [Act.put, List.setIfInBounds_toArray, List.set_cons_zero, List.set_cons_succ, i64_w, i32_w]
                                        rfl
                                      refine pure_ (i := 8) (N := some 144) (v := ?_) (a' := ?_) #[true, false, true, false, true, false, true, false, true, false, false, false, false, false, false] rfl rfl (any_of HT_.out (by kernel_rfl)) (fun _ _ _ h => h) (Or.inl ⟨by rfl, ?_⟩) ?_ ?_
                                      rotate_left
                                      · intro w'
                                        go_simp
                                        with_reducible rfl
                                      rotate_left
                                      · simp only [Act.put, List.setIfInBounds_toArray, List.set_cons_zero, List.set_cons_succ, i64_w, i32_w]
                                        rfl
                                      refine pure_ (i := 10) (N := some 146) (v := ?_) (a' := ?_) #[true, false, true, false, true, false, true, false, true, false, true, false, false, false, false] rfl rfl (any_of HT_.out (by kernel_rfl)) (fun _ _ _ h => h) (Or.inl ⟨by rfl, ?_⟩) ?_ ?_
                                      rotate_left
                                      · intro w'
                                        go_simp
                                        with_reducible rfl
                                      rotate_left
                                      · simp only [Act.put, List.setIfInBounds_toArray, List.set_cons_zero, List.set_cons_succ, i64_w, i32_w]
                                        rfl
                                      refine pure_ (i := 12) (N := some 148) (v := ?_) (a' := ?_) #[true, false, true, false, true, false, true, false, true, false, true, false, true, false, false] rfl rfl (any_of HT_.out (by kernel_rfl)) (fun _ _ _ h => h) (Or.inl ⟨by rfl, ?_⟩) ?_ ?_
                                      rotate_left
                                      · intro w'
                                        go_simp
                                        with_reducible rfl
                                      rotate_left
                                      · simp only [Act.put, List.setIfInBounds_toArray, List.set_cons_zero, List.set_cons_succ, i64_w, i32_w]
                                        rfl
                                      refine take_ (i := 1) (N := some 137) (v := ?_) (a' := ?_) #[true, true, true, false, true, false, true, false, true, false, true, false, true, false, false] rfl rfl (take_ofW HT_.out HW_.out (by kernel_rfl)) (fun _ _ _ h => h) (Or.inl ⟨by rfl, ?_⟩) hHeld ?_ ?_
                                      rotate_left
                                      · rintro w' ⟨s0, s1, s2, s3⟩
                                        go_simp
                                        with_reducible rfl
                                      rotate_left
                                      · simp only [Act.put, List.setIfInBounds_toArray, List.set_cons_zero, List.set_cons_succ, i64_w, i32_w]
                                        rfl
                                      refine take_ (i := 3) (N := some 139) (v := ?_) (a' := ?_) #[true, true, true, true, true, false, true, false, true, false, true, false, true, false, false] rfl rfl (take_ofW HT_.out HW_.out (by kernel_rfl)) (fun _ _ _ h => h) (Or.inl ⟨by rfl, ?_⟩) hHeld ?_ ?_
                                      rotate_left
                                      · rintro w' ⟨s0, s1, s2, s3⟩
                                        go_simp
                                        with_reducible rfl
                                      rotate_left
                                      · simp only [Act.put, List.setIfInBounds_toArray, List.set_cons_zero, List.set_cons_succ, i64_w, i32_w]
                                        rfl
                                      refine take_ (i := 5) (N := some 141) (v := ?_) (a' := ?_) #[true, true, true, true, true, true, true, false, true, false, true, false, true, false, false] rfl rfl (take_ofW HT_.out HW_.out (by kernel_rfl)) (fun _ _ _ h => h) (Or.inl ⟨by rfl, ?_⟩) hHeld ?_ ?_
                                      rotate_left
                                      · rintro w' ⟨s0, s1, s2, s3⟩
                                        go_simp
                                        with_reducible rfl
                                      rotate_left
                                      · simp only [Act.put, List.setIfInBounds_toArray, List.set_cons_zero, List.set_cons_succ, i64_w, i32_w]
                                        rfl
                                      refine take_ (i := 9) (N := some 145) (v := ?_) (a' := ?_) #[true, true, true, true, true, true, true, false, true, true, true, false, true, false, false] rfl rfl (take_ofW HT_.out HW_.out (by kernel_rfl)) (fun _ _ _ h => h) (Or.inl ⟨by rfl, ?_⟩) hHeld ?_ ?_
                                      rotate_left
                                      · rintro w' ⟨s0, s1, s2, s3⟩
                                        go_simp
                                        with_reducible rfl
                                      rotate_left
                                      · simp only [Act.put, List.setIfInBounds_toArray, List.set_cons_zero, List.set_cons_succ, i64_w, i32_w]
                                        rfl
                                      refine take_ (i := 11) (N := some 147) (v := ?_) (a' := ?_) #[true, true, true, true, true, true, true, false, true, true, true, true, true, false, false] rfl rfl (take_ofW HT_.out HW_.out (by kernel_rfl)) (fun _ _ _ h => h) (Or.inl ⟨by rfl, ?_⟩) hHeld ?_ ?_
                                      rotate_left
                                      · rintro w' ⟨s0, s1, s2, s3⟩
                                        go_simp
                                        with_reducible rfl
                                      rotate_left
                                      · simp only [Act.put, List.setIfInBounds_toArray, List.set_cons_zero, List.set_cons_succ, i64_w, i32_w]
                                        rfl
                                      refine one_ (i := 7) (N := some 143) #[true, true, true, true, true, true, true, true, true, true, true, true, true, false, false] rfl rfl (one_of HT_.out (by kernel_rfl)) (by decide) (fun K hK => ?_)
                                      refine goes_ Try.func29 (by kernel_rfl) rfl #[.string a0_0, .slice A0_1 l0_1.length c0_1, .agg #[.slice A0_2 l0_2.length c0_2], .int .i64 x133_3] (by rfl) rfl rfl (by (try simp only [List.map_toArray, List.map_cons, List.map_nil]); first | done | rfl | (simp only [List.length_drop, List.length_take]; rfl)) ?_
                                      with_reducible refine (tree_Text.calls k3 a0_0 _ _ l0_1 _ _ l0_2 x133_3 t184 _ ?side1 ?side2 ?side3 ?side4 A80.out).mono ?_
                                      (case side1 => repeat (first | exact (Kd.C_below HR0_1.out HB.out) | (with_reducible refine Kd.C_alloc ?_ _) | (with_reducible refine Kd.C_drewN ?_ _) | (with_reducible refine Kd.C_drew ?_)))
                                      (case side2 => exact HC0_1.out)
                                      (case side3 => repeat (first | exact (Kd.C_below HR0_2.out HB.out) | (with_reducible refine Kd.C_alloc ?_ _) | (with_reducible refine Kd.C_drewN ?_ _) | (with_reducible refine Kd.C_drew ?_)))
                                      (case side4 => exact HC0_2.out)
                                      rintro e w87 ⟨rfl, hb⟩
                                      refine ⟨_, rfl, ?_⟩
                                      have n0_ := Aside0.mk (Kd.R_below (by (with_reducible repeat (first | apply Kd.R_alloc | apply Kd.R_drewN | apply Kd.R_drew)); exact HO_5.out) hb)
                                      have n1_ := Aside0.mk (Kd.R_below (by (with_reducible repeat (first | apply Kd.R_alloc | apply Kd.R_drewN | apply Kd.R_drew)); exact HO_182000.out) hb)
                                      have n2_ := Aside0.mk (blk_below (g := gb154) (o := .cells #[.string a0_0, .slice A0_1 l0_1.length c0_1, .slice A0_2 l0_2.length c0_2] 27 (0, 0)) (by (with_reducible repeat (first | refine blk_drewN ?_ _ | refine blk_drew ?_ | refine blk_alloc ?_ _)); exact BK154.out) hb)
                                      have n3_ := Aside0.mk (blk_below (g := gb181) (o := .cells #[.slice Ao61 t178.length co61] 25 (0, 0)) (by (with_reducible repeat (first | refine blk_drewN ?_ _ | refine blk_drew ?_ | refine blk_alloc ?_ _)); exact BK181.out) hb)
                                      have n4_ := Aside0.mk (below_step (by repeat (first | (with_reducible first | exact HB.out | apply below_alloc | apply pw_below_drewN | apply below_drew1 | refine below_set ?_ GE154.out | refine below_set ?_ GE181.out) | exact HB.out)) hb)
                                      clear HO_5
                                      clear HO_182000
                                      clear BK154
                                      clear BK181
                                      clear HB
                                      have HO_5 := n0_
                                      have HO_182000 := n1_
                                      have BK154 := n2_
                                      have BK181 := n3_
                                      have HB := n4_
                                      clear n0_ n1_ n2_ n3_ n4_
                                      (try clear hb)
                                      (try clear hb2)
                                      (try clear hk)
                                      (try clear hi)
                                      refine hK.out _ _ ⟨(blk_cell BK154.out 0).trans rfl, (blk_cell BK154.out 1).trans rfl, (blk_cell BK154.out 2).trans rfl, (blk_cell BK181.out 0).trans rfl⟩ (fun hHeld => ?_)
                                      clear hK K
                                      refine norm_ (a' := ?_) ?_ ?_
                                      rotate_left
                                      · show Act.put _ (some 143) _ = _
                                        simp only [Act.put, List.setIfInBounds_toArray, List.set_cons_zero, List.set_cons_succ, i64_w, i32_w]
                                        rfl
                                      refine one_ (i := 13) (N := some 149) #[true, true, true, true, true, true, true, true, true, true, true, true, true, true, false] rfl rfl (one_of HT_.out (by kernel_rfl)) (by decide) (fun K hK => ?_)
                                      refine goes_ Try.func29 (by kernel_rfl) rfl #[.string a0_0, .slice Ao55 x5_1.length co55, .agg #[.slice Ao61 t178.length co61], .int .i64 x133_3] (by rfl) rfl rfl (by (try simp only [List.map_toArray, List.map_cons, List.map_nil]); first | done | rfl | (simp only [List.length_drop, List.length_take]; rfl)) ?_
                                      with_reducible refine (tree_Text.calls k3 a0_0 _ _ x5_1 _ _ t178 x133_3 t185 _ ?side1 ?side2 ?side3 ?side4 A81.out).mono ?_
                                      (case side1 => repeat (first | exact (Kd.R_reads' HO_5.out).2.2 | (with_reducible refine Kd.C_alloc ?_ _) | (with_reducible refine Kd.C_drewN ?_ _) | (with_reducible refine Kd.C_drew ?_)))
                                      (case side2 => exact (Kd.R_reads' HO_5.out).2.1)
                                      (case side3 => repeat (first | exact (Kd.R_reads' HO_182000.out).2.2 | (with_reducible refine Kd.C_alloc ?_ _) | (with_reducible refine Kd.C_drewN ?_ _) | (with_reducible refine Kd.C_drew ?_)))
                                      (case side4 => exact (Kd.R_reads' HO_182000.out).2.1)
                                      rintro e w88 ⟨rfl, hb⟩
                                      refine ⟨_, rfl, ?_⟩
                                      have n0_ := Aside0.mk (Kd.R_below (by (with_reducible repeat (first | apply Kd.R_alloc | apply Kd.R_drewN | apply Kd.R_drew)); exact HO_5.out) hb)
                                      have n1_ := Aside0.mk (Kd.R_below (by (with_reducible repeat (first | apply Kd.R_alloc | apply Kd.R_drewN | apply Kd.R_drew)); exact HO_182000.out) hb)
                                      have n2_ := Aside0.mk (blk_below (g := gb154) (o := .cells #[.string a0_0, .slice A0_1 l0_1.length c0_1, .slice A0_2 l0_2.length c0_2] 27 (0, 0)) (by (with_reducible repeat (first | refine blk_drewN ?_ _ | refine blk_drew ?_ | refine blk_alloc ?_ _)); exact BK154.out) hb)
                                      have n3_ := Aside0.mk (blk_below (g := gb181) (o := .cells #[.slice Ao61 t178.length co61] 25 (0, 0)) (by (with_reducible repeat (first | refine blk_drewN ?_ _ | refine blk_drew ?_ | refine blk_alloc ?_ _)); exact BK181.out) hb)
                                      have n4_ := Aside0.mk (below_step (by repeat (first | (with_reducible first | exact HB.out | apply below_alloc | apply pw_below_drewN | apply below_drew1 | refine below_set ?_ GE154.out | refine below_set ?_ GE181.out) | exact HB.out)) hb)
                                      clear HO_5
                                      clear HO_182000
                                      clear BK154
                                      clear BK181
                                      clear HB
                                      have HO_5 := n0_
                                      have HO_182000 := n1_
                                      have BK154 := n2_
                                      have BK181 := n3_
                                      have HB := n4_
                                      clear n0_ n1_ n2_ n3_ n4_
                                      (try clear hb)
                                      (try clear hb2)
                                      (try clear hk)
                                      (try clear hi)
                                      refine hK.out _ _ ⟨(blk_cell BK154.out 0).trans rfl, (blk_cell BK154.out 1).trans rfl, (blk_cell BK154.out 2).trans rfl, (blk_cell BK181.out 0).trans rfl⟩ (fun hHeld => ?_)
                                      clear hK K
                                      refine norm_ (a' := ?_) ?_ ?_
                                      rotate_left
                                      · show Act.put _ (some 149) _ = _
                                        simp only [Act.put, List.setIfInBounds_toArray, List.set_cons_zero, List.set_cons_succ, i64_w, i32_w]
                                        rfl
                                      refine pure_ (i := 14) (N := some 150) (v := ?_) (a' := ?_) #[true, true, true, true, true, true, true, true, true, true, true, true, true, true, true] rfl rfl (any_of HT_.out (by kernel_rfl)) (fun _ _ _ h => h) (Or.inl ⟨by rfl, ?_⟩) ?_ ?_
                                      rotate_left
                                      · intro w'
                                        go_simp
                                        with_reducible rfl
                                      rotate_left
                                      · simp only [Act.put, List.setIfInBounds_toArray, List.set_cons_zero, List.set_cons_succ, i64_w, i32_w]
                                        rfl
                                      refine done_ (done_of HT_.out (by kernel_rfl)) ?_
                                      try go_wp2
                                      go_ret
                                      exact ⟨by first | rfl | (simp [errW_none, errW_some] <;> rfl) | (simp only [← hji5]; first | rfl | (simp [errW_none, errW_some] <;> rfl)) | (simp [*, errW_none, errW_some] <;> rfl), by repeat (first | (with_reducible first | exact HB.out | apply below_alloc | apply pw_below_drewN | apply below_drew1 | refine below_set ?_ GE154.out | refine below_set ?_ GE181.out) | exact HB.out)⟩
                                  · rw [if_neg c79] at H
                                    have c79b0 : decide (x133_3 < (t178.length : Int)) = false := decide_eq_false c79
                                    clear c79
                                    obtain rfl := Option.some.inj H
                                    go_wp2
                                    go_ret
                                    exact ⟨by first | rfl | (simp [errW_none, errW_some] <;> rfl) | (simp only [← hji5]; first | rfl | (simp [errW_none, errW_some] <;> rfl)) | (simp [*, errW_none, errW_some] <;> rfl), by repeat (first | (with_reducible first | exact HB.out | apply below_alloc | apply pw_below_drewN | apply below_drew1 | refine below_set ?_ GE154.out | refine below_set ?_ GE181.out) | exact HB.out)⟩
                  · rw [if_neg cM] at H
                    exact absurd H (by simp)
                · rw [if_neg c50] at H
                  exact absurd H (by simp)
              · rw [if_neg c49] at H
                exact absurd H (by simp)
      · rw [if_neg c7] at H
        exact absurd H (by simp)
    · rw [if_neg c6] at H
      exact absurd H (by simp)
  · replace c4 := Bool.eq_false_iff.mpr c4
    subst c4
    have H1 : ((tree_Valid.f k l0_2 (l0_1.length : Int)).bind fun t156 => (some (!t156))) = some r := by rw [if_neg (show ¬ (false = true) by decide)] at H; exact H
    clear H
    have H := H1
    clear H1
    replace H := Option.bind_eq_some_iff.mp H
    obtain ⟨t156, A890, H⟩ := H
    replace H : (some (!t156)) = some r := H
    have A89 := Aside0.mk A890
    clear A890
    obtain rfl := Option.some.inj H
    go_enter Try.func16, Try.ntmps16
    go_wp2_with (first | ((with_reducible refine gate_dst (N := 2) rfl ?_); refine box_event ?hg (N := 2) ?hd (cs := #[.string a0_0, .slice A0_1 l0_1.length c0_1, .slice A0_2 l0_2.length c0_2]) (t := 27) ?hr ?_; (case hd => rfl); (case hg => rfl); (case hr => first | (go_simp; done) | (go_simp; rfl)); intro gb154 hg w90 hbox hb; have n0_ := Aside0.mk (below_step (by repeat (first | (with_reducible first | exact HB.out | apply below_alloc | apply pw_below_drewN | apply below_drew1) | exact HB.out)) hb); have n1_ := Aside0.mk (hbox); have n2_ := Aside0.mk ((by rw [hg]; exact (below_size (by repeat (first | (with_reducible first | exact HB.out | apply below_alloc | apply pw_below_drewN | apply below_drew1) | exact HB.out))) : w.heap.size ≤ gb154)); have n3_ := Aside0.mk ((by rw [hg]; exact (below_size (by repeat (first | (with_reducible first | exact HB.out | apply below_alloc | apply pw_below_drewN | apply below_drew1) | exact HB.out))) : w.heap.size ≤ gb154)); clear HB; have HB := n0_; have BK154 := n1_; have GW154 := n2_; have GE154 := n3_; clear n0_ n1_ n2_ n3_; clear hb hbox hg; have hcz91_0 : w90.cell? ⟨gb154, 0, none⟩ = some (.string a0_0) := (blk_cell BK154.out 0).trans rfl; have hcz91_1 : w90.cell? ⟨gb154, 1, none⟩ = some (.slice A0_1 l0_1.length c0_1) := (blk_cell BK154.out 1).trans rfl; have hcz91_2 : w90.cell? ⟨gb154, 2, none⟩ = some (.slice A0_2 l0_2.length c0_2) := (blk_cell BK154.out 2).trans rfl; have hfz91_0 := blk_frozen BK154.out 0; have hfz91_1 := blk_frozen BK154.out 1; have hfz91_2 := blk_frozen BK154.out 2) | ((with_reducible refine gate_callee (f := 42) rfl ?_); refine goesL_ (some 18) rfl rfl Try.func42 (by kernel_rfl) rfl #[.agg #[.slice A0_2 l0_2.length c0_2], .int .i64 (l0_1.length : Int)] rfl (by (try simp only [List.map_toArray, List.map_cons, List.map_nil]); first | done | rfl | (simp only [List.length_drop, List.length_take]; rfl)) ?_; (with_reducible refine (monikerref4_Valid.calls k _ _ l0_2 (l0_1.length : Int) false _ ?side1 ?side2 A3.out).mono ?_); (case side1 => repeat (first | exact (Kd.C_below HR0_2.out HB.out) | (with_reducible refine Kd.C_alloc ?_ _) | (with_reducible refine Kd.C_drewN ?_ _) | (with_reducible refine Kd.C_drew ?_))); (case side2 => exact HC0_2.out); rintro e w92 ⟨rfl, hb⟩; refine ⟨_, rfl, ?_⟩; have n0_ := Aside0.mk (blk_below (g := gb154) (o := .cells #[.string a0_0, .slice A0_1 l0_1.length c0_1, .slice A0_2 l0_2.length c0_2] 27 (0, 0)) (by (with_reducible repeat (first | refine blk_drewN ?_ _ | refine blk_drew ?_ | refine blk_alloc ?_ _)); exact BK154.out) hb); have n1_ := Aside0.mk (below_step (by repeat (first | (with_reducible first | exact HB.out | apply below_alloc | apply pw_below_drewN | apply below_drew1 | refine below_set ?_ GE154.out) | exact HB.out)) hb); clear BK154; clear HB; have BK154 := n0_; have HB := n1_; clear n0_ n1_; (try clear hb); (try clear hb2); (try clear hk); (try clear hi); have hcz93_0 : w92.cell? ⟨gb154, 0, none⟩ = some (.string a0_0) := (blk_cell BK154.out 0).trans rfl; have hcz93_1 : w92.cell? ⟨gb154, 1, none⟩ = some (.slice A0_1 l0_1.length c0_1) := (blk_cell BK154.out 1).trans rfl; have hcz93_2 : w92.cell? ⟨gb154, 2, none⟩ = some (.slice A0_2 l0_2.length c0_2) := (blk_cell BK154.out 2).trans rfl; have hfz93_0 := blk_frozen BK154.out 0; have hfz93_1 := blk_frozen BK154.out 1; have hfz93_2 := blk_frozen BK154.out 2) | ((with_reducible refine gate_callee (f := 44) rfl ?_); refine goesL_ (some 25) rfl rfl Try.func44 (by kernel_rfl) rfl #[.agg #[.slice A0_2 l0_2.length c0_2], .int .i64 (l0_1.length : Int)] rfl (by (try simp only [List.map_toArray, List.map_cons, List.map_nil]); first | done | rfl | (simp only [List.length_drop, List.length_take]; rfl)) ?_; (with_reducible refine (tree_Valid.calls k _ _ l0_2 (l0_1.length : Int) t156 _ ?side1 ?side2 A89.out).mono ?_); (case side1 => repeat (first | exact (Kd.C_below HR0_2.out HB.out) | (with_reducible refine Kd.C_alloc ?_ _) | (with_reducible refine Kd.C_drewN ?_ _) | (with_reducible refine Kd.C_drew ?_))); (case side2 => exact HC0_2.out); rintro e w94 ⟨rfl, hb⟩; refine ⟨_, rfl, ?_⟩; have n0_ := Aside0.mk (blk_below (g := gb154) (o := .cells #[.string a0_0, .slice A0_1 l0_1.length c0_1, .slice A0_2 l0_2.length c0_2] 27 (0, 0)) (by (with_reducible repeat (first | refine blk_drewN ?_ _ | refine blk_drew ?_ | refine blk_alloc ?_ _)); exact BK154.out) hb); have n1_ := Aside0.mk (below_step (by repeat (first | (with_reducible first | exact HB.out | apply below_alloc | apply pw_below_drewN | apply below_drew1 | refine below_set ?_ GE154.out) | exact HB.out)) hb); clear BK154; clear HB; have BK154 := n0_; have HB := n1_; clear n0_ n1_; (try clear hb); (try clear hb2); (try clear hk); (try clear hi)))
    go_ret
    exact ⟨by first | rfl | (simp [errW_none, errW_some] <;> rfl) | (simp [*, errW_none, errW_some] <;> rfl), by repeat (first | (with_reducible first | exact HB.out | apply below_alloc | apply pw_below_drewN | apply below_drew1 | refine below_set ?_ GE154.out) | exact HB.out)⟩

end Go.Proofs.Ytodldpdnhcafpaa.F

-- TreeBlind, plainly: the printed function says true
namespace Go.Proofs.Ytodldpdnhcafpaa.Q
open Go.RowKit Go.Proofs.YtodldpdnhcafpaaW.PrintWords Go.Proofs.YtodldpdnhcafpaaW.PrintLast Go.Proofs.YtodldpdnhcafpaaW.PrintMore
open Go.Proofs.Ytodldpdnhcafpaa.F Go.Proofs.Ytodldpdnhcafpaa.K
set_option linter.unusedSimpArgs false
set_option linter.unusedVariables false
theorem rd_put {P : List Int} {i j : Nat} {v : Int} (hi : i < P.length) : rd (P.set i v) (j : Int) = if i = j then v else rd P (j : Int) := by
  unfold rd
  rw [Int.toNat_natCast]
  by_cases h : i = j
  · subst h
    rw [if_pos rfl]
    simp [List.getD_eq_getElem?_getD, hi]
  · rw [if_neg h]
    simp [List.getD_eq_getElem?_getD, List.getElem?_set_ne h]
theorem cnt_le (sk : Int → Bool) : ∀ i, cnt sk i ≤ i
  | 0 => Nat.le_refl _
  | i + 1 => by
    have := cnt_le sk i
    simp only [cnt]
    split <;> omega
theorem w64 {x : Int} (h0 : -9223372036854775808 ≤ x) (h1 : x ≤ 9223372036854775807) : wrap64 x = x := by unfold wrap64; omega
theorem blind_l1 (t : ByteArray) {ps : List S61} {ns : List S47} (sk : Int → Bool) (h : validB ns (ps.length : Int) = true) (hb : t.size + ps.length + 1 ≤ 1048576) (hn : ns.length < 4398046511104) : ∀ (d : Nat) (n : Int), 0 ≤ n → (ns.length : Int) - n = d →
    Ev (fun k => monikerlaw4_TreeBlind.l1 k (sp ps sk ps.length) (ns.length : Int) n t ps ns (ns.map (mvN ps.length sk))) true
  | 0, n, h0, hd => by
    refine Ev.step (f := fun _ => some true) (fun k => ?_) (Ev.now _)
    simp only [monikerlaw4_TreeBlind.l1]
    rw [if_neg (by omega)]
  | d + 1, n, h0, hd => by
    have hc := cnt_le sk ps.length
    have hl := sp_len ps sk ps.length
    refine Ev.step (f := fun k => (tree_Text.f k t ps ns n).bind fun a => (tree_Text.f k t (sp ps sk ps.length) (ns.map (mvN ps.length sk)) n).bind fun b => if a.toList = b.toList then monikerlaw4_TreeBlind.l1 k (sp ps sk ps.length) (ns.length : Int) (wrap64 (n + 1)) t ps ns (ns.map (mvN ps.length sk)) else some false) (fun k => ?_) ?_
    · simp only [monikerlaw4_TreeBlind.l1]
      rw [if_pos (by omega)]
    · refine Ev.bind (Text_is t ps ns (Nat.le_trans (Nat.mul_le_mul (show ps.length + 1 ≤ 1048577 by omega) (show t.size + 1 ≤ 1048577 by omega)) (by decide)) (by omega) n) ?_
      refine Ev.bind (Text_is t (sp ps sk ps.length) (ns.map (mvN ps.length sk)) (Nat.le_trans (Nat.mul_le_mul (show (sp ps sk ps.length).length + 1 ≤ 3145729 by omega) (show t.size + 1 ≤ 1048577 by omega)) (by decide)) (by omega) n) ?_
      rw [blind_text t sk h h0 (by omega)]
      simp only [if_true]
      rw [w64 (by omega) (by omega)]
      exact blind_l1 t sk h hb hn d (n + 1) (by omega) (by omega)
theorem blind_end (t : ByteArray) {ps : List S61} {ns : List S47} (bits : Int) (h : validB ns (ps.length : Int) = true) (hb : t.size + ps.length + 1 ≤ 1048576) (hn : ns.length < 4398046511104) (P : List Int) (hP : P.length = ps.length + 1) (hp : ∀ j : Nat, j < ps.length → rd P (j : Int) = plc ps.length (chB bits) (j : Int)) :
    Ev (fun k => monikerlaw4_TreeBlind.l0 k bits (sp ps (chB bits) ps.length) P ps (ps.length : Int) (ps.length : Int) t ps ns) true := by
  have hc := cnt_le (chB bits) ps.length
  have hl := sp_len ps (chB bits) ps.length
  have hr : ∀ j : Int, 0 ≤ j → j ≤ (ps.length : Int) → rd (P.set ps.length ((sp ps (chB bits) ps.length).length : Int)) j = plc ps.length (chB bits) j := fun j h0 h1 => by
    obtain ⟨m, rfl⟩ : ∃ m : Nat, j = m := ⟨j.toNat, by omega⟩
    rw [rd_put (by omega)]
    split
    · rename_i e
      rw [← e, plc_end]
    · exact hp m (by omega)
  have hx : ∀ x ∈ ns, okP (P.set ps.length ((sp ps (chB bits) ps.length).length : Int)) x = true ∧ mvP (P.set ps.length ((sp ps (chB bits) ps.length).length : Int)) x = mvN ps.length (chB bits) x := fun x hx => by
    obtain ⟨n, hn1, rfl⟩ := List.getElem_of_mem hx
    obtain ⟨a, b, c⟩ := okS_out (valid_out h (n : Int) (by omega) (by omega)).1
    have e : rd_T47 ns (n : Int) = ns[n] := by simp [rd_T47, List.getD_eq_getElem?_getD, hn1]
    rw [e] at a b c
    generalize ns[n] = y at a b c
    refine ⟨?_, ?_⟩
    · unfold okP
      rw [List.length_set, hP, w64 (by omega) (by omega)]
      simp only [Bool.and_eq_true, decide_eq_true_eq]
      refine ⟨a, by omega, ?_⟩
      split
      · simp only [Bool.and_eq_true, decide_eq_true_eq]; omega
      · rfl
    · unfold mvP mvN
      rw [hr y.f1 a (by omega)]
      congr 1
      split
      · rw [w64 (x := y.f2 - 1) (by omega) (by omega), hr (y.f2 - 1) (by omega) (by omega)]
        have p1 := plc_le (len := ps.length) (sk := chB bits) (show 0 ≤ y.f2 - 1 by omega) (show y.f2 - 1 ≤ (ps.length : Int) by omega) (Int.le_refl _)
        have p0 := plc_nonneg (len := ps.length) (sk := chB bits) (show 0 ≤ y.f2 - 1 by omega)
        rw [plc_end] at p1
        rw [w64 (by omega) (by omega)]
      · rfl
  have hm : ns.map (mvP (P.set ps.length ((sp ps (chB bits) ps.length).length : Int))) = ns.map (mvN ps.length (chB bits)) := List.map_congr_left (fun x hx' => (hx x hx').2)
  have ha : ns.all (okP (P.set ps.length ((sp ps (chB bits) ps.length).length : Int))) = true := List.all_eq_true.2 (fun x hx' => (hx x hx').1)
  have hcp : monikerplain_CopyTree.f ns = some ns := by
    unfold monikerplain_CopyTree.f
    simp only [Option.bind_some, List.length_nil, List.nil_append]
    rw [if_pos (by omega)]
  refine Ev.step (f := fun k => (tree_Valid.f k (ns.map (mvN ps.length (chB bits))) ((sp ps (chB bits) ps.length).length : Int)).bind fun a => if a = true then (tree_Same.f k ps ns (sp ps (chB bits) ps.length) (ns.map (mvN ps.length (chB bits)))).bind fun b => monikerlaw4_TreeBlind.j1 k (sp ps (chB bits) ps.length) (!b) t ps ns (ns.map (mvN ps.length (chB bits))) else monikerlaw4_TreeBlind.j1 k (sp ps (chB bits) ps.length) true t ps ns (ns.map (mvN ps.length (chB bits)))) (fun k => ?_) ?_
  · simp only [monikerlaw4_TreeBlind.l0]
    rw [if_neg (by omega), if_pos (by omega), if_pos (by omega), hcp]
    simp only [Option.bind_some, Int.toNat_natCast]
    rw [if_pos ha, hm]
  · have hv := Valid_is (ns.map (mvN ps.length (chB bits))) (by rw [List.length_map]; omega) ((sp ps (chB bits) ps.length).length : Int)
    rw [blind_valid (chB bits) h] at hv
    refine Ev.bind hv ?_
    simp only [if_true]
    have hs := Same_is ps (sp ps (chB bits) ps.length) ns (ns.map (mvN ps.length (chB bits))) (by omega) (by omega) (by omega)
    rw [blind_same (chB bits) h] at hs
    refine Ev.bind hs ?_
    refine Ev.step (f := fun k => monikerlaw4_TreeBlind.l1 k (sp ps (chB bits) ps.length) (ns.length : Int) 0 t ps ns (ns.map (mvN ps.length (chB bits)))) (fun k => ?_) (blind_l1 t (chB bits) h hb hn ns.length 0 (Int.le_refl _) (by omega))
    simp [monikerlaw4_TreeBlind.j1]
theorem l0_some {k : Nat} {bits : Int} {X : List S61} {P : List Int} {ps : List S61} {len i : Int} {t : ByteArray} {ns : List S47} (hc : chB bits i = true) (h1 : i < len) (h2 : 0 ≤ i) (h3 : i < (ps.length : Int)) (h4 : X.length + ([(⟨0, 3, 1⟩ : S61), (⟨1, 0, 1⟩ : S61)] : List S61).length < 5864062014805) (h5 : i < (P.length : Int)) (h6 : (X ++ [(⟨0, 3, 1⟩ : S61), (⟨1, 0, 1⟩ : S61)]).length < 5864062014805) :
    monikerlaw4_TreeBlind.l0 (k + 1) bits X P ps len i t ps ns = monikerlaw4_TreeBlind.l0 k bits (X ++ [(⟨0, 3, 1⟩ : S61), (⟨1, 0, 1⟩ : S61)] ++ [(⟨(rd_T61 ps i).f0, (rd_T61 ps i).f1, (rd_T61 ps i).f2⟩ : S61)]) (P.set i.toNat ((X ++ [(⟨0, 3, 1⟩ : S61), (⟨1, 0, 1⟩ : S61)]).length : Int)) ps len (wrap64 (i + 1)) t ps ns := by
  rw [monikerlaw4_TreeBlind.l0, if_pos h1, if_pos h2, if_pos h3]
  unfold monikerlaw4_chosen.f
  rw [Option.bind_some, if_pos hc, Option.bind_some, if_pos h4, Option.bind_some, if_pos h5, if_pos h6]
theorem l0_none {k : Nat} {bits : Int} {X : List S61} {P : List Int} {ps : List S61} {len i : Int} {t : ByteArray} {ns : List S47} (hc : ¬ chB bits i = true) (h1 : i < len) (h2 : 0 ≤ i) (h3 : i < (ps.length : Int)) (h5 : i < (P.length : Int)) (h6 : X.length < 5864062014805) :
    monikerlaw4_TreeBlind.l0 (k + 1) bits X P ps len i t ps ns = monikerlaw4_TreeBlind.l0 k bits (X ++ [(⟨(rd_T61 ps i).f0, (rd_T61 ps i).f1, (rd_T61 ps i).f2⟩ : S61)]) (P.set i.toNat (X.length : Int)) ps len (wrap64 (i + 1)) t ps ns := by
  rw [monikerlaw4_TreeBlind.l0, if_pos h1, if_pos h2, if_pos h3]
  unfold monikerlaw4_chosen.f
  rw [Option.bind_some, if_neg hc, if_pos h5, if_pos h6]
theorem sp_small (ps : List S61) (sk : Int → Bool) (i : Nat) (hi : i ≤ 1048576) : (sp ps sk i).length ≤ 3145728 := by
  have h1 := cnt_le sk i
  have h2 := sp_len ps sk i
  generalize cnt sk i = a at h1 h2
  generalize (sp ps sk i).length = b at h1 h2 ⊢
  omega
theorem plc_yes (ps : List S61) (sk : Int → Bool) (i : Nat) (hi : i < ps.length) (c : sk (i : Int) = true) : ((sp ps sk i ++ [(⟨0, 3, 1⟩ : S61), ⟨1, 0, 1⟩]).length : Int) = plc ps.length sk (i : Int) := by
  have h2 := sp_len ps sk i
  have hcc : cnt sk (i + 1) = cnt sk i + 1 := by simp only [cnt]; rw [if_pos c]
  have hpi : plc ps.length sk (i : Int) = (i : Int) + 2 * (cnt sk (i + 1) : Int) := by
    unfold plc
    rw [if_pos (by omega), show ((i : Int) + 1).toNat = i + 1 by omega]
  rw [hpi, hcc, List.length_append, h2]
  generalize cnt sk i = a
  show ((i + 2 * a + 2 : Nat) : Int) = _
  omega
theorem plc_no (ps : List S61) (sk : Int → Bool) (i : Nat) (hi : i < ps.length) (c : ¬ sk (i : Int) = true) : ((sp ps sk i).length : Int) = plc ps.length sk (i : Int) := by
  have h2 := sp_len ps sk i
  have hcc : cnt sk (i + 1) = cnt sk i := by simp only [cnt]; rw [if_neg c]; rfl
  have hpi : plc ps.length sk (i : Int) = (i : Int) + 2 * (cnt sk (i + 1) : Int) := by
    unfold plc
    rw [if_pos (by omega), show ((i : Int) + 1).toNat = i + 1 by omega]
  rw [hpi, hcc, h2]
  generalize cnt sk i = a
  omega
theorem l0_round (k : Nat) (bits : Int) (t : ByteArray) (ps : List S61) (ns : List S47) (P : List Int) (i : Nat) (hi : i < ps.length) (hP : i < P.length) (hs : ps.length ≤ 1048576) :
    monikerlaw4_TreeBlind.l0 (k + 1) bits (sp ps (chB bits) i) P ps (ps.length : Int) (i : Int) t ps ns = monikerlaw4_TreeBlind.l0 k bits (sp ps (chB bits) (i + 1)) (P.set i (plc ps.length (chB bits) (i : Int))) ps (ps.length : Int) (((i + 1 : Nat)) : Int) t ps ns := by
  have q1 : (i : Int) < (ps.length : Int) := by omega
  have q2 : (0 : Int) ≤ (i : Int) := by omega
  have q5 : (i : Int) < (P.length : Int) := by omega
  have hw : wrap64 ((i : Int) + 1) = ((i + 1 : Nat) : Int) := by rw [w64 (by omega) (by omega)]; rfl
  have hS := sp_small ps (chB bits) i (by omega)
  by_cases c : chB bits (i : Int) = true
  · have e : sp ps (chB bits) (i + 1) = sp ps (chB bits) i ++ [(⟨0, 3, 1⟩ : S61), ⟨1, 0, 1⟩] ++ [rd_T61 ps (i : Int)] := by
      simp only [sp]
      unfold ahead
      rw [if_pos c]
    have e2 := plc_yes ps (chB bits) i hi c
    rw [e, ← e2]
    clear e e2
    generalize sp ps (chB bits) i = X at hS ⊢
    have h4 : X.length + ([(⟨0, 3, 1⟩ : S61), (⟨1, 0, 1⟩ : S61)] : List S61).length < 5864062014805 := by
      show X.length + 2 < 5864062014805
      exact Nat.lt_of_le_of_lt (Nat.add_le_add_right hS 2) (by decide)
    have h6 : (X ++ [(⟨0, 3, 1⟩ : S61), (⟨1, 0, 1⟩ : S61)]).length < 5864062014805 := by rw [List.length_append]; exact h4
    have h := l0_some (k := k) (t := t) (ns := ns) c q1 q2 q1 h4 q5 h6
    rw [hw, Int.toNat_natCast] at h
    exact h
  · have e : sp ps (chB bits) (i + 1) = sp ps (chB bits) i ++ [rd_T61 ps (i : Int)] := by
      simp only [sp]
      unfold ahead
      rw [if_neg c, List.append_nil]
    have e2 := plc_no ps (chB bits) i hi c
    rw [e, ← e2]
    clear e e2
    generalize sp ps (chB bits) i = X at hS ⊢
    have h6 : X.length < 5864062014805 := Nat.lt_of_le_of_lt hS (by decide)
    have h := l0_none (k := k) (t := t) (ns := ns) c q1 q2 q1 q5 h6
    rw [hw, Int.toNat_natCast] at h
    exact h
theorem blind_l0 (t : ByteArray) {ps : List S61} {ns : List S47} (bits : Int) (h : validB ns (ps.length : Int) = true) (hb : t.size + ps.length + 1 ≤ 1048576) (hn : ns.length < 4398046511104) : ∀ (d i : Nat) (P : List Int), i ≤ ps.length → ps.length - i = d → P.length = ps.length + 1 → (∀ j : Nat, j < i → rd P (j : Int) = plc ps.length (chB bits) (j : Int)) →
    Ev (fun k => monikerlaw4_TreeBlind.l0 k bits (sp ps (chB bits) i) P ps (ps.length : Int) (i : Int) t ps ns) true
  | 0, i, P, hi, hd, hP, hp => by
    obtain rfl : i = ps.length := by omega
    exact blind_end t bits h hb hn P hP hp
  | d + 1, i, P, hi, hd, hP, hp => by
    refine Ev.step (fun k => l0_round k bits t ps ns P i (by omega) (by omega) (by omega)) (blind_l0 t bits h hb hn d (i + 1) _ (by omega) (by omega) (by rw [List.length_set]; exact hP) (fun j hj => ?_))
    rw [rd_put (by omega)]
    split
    · rename_i e
      rw [e]
    · exact hp j (by omega)
theorem Blind_is (t : ByteArray) (ps : List S61) (ns : List S47) (bits : Int) (hb : t.size + ps.length + 1 ≤ 1048576) (hn : ns.length < 4398046511104) (hk : ∀ x ∈ ns, 0 ≤ x.f0 ∧ x.f0 ≤ 255) : Ev (fun k => monikerlaw4_TreeBlind.f k t ps ns bits) true := by
  obtain ⟨v, hv⟩ : ∃ v, validB ns (ps.length : Int) = v := ⟨_, rfl⟩
  have h1 := RValid_is ns (by omega) hk (ps.length : Int)
  have h2 := Valid_is ns (by omega) (ps.length : Int)
  rw [hv] at h1 h2
  unfold monikerlaw4_TreeBlind.f
  refine Ev.bind h1 ?_
  cases v with
  | true =>
    simp only [if_true]
    have hw : wrap64 ((ps.length : Int) + 1) = ((ps.length + 1 : Nat) : Int) := by rw [w64 (by omega) (by omega)]; rfl
    have q1 : (0 : Int) ≤ ((ps.length + 1 : Nat) : Int) := by omega
    have q2 : ps.length + 1 ≤ 35184372088832 := Nat.le_trans (show ps.length + 1 ≤ 1048577 by omega) (by decide)
    simp only [hw, if_pos q1, Int.toNat_natCast, if_pos q2]
    exact blind_l0 t bits hv hb hn ps.length 0 (List.replicate (ps.length + 1) 0) (by omega) (by omega) (by rw [List.length_replicate]) (fun j hj => by omega)
  | false =>
    simp only [Bool.false_eq_true, if_false]
    exact Ev.bind h2 (Ev.now _)
end Go.Proofs.Ytodldpdnhcafpaa.Q

namespace Go.Proofs.Ytodldpdnhcafpaa.O
open Go.ChangeShapes Go.WideShapes Go.Deep Go.Proofs.YtodldpdnhcafpaaW.PrintWords

/-- What a value of type t that came in is, as a Lean value of kind d; and what is known of it. -/
def Opens {α : Type} (P : Program) (t : TypeId) (d : Kd α) (B : α → Prop) : Prop :=
  ∀ {H : Type} {enc : TypeId × Value → H} {w : World} {base : Nat} {spare : Nat → Bool} {held : Bool} {fuel : Nat} {cs : List Value} {x : DataW H × List MemPlace},
    DataW.trod enc P w base spare held fuel t cs = some x → (∀ n ∈ x.1.weights P t, n ≤ reachBytes) → ∃ a, d.K w a cs ∧ B a

theorem opens_int {P : Program} {t : TypeId} {k : IntKind} (hu : P.underlying t = some (.int k)) : Opens P t (Kd.int k) (fun n => (Lit.int k n).wf = true) := fun h _ => by
  obtain ⟨n, rfl, rfl, hw⟩ := DataW.trod_int hu h
  exact ⟨n, rfl, hw⟩
theorem mem_weightsAll {H : Type} {P : Program} {e : TypeId} : ∀ {l : List (DataW H)} {y : DataW H}, y ∈ l → ∀ n ∈ y.weights P e, n ∈ DataW.weightsAll P e l
  | y0 :: l, y, h, n, hn => by
    simp only [DataW.weightsAll, List.mem_append]
    rcases List.mem_cons.1 h with rfl | h
    · exact .inl hn
    · exact .inr (mem_weightsAll h n hn)

/-- A slice that came in, its address and capacity told. -/
theorem open_row {α : Type} {P : Program} {t e : TypeId} {d : Kd α} {B : α → Prop} (hu : P.underlying t = some (.slice e)) (he : Opens P e d B) (hc : P.cellsOf e = d.sz)
    {H : Type} {enc : TypeId × Value → H} {w : World} {base : Nat} {spare : Nat → Bool} {held : Bool} {fuel : Nat} {A : Option Addr} {n c : Nat} {x : DataW H × List MemPlace}
    (h : DataW.trod enc P w base spare held fuel t [.slice A n c] = some x) (hw : ∀ n ∈ x.1.weights P t, n ≤ reachBytes) :
    ∃ xs : List α, xs.length = n ∧ d.C w A n xs ∧ n ≤ c ∧ (A = none → c = 0) ∧ (∀ a ∈ xs, B a) ∧ n * P.bytesOf e ≤ 140737488351232 := by
  rcases open_slice hu h with ⟨hcs, rfl⟩ | ⟨a, len, cap, m, fu, D, Pl, hcs, hb, hl, hm, hmm, rfl, hel⟩
  · simp only [List.cons.injEq, Value.slice.injEq, and_true] at hcs
    obtain ⟨rfl, rfl, rfl⟩ := hcs
    exact ⟨[], rfl, ⟨rfl, by omega, fun h0 => absurd h0 (by omega)⟩, by omega, fun _ => rfl, (fun a ha => by cases ha), by omega⟩
  · simp only [List.cons.injEq, Value.slice.injEq, and_true] at hcs
    obtain ⟨rfl, rfl, rfl⟩ := hcs
    have hlm : n ≤ m := by rw [hmm]; split <;> omega
    have hex : ∀ i, i < n → ∃ v : α, (∃ cs, d.K w v cs ∧ ∀ j u, cs[j]? = some u → w.cell? (a.add (i * d.sz + j)) = some u) ∧ B v := by
      intro i hi
      obtain ⟨cs', hc1, hc2⟩ := hel i (by omega)
      have hmem : D i ∈ (List.range n).map D := List.mem_map.2 ⟨i, List.mem_range.2 hi, rfl⟩
      obtain ⟨v, hv, hB⟩ := he hc2 (fun q hq => hw q (by
        simp only [DataW.weights, hu, List.mem_cons, List.mem_append]
        exact .inr (.inl (mem_weightsAll hmem q hq))))
      refine ⟨v, ⟨cs', hv, fun j u hj => ?_⟩, hB⟩
      obtain ⟨_, hcl, hat⟩ := World.cells?_some hc1
      have hjl : j < cs'.length := (List.getElem?_eq_some_iff.1 hj).1
      have := hat j (by omega)
      rw [hc] at this
      rw [← Go.Deep.add_add, this, hj]
    have key : ∀ k, k ≤ n → ∃ xs : List α, xs.length = k ∧ (∀ j p, xs[j]? = some p → (∃ cs, cs.length = d.sz ∧ d.K w p cs ∧ ∀ i u, cs[i]? = some u → w.cell? (a.add (j * d.sz + i)) = some u) ∧ B p) := by
      intro k
      induction k with
      | zero => intro _; exact ⟨[], rfl, fun j p hj => by simp at hj⟩
      | succ k ih =>
        intro hk
        obtain ⟨xs, hx, hxs⟩ := ih (by omega)
        obtain ⟨v, ⟨cs, hv, hcell⟩, hB⟩ := hex k (by omega)
        refine ⟨xs ++ [v], by simp [hx], fun j p hj => ?_⟩
        rcases Nat.lt_or_ge j k with hjk | hjk
        · rw [List.getElem?_append_left (by omega)] at hj
          exact hxs j p hj
        · have hjl := (List.getElem?_eq_some_iff.1 hj).1
          rw [List.length_append, List.length_singleton] at hjl
          obtain rfl : j = k := by omega
          have hp : v = p := by simpa [List.getElem?_append_right, hx] using hj
          subst hp
          exact ⟨⟨cs, d.K_len hv, hv, hcell⟩, hB⟩
    obtain ⟨xs, hx, hxs⟩ := key n (Nat.le_refl _)
    refine ⟨xs, hx, ⟨hx, by have : maxLen = 9223372036854775807 := rfl; omega, fun _ => ⟨a, rfl, fun j p hj => (hxs j p hj).1⟩⟩, hl, (fun h => by cases h), fun v hv => ?_, ?_⟩
    · obtain ⟨j, hj, rfl⟩ := List.mem_iff_getElem.1 hv
      exact (hxs j _ (List.getElem?_eq_getElem hj)).2
    · have := hw ((((List.range n).map D).length + ((List.range (m - n)).map fun j => D (n + j)).length) * P.bytesOf e) (by
        simp only [DataW.weights, hu]
        exact List.mem_cons_self)
      simp only [List.length_map, List.length_range] at this
      have h2 : n * P.bytesOf e ≤ (n + (m - n)) * P.bytesOf e := Nat.mul_le_mul_right _ (by omega)
      have h3 : reachBytes = 140737488351232 := rfl
      omega

end Go.Proofs.Ytodldpdnhcafpaa.O
