import Derived.Test.YtodldpdnhcafpaaHLent
import Derived.Test.YtodldpdnhcafpaaQSame
import Derived.Test.YtodldpdnhcafpaaF1
import Derived.Test.YtodldpdnhcafpaaF2
namespace Go.Proofs.Ytodldpdnhcafpaa.H
open Go.RowKit Go.Proofs.YtodldpdnhcafpaaW.PrintWords Go.Proofs.YtodldpdnhcafpaaW.PrintLast Go.Proofs.YtodldpdnhcafpaaW.PrintMore
open Go.Proofs.Ytodldpdnhcafpaa.F
attribute [local go_sem high] eqA61 eqA47
set_option linter.unusedVariables false
set_option linter.unusedSimpArgs false

set_option maxHeartbeats 4000000 in
set_option maxRecDepth 100000 in
theorem kept_calls (t t' : ByteArray) (A B A1 A2 : Option Addr) (c1 c2 : Nat) (ps : List S61) (ns : List S47) (w : World) (hL1 : Kd.C k61 w A (ps.length + 2) (ps ++ marks61)) (hL2 : Kd.C k47 w B (ns.length + 2) (ns ++ marks47))
    (hr1 : Kd.C k61 w A1 ps.length ps) (hc1 : ps.length ≤ c1) (hr2 : Kd.C k47 w A2 ns.length ns) (hc2 : ns.length ≤ c2) (hl1 : ps.length ≤ 5864062014805) (hl2 : ns.length ≤ 4398046511104) :
    Calls Try.prog 21 #[.agg #[.string t, .slice A ps.length (ps.length + 2), .slice B ns.length (ns.length + 2)], .agg #[.string t', .slice A1 ps.length c1, .slice A2 ns.length c2]] w fun e w' => e = .returned (.bool true) ∧ Below w.heap.size w w' := by
  have hu61 := Try.underlying61
  have hu47 := Try.underlying47
  have hu27 := Try.underlying27
  have hu25 := Try.underlying25
  obtain ⟨k1, hk1⟩ := (Q.SameTokens_is ps (by omega)).rounds
  obtain ⟨k2, hk2⟩ := (Q.SameTree_is ns (by omega)).rounds
  have r0 : rd_T61 (ps ++ marks61) (ps.length : Int) = ⟨0, -5, -6⟩ := by simp [rd_T61, marks61]
  have r1 : rd_T61 (ps ++ marks61) ((ps.length : Int) + 1) = ⟨77, 0, 0⟩ := by
    rw [rd_T61, show ((ps.length : Int) + 1).toNat = ps.length + 1 by omega]; simp [marks61]
  have s0 : rd_T47 (ns ++ marks47) (ns.length : Int) = ⟨99, -3, 0, -4⟩ := by simp [rd_T47, marks47]
  have s1 : rd_T47 (ns ++ marks47) ((ns.length : Int) + 1) = ⟨0, 0, 12345, 0⟩ := by
    rw [rd_T47, show ((ns.length : Int) + 1).toNat = ns.length + 1 by omega]; simp [marks47]
  obtain ⟨a, e0, x00, x01, x02⟩ := at_T61 hL1 (ps.length : Int) (by omega) (by omega)
  subst e0
  obtain ⟨_, e1, x10, x11, x12⟩ := at_T61 hL1 ((ps.length : Int) + 1) (by omega) (by omega)
  cases e1
  obtain ⟨b, e0, y00, y01, y02, y03⟩ := at_T47 hL2 (ns.length : Int) (by omega) (by omega)
  subst e0
  obtain ⟨_, e1, y10, y11, y12, y13⟩ := at_T47 hL2 ((ns.length : Int) + 1) (by omega) (by omega)
  cases e1
  rw [r0] at x00 x01 x02
  rw [r1] at x10 x11 x12
  rw [s0] at y00 y01 y02 y03
  rw [s1] at y10 y11 y12 y13
  clear r0 r1 s0 s1
  simp only [Int.toNat_natCast] at x00 x01 x02 y00 y01 y02 y03
  rw [show ((ps.length : Int) + 1).toNat = ps.length + 1 by omega] at x10 x11 x12
  rw [show ((ns.length : Int) + 1).toNat = ns.length + 1 by omega] at y10 y11 y12 y13
  have p00w := Aside0.mk x00
  have p01w := Aside0.mk x01
  have p02w := Aside0.mk x02
  have p10w := Aside0.mk x10
  have p11w := Aside0.mk x11
  have p12w := Aside0.mk x12
  have m00w := Aside0.mk y00
  have m01w := Aside0.mk y01
  have m02w := Aside0.mk y02
  have m03w := Aside0.mk y03
  have m10w := Aside0.mk y10
  have m11w := Aside0.mk y11
  have m12w := Aside0.mk y12
  have m13w := Aside0.mk y13
  clear x00 x01 x02 x10 x11 x12 y00 y01 y02 y03 y10 y11 y12 y13
  have HS1 := Aside0.mk (C_lent61 hL1)
  have HS2 := Aside0.mk (C_lent47 hL2)
  have HR1 := Aside0.mk hr1
  have HR2 := Aside0.mk hr2
  have HC1 := Aside0.mk hc1
  have HC2 := Aside0.mk hc2
  have HK1 := Aside0.mk hk1
  have HK2 := Aside0.mk hk2
  clear hL1 hL2 hr1 hr2 hc1 hc2 hk1 hk2
  go_enter Try.func21, Try.ntmps21
  go_wp2_with (first
    | ((with_reducible refine gate_dst (N := 2) rfl ?_); refine box_event ?hg (N := 2) ?hd (cs := #[.string t, .slice (some a) ps.length (ps.length + 2), .slice (some b) ns.length (ns.length + 2)]) (t := 27) ?hr ?_; (case hd => rfl); (case hg => rfl); (case hr => first | (go_simp; done) | (go_simp; rfl)); intro gb1 hge w1 hbox hb; have BK1 := Aside0.mk hbox; have HB := Aside0.mk hb; clear hbox hge hb)
    | ((with_reducible refine gate_dst (N := 3) rfl ?_); refine box_event ?hg (N := 3) ?hd (cs := #[.string t', .slice A1 ps.length c1, .slice A2 ns.length c2]) (t := 27) ?hr ?_; (case hd => rfl); (case hg => rfl); (case hr => first | (go_simp; done) | (go_simp; rfl)); intro gb2 hge w2 hbox hb; have BK2 := Aside0.mk hbox; have n0_ := Aside0.mk (blk_below BK1.out hb); have n1_ := Aside0.mk (below_step HB.out hb); clear BK1; clear HB; have BK1 := n0_; have HB := n1_; clear n0_ n1_; clear hbox hge hb; have hxgb10 : w2.cell? ⟨gb1, 0, none⟩ = some (.string t) := (blk_cell BK1.out 0).trans rfl; have hxgb11 : w2.cell? ⟨gb1, 1, none⟩ = some (.slice (some a) ps.length (ps.length + 2)) := (blk_cell BK1.out 1).trans rfl; have hxgb12 : w2.cell? ⟨gb1, 2, none⟩ = some (.slice (some b) ns.length (ns.length + 2)) := (blk_cell BK1.out 2).trans rfl; have hxgb20 : w2.cell? ⟨gb2, 0, none⟩ = some (.string t') := (blk_cell BK2.out 0).trans rfl; have hxgb21 : w2.cell? ⟨gb2, 1, none⟩ = some (.slice A1 ps.length c1) := (blk_cell BK2.out 1).trans rfl; have hxgb22 : w2.cell? ⟨gb2, 2, none⟩ = some (.slice A2 ns.length c2) := (blk_cell BK2.out 2).trans rfl)
    | ((with_reducible refine gate_callee (f := 46) rfl ?_); refine goesL_ (some 11) rfl rfl Try.func46 (by kernel_rfl) rfl #[.slice (some a) ps.length (ps.length + 2), .slice A1 ps.length c1] rfl (by (try simp only [List.map_toArray, List.map_cons, List.map_nil]); first | done | rfl) ?_; (with_reducible refine (monikerplain_SameTokens.calls k1 _ _ ps _ _ ps true _ (Kd.C_below HS1.out HB.out) (by omega) (Kd.C_below HR1.out HB.out) HC1.out HK1.out).mono ?_); rintro e w' ⟨rfl, ⟨nd, rfl⟩⟩; refine ⟨_, rfl, ?_⟩)
    )
  refine (monikerplain_SameTree.calls k2 _ _ ns _ _ ns true _ (Kd.C_drewN (Kd.C_below HS2.out HB.out) _) (by omega) (Kd.C_drewN (Kd.C_below HR2.out HB.out) _) HC2.out HK2.out).mono ?_
  rintro e w3 ⟨rfl, hb⟩
  clear hxgb10 hxgb11 hxgb12 hxgb20 hxgb21 hxgb22
  have n0_ := Aside0.mk (blk_below (blk_drewN BK1.out nd) hb)
  have n1_ := Aside0.mk (blk_below (blk_drewN BK2.out nd) hb)
  have n2_ := Aside0.mk (below_step (pw_below_drewN HB.out nd) hb)
  clear BK1
  clear BK2
  clear HB
  have BK1 := n0_
  have BK2 := n1_
  have HB := n2_
  clear n0_ n1_ n2_
  clear hb
  have hxgb10 : w3.cell? ⟨gb1, 0, none⟩ = some (.string t) := (blk_cell BK1.out 0).trans rfl
  have hxgb11 : w3.cell? ⟨gb1, 1, none⟩ = some (.slice (some a) ps.length (ps.length + 2)) := (blk_cell BK1.out 1).trans rfl
  have hxgb12 : w3.cell? ⟨gb1, 2, none⟩ = some (.slice (some b) ns.length (ns.length + 2)) := (blk_cell BK1.out 2).trans rfl
  have hxgb20 : w3.cell? ⟨gb2, 0, none⟩ = some (.string t') := (blk_cell BK2.out 0).trans rfl
  have hxgb21 : w3.cell? ⟨gb2, 1, none⟩ = some (.slice A1 ps.length c1) := (blk_cell BK2.out 1).trans rfl
  have hxgb22 : w3.cell? ⟨gb2, 2, none⟩ = some (.slice A2 ns.length c2) := (blk_cell BK2.out 2).trans rfl
  have p00 := pw_cell_below HB.out p00w.out
  have p01 := pw_cell_below HB.out p01w.out
  have p02 := pw_cell_below HB.out p02w.out
  have p10 := pw_cell_below HB.out p10w.out
  have p11 := pw_cell_below HB.out p11w.out
  have p12 := pw_cell_below HB.out p12w.out
  have m00 := pw_cell_below HB.out m00w.out
  have m01 := pw_cell_below HB.out m01w.out
  have m02 := pw_cell_below HB.out m02w.out
  have m03 := pw_cell_below HB.out m03w.out
  have m10 := pw_cell_below HB.out m10w.out
  have m11 := pw_cell_below HB.out m11w.out
  have m12 := pw_cell_below HB.out m12w.out
  have m13 := pw_cell_below HB.out m13w.out
  go_wp2_with fail


  go_ret
  exact ⟨rfl, HB.out⟩
end Go.Proofs.Ytodldpdnhcafpaa.H
