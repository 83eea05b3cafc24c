/- The law ConstArith of package monikerlaw holds of the given program: called with any arguments that can be read as data it returns true, and its arguments read behind the call as before. Conditions: those of the given row, no others. -/
import Derived.Test.YteklmgmhkmdddaaDoorZArith2
import Derived.Test.YteklmgmhkmdddaaDoorRows
import Derived.ProofKit
import Derived.LaidMore
import Derived.LaidLaws
import Derived.OpenShut
import Derived.Stop.Joined
import Derived.Test.YteklmgmhkmdddaaDoorCards
import Derived.Test.YteklmgmhkmdddaaDoorTie
import Derived.WalkKit
import Derived.ShutString
import Derived.ChangeOld
import Derived.Below
import Derived.SizedLaws
import Derived.SevenTiedAt
-- The table 'signs' as the row's condition lays it
namespace Go.Proofs.YteklmgmhkmdddaaDoor.H
open Go.ChangeShapes Go.WideShapes Go.ChangeAt Go.RowKit Go.Proofs.YteklmgmhkmdddaaDoor.S
set_option linter.unusedVariables false
set_option linter.unusedSimpArgs false

theorem gSigns : Tryd.prog.globalNamed "moniker/consts.signs" = some 0 := by kernel_rfl
theorem tSigns : (Tryd.prog.globals[0]?).map (·.type) = some 60 := by kernel_rfl
def lookB (l : List (DataW Unit)) (j : Nat) : Option Bool := match l[j]? with | some (.lit (.bool b)) => some b | _ => none
def look (d : DataW Unit) (op j : Nat) : Option Bool := match d with | .agg l => (match l[op]? with | some (.agg m) => lookB m j | _ => none) | _ => none
def lookOk : Bool := (List.range 80).all fun op => (List.range 3).all fun j => look Rows.laid_moniker_consts_signs op j == some (sgB (op : Int) (j : Int))
theorem look_ok : lookOk = true := by kernel_rfl
theorem look_at (op j : Nat) (h : op < 80) (hj : j < 3) : look Rows.laid_moniker_consts_signs op j = some (sgB (op : Int) (j : Int)) := by
  have h1 := List.all_eq_true.1 look_ok op (List.mem_range.2 h)
  have h2 := List.all_eq_true.1 h1 j (List.mem_range.2 hj)
  exact beq_iff_eq.1 h2
theorem sgc59 : Tryd.prog.cellsOf 59 = 3 := by kernel_rfl
theorem sgc4 : Tryd.prog.cellsOf 4 = 1 := by kernel_rfl
theorem sg_of_laid {W : World} (h : laidMetH Tryd.prog [("moniker/consts.signs", Rows.laid_moniker_consts_signs)] W) : SG W := by
  rw [MakeChecks.laidMetH_plain _ _ _ (by kernel_rfl)] at h
  obtain ⟨ps, ⟨g0, t0, cs0, f0, p0, q0, hg0, ht0, hv0, hd0, _, _⟩, _, _⟩ := h
  obtain rfl := Option.some.inj (gSigns.symm.trans hg0)
  obtain rfl := Option.some.inj (tSigns.symm.trans ht0)
  obtain ⟨xs, m1, rfl, hx1, hlen, hn, hel⟩ := DataW.trod_array Tryd.underlying60 hd0
  simp only [Prod.mk.injEq] at hx1
  intro op j hop hj
  have e1 := hel op hop
  rw [List.getElem?_eq_getElem (by omega), sgc59] at e1
  obtain ⟨ys, m2, rfl, hy, hlen2, hn2, hel2⟩ := DataW.trod_array Tryd.underlying59 e1
  have e2 := hel2 j hj
  rw [List.getElem?_eq_getElem (by omega), sgc4] at e2
  obtain ⟨b, eb, ey⟩ := DataW.trod_bool Tryd.underlying4 e2
  have hb : look Rows.laid_moniker_consts_signs op j = some b := by
    rw [hx1.1]
    have a1 : (xs.map (·.1))[op]? = some (DataW.agg (ys.map (·.1))) := by
      rw [List.getElem?_map, List.getElem?_eq_getElem (by omega), hy]
      rfl
    have a2 : (ys.map (·.1))[j]? = some (DataW.lit (.bool b)) := by
      rw [List.getElem?_map, List.getElem?_eq_getElem (by omega), ey]
      rfl
    unfold look lookB
    simp only [a1, a2]
  rw [look_at op j hop hj] at hb
  have hcell := World.var?_cell hg0 hv0 (op * 3 + j)
  rw [hcell]
  have hc : cs0.toList[op * 3 + j]? = some (.bool b) := by
    have e3 : ((cs0.toList.drop (op * 3)).take 3).drop (j * 1) = ((cs0.toList.drop (op * 3)).take 3).drop j := by rw [Nat.mul_one]
    rw [e3] at eb
    have e4 : (((cs0.toList.drop (op * 3)).take 3).drop j)[0]? = some (.bool b) := by
      have : ((((cs0.toList.drop (op * 3)).take 3).drop j).take 1)[0]? = some (.bool b) := by rw [eb]; rfl
      rwa [List.getElem?_take_of_lt (by omega)] at this
    rw [List.getElem?_drop, List.getElem?_take_of_lt (by omega), List.getElem?_drop] at e4
    simpa using e4
  rw [← Option.some.inj hb] at hc
  simpa using hc
end Go.Proofs.YteklmgmhkmdddaaDoor.H

-- The law ConstArith's walk, as the row asks it
namespace Go.Proofs.YteklmgmhkmdddaaDoor.L
open Go.RowKit Go.Proofs.YteklmgmhkmdddaaDoor.S
theorem in64a {n : Int} (h : (Lit.int .i64 n).wf = true) : Q.In64 n := by
  have := bounds_i64 h
  exact ⟨by omega, by omega⟩
theorem ariths_walk (a b n : Int) (w : World) (ha : (Lit.int .i64 a).wf = true) (hb : (Lit.int .i64 b).wf = true) (hn : (Lit.int .i64 n).wf = true) (hs : SG w) :
    Calls Tryd.prog 7 #[.int .i64 a, .int .i64 b, .int .i64 n] w fun e w' => e = .returned (.bool true) ∧ Below w.heap.size w w' :=
  arith_walk a b n w (in64a ha) (in64a hb) (in64a hn) hs
end Go.Proofs.YteklmgmhkmdddaaDoor.L


namespace Go.Proofs.YteklmgmhkmdddaaDoor.constArith
open Go.ChangeShapes Go.WideShapes Go.ChangeAt Go.RowKit Go.Proofs.YteklmgmhkmdddaaDoor
open Go.ChangeMaps (open_string shut_string)
set_option linter.unusedVariables false
theorem own : ownKnob Tryd.prog.godebug = none := by kernel_rfl
theorem laidOut : laidOutB Tryd.prog = true := by kernel_rfl
theorem door_met (os : Os) (args : Array Value) : laidMetH Tryd.prog [("moniker/consts.signs", Rows.laid_moniker_consts_signs)] ((World.doorLaid Tryd.prog 20 os).forCall (fun _ _ => 0) ⟨#[], args, []⟩).memory :=
  laidMetH_of_parts3 (fuel := 8) (laidMet_of_run' 8 (by kernel_rfl) (by kernel_rfl)) (by kernel_rfl) (by kernel_rfl)
set_option maxRecDepth 100000 in
theorem lifted (os : Os) (started : os.Started) (H : Type) (enc : TypeId × Value → H) :
    ReturnsInHanded {} Tryd.checked os 7 .any (fun w args => (Rows.constArithSpec.pre enc Tryd.prog Tryd.f7 [] false w args ∧ laidMetH Tryd.prog [("moniker/consts.signs", Rows.laid_moniker_consts_signs)] w) ∧ sizedMet enc Tryd.prog Tryd.f7 (OpenSpec.ofChange Rows.constArithSpec) false w args) (Rows.constArithSpec.post enc Tryd.prog Tryd.f7 false true false false) := by
  refine returnsInHanded_of_change_and (C := Tryd.checked) (X := fun w _ => laidMetH Tryd.prog [("moniker/consts.signs", Rows.laid_moniker_consts_signs)] w) (fun _ _ _ hh h => h.of_heap hh) own started (by kernel_rfl) Tryd.func7
    (ChangeSpec.witness_shaped (enc := enc) (C := Tryd.checked) (os := os) (X := fun w _ => laidMetH Tryd.prog [("moniker/consts.signs", Rows.laid_moniker_consts_signs)] w) false (World.doorLaid Tryd.prog 20 os) #[.int .i64 0, .int .i64 0, .int .i64 0] 8 rfl (World.shaped_of_RefB (by kernel_rfl) (by kernel_rfl)) (by kernel_rfl) (by kernel_rfl) (by kernel_rfl) (door_met os _)) ?_
  intro W base args ds gs before hval0 hW hcnd hsz0 hLaid _
  have hsz : (DataW.weightsEach Tryd.prog (Tryd.f7.params.toList ++ Rows.constArithSpec.plain.varTypes Tryd.prog) (ds ++ gs)).all (· ≤ reachBytes) = true := hsz0
  have hval : ∀ (j : Nat) t v, Tryd.f7.params[j]? = some t → args[j]? = some v → Value.okWide Tryd.prog W .any base t v := hval0
  have hW' := hW
  obtain ⟨p, q, hA0, hV, rfl, hfz, hnd⟩ := hW
  have hA : DataW.TrodAll enc Tryd.prog W 0 (fun _ => true) true Tryd.f7.params.toList args.toList ds p := hA0
  rw [Tryd.params7] at hA hval hsz
  obtain ⟨v0, vs0, d0, ds0, p0, q0, hargs, rfl, rfl, h0, r0⟩ := trodAll_cons hA
  obtain ⟨v1, vs1, d1, ds1, p1, q1, rfl, rfl, rfl, h1, r1⟩ := trodAll_cons r0
  obtain ⟨v2, vs2, d2, ds2, p2, q2, rfl, rfl, rfl, h2, r2⟩ := trodAll_cons r1
  obtain ⟨rfl, rfl, rfl⟩ := trodAll_nil r2
  obtain rfl : args = #[v0, v1, v2] := by cases args; simp_all
  obtain ⟨rfl, rfl⟩ := trodVars_none hV
  obtain ⟨a0, rfl, rfl, rfl, w0⟩ := open_int Tryd.underlying2 (hval 0 2 v0 rfl rfl) h0
  obtain ⟨a1, rfl, rfl, rfl, w1⟩ := open_int Tryd.underlying2 (hval 1 2 v1 rfl rfl) h1
  obtain ⟨a2, rfl, rfl, rfl, w2⟩ := open_int Tryd.underlying2 (hval 2 2 v2 rfl rfl) h2
  clear hA0 hval0 hsz0 hsz
  refine (L.ariths_walk a0 a1 a2 W w0 w1 w2 (Go.Proofs.YteklmgmhkmdddaaDoor.H.sg_of_laid hLaid)).mono fun e W' ⟨he, bel⟩ => ?_
  subst he
  exact ⟨_, rfl, _, _, _, [], _, [], hW', trodAll_mk1 (shut_bool Tryd.underlying4 _), (trodAll_cons_mk (shut_int Tryd.underlying2 w0) (trodAll_cons_mk (shut_int Tryd.underlying2 w1) (trodAll_cons_mk (shut_int Tryd.underlying2 w2) trodAll_mk0))), rfl, bel.frame _, fun h => by cases h⟩
theorem over : Rows.constArithRow.holds Tryd.pinned (OpenSpec.ofChange Rows.constArithSpec) :=
  OpenClaim.holds_of_wide 7 Tryd.f7 rfl rfl rfl rfl rfl rfl rfl ⟨rfl, rfl, rfl, rfl, rfl⟩ rfl rfl rfl rfl rfl (by kernel_rfl) Tryd.func7 (by kernel_rfl)
    (of_decide_eq_true (by kernel_rfl)) (by unfold Func.isWrapper; first | (rw [if_pos (by decide +kernel)]; kernel_rfl) | (rw [if_neg (by decide +kernel)]; exact ⟨rfl, rfl⟩))
    (fun os started H enc _ => lifted os started H enc)
set_option maxRecDepth 100000 in
theorem proved : Rows.ConstArithCardSaid :=
  Claim7.holds_tied_plain_at .later [] [.data] true (true, "084c5a8330fa9b7c319350bbe20c71b9281869b36a6e89ffd28a9c2889556acc") false
    over (fun _ h => by cases h) (by kernel_rfl) (fun _ h => by cases h) constArith_row_tie rfl ⟨rfl, rfl⟩ (by kernel_rfl) rfl
    (fun f fn hf hfn => by
      obtain rfl : f = 7 := Option.some.inj ((show Tryd.prog.funcNamed "moniker/monikerlaw8.ConstArith" = some 7 by kernel_rfl).symm.trans hf) |>.symm
      obtain rfl : fn = Tryd.f7 := (Option.some.inj (Tryd.func7.symm.trans hfn)).symm
      exact ⟨by kernel_rfl, fun j t ht => by
        rw [Tryd.params7] at ht
        have hm : t ∈ [2, 2, 2] := by simpa using Array.mem_of_getElem? ht
        have hall : ([2, 2, 2].all fun u => !Tryd.prog.wantsStandIn u) = true := by kernel_rfl
        exact (show Tryd.prog.wantsStandIn t = false by simpa using List.all_eq_true.1 hall t hm)⟩)
    (by kernel_rfl)
#print axioms proved
end Go.Proofs.YteklmgmhkmdddaaDoor.constArith
namespace Go.Proofs.YteklmgmhkmdddaaDoor
/-- The card, under a short name, for the claim. -/
theorem constArith_holds : Rows.ConstArithCardSaid := constArith.proved
end Go.Proofs.YteklmgmhkmdddaaDoor
