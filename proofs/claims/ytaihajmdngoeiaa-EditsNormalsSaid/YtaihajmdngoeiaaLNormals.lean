import Derived.Test.YtaihajmdngoeiaaQNormal
import Derived.Test.YtaihajmdngoeiaaHKept
import Derived.Test.YtaihajmdngoeiaaHArgs
namespace Go.Proofs.Ytaihajmdngoeiaa.L
open Go.RowKit Go.Proofs.YtaihajmdngoeiaaW.PrintWords Go.Proofs.YtaihajmdngoeiaaW.PrintLast Go.Proofs.YtaihajmdngoeiaaW.PrintMore
open Go.Proofs.Ytaihajmdngoeiaa.F Go.Proofs.Ytaihajmdngoeiaa.H
set_option linter.unusedVariables false
set_option linter.unusedSimpArgs false

set_option maxHeartbeats 1000000 in
theorem normals_walk (a0 : ByteArray) (A1 : Option Addr) (c1 : Nat) (l : List S42) (w : World) (hs : a0.size ≤ 140737488351232) (hr : Kd.C k42 w A1 l.length l) (hc : l.length ≤ c1) (hn : A1 = none → c1 = 0) (hB : ∀ x ∈ l, B42 x) (hb : l.length * 32 ≤ 140737488351232) :
    Calls Try.prog 7 #[.string a0, .slice A1 l.length c1] w fun e w' => e = .returned (.bool true) ∧ Below w.heap.size w w' := by
  obtain ⟨k, hk⟩ := (Q.Normal_is a0 hs l (fun x hx => (hB x hx).2.2)).rounds
  obtain ⟨k', hk'⟩ := (Q.RNormal_is a0 hs l (fun x hx => (hB x hx).2.2)).rounds
  obtain ⟨r, n, hrn⟩ : ∃ r n, Q.Nspec a0 l = (r, n) := ⟨_, _, rfl⟩
  simp only [hrn] at hk hk'
  clear hrn hs hB
  have HK := Aside0.mk hk
  have HK' := Aside0.mk hk'
  have HR := Aside0.mk hr
  have HC := Aside0.mk hc
  have HN := Aside0.mk hn
  clear hk hk' hr hc hn
  go_enter Try.func7, Try.ntmps7
  go_wp2_with fail
  refine (lent_calls A1 c1 l _ HR.out HC.out HN.out hb).mono ?_
  rintro e w1 ⟨Al, rfl, hC1, hB1⟩
  have HL := Aside0.mk hC1
  have HB1 := Aside0.mk hB1
  clear hC1 hB1
  go_wp2_with fail
  refine (edits_Normal.calls k a0 Al (l.length + 3) l _ _ _ (Kd.C_lent HL.out) (by omega) HK.out).mono ?_
  rintro e w2 ⟨vx, rfl, hx, hb2⟩
  obtain ⟨Ax, cx, rfl, hcx, hCx⟩ := Kd.R_reads hx
  have HX := Aside0.mk hCx
  have HCX := Aside0.mk hcx
  have HB2 := Aside0.mk hb2
  clear hb2 hx hCx hcx
  go_wp2_with fail
  refine (monikerref1_Normal.calls k' a0 A1 c1 l _ _ _ (Kd.C_below (Kd.C_below HR.out HB1.out) HB2.out) HC.out HK'.out).mono ?_
  rintro e w3 ⟨vy, rfl, hy, hb3⟩
  obtain ⟨Ay, cy, rfl, hcy, hCy⟩ := Kd.R_reads hy
  have HY := Aside0.mk hCy
  have HCY := Aside0.mk hcy
  have HB3 := Aside0.mk hb3
  clear hb3 hy hCy hcy
  go_wp2_with fail
  obtain ⟨ks, hks⟩ := (Q.same_is r (Kd.C_max HX.out)).rounds
  have HS := Aside0.mk hks
  clear hks
  refine (monikerplain_SameEdits.calls ks Ax cx r Ay cy r true _ (Kd.C_below HX.out HB3.out) HCX.out HY.out HCY.out HS.out).mono ?_
  rintro e w4 ⟨rfl, hb4⟩
  have HB4 := Aside0.mk hb4.below
  clear hb4
  go_wp2_with fail
  refine (kept_calls Al A1 c1 l _ (Kd.C_below (Kd.C_below (Kd.C_below HL.out HB2.out) HB3.out) HB4.out) (Kd.C_below (Kd.C_below (Kd.C_below (Kd.C_below HR.out HB1.out) HB2.out) HB3.out) HB4.out) HC.out (by omega)).mono ?_
  rintro e w5 ⟨rfl, hb5⟩
  have HB5 := Aside0.mk hb5.below
  clear hb5
  go_wp2_with fail
  go_ret
  refine ⟨rfl, ?_⟩
  have s1 := HB1.out.size
  have s2 := HB2.out.size
  have s3 := HB3.out.size
  have s4 := HB4.out.size
  exact below_then (below_then (below_then (below_then HB1.out s1 HB2.out) (Nat.le_trans s1 s2) HB3.out) (Nat.le_trans s1 (Nat.le_trans s2 s3)) HB4.out) (Nat.le_trans s1 (Nat.le_trans s2 (Nat.le_trans s3 s4))) HB5.out
end Go.Proofs.Ytaihajmdngoeiaa.L
