import Derived.Test.YtaihajmdngoeiaaQShift
import Derived.Test.YtaihajmdngoeiaaHKept
import Derived.Test.YtaihajmdngoeiaaHArgs
namespace Go.Proofs.Ytaihajmdngoeiaa.L
open Go.RowKit Go.Proofs.YtaihajmdngoeiaaW.PrintWords Go.Proofs.YtaihajmdngoeiaaW.PrintLast Go.Proofs.YtaihajmdngoeiaaW.PrintMore
open Go.Proofs.Ytaihajmdngoeiaa.F Go.Proofs.Ytaihajmdngoeiaa.H
set_option linter.unusedVariables false
set_option linter.unusedSimpArgs false

set_option maxHeartbeats 1000000 in
theorem shifts_walk (A0 : Option Addr) (c0 : Nat) (l : List S42) (a1 : Int) (w : World) (hr : Kd.C k42 w A0 l.length l) (hc : l.length ≤ c0) (hn : A0 = none → c0 = 0) (_ : ∀ x ∈ l, B42 x) (hb : l.length * 32 ≤ 140737488351232) (_ : (Lit.int .i64 a1).wf = true) :
    Calls Try.prog 5 #[.slice A0 l.length c0, .int .i64 a1] w fun e w' => e = .returned (.bool true) ∧ Below w.heap.size w w' := by
  obtain ⟨k, hk⟩ := (Q.Shift_is l a1).rounds
  obtain ⟨k', hk'⟩ := (Q.RShift_is l a1).rounds
  obtain ⟨n, b, hnb⟩ : ∃ n b, Q.Shspec l a1 = (n, b) := ⟨_, _, rfl⟩
  simp only [hnb] at hk hk'
  clear hnb
  have HK := Aside0.mk hk
  have HK' := Aside0.mk hk'
  have HR := Aside0.mk hr
  have HC := Aside0.mk hc
  have HN := Aside0.mk hn
  clear hk hk' hr hc hn
  go_enter Try.func5, Try.ntmps5
  go_wp2_with fail
  refine (lent_calls A0 c0 l _ HR.out HC.out HN.out hb).mono ?_
  rintro e w1 ⟨Al, rfl, hC1, hB1⟩
  have HL := Aside0.mk hC1
  have HB1 := Aside0.mk hB1
  clear hC1 hB1
  go_wp2_with fail
  refine (edits_Shift.calls k Al (l.length + 3) l a1 _ _ _ (Kd.C_lent HL.out) (by omega) HK.out).mono ?_
  rintro e w2 ⟨rfl, hb2⟩
  have HB2 := Aside0.mk hb2
  clear hb2
  go_wp2_with fail
  refine (monikerref1_Shift.calls k' A0 c0 l a1 _ _ _ (Kd.C_below (Kd.C_below HR.out HB1.out) HB2.out) HC.out HK'.out).mono ?_
  rintro e w3 ⟨rfl, hb3⟩
  have HB3 := Aside0.mk hb3
  clear hb3
  go_wp2_with fail
  refine (kept_calls Al A0 c0 l _ (Kd.C_below (Kd.C_below HL.out HB2.out) HB3.out) (Kd.C_below (Kd.C_below (Kd.C_below HR.out HB1.out) HB2.out) HB3.out) HC.out (by omega)).mono ?_
  rintro e w4 ⟨rfl, hb4⟩
  have HB4 := Aside0.mk hb4.below
  clear hb4
  go_wp2_with fail
  go_ret
  refine ⟨rfl, ?_⟩
  exact below_then (below_then (below_then HB1.out HB1.out.size HB2.out) (Nat.le_trans HB1.out.size HB2.out.size) HB3.out) (Nat.le_trans HB1.out.size (Nat.le_trans HB2.out.size HB3.out.size)) HB4.out
end Go.Proofs.Ytaihajmdngoeiaa.L
