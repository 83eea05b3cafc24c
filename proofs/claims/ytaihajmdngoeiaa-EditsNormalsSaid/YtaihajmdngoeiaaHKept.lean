import Derived.Test.YtaihajmdngoeiaaF1
import Derived.Test.YtaihajmdngoeiaaF7
import Derived.Test.YtaihajmdngoeiaaHLent
import Derived.Test.YtaihajmdngoeiaaQSame
namespace Go.Proofs.Ytaihajmdngoeiaa.H
open Go.RowKit Go.Proofs.YtaihajmdngoeiaaW.PrintWords Go.Proofs.YtaihajmdngoeiaaW.PrintLast Go.Proofs.YtaihajmdngoeiaaW.PrintMore
open Go.Proofs.Ytaihajmdngoeiaa.F
attribute [local go_sem high] eqA42
set_option linter.unusedVariables false
set_option linter.unusedSimpArgs false

theorem Kd.C_lent {w : World} {A : Option Addr} {l : List S42} (h : Kd.C k42 w A (l.length + 3) (l ++ marks)) : Kd.C k42 w A l.length l := by
  have h' : Kd.C k42 w A (l ++ marks).length (l ++ marks) := by rw [List.length_append]; exact h
  have h2 := Kd.C_take (m := l.length) h' (by simp)
  simpa using h2

set_option maxHeartbeats 1000000 in
theorem kept_calls (A0 : Option Addr) (A1 : Option Addr) (c1 : Nat) (l : List S42) (w : World) (hr : Kd.C k42 w A0 (l.length + 3) (l ++ marks)) (hr1 : Kd.C k42 w A1 l.length l) (hc1 : l.length ≤ c1) (hl : l.length ≤ 4398046511104) :
    Calls Try.prog 18 #[.slice A0 l.length (l.length + 3), .slice A1 l.length c1] w fun e w' => e = .returned (.bool true) ∧ Drawn0 w w' := by
  have hu42 := Try.underlying42
  obtain ⟨k, hk⟩ := (Q.same_is l (by omega)).rounds
  have HK := Aside0.mk hk
  have r0 : rd_T42 (l ++ marks) (l.length : Int) = ⟨-9, 0, ⟨#[114, 111, 111, 109]⟩⟩ := by simp [rd_T42, marks]
  have r1 : rd_T42 (l ++ marks) ((l.length : Int) + 1) = ⟨-8, 0, ⟨#[]⟩⟩ := by
    rw [rd_T42, show ((l.length : Int) + 1).toNat = l.length + 1 by omega]; simp [marks]
  have r2 : rd_T42 (l ++ marks) ((l.length : Int) + 2) = ⟨0, -7, ⟨#[]⟩⟩ := by
    rw [rd_T42, show ((l.length : Int) + 2).toNat = l.length + 2 by omega]; simp [marks]
  obtain ⟨ad, e0, x00, x01, x02⟩ := at_T42 hr (l.length : Int) (by omega) (by omega)
  subst e0
  obtain ⟨ad', e1, x10, x11, x12⟩ := at_T42 hr ((l.length : Int) + 1) (by omega) (by omega)
  cases e1
  obtain ⟨ad', e2, x20, x21, x22⟩ := at_T42 hr ((l.length : Int) + 2) (by omega) (by omega)
  cases e2
  rw [r0] at x00 x01 x02
  rw [r1] at x10 x11 x12
  rw [r2] at x20 x21 x22
  clear r0 r1 r2
  simp only [Int.toNat_natCast] at x00 x01 x02
  rw [show ((l.length : Int) + 1).toNat = l.length + 1 by omega] at x10 x11 x12
  rw [show ((l.length : Int) + 2).toNat = l.length + 2 by omega] at x20 x21 x22
  have HS := Aside0.mk (Kd.C_lent hr)
  have HR := Aside0.mk hr
  have HR1 := Aside0.mk hr1
  have HC1 := Aside0.mk hc1
  clear hk hr hr1 hc1
  go_enter Try.func18, Try.ntmps18
  go_wp2_with ((with_reducible refine gate_callee (f := 21) rfl ?_); refine goesL_ (some 8) rfl rfl Try.func21 (by kernel_rfl) rfl #[.slice (some ad) l.length (l.length + 3), .slice A1 l.length c1] rfl (by (try simp only [List.map_toArray, List.map_cons, List.map_nil]); first | done | rfl) ?_; (with_reducible refine (monikerplain_SameEdits.calls k _ _ l _ _ l true _ HS.out (by omega) HR1.out HC1.out HK.out).mono ?_); rintro e w' ⟨rfl, ⟨nd, rfl⟩⟩; refine ⟨_, rfl, ?_⟩)
  go_ret
  exact ⟨rfl, ⟨_, rfl⟩⟩
end Go.Proofs.Ytaihajmdngoeiaa.H
