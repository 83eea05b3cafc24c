/- Texts of the proof of one law (Parses), part 1: functions printed as Lean functions with their walks, and what is proved of them. Conditions: those of each theorem. -/
import Derived.Test.YtaihajmdngoeiaaDoorZParses0
-- A text of this session's own program (wip/myprint.sh over a changed print tool): functions and their walks
namespace Go.Proofs.YtaihajmdngoeiaaDoor.F
open Go.RowKit Go.Proofs.YtaihajmdngoeiaaDoorW.PrintWords Go.Proofs.YtaihajmdngoeiaaDoorW.PrintLast Go.Proofs.YtaihajmdngoeiaaDoorW.PrintMore
attribute [local go_sem] max2_int min2_int max_two min_two max_three min_three max_four min_four   -- for this text's walks alone
set_option linter.unusedVariables false
set_option linter.unusedSimpArgs false

/-! ### edits_scanner_quoted: function 31 -/
mutual
def edits_scanner_quoted.l0 : Nat → List Int → ByteArray → Int → Bool → Option (ByteArray × ByteArray × Int × Bool)
  | 0, _, _, _, _ => none
  | k + 1, x3, x1000, x1001, x1002 => if x1002 = true then (some (strOfNums x3, x1000, x1001, x1002)) else (if x1001 = (x1000.size : Int) then (edits_scanner_quoted.j1 k x3 true x1000 x1001 x1002) else (if 0 ≤ x1001 then (if x1001 < (x1000.size : Int) then (edits_scanner_quoted.j1 k x3 ((bt x1000 x1001) == 10) x1000 x1001 x1002) else (none)) else (none)))
def edits_scanner_quoted.j1 : Nat → List Int → Bool → ByteArray → Int → Bool → Option (ByteArray × ByteArray × Int × Bool)
  | 0, _, _, _, _, _ => none
  | k + 1, x3, x33, x1000, x1001, x1002 => if x33 = true then (some (strOfNums x3, x1000, x1001, true)) else (if 0 ≤ x1001 then (if x1001 < (x1000.size : Int) then (if (bt x1000 x1001) = 34 then (some (strOfNums x3, x1000, wrap64 (x1001 + 1), x1002)) else (if (bt x1000 x1001) = 92 then (if (wrap64 (x1001 + 1)) = (x1000.size : Int) then (some (strOfNums x3, x1000, wrap64 (x1001 + 1), true)) else (if 0 ≤ (wrap64 (x1001 + 1)) then (if (wrap64 (x1001 + 1)) < (x1000.size : Int) then (if (bt x1000 (wrap64 (x1001 + 1))) = 34 then (edits_scanner_quoted.j2 k x3 (bt x1000 (wrap64 (x1001 + 1))) (bt x1000 (wrap64 (x1001 + 1))) ((bt x1000 (wrap64 (x1001 + 1))) == 34) x1000 (wrap64 (x1001 + 1)) x1002) else (edits_scanner_quoted.j2 k x3 (bt x1000 (wrap64 (x1001 + 1))) (bt x1000 (wrap64 (x1001 + 1))) ((bt x1000 (wrap64 (x1001 + 1))) == 92) x1000 (wrap64 (x1001 + 1)) x1002)) else (none)) else (none))) else (if x3.length < 140737488355328 then (edits_scanner_quoted.l0 k (x3 ++ [bt x1000 x1001]) x1000 (wrap64 (x1001 + 1)) x1002) else (none)))) else (none)) else (none))
def edits_scanner_quoted.j2 : Nat → List Int → Int → Int → Bool → ByteArray → Int → Bool → Option (ByteArray × ByteArray × Int × Bool)
  | 0, _, _, _, _, _, _, _ => none
  | k + 1, x3, x4, x86, x90, x1000, x1001, x1002 => if x90 = true then (if x3.length < 140737488355328 then (edits_scanner_quoted.l0 k (x3 ++ [x4]) x1000 (wrap64 (x1001 + 1)) x1002) else (none)) else (if x86 = 110 then (if x3.length < 140737488355328 then (edits_scanner_quoted.l0 k (x3 ++ [10]) x1000 (wrap64 (x1001 + 1)) x1002) else (none)) else (edits_scanner_quoted.l0 k x3 x1000 x1001 true))
end
def edits_scanner_quoted.f (k : Nat) (s0_0 : ByteArray) (s0_1 : Int) (s0_2 : Bool) : Option (ByteArray × ByteArray × Int × Bool) := (edits_scanner_byte.f s0_0 s0_1 s0_2 34).bind fun bt191 => (edits_scanner_quoted.l0 k ([] : List Int) bt191.1 bt191.2.1 bt191.2.2)
set_option maxHeartbeats 8000000 in
set_option maxRecDepth 100000 in
theorem edits_scanner_quoted.calls (k : Nat) (g : Nat) (s0_0 : ByteArray) (s0_1 : Int) (s0_2 : Bool) (r1 : ByteArray) (r2 : ByteArray) (r3 : Int) (r4 : Bool) (w0 w : World) (hI : IsS65 w0 w g s0_0 s0_1 s0_2) (hB : Below w0.heap.size w0 w) (h : edits_scanner_quoted.f k s0_0 s0_1 s0_2 = some (r1, r2, r3, r4)) :
    Calls Tryd.prog 31 #[.pointer (some ⟨g, 0, none⟩)] w fun e w' => e = .returned (.string r1) ∧ IsS65 w0 w' g r2 r3 r4 ∧ Below w0.heap.size w0 w' ∧ KeepBut w w' g none := by
  have HI0 := Aside0.mk hI
  have HK := Aside0.mk (KeepBut.refl w g none)
  have HL := Aside0.mk hB.size
  clear hI
  have HW0 := Aside0.mk hB.size
  have HB := Aside0.mk hB
  clear hB
  have H : ((edits_scanner_byte.f s0_0 s0_1 s0_2 34).bind fun bt191 => (edits_scanner_quoted.l0 k ([] : List Int) bt191.1 bt191.2.1 bt191.2.2)) = some (r1, r2, r3, r4) := h
  clear h
  replace H := Option.bind_eq_some_iff.mp H
  obtain ⟨⟨t191, t192, t193⟩, A20, H⟩ := H
  replace H : (edits_scanner_quoted.l0 k ([] : List Int) t191 t192 t193) = some (r1, r2, r3, r4) := H
  have A2 := Aside0.mk A20
  clear A20
  have H' := Aside0.mk H
  clear H
  go_enter Tryd.func31, Tryd.ntmps31
  go_wp2_with (first | (go_at_call 32; (with_reducible refine (edits_scanner_byte.calls g s0_0 s0_1 s0_2 34 t191 t192 t193 w0 _ ?side1 ?side2 A2.out).mono ?_); (case side1 => repeat (first | (with_reducible first | exact HI0.out | apply IsS65.alloc | apply IsS65.drewN | apply IsS65.drew | apply IsS65.set_0 | apply IsS65.set_1 | apply IsS65.set_2) | exact HI0.out)); (case side2 => repeat (first | (with_reducible first | exact HB.out | apply below_alloc | apply pw_below_drewN | apply below_drew1 | refine below_set ?_ (IsS65.ge HI0.out)) | exact HB.out)); rintro e w3 ⟨rfl, hi, hb, hk⟩; have n0_ := Aside0.mk (KeepBut.trans (by repeat (first | (with_reducible first | exact HK.out | apply KeepBut.set_ | apply keep_drewN | apply keep_drew | apply keep_alloc) | exact HK.out)) hk (.inl rfl)); have n1_ := Aside0.mk (hb); have n2_ := Aside0.mk (hi); clear HK; clear HB; clear HI0; have HK := n0_; have HB := n1_; have HI0 := n2_; clear n0_ n1_ n2_; (try clear hb); (try clear hb2); (try clear hk); (try clear hi)))
  repeat (go_quiet (first | (go_at_call 32; (with_reducible refine (edits_scanner_byte.calls g s0_0 s0_1 s0_2 34 t191 t192 t193 w0 _ ?side1 ?side2 A2.out).mono ?_); (case side1 => repeat (first | (with_reducible first | exact HI0.out | apply IsS65.alloc | apply IsS65.drewN | apply IsS65.drew | apply IsS65.set_0 | apply IsS65.set_1 | apply IsS65.set_2) | exact HI0.out)); (case side2 => repeat (first | (with_reducible first | exact HB.out | apply below_alloc | apply pw_below_drewN | apply below_drew1 | refine below_set ?_ (IsS65.ge HI0.out)) | exact HB.out)); rintro e w3 ⟨rfl, hi, hb, hk⟩; have n0_ := Aside0.mk (KeepBut.trans (by repeat (first | (with_reducible first | exact HK.out | apply KeepBut.set_ | apply keep_drewN | apply keep_drew | apply keep_alloc) | exact HK.out)) hk (.inl rfl)); have n1_ := Aside0.mk (hb); have n2_ := Aside0.mk (hi); clear HK; clear HB; clear HI0; have HK := n0_; have HB := n1_; have HI0 := n2_; clear n0_ n1_ n2_; (try clear hb); (try clear hb2); (try clear hk); (try clear hi))); try go_wp2_with (first | (go_at_call 32; (with_reducible refine (edits_scanner_byte.calls g s0_0 s0_1 s0_2 34 t191 t192 t193 w0 _ ?side1 ?side2 A2.out).mono ?_); (case side1 => repeat (first | (with_reducible first | exact HI0.out | apply IsS65.alloc | apply IsS65.drewN | apply IsS65.drew | apply IsS65.set_0 | apply IsS65.set_1 | apply IsS65.set_2) | exact HI0.out)); (case side2 => repeat (first | (with_reducible first | exact HB.out | apply below_alloc | apply pw_below_drewN | apply below_drew1 | refine below_set ?_ (IsS65.ge HI0.out)) | exact HB.out)); rintro e w3 ⟨rfl, hi, hb, hk⟩; have n0_ := Aside0.mk (KeepBut.trans (by repeat (first | (with_reducible first | exact HK.out | apply KeepBut.set_ | apply keep_drewN | apply keep_drew | apply keep_alloc) | exact HK.out)) hk (.inl rfl)); have n1_ := Aside0.mk (hb); have n2_ := Aside0.mk (hi); clear HK; clear HB; clear HI0; have HK := n0_; have HB := n1_; have HI0 := n2_; clear n0_ n1_ n2_; (try clear hb); (try clear hb2); (try clear hk); (try clear hi))))
  go_loopg [3] k (fun kq v3 w' => ∃ (x3_1 : List Int) (x1001_1 : Int) (x1002_1 : Bool), Aside0 (edits_scanner_quoted.l0 kq x3_1 t191 x1001_1 x1002_1 = some (r1, r2, r3, r4)) ∧ Aside0 (kq ≤ k) ∧ Aside0 (Kd.R (Kd.int .u8) 5 w' w.heap.size (fun _ => True) v3 x3_1) ∧ Aside0 (IsS65 w0 w' g t191 x1001_1 x1002_1) ∧ Aside0 (KeepBut w w' g none) ∧ Aside0 (Below w0.heap.size w0 w'))
  case atStart => exact ⟨(([] : List Int)), (t192), (t193), H', ⟨Nat.le_refl _⟩, ⟨by first | exact Kd.R_nil _ _ _ _ _ | exact Kd.N_nil _ _ _ _ _ | exact Kd.V_nil _ _ _ _ _ | exact Kd.Q_nil _ _ _ _ _ | exact Kd.S_nil _ _ _ _ _⟩, ⟨by repeat (first | (with_reducible first | exact HI0.out | apply IsS65.alloc | apply IsS65.drewN | apply IsS65.drew | apply IsS65.set_0 | apply IsS65.set_1 | apply IsS65.set_2) | exact HI0.out)⟩, ⟨by repeat (first | (with_reducible first | exact HK.out | apply KeepBut.set_ | apply keep_drewN | apply keep_drew | apply keep_alloc) | exact HK.out)⟩, ⟨by repeat (first | (with_reducible first | exact HB.out | apply below_alloc | apply pw_below_drewN | apply below_drew1 | refine below_set ?_ (IsS65.ge HI0.out)) | exact HB.out)⟩⟩
  case round =>
    clear H'
    try clear p2
    try clear c3
    obtain ⟨x3_1, x1001_1, x1002_1, HA, HK1, HO_3, HI0, HK, HB⟩ := hrel
    cases gk with
    | zero => exact absurd HA.out (by simp [edits_scanner_quoted.l0])
    | succ k1 =>
      have H := HA.out
      clear HA
      simp only [edits_scanner_quoted.l0] at H
      by_cases c4 : x1002_1 = true
      · subst c4
        have H1 : (some (strOfNums x3_1, t191, x1001_1, true)) = some (r1, r2, r3, r4) := by rw [if_pos rfl] at H; exact H
        clear H
        have H := H1
        clear H1
        simp only [Option.some.injEq, Prod.mk.injEq] at H
        obtain ⟨rfl, rfl, rfl, rfl⟩ := H
        obtain ⟨HGz5, hgz5⟩ := HI0.out
        have hcz5_0 := cellS65_0 HGz5
        have hcz5_1 := cellS65_1 HGz5
        have hcz5_2 := cellS65_2 HGz5
        have hfz5_0 := blk_frozen HGz5 0
        have hfz5_1 := blk_frozen HGz5 1
        have hfz5_2 := blk_frozen HGz5 2
        have hcv6s := own_string (P := Tryd.prog) Tryd.underlying59 Tryd.underlying5 Tryd.underlying9 (Kd.own_of_R (Kd.R_set HO_3.out HGz5 (by decide) 2 (.bool true)))
        have hcv6u := fun (n_ : Nat) (u_ : Value) => own_string (P := Tryd.prog) Tryd.underlying59 Tryd.underlying5 Tryd.underlying9 (Kd.own_of_R (Kd.R_set (Kd.R_drewN HO_3.out n_) (blk_drewN HGz5 n_) (by decide) 1 u_))
        have hcv6t := fun (n_ m_ : Nat) (u_ v_ : Value) => own_string (P := Tryd.prog) Tryd.underlying59 Tryd.underlying5 Tryd.underlying9 (Kd.own_of_R (Kd.R_set (Kd.R_drewN (Kd.R_set (Kd.R_drewN HO_3.out n_) (blk_drewN HGz5 n_) (by decide) 1 u_) m_) (blk_drewN (blk_put (blk_drewN HGz5 n_) 1 u_ rfl) m_) (by decide) 2 v_))
        clear HGz5 hgz5
        have hcv6 := own_string (P := Tryd.prog) Tryd.underlying59 Tryd.underlying5 Tryd.underlying9 (Kd.own_of_R HO_3.out)
        go_wp2
        repeat (go_quiet (fail); try go_wp2)
        go_ret
        exact ⟨by first | rfl | (simp [errW_none, errW_some] <;> rfl) | (simp [*, errW_none, errW_some] <;> rfl), by repeat (first | (with_reducible first | exact HI0.out | apply IsS65.alloc | apply IsS65.drewN | apply IsS65.drew | apply IsS65.set_0 | apply IsS65.set_1 | apply IsS65.set_2) | exact HI0.out), by repeat (first | (with_reducible first | exact HB.out | apply below_alloc | apply pw_below_drewN | apply below_drew1 | refine below_set ?_ (IsS65.ge HI0.out)) | exact HB.out), by repeat (first | (with_reducible first | exact HK.out | apply KeepBut.set_ | apply keep_drewN | apply keep_drew | apply keep_alloc) | exact HK.out)⟩
      · replace c4 := Bool.eq_false_iff.mpr c4
        subst c4
        have H1 : (if x1001_1 = (t191.size : Int) then (edits_scanner_quoted.j1 k1 x3_1 true t191 x1001_1 false) else (if 0 ≤ x1001_1 then (if x1001_1 < (t191.size : Int) then (edits_scanner_quoted.j1 k1 x3_1 ((bt t191 x1001_1) == 10) t191 x1001_1 false) else (none)) else (none))) = some (r1, r2, r3, r4) := by rw [if_neg (show ¬ (false = true) by decide)] at H; exact H
        clear H
        have H := H1
        clear H1
        have HC7 := Aside0.mk H
        clear H
        obtain ⟨HGz8, hgz8⟩ := HI0.out
        have hcz8_0 := cellS65_0 HGz8
        have hcz8_1 := cellS65_1 HGz8
        have hcz8_2 := cellS65_2 HGz8
        have hfz8_0 := blk_frozen HGz8 0
        have hfz8_1 := blk_frozen HGz8 1
        have hfz8_2 := blk_frozen HGz8 2
        clear HGz8 hgz8
        go_upto_region 4 with (fail)
        repeat (go_quiet (fail); go_upto_region 4 with (fail))
        go_cut [33] (fun v33 wc => ∃ (kq : Nat) (x33_6 : Bool), v33 = .bool x33_6 ∧ Aside0 (edits_scanner_quoted.j1 kq x3_1 x33_6 t191 x1001_1 false = some (r1, r2, r3, r4)) ∧ Aside0 (kq ≤ k1) ∧ Aside0 (Kd.R (Kd.int .u8) 5 wc w.heap.size (fun _ => True) u3 x3_1) ∧ Aside0 (IsS65 w0 wc g t191 x1001_1 false) ∧ Aside0 (KeepBut w wc g none) ∧ Aside0 (Below w0.heap.size w0 wc))
        case first =>
          have H := HC7.out
          clear HC7
          by_cases c9 : x1001_1 = (t191.size : Int)
          · rw [if_pos c9] at H
            have c9b0 : (x1001_1 == (t191.size : Int)) = true := beq_iff_eq.mpr c9
            have c9b1 : (x1001_1 != (t191.size : Int)) = false := bne_eq_false_iff_eq.mpr c9
            clear c9
            (first | rw [c9b0] | (simp only [i64_w, i32_w]; rw [c9b0]) | skip)
            have H' := Aside0.mk H
            clear H
            obtain ⟨HGz10, hgz10⟩ := HI0.out
            have hcz10_0 := cellS65_0 HGz10
            have hcz10_1 := cellS65_1 HGz10
            have hcz10_2 := cellS65_2 HGz10
            have hfz10_0 := blk_frozen HGz10 0
            have hfz10_1 := blk_frozen HGz10 1
            have hfz10_2 := blk_frozen HGz10 2
            clear HGz10 hgz10
            go_wp2
            repeat (go_quiet (fail); try go_wp2)
            go_meet
            case rel => exact ⟨_, (true), (by first | rfl | (simp; done) | (simp [*]; done)), H', ⟨by have := HK1.out; first | omega | exact Nat.le_refl _⟩, ⟨by (with_reducible repeat (first | apply Kd.R_alloc | apply Kd.R_drewN | apply Kd.R_drew)); exact HO_3.out⟩, ⟨by repeat (first | (with_reducible first | exact HI0.out | apply IsS65.alloc | apply IsS65.drewN | apply IsS65.drew | apply IsS65.set_0 | apply IsS65.set_1 | apply IsS65.set_2) | exact HI0.out)⟩, ⟨by repeat (first | (with_reducible first | exact HK.out | apply KeepBut.set_ | apply keep_drewN | apply keep_drew | apply keep_alloc) | exact HK.out)⟩, ⟨by repeat (first | (with_reducible first | exact HB.out | apply below_alloc | apply pw_below_drewN | apply below_drew1 | refine below_set ?_ (IsS65.ge HI0.out)) | exact HB.out)⟩⟩
          · rw [if_neg c9] at H
            have c9b0 : (x1001_1 == (t191.size : Int)) = false := beq_eq_false_iff_ne.mpr c9
            have c9b1 : (x1001_1 != (t191.size : Int)) = true := bne_iff_ne.mpr c9
            (first | rw [c9b0] | (simp only [i64_w, i32_w]; rw [c9b0]) | skip)
            by_cases c11 : 0 ≤ x1001_1
            · rw [if_pos c11] at H
              have c11b0 : decide (0 ≤ x1001_1) = true := decide_eq_true c11
              clear c11
              by_cases c12 : x1001_1 < (t191.size : Int)
              · rw [if_pos c12] at H
                have c12b0 : decide (x1001_1 < (t191.size : Int)) = true := decide_eq_true c12
                clear c12
                have H' := Aside0.mk H
                clear H
                obtain ⟨HGz14, hgz14⟩ := HI0.out
                have hcz14_0 := cellS65_0 HGz14
                have hcz14_1 := cellS65_1 HGz14
                have hcz14_2 := cellS65_2 HGz14
                have hfz14_0 := blk_frozen HGz14 0
                have hfz14_1 := blk_frozen HGz14 1
                have hfz14_2 := blk_frozen HGz14 2
                clear HGz14 hgz14
                have p13 : 0 ≤ (x1001_1 : Int) := of_decide_eq_true (by first | (with_reducible assumption) | assumption)
                have q13 : x1001_1 < (t191.size : Int) := of_decide_eq_true (by first | (with_reducible assumption) | assumption)
                have hx13 := bt_at t191 x1001_1
                replace p13 := eq_true p13
                replace q13 := eq_true q13
                go_wp2
                repeat (go_quiet (fail); try go_wp2)
                go_meet
                case rel => exact ⟨_, (((bt t191 x1001_1) == 10)), (by first | rfl | (simp; done) | (simp [*]; done)), H', ⟨by have := HK1.out; first | omega | exact Nat.le_refl _⟩, ⟨by (with_reducible repeat (first | apply Kd.R_alloc | apply Kd.R_drewN | apply Kd.R_drew)); exact HO_3.out⟩, ⟨by repeat (first | (with_reducible first | exact HI0.out | apply IsS65.alloc | apply IsS65.drewN | apply IsS65.drew | apply IsS65.set_0 | apply IsS65.set_1 | apply IsS65.set_2) | exact HI0.out)⟩, ⟨by repeat (first | (with_reducible first | exact HK.out | apply KeepBut.set_ | apply keep_drewN | apply keep_drew | apply keep_alloc) | exact HK.out)⟩, ⟨by repeat (first | (with_reducible first | exact HB.out | apply below_alloc | apply pw_below_drewN | apply below_drew1 | refine below_set ?_ (IsS65.ge HI0.out)) | exact HB.out)⟩⟩
              · rw [if_neg c12] at H
                exact absurd H (by simp)
            · rw [if_neg c11] at H
              exact absurd H (by simp)
        case rest =>
          clear HC7
          try clear c1
          try clear p1
          try clear q1
          try clear hx1
          try clear p2
          try clear c3
          try clear c4
          try clear hcv6
          try clear c9
          try clear c9b0
          try clear c9b1
          try clear c11
          try clear c11b0
          try clear c12
          try clear c12b0
          try clear p13
          try clear q13
          try clear hx13
          try clear hcz10_0
          try clear hcz10_1
          try clear hcz10_2
          try clear hcz14_0
          try clear hcz14_1
          try clear hcz14_2
          try clear hcz5_0
          try clear hcz5_1
          try clear hcz5_2
          try clear hcz8_0
          try clear hcz8_1
          try clear hcz8_2
          try clear hfz10_0
          try clear hfz10_1
          try clear hfz10_2
          try clear hfz14_0
          try clear hfz14_1
          try clear hfz14_2
          try clear hfz5_0
          try clear hfz5_1
          try clear hfz5_2
          try clear hfz8_0
          try clear hfz8_1
          try clear hfz8_2
          try clear p13
          try clear p2
          try clear q13
          obtain ⟨kq, x33_6, rfl, HA, HJ6, HO_3, HI0, HK, HB⟩ := hcut
          cases kq with
          | zero => exact absurd HA.out (by simp [edits_scanner_quoted.j1])
          | succ kj6 =>
            have H := HA.out
            clear HA
            simp only [edits_scanner_quoted.j1] at H
            by_cases c15 : x33_6 = true
            · subst c15
              have H1 : (some (strOfNums x3_1, t191, x1001_1, true)) = some (r1, r2, r3, r4) := by rw [if_pos rfl] at H; exact H
              clear H
              have H := H1
              clear H1
              simp only [Option.some.injEq, Prod.mk.injEq] at H
              obtain ⟨rfl, rfl, rfl, rfl⟩ := H
              obtain ⟨HGz16, hgz16⟩ := HI0.out
              have hcz16_0 := cellS65_0 HGz16
              have hcz16_1 := cellS65_1 HGz16
              have hcz16_2 := cellS65_2 HGz16
              have hfz16_0 := blk_frozen HGz16 0
              have hfz16_1 := blk_frozen HGz16 1
              have hfz16_2 := blk_frozen HGz16 2
              have hcv17s := own_string (P := Tryd.prog) Tryd.underlying59 Tryd.underlying5 Tryd.underlying9 (Kd.own_of_R (Kd.R_set HO_3.out HGz16 (by decide) 2 (.bool true)))
              have hcv17u := fun (n_ : Nat) (u_ : Value) => own_string (P := Tryd.prog) Tryd.underlying59 Tryd.underlying5 Tryd.underlying9 (Kd.own_of_R (Kd.R_set (Kd.R_drewN HO_3.out n_) (blk_drewN HGz16 n_) (by decide) 1 u_))
              have hcv17t := fun (n_ m_ : Nat) (u_ v_ : Value) => own_string (P := Tryd.prog) Tryd.underlying59 Tryd.underlying5 Tryd.underlying9 (Kd.own_of_R (Kd.R_set (Kd.R_drewN (Kd.R_set (Kd.R_drewN HO_3.out n_) (blk_drewN HGz16 n_) (by decide) 1 u_) m_) (blk_drewN (blk_put (blk_drewN HGz16 n_) 1 u_ rfl) m_) (by decide) 2 v_))
              clear HGz16 hgz16
              have hcv17 := own_string (P := Tryd.prog) Tryd.underlying59 Tryd.underlying5 Tryd.underlying9 (Kd.own_of_R HO_3.out)
              go_wp2
              repeat (go_quiet (fail); try go_wp2)
              go_ret
              exact ⟨by first | rfl | (simp [errW_none, errW_some] <;> rfl) | (simp [*, errW_none, errW_some] <;> rfl), by repeat (first | (with_reducible first | exact HI0.out | apply IsS65.alloc | apply IsS65.drewN | apply IsS65.drew | apply IsS65.set_0 | apply IsS65.set_1 | apply IsS65.set_2) | exact HI0.out), by repeat (first | (with_reducible first | exact HB.out | apply below_alloc | apply pw_below_drewN | apply below_drew1 | refine below_set ?_ (IsS65.ge HI0.out)) | exact HB.out), by repeat (first | (with_reducible first | exact HK.out | apply KeepBut.set_ | apply keep_drewN | apply keep_drew | apply keep_alloc) | exact HK.out)⟩
            · replace c15 := Bool.eq_false_iff.mpr c15
              subst c15
              have H1 : (if 0 ≤ x1001_1 then (if x1001_1 < (t191.size : Int) then (if (bt t191 x1001_1) = 34 then (some (strOfNums x3_1, t191, wrap64 (x1001_1 + 1), false)) else (if (bt t191 x1001_1) = 92 then (if (wrap64 (x1001_1 + 1)) = (t191.size : Int) then (some (strOfNums x3_1, t191, wrap64 (x1001_1 + 1), true)) else (if 0 ≤ (wrap64 (x1001_1 + 1)) then (if (wrap64 (x1001_1 + 1)) < (t191.size : Int) then (if (bt t191 (wrap64 (x1001_1 + 1))) = 34 then (edits_scanner_quoted.j2 kj6 x3_1 (bt t191 (wrap64 (x1001_1 + 1))) (bt t191 (wrap64 (x1001_1 + 1))) ((bt t191 (wrap64 (x1001_1 + 1))) == 34) t191 (wrap64 (x1001_1 + 1)) false) else (edits_scanner_quoted.j2 kj6 x3_1 (bt t191 (wrap64 (x1001_1 + 1))) (bt t191 (wrap64 (x1001_1 + 1))) ((bt t191 (wrap64 (x1001_1 + 1))) == 92) t191 (wrap64 (x1001_1 + 1)) false)) else (none)) else (none))) else (if x3_1.length < 140737488355328 then (edits_scanner_quoted.l0 kj6 (x3_1 ++ [bt t191 x1001_1]) t191 (wrap64 (x1001_1 + 1)) false) else (none)))) else (none)) else (none)) = some (r1, r2, r3, r4) := by rw [if_neg (show ¬ (false = true) by decide)] at H; exact H
              clear H
              have H := H1
              clear H1
              by_cases c18 : 0 ≤ x1001_1
              · rw [if_pos c18] at H
                have c18b0 : decide (0 ≤ x1001_1) = true := decide_eq_true c18
                clear c18
                by_cases c19 : x1001_1 < (t191.size : Int)
                · rw [if_pos c19] at H
                  have c19b0 : decide (x1001_1 < (t191.size : Int)) = true := decide_eq_true c19
                  clear c19
                  by_cases c21 : (bt t191 x1001_1) = 34
                  · rw [if_pos c21] at H
                    have c21b0 : ((bt t191 x1001_1) == 34) = true := beq_iff_eq.mpr c21
                    have c21b1 : ((bt t191 x1001_1) != 34) = false := bne_eq_false_iff_eq.mpr c21
                    clear c21
                    simp only [Option.some.injEq, Prod.mk.injEq] at H
                    obtain ⟨rfl, rfl, rfl, rfl⟩ := H
                    obtain ⟨HGz22, hgz22⟩ := HI0.out
                    have hcz22_0 := cellS65_0 HGz22
                    have hcz22_1 := cellS65_1 HGz22
                    have hcz22_2 := cellS65_2 HGz22
                    have hfz22_0 := blk_frozen HGz22 0
                    have hfz22_1 := blk_frozen HGz22 1
                    have hfz22_2 := blk_frozen HGz22 2
                    have hcv23s := own_string (P := Tryd.prog) Tryd.underlying59 Tryd.underlying5 Tryd.underlying9 (Kd.own_of_R (Kd.R_set HO_3.out HGz22 (by decide) 2 (.bool true)))
                    have hcv23u := fun (n_ : Nat) (u_ : Value) => own_string (P := Tryd.prog) Tryd.underlying59 Tryd.underlying5 Tryd.underlying9 (Kd.own_of_R (Kd.R_set (Kd.R_drewN HO_3.out n_) (blk_drewN HGz22 n_) (by decide) 1 u_))
                    have hcv23t := fun (n_ m_ : Nat) (u_ v_ : Value) => own_string (P := Tryd.prog) Tryd.underlying59 Tryd.underlying5 Tryd.underlying9 (Kd.own_of_R (Kd.R_set (Kd.R_drewN (Kd.R_set (Kd.R_drewN HO_3.out n_) (blk_drewN HGz22 n_) (by decide) 1 u_) m_) (blk_drewN (blk_put (blk_drewN HGz22 n_) 1 u_ rfl) m_) (by decide) 2 v_))
                    clear HGz22 hgz22
                    have p20 : 0 ≤ (x1001_1 : Int) := of_decide_eq_true (by first | (with_reducible assumption) | assumption)
                    have q20 : x1001_1 < (t191.size : Int) := of_decide_eq_true (by first | (with_reducible assumption) | assumption)
                    have hx20 := bt_at t191 x1001_1
                    replace p20 := eq_true p20
                    replace q20 := eq_true q20
                    have hcv23 := own_string (P := Tryd.prog) Tryd.underlying59 Tryd.underlying5 Tryd.underlying9 (Kd.own_of_R HO_3.out)
                    go_wp2
                    repeat (go_quiet (fail); try go_wp2)
                    go_ret
                    exact ⟨by first | rfl | (simp [errW_none, errW_some] <;> rfl) | (simp [*, errW_none, errW_some] <;> rfl), by repeat (first | (with_reducible first | exact HI0.out | apply IsS65.alloc | apply IsS65.drewN | apply IsS65.drew | apply IsS65.set_0 | apply IsS65.set_1 | apply IsS65.set_2) | exact HI0.out), by repeat (first | (with_reducible first | exact HB.out | apply below_alloc | apply pw_below_drewN | apply below_drew1 | refine below_set ?_ (IsS65.ge HI0.out)) | exact HB.out), by repeat (first | (with_reducible first | exact HK.out | apply KeepBut.set_ | apply keep_drewN | apply keep_drew | apply keep_alloc) | exact HK.out)⟩
                  · rw [if_neg c21] at H
                    have c21b0 : ((bt t191 x1001_1) == 34) = false := beq_eq_false_iff_ne.mpr c21
                    have c21b1 : ((bt t191 x1001_1) != 34) = true := bne_iff_ne.mpr c21
                    by_cases c24 : (bt t191 x1001_1) = 92
                    · rw [if_pos c24] at H
                      have c24b0 : ((bt t191 x1001_1) == 92) = true := beq_iff_eq.mpr c24
                      have c24b1 : ((bt t191 x1001_1) != 92) = false := bne_eq_false_iff_eq.mpr c24
                      clear c24
                      by_cases c25 : (wrap64 (x1001_1 + 1)) = (t191.size : Int)
                      · rw [if_pos c25] at H
                        have c25b0 : ((wrap64 (x1001_1 + 1)) == (t191.size : Int)) = true := beq_iff_eq.mpr c25
                        have c25b1 : ((wrap64 (x1001_1 + 1)) != (t191.size : Int)) = false := bne_eq_false_iff_eq.mpr c25
                        clear c25
                        simp only [Option.some.injEq, Prod.mk.injEq] at H
                        obtain ⟨rfl, rfl, rfl, rfl⟩ := H
                        obtain ⟨HGz26, hgz26⟩ := HI0.out
                        have hcz26_0 := cellS65_0 HGz26
                        have hcz26_1 := cellS65_1 HGz26
                        have hcz26_2 := cellS65_2 HGz26
                        have hfz26_0 := blk_frozen HGz26 0
                        have hfz26_1 := blk_frozen HGz26 1
                        have hfz26_2 := blk_frozen HGz26 2
                        have hcv27s := own_string (P := Tryd.prog) Tryd.underlying59 Tryd.underlying5 Tryd.underlying9 (Kd.own_of_R (Kd.R_set HO_3.out HGz26 (by decide) 2 (.bool true)))
                        have hcv27u := fun (n_ : Nat) (u_ : Value) => own_string (P := Tryd.prog) Tryd.underlying59 Tryd.underlying5 Tryd.underlying9 (Kd.own_of_R (Kd.R_set (Kd.R_drewN HO_3.out n_) (blk_drewN HGz26 n_) (by decide) 1 u_))
                        have hcv27t := fun (n_ m_ : Nat) (u_ v_ : Value) => own_string (P := Tryd.prog) Tryd.underlying59 Tryd.underlying5 Tryd.underlying9 (Kd.own_of_R (Kd.R_set (Kd.R_drewN (Kd.R_set (Kd.R_drewN HO_3.out n_) (blk_drewN HGz26 n_) (by decide) 1 u_) m_) (blk_drewN (blk_put (blk_drewN HGz26 n_) 1 u_ rfl) m_) (by decide) 2 v_))
                        clear HGz26 hgz26
                        have p20 : 0 ≤ (x1001_1 : Int) := of_decide_eq_true (by first | (with_reducible assumption) | assumption)
                        have q20 : x1001_1 < (t191.size : Int) := of_decide_eq_true (by first | (with_reducible assumption) | assumption)
                        have hx20 := bt_at t191 x1001_1
                        replace p20 := eq_true p20
                        replace q20 := eq_true q20
                        have hcv27 := own_string (P := Tryd.prog) Tryd.underlying59 Tryd.underlying5 Tryd.underlying9 (Kd.own_of_R HO_3.out)
                        go_wp2
                        repeat (go_quiet (fail); try go_wp2)
                        go_ret
                        exact ⟨by first | rfl | (simp [errW_none, errW_some] <;> rfl) | (simp [*, errW_none, errW_some] <;> rfl), by repeat (first | (with_reducible first | exact HI0.out | apply IsS65.alloc | apply IsS65.drewN | apply IsS65.drew | apply IsS65.set_0 | apply IsS65.set_1 | apply IsS65.set_2) | exact HI0.out), by repeat (first | (with_reducible first | exact HB.out | apply below_alloc | apply pw_below_drewN | apply below_drew1 | refine below_set ?_ (IsS65.ge HI0.out)) | exact HB.out), by repeat (first | (with_reducible first | exact HK.out | apply KeepBut.set_ | apply keep_drewN | apply keep_drew | apply keep_alloc) | exact HK.out)⟩
                      · rw [if_neg c25] at H
                        have c25b0 : ((wrap64 (x1001_1 + 1)) == (t191.size : Int)) = false := beq_eq_false_iff_ne.mpr c25
                        have c25b1 : ((wrap64 (x1001_1 + 1)) != (t191.size : Int)) = true := bne_iff_ne.mpr c25
                        obtain ⟨ji28, hji28⟩ : ∃ j_ : Int, (wrap64 (x1001_1 + 1)) = j_ := ⟨_, rfl⟩
                        replace H : (if 0 ≤ (ji28) then (if (ji28) < (t191.size : Int) then (if (bt t191 (ji28)) = 34 then (edits_scanner_quoted.j2 kj6 x3_1 (bt t191 (ji28)) (bt t191 (ji28)) ((bt t191 (ji28)) == 34) t191 ji28 false) else (edits_scanner_quoted.j2 kj6 x3_1 (bt t191 (ji28)) (bt t191 (ji28)) ((bt t191 (ji28)) == 92) t191 ji28 false)) else (none)) else (none)) = some (r1, r2, r3, r4) := by first | (rw [hji28] at H; exact H) | (simp only [hji28] at H ⊢; exact H)
                        (try rw [hji28] at c25b0)
                        (try rw [hji28] at c25b1)
                        have hji28w : (IntKind.i64.wrap (x1001_1 + 1)) = ji28 := (i64_w _).trans hji28
                        by_cases c29 : 0 ≤ (ji28)
                        · rw [if_pos c29] at H
                          have c29b0 : decide (0 ≤ (ji28)) = true := decide_eq_true c29
                          clear c29
                          by_cases c30 : (ji28) < (t191.size : Int)
                          · rw [if_pos c30] at H
                            have c30b0 : decide ((ji28) < (t191.size : Int)) = true := decide_eq_true c30
                            clear c30
                            have HC32 := Aside0.mk H
                            clear H
                            obtain ⟨HGz33, hgz33⟩ := HI0.out
                            have hcz33_0 := cellS65_0 HGz33
                            have hcz33_1 := cellS65_1 HGz33
                            have hcz33_2 := cellS65_2 HGz33
                            have hfz33_0 := blk_frozen HGz33 0
                            have hfz33_1 := blk_frozen HGz33 1
                            have hfz33_2 := blk_frozen HGz33 2
                            clear HGz33 hgz33
                            have p20 : 0 ≤ (x1001_1 : Int) := of_decide_eq_true (by first | (with_reducible assumption) | assumption)
                            have q20 : x1001_1 < (t191.size : Int) := of_decide_eq_true (by first | (with_reducible assumption) | assumption)
                            have hx20 := bt_at t191 x1001_1
                            replace p20 := eq_true p20
                            replace q20 := eq_true q20
                            have p31 : 0 ≤ ((ji28) : Int) := of_decide_eq_true (by first | (with_reducible assumption) | assumption)
                            have q31 : (ji28) < (t191.size : Int) := of_decide_eq_true (by first | (with_reducible assumption) | assumption)
                            have hx31 := bt_at t191 (ji28)
                            replace p31 := eq_true p31
                            replace q31 := eq_true q31
                            go_upto_if 90 with (fail)
                            repeat (go_quiet (fail); go_upto_if 90 with (fail))
                            go_cut [90] (fun v90 wc => ∃ (kq : Nat) (x90_31 : Bool), v90 = .bool x90_31 ∧ Aside0 (edits_scanner_quoted.j2 kq x3_1 (bt t191 (ji28)) (bt t191 (ji28)) x90_31 t191 ji28 false = some (r1, r2, r3, r4)) ∧ Aside0 (kq ≤ kj6) ∧ Aside0 (Kd.R (Kd.int .u8) 5 wc w.heap.size (fun _ => True) u3 x3_1) ∧ Aside0 (IsS65 w0 wc g t191 ji28 false) ∧ Aside0 (KeepBut w wc g none) ∧ Aside0 (Below w0.heap.size w0 wc))
                            case first =>
                              have H := HC32.out
                              clear HC32
                              by_cases c34 : (bt t191 (ji28)) = 34
                              · rw [if_pos c34] at H
                                have c34b0 : ((bt t191 (ji28)) == 34) = true := beq_iff_eq.mpr c34
                                have c34b1 : ((bt t191 (ji28)) != 34) = false := bne_eq_false_iff_eq.mpr c34
                                clear c34
                                (first | rw [c34b0] | (simp only [i64_w, i32_w]; rw [c34b0]) | skip)
                                have H' := Aside0.mk H
                                clear H
                                go_wp2
                                repeat (go_quiet (fail); try go_wp2)
                                go_meet
                                case rel => exact ⟨_, (((bt t191 (ji28)) == 34)), (by first | rfl | (simp; done) | (simp only [c34b0]; done) | (simp only [← hji28] <;> (first | rfl | (simp; done))) | (simp [*]; done)), H', ⟨by have := HK1.out; have := HJ6.out; first | omega | exact Nat.le_refl _⟩, ⟨by (with_reducible repeat (first | apply Kd.R_alloc | apply Kd.R_drewN | apply Kd.R_drew)); exact Kd.R_mono (Kd.R_far (p := ⟨g, 1, none⟩) (IsS65.apart HI0.out HO_3.out (by decide)) (fun _ hk => hk.2) (.int .i64 ji28)) (fun _ hk => trivial)⟩, ⟨by repeat (first | (with_reducible first | exact HI0.out | apply IsS65.alloc | apply IsS65.drewN | apply IsS65.drew | apply IsS65.set_0 | apply IsS65.set_1 | apply IsS65.set_2) | exact HI0.out)⟩, ⟨by repeat (first | (with_reducible first | exact HK.out | apply KeepBut.set_ | apply keep_drewN | apply keep_drew | apply keep_alloc) | exact HK.out)⟩, ⟨by repeat (first | (with_reducible first | exact HB.out | apply below_alloc | apply pw_below_drewN | apply below_drew1 | refine below_set ?_ (IsS65.ge HI0.out)) | exact HB.out)⟩⟩
                              · rw [if_neg c34] at H
                                have c34b0 : ((bt t191 (ji28)) == 34) = false := beq_eq_false_iff_ne.mpr c34
                                have c34b1 : ((bt t191 (ji28)) != 34) = true := bne_iff_ne.mpr c34
                                (first | rw [c34b0] | (simp only [i64_w, i32_w]; rw [c34b0]) | skip)
                                have H' := Aside0.mk H
                                clear H
                                go_wp2
                                repeat (go_quiet (fail); try go_wp2)
                                go_meet
                                case rel => exact ⟨_, (((bt t191 (ji28)) == 92)), (by first | rfl | (simp; done) | (simp only [← hji28] <;> (first | rfl | simp)) | (simp [*]; done)), H', ⟨by have := HK1.out; have := HJ6.out; first | omega | exact Nat.le_refl _⟩, ⟨by (with_reducible repeat (first | apply Kd.R_alloc | apply Kd.R_drewN | apply Kd.R_drew)); exact Kd.R_mono (Kd.R_far (p := ⟨g, 1, none⟩) (IsS65.apart HI0.out HO_3.out (by decide)) (fun _ hk => hk.2) (.int .i64 ji28)) (fun _ hk => trivial)⟩, ⟨by repeat (first | (with_reducible first | exact HI0.out | apply IsS65.alloc | apply IsS65.drewN | apply IsS65.drew | apply IsS65.set_0 | apply IsS65.set_1 | apply IsS65.set_2) | exact HI0.out)⟩, ⟨by repeat (first | (with_reducible first | exact HK.out | apply KeepBut.set_ | apply keep_drewN | apply keep_drew | apply keep_alloc) | exact HK.out)⟩, ⟨by repeat (first | (with_reducible first | exact HB.out | apply below_alloc | apply pw_below_drewN | apply below_drew1 | refine below_set ?_ (IsS65.ge HI0.out)) | exact HB.out)⟩⟩
                            case rest =>
                              clear HC32
                              try clear c1
                              try clear p1
                              try clear q1
                              try clear hx1
                              try clear hcv1
                              try clear c2
                              try clear p2
                              try clear q2
                              try clear hx2
                              try clear hcv2
                              try clear c3
                              try clear p3
                              try clear q3
                              try clear hx3
                              try clear c4
                              try clear p6
                              try clear hcv6
                              try clear c9
                              try clear c9b0
                              try clear c9b1
                              try clear c11
                              try clear c11b0
                              try clear c12
                              try clear c12b0
                              try clear p13
                              try clear q13
                              try clear hx13
                              try clear c15
                              try clear hcv17
                              try clear c18
                              try clear c18b0
                              try clear c19
                              try clear c19b0
                              try clear p20
                              try clear q20
                              try clear hx20
                              try clear c21
                              try clear c21b0
                              try clear c21b1
                              try clear hcv23
                              try clear c24
                              try clear c24b0
                              try clear c24b1
                              try clear c25
                              try clear c25b0
                              try clear c25b1
                              try clear hcv27
                              try clear c29
                              try clear c29b0
                              try clear c30
                              try clear c30b0
                              try clear c31
                              try clear p31
                              try clear q31
                              try clear hx31
                              try clear c34
                              try clear c34b0
                              try clear c34b1
                              try clear hcz10_0
                              try clear hcz10_1
                              try clear hcz10_2
                              try clear hcz14_0
                              try clear hcz14_1
                              try clear hcz14_2
                              try clear hcz16_0
                              try clear hcz16_1
                              try clear hcz16_2
                              try clear hcz22_0
                              try clear hcz22_1
                              try clear hcz22_2
                              try clear hcz26_0
                              try clear hcz26_1
                              try clear hcz26_2
                              try clear hcz33_0
                              try clear hcz33_1
                              try clear hcz33_2
                              try clear hcz5_0
                              try clear hcz5_1
                              try clear hcz5_2
                              try clear hcz8_0
                              try clear hcz8_1
                              try clear hcz8_2
                              try clear hfz10_0
                              try clear hfz10_1
                              try clear hfz10_2
                              try clear hfz14_0
                              try clear hfz14_1
                              try clear hfz14_2
                              try clear hfz16_0
                              try clear hfz16_1
                              try clear hfz16_2
                              try clear hfz22_0
                              try clear hfz22_1
                              try clear hfz22_2
                              try clear hfz26_0
                              try clear hfz26_1
                              try clear hfz26_2
                              try clear hfz33_0
                              try clear hfz33_1
                              try clear hfz33_2
                              try clear hfz5_0
                              try clear hfz5_1
                              try clear hfz5_2
                              try clear hfz8_0
                              try clear hfz8_1
                              try clear hfz8_2
                              try clear p1
                              try clear p13
                              try clear p2
                              try clear p20
                              try clear p31
                              try clear q1
                              try clear q13
                              try clear q20
                              try clear q31
                              obtain ⟨kq, x90_31, rfl, HA, HJ31, HO_3, HI0, HK, HB⟩ := hcut
                              cases kq with
                              | zero => exact absurd HA.out (by simp [edits_scanner_quoted.j2])
                              | succ kj31 =>
                                have H := HA.out
                                clear HA
                                simp only [edits_scanner_quoted.j2] at H
                                by_cases c35 : x90_31 = true
                                · subst c35
                                  have H1 : (if x3_1.length < 140737488355328 then (edits_scanner_quoted.l0 kj31 (x3_1 ++ [(bt t191 (ji28))]) t191 (wrap64 (ji28 + 1)) false) else (none)) = some (r1, r2, r3, r4) := by rw [if_pos rfl] at H; exact H
                                  clear H
                                  have H := H1
                                  clear H1
                                  by_cases c36 : x3_1.length < 140737488355328
                                  · rw [if_pos c36] at H
                                    have LMc36 := Aside0.mk c36
                                    clear c36
                                    obtain ⟨y194, hy194⟩ : ∃ y_ : List Int, y_ = (x3_1 ++ [(bt t191 (ji28))]) := ⟨_, rfl⟩
                                    replace H : (edits_scanner_quoted.l0 kj31 y194 t191 (wrap64 (ji28 + 1)) false) = some (r1, r2, r3, r4) := by first | (rw [hy194]; with_reducible exact H) | (have H2_ := (Option.bind_some _ _).symm.trans H; rw [hy194]; with_reducible exact H2_) | (have H2_ := (Option.bind_some _ _).symm.trans H; with_reducible exact H2_) | with_reducible exact H | (rw [hy194]; exact H) | exact H
                                    have Ny194 := Aside0.mk hy194
                                    clear hy194
                                    have H' := Aside0.mk H
                                    clear H
                                    obtain ⟨HGz37, hgz37⟩ := HI0.out
                                    have hcz37_0 := cellS65_0 HGz37
                                    have hcz37_1 := cellS65_1 HGz37
                                    have hcz37_2 := cellS65_2 HGz37
                                    have hfz37_0 := blk_frozen HGz37 0
                                    have hfz37_1 := blk_frozen HGz37 1
                                    have hfz37_2 := blk_frozen HGz37 2
                                    clear HGz37 hgz37
                                    go_wp2_with (first | ((with_reducible refine gate_builtin (b := .append) (xs := #[.tmp 102, .tmp 104]) rfl ?_); at_builtin; refine Kd.R_append (Kd.int .u8) w.heap.size rfl (.tmp 102) (.tmp 104) 59 5 (.int .u8 0) 1 rfl Tryd.underlying59 info5 rfl (by decide) (by omega) u3 x3_1 (bt t191 (ji28)) [.int .u8 (bt t191 (ji28))] (fun _ => True) (fun _ => False) rfl (by first | (go_simp; done) | (go_simp; rfl)) ?aP (fun _ hk => hk.elim) ?aF ?aO (Below.refl _ _) ?aS ?aL ?_; (case aP => exact rfl); (case aF => exact (fun _ _ => trivial)); (case aO => exact (by (with_reducible repeat (first | apply Kd.R_alloc | apply Kd.R_drewN | apply Kd.R_drew)); exact Kd.R_mono (Kd.R_far (p := ⟨g, 1, none⟩) (IsS65.apart HI0.out HO_3.out (by decide)) (fun _ hk => hk.2) (.int .i64 (wrap64 (ji28 + 1)))) (fun _ hk => trivial))); (case aS => exact (keep_size (w := w) (g := g) (row := none) (by repeat (first | (with_reducible first | exact HK.out | apply KeepBut.set_ | apply keep_drewN | apply keep_drew | apply keep_alloc) | exact HK.out)))); (case aL => have := LMc36.out; omega); intro v195 w38 ho hb hg hat; rw [← Ny194.out] at ho; have n0_ := Aside0.mk (IsS65.grown (by repeat (first | (with_reducible first | exact HI0.out | apply IsS65.alloc | apply IsS65.drewN | apply IsS65.drew | apply IsS65.set_0 | apply IsS65.set_1 | apply IsS65.set_2) | exact HI0.out)) hg (IsS65.own_ne HI0.out HO_3.out (by decide))); have n1_ := Aside0.mk (below_weaken (by repeat (first | (with_reducible first | exact HB.out | apply below_alloc | apply pw_below_drewN | apply below_drew1 | refine below_set ?_ (IsS65.ge HI0.out)) | exact HB.out)) HL.out hb); have n2_ := Aside0.mk (KeepBut.trans (by repeat (first | (with_reducible first | exact HK.out | apply KeepBut.set_ | apply keep_drewN | apply keep_drew | apply keep_alloc) | exact HK.out)) (KeepBut.of_grown hg g) (Kd.R_base2 HO_3.out)); have n3_ := Aside0.mk (ho); clear HI0; clear HB; clear HK; clear HO_3; have HI0 := n0_; have HB := n1_; have HK := n2_; have HO196 := n3_; clear n0_ n1_ n2_ n3_; clear ho hb hg hat))
                                    repeat (go_quiet (first | ((with_reducible refine gate_builtin (b := .append) (xs := #[.tmp 102, .tmp 104]) rfl ?_); at_builtin; refine Kd.R_append (Kd.int .u8) w.heap.size rfl (.tmp 102) (.tmp 104) 59 5 (.int .u8 0) 1 rfl Tryd.underlying59 info5 rfl (by decide) (by omega) u3 x3_1 (bt t191 (ji28)) [.int .u8 (bt t191 (ji28))] (fun _ => True) (fun _ => False) rfl (by first | (go_simp; done) | (go_simp; rfl)) ?aP (fun _ hk => hk.elim) ?aF ?aO (Below.refl _ _) ?aS ?aL ?_; (case aP => exact rfl); (case aF => exact (fun _ _ => trivial)); (case aO => exact (by (with_reducible repeat (first | apply Kd.R_alloc | apply Kd.R_drewN | apply Kd.R_drew)); exact Kd.R_mono (Kd.R_far (p := ⟨g, 1, none⟩) (IsS65.apart HI0.out HO_3.out (by decide)) (fun _ hk => hk.2) (.int .i64 (wrap64 (ji28 + 1)))) (fun _ hk => trivial))); (case aS => exact (keep_size (w := w) (g := g) (row := none) (by repeat (first | (with_reducible first | exact HK.out | apply KeepBut.set_ | apply keep_drewN | apply keep_drew | apply keep_alloc) | exact HK.out)))); (case aL => have := LMc36.out; omega); intro v195 w38 ho hb hg hat; rw [← Ny194.out] at ho; have n0_ := Aside0.mk (IsS65.grown (by repeat (first | (with_reducible first | exact HI0.out | apply IsS65.alloc | apply IsS65.drewN | apply IsS65.drew | apply IsS65.set_0 | apply IsS65.set_1 | apply IsS65.set_2) | exact HI0.out)) hg (IsS65.own_ne HI0.out HO_3.out (by decide))); have n1_ := Aside0.mk (below_weaken (by repeat (first | (with_reducible first | exact HB.out | apply below_alloc | apply pw_below_drewN | apply below_drew1 | refine below_set ?_ (IsS65.ge HI0.out)) | exact HB.out)) HL.out hb); have n2_ := Aside0.mk (KeepBut.trans (by repeat (first | (with_reducible first | exact HK.out | apply KeepBut.set_ | apply keep_drewN | apply keep_drew | apply keep_alloc) | exact HK.out)) (KeepBut.of_grown hg g) (Kd.R_base2 HO_3.out)); have n3_ := Aside0.mk (ho); clear HI0; clear HB; clear HK; clear HO_3; have HI0 := n0_; have HB := n1_; have HK := n2_; have HO196 := n3_; clear n0_ n1_ n2_ n3_; clear ho hb hg hat)); try go_wp2_with (first | ((with_reducible refine gate_builtin (b := .append) (xs := #[.tmp 102, .tmp 104]) rfl ?_); at_builtin; refine Kd.R_append (Kd.int .u8) w.heap.size rfl (.tmp 102) (.tmp 104) 59 5 (.int .u8 0) 1 rfl Tryd.underlying59 info5 rfl (by decide) (by omega) u3 x3_1 (bt t191 (ji28)) [.int .u8 (bt t191 (ji28))] (fun _ => True) (fun _ => False) rfl (by first | (go_simp; done) | (go_simp; rfl)) ?aP (fun _ hk => hk.elim) ?aF ?aO (Below.refl _ _) ?aS ?aL ?_; (case aP => exact rfl); (case aF => exact (fun _ _ => trivial)); (case aO => exact (by (with_reducible repeat (first | apply Kd.R_alloc | apply Kd.R_drewN | apply Kd.R_drew)); exact Kd.R_mono (Kd.R_far (p := ⟨g, 1, none⟩) (IsS65.apart HI0.out HO_3.out (by decide)) (fun _ hk => hk.2) (.int .i64 (wrap64 (ji28 + 1)))) (fun _ hk => trivial))); (case aS => exact (keep_size (w := w) (g := g) (row := none) (by repeat (first | (with_reducible first | exact HK.out | apply KeepBut.set_ | apply keep_drewN | apply keep_drew | apply keep_alloc) | exact HK.out)))); (case aL => have := LMc36.out; omega); intro v195 w38 ho hb hg hat; rw [← Ny194.out] at ho; have n0_ := Aside0.mk (IsS65.grown (by repeat (first | (with_reducible first | exact HI0.out | apply IsS65.alloc | apply IsS65.drewN | apply IsS65.drew | apply IsS65.set_0 | apply IsS65.set_1 | apply IsS65.set_2) | exact HI0.out)) hg (IsS65.own_ne HI0.out HO_3.out (by decide))); have n1_ := Aside0.mk (below_weaken (by repeat (first | (with_reducible first | exact HB.out | apply below_alloc | apply pw_below_drewN | apply below_drew1 | refine below_set ?_ (IsS65.ge HI0.out)) | exact HB.out)) HL.out hb); have n2_ := Aside0.mk (KeepBut.trans (by repeat (first | (with_reducible first | exact HK.out | apply KeepBut.set_ | apply keep_drewN | apply keep_drew | apply keep_alloc) | exact HK.out)) (KeepBut.of_grown hg g) (Kd.R_base2 HO_3.out)); have n3_ := Aside0.mk (ho); clear HI0; clear HB; clear HK; clear HO_3; have HI0 := n0_; have HB := n1_; have HK := n2_; have HO196 := n3_; clear n0_ n1_ n2_ n3_; clear ho hb hg hat)))
                                    go_roundg kj31
                                    case measure => have := HK1.out; have := HJ6.out; have := HJ31.out; omega
                                    case rel => exact ⟨(y194), (wrap64 (ji28 + 1)), (false), H', ⟨by have := HK1.out; have := HJ6.out; have := HJ31.out; omega⟩, ⟨by (with_reducible repeat (first | apply Kd.R_alloc | apply Kd.R_drewN | apply Kd.R_drew)); exact HO196.out⟩, ⟨by repeat (first | (with_reducible first | exact HI0.out | apply IsS65.alloc | apply IsS65.drewN | apply IsS65.drew | apply IsS65.set_0 | apply IsS65.set_1 | apply IsS65.set_2) | exact HI0.out)⟩, ⟨by repeat (first | (with_reducible first | exact HK.out | apply KeepBut.set_ | apply keep_drewN | apply keep_drew | apply keep_alloc) | exact HK.out)⟩, ⟨by repeat (first | (with_reducible first | exact HB.out | apply below_alloc | apply pw_below_drewN | apply below_drew1 | refine below_set ?_ (IsS65.ge HI0.out)) | exact HB.out)⟩⟩
                                  · rw [if_neg c36] at H
                                    exact absurd H (by simp)
                                · replace c35 := Bool.eq_false_iff.mpr c35
                                  subst c35
                                  have H1 : (if (bt t191 (ji28)) = 110 then (if x3_1.length < 140737488355328 then (edits_scanner_quoted.l0 kj31 (x3_1 ++ [10]) t191 (wrap64 (ji28 + 1)) false) else (none)) else (edits_scanner_quoted.l0 kj31 x3_1 t191 ji28 true)) = some (r1, r2, r3, r4) := by rw [if_neg (show ¬ (false = true) by decide)] at H; exact H
                                  clear H
                                  have H := H1
                                  clear H1
                                  by_cases c39 : (bt t191 (ji28)) = 110
                                  · rw [if_pos c39] at H
                                    have c39b0 : ((bt t191 (ji28)) == 110) = true := beq_iff_eq.mpr c39
                                    have c39b1 : ((bt t191 (ji28)) != 110) = false := bne_eq_false_iff_eq.mpr c39
                                    clear c39
                                    by_cases c40 : x3_1.length < 140737488355328
                                    · rw [if_pos c40] at H
                                      have LMc40 := Aside0.mk c40
                                      clear c40
                                      obtain ⟨y197, hy197⟩ : ∃ y_ : List Int, y_ = (x3_1 ++ [10]) := ⟨_, rfl⟩
                                      replace H : (edits_scanner_quoted.l0 kj31 y197 t191 (wrap64 (ji28 + 1)) false) = some (r1, r2, r3, r4) := by first | (rw [hy197]; with_reducible exact H) | (have H2_ := (Option.bind_some _ _).symm.trans H; rw [hy197]; with_reducible exact H2_) | (have H2_ := (Option.bind_some _ _).symm.trans H; with_reducible exact H2_) | with_reducible exact H | (rw [hy197]; exact H) | exact H
                                      have Ny197 := Aside0.mk hy197
                                      clear hy197
                                      have H' := Aside0.mk H
                                      clear H
                                      obtain ⟨HGz41, hgz41⟩ := HI0.out
                                      have hcz41_0 := cellS65_0 HGz41
                                      have hcz41_1 := cellS65_1 HGz41
                                      have hcz41_2 := cellS65_2 HGz41
                                      have hfz41_0 := blk_frozen HGz41 0
                                      have hfz41_1 := blk_frozen HGz41 1
                                      have hfz41_2 := blk_frozen HGz41 2
                                      clear HGz41 hgz41
                                      go_wp2_with (first | ((with_reducible refine gate_builtin (b := .append) (xs := #[.tmp 102, .tmp 104]) rfl ?_); at_builtin; refine Kd.R_append (Kd.int .u8) w.heap.size rfl (.tmp 102) (.tmp 104) 59 5 (.int .u8 0) 1 rfl Tryd.underlying59 info5 rfl (by decide) (by omega) u3 x3_1 10 [.int .u8 10] (fun _ => True) (fun _ => False) rfl (by first | (go_simp; done) | (go_simp; rfl)) ?aP (fun _ hk => hk.elim) ?aF ?aO (Below.refl _ _) ?aS ?aL ?_; (case aP => exact rfl); (case aF => exact (fun _ _ => trivial)); (case aO => exact (by (with_reducible repeat (first | apply Kd.R_alloc | apply Kd.R_drewN | apply Kd.R_drew)); exact Kd.R_mono (Kd.R_far (p := ⟨g, 1, none⟩) (IsS65.apart HI0.out HO_3.out (by decide)) (fun _ hk => hk.2) (.int .i64 (wrap64 (ji28 + 1)))) (fun _ hk => trivial))); (case aS => exact (keep_size (w := w) (g := g) (row := none) (by repeat (first | (with_reducible first | exact HK.out | apply KeepBut.set_ | apply keep_drewN | apply keep_drew | apply keep_alloc) | exact HK.out)))); (case aL => have := LMc40.out; omega); intro v198 w42 ho hb hg hat; rw [← Ny197.out] at ho; have n0_ := Aside0.mk (IsS65.grown (by repeat (first | (with_reducible first | exact HI0.out | apply IsS65.alloc | apply IsS65.drewN | apply IsS65.drew | apply IsS65.set_0 | apply IsS65.set_1 | apply IsS65.set_2) | exact HI0.out)) hg (IsS65.own_ne HI0.out HO_3.out (by decide))); have n1_ := Aside0.mk (below_weaken (by repeat (first | (with_reducible first | exact HB.out | apply below_alloc | apply pw_below_drewN | apply below_drew1 | refine below_set ?_ (IsS65.ge HI0.out)) | exact HB.out)) HL.out hb); have n2_ := Aside0.mk (KeepBut.trans (by repeat (first | (with_reducible first | exact HK.out | apply KeepBut.set_ | apply keep_drewN | apply keep_drew | apply keep_alloc) | exact HK.out)) (KeepBut.of_grown hg g) (Kd.R_base2 HO_3.out)); have n3_ := Aside0.mk (ho); clear HI0; clear HB; clear HK; clear HO_3; have HI0 := n0_; have HB := n1_; have HK := n2_; have HO199 := n3_; clear n0_ n1_ n2_ n3_; clear ho hb hg hat))
                                      repeat (go_quiet (first | ((with_reducible refine gate_builtin (b := .append) (xs := #[.tmp 102, .tmp 104]) rfl ?_); at_builtin; refine Kd.R_append (Kd.int .u8) w.heap.size rfl (.tmp 102) (.tmp 104) 59 5 (.int .u8 0) 1 rfl Tryd.underlying59 info5 rfl (by decide) (by omega) u3 x3_1 10 [.int .u8 10] (fun _ => True) (fun _ => False) rfl (by first | (go_simp; done) | (go_simp; rfl)) ?aP (fun _ hk => hk.elim) ?aF ?aO (Below.refl _ _) ?aS ?aL ?_; (case aP => exact rfl); (case aF => exact (fun _ _ => trivial)); (case aO => exact (by (with_reducible repeat (first | apply Kd.R_alloc | apply Kd.R_drewN | apply Kd.R_drew)); exact Kd.R_mono (Kd.R_far (p := ⟨g, 1, none⟩) (IsS65.apart HI0.out HO_3.out (by decide)) (fun _ hk => hk.2) (.int .i64 (wrap64 (ji28 + 1)))) (fun _ hk => trivial))); (case aS => exact (keep_size (w := w) (g := g) (row := none) (by repeat (first | (with_reducible first | exact HK.out | apply KeepBut.set_ | apply keep_drewN | apply keep_drew | apply keep_alloc) | exact HK.out)))); (case aL => have := LMc40.out; omega); intro v198 w42 ho hb hg hat; rw [← Ny197.out] at ho; have n0_ := Aside0.mk (IsS65.grown (by repeat (first | (with_reducible first | exact HI0.out | apply IsS65.alloc | apply IsS65.drewN | apply IsS65.drew | apply IsS65.set_0 | apply IsS65.set_1 | apply IsS65.set_2) | exact HI0.out)) hg (IsS65.own_ne HI0.out HO_3.out (by decide))); have n1_ := Aside0.mk (below_weaken (by repeat (first | (with_reducible first | exact HB.out | apply below_alloc | apply pw_below_drewN | apply below_drew1 | refine below_set ?_ (IsS65.ge HI0.out)) | exact HB.out)) HL.out hb); have n2_ := Aside0.mk (KeepBut.trans (by repeat (first | (with_reducible first | exact HK.out | apply KeepBut.set_ | apply keep_drewN | apply keep_drew | apply keep_alloc) | exact HK.out)) (KeepBut.of_grown hg g) (Kd.R_base2 HO_3.out)); have n3_ := Aside0.mk (ho); clear HI0; clear HB; clear HK; clear HO_3; have HI0 := n0_; have HB := n1_; have HK := n2_; have HO199 := n3_; clear n0_ n1_ n2_ n3_; clear ho hb hg hat)); try go_wp2_with (first | ((with_reducible refine gate_builtin (b := .append) (xs := #[.tmp 102, .tmp 104]) rfl ?_); at_builtin; refine Kd.R_append (Kd.int .u8) w.heap.size rfl (.tmp 102) (.tmp 104) 59 5 (.int .u8 0) 1 rfl Tryd.underlying59 info5 rfl (by decide) (by omega) u3 x3_1 10 [.int .u8 10] (fun _ => True) (fun _ => False) rfl (by first | (go_simp; done) | (go_simp; rfl)) ?aP (fun _ hk => hk.elim) ?aF ?aO (Below.refl _ _) ?aS ?aL ?_; (case aP => exact rfl); (case aF => exact (fun _ _ => trivial)); (case aO => exact (by (with_reducible repeat (first | apply Kd.R_alloc | apply Kd.R_drewN | apply Kd.R_drew)); exact Kd.R_mono (Kd.R_far (p := ⟨g, 1, none⟩) (IsS65.apart HI0.out HO_3.out (by decide)) (fun _ hk => hk.2) (.int .i64 (wrap64 (ji28 + 1)))) (fun _ hk => trivial))); (case aS => exact (keep_size (w := w) (g := g) (row := none) (by repeat (first | (with_reducible first | exact HK.out | apply KeepBut.set_ | apply keep_drewN | apply keep_drew | apply keep_alloc) | exact HK.out)))); (case aL => have := LMc40.out; omega); intro v198 w42 ho hb hg hat; rw [← Ny197.out] at ho; have n0_ := Aside0.mk (IsS65.grown (by repeat (first | (with_reducible first | exact HI0.out | apply IsS65.alloc | apply IsS65.drewN | apply IsS65.drew | apply IsS65.set_0 | apply IsS65.set_1 | apply IsS65.set_2) | exact HI0.out)) hg (IsS65.own_ne HI0.out HO_3.out (by decide))); have n1_ := Aside0.mk (below_weaken (by repeat (first | (with_reducible first | exact HB.out | apply below_alloc | apply pw_below_drewN | apply below_drew1 | refine below_set ?_ (IsS65.ge HI0.out)) | exact HB.out)) HL.out hb); have n2_ := Aside0.mk (KeepBut.trans (by repeat (first | (with_reducible first | exact HK.out | apply KeepBut.set_ | apply keep_drewN | apply keep_drew | apply keep_alloc) | exact HK.out)) (KeepBut.of_grown hg g) (Kd.R_base2 HO_3.out)); have n3_ := Aside0.mk (ho); clear HI0; clear HB; clear HK; clear HO_3; have HI0 := n0_; have HB := n1_; have HK := n2_; have HO199 := n3_; clear n0_ n1_ n2_ n3_; clear ho hb hg hat)))
                                      go_roundg kj31
                                      case measure => have := HK1.out; have := HJ6.out; have := HJ31.out; omega
                                      case rel => exact ⟨(y197), (wrap64 (ji28 + 1)), (false), H', ⟨by have := HK1.out; have := HJ6.out; have := HJ31.out; omega⟩, ⟨by (with_reducible repeat (first | apply Kd.R_alloc | apply Kd.R_drewN | apply Kd.R_drew)); exact HO199.out⟩, ⟨by repeat (first | (with_reducible first | exact HI0.out | apply IsS65.alloc | apply IsS65.drewN | apply IsS65.drew | apply IsS65.set_0 | apply IsS65.set_1 | apply IsS65.set_2) | exact HI0.out)⟩, ⟨by repeat (first | (with_reducible first | exact HK.out | apply KeepBut.set_ | apply keep_drewN | apply keep_drew | apply keep_alloc) | exact HK.out)⟩, ⟨by repeat (first | (with_reducible first | exact HB.out | apply below_alloc | apply pw_below_drewN | apply below_drew1 | refine below_set ?_ (IsS65.ge HI0.out)) | exact HB.out)⟩⟩
                                    · rw [if_neg c40] at H
                                      exact absurd H (by simp)
                                  · rw [if_neg c39] at H
                                    have c39b0 : ((bt t191 (ji28)) == 110) = false := beq_eq_false_iff_ne.mpr c39
                                    have c39b1 : ((bt t191 (ji28)) != 110) = true := bne_iff_ne.mpr c39
                                    have H' := Aside0.mk H
                                    clear H
                                    obtain ⟨HGz43, hgz43⟩ := HI0.out
                                    have hcz43_0 := cellS65_0 HGz43
                                    have hcz43_1 := cellS65_1 HGz43
                                    have hcz43_2 := cellS65_2 HGz43
                                    have hfz43_0 := blk_frozen HGz43 0
                                    have hfz43_1 := blk_frozen HGz43 1
                                    have hfz43_2 := blk_frozen HGz43 2
                                    clear HGz43 hgz43
                                    go_wp2
                                    repeat (go_quiet (fail); try go_wp2)
                                    go_roundg kj31
                                    case measure => have := HK1.out; have := HJ6.out; have := HJ31.out; omega
                                    case rel => exact ⟨(x3_1), (ji28), (true), H', ⟨by have := HK1.out; have := HJ6.out; have := HJ31.out; omega⟩, ⟨by (with_reducible repeat (first | apply Kd.R_alloc | apply Kd.R_drewN | apply Kd.R_drew)); exact Kd.R_mono (Kd.R_far (p := ⟨g, 2, none⟩) (IsS65.apart HI0.out HO_3.out (by decide)) (fun _ hk => hk.2) (.bool true)) (fun _ hk => trivial)⟩, ⟨by repeat (first | (with_reducible first | exact HI0.out | apply IsS65.alloc | apply IsS65.drewN | apply IsS65.drew | apply IsS65.set_0 | apply IsS65.set_1 | apply IsS65.set_2) | exact HI0.out)⟩, ⟨by repeat (first | (with_reducible first | exact HK.out | apply KeepBut.set_ | apply keep_drewN | apply keep_drew | apply keep_alloc) | exact HK.out)⟩, ⟨by repeat (first | (with_reducible first | exact HB.out | apply below_alloc | apply pw_below_drewN | apply below_drew1 | refine below_set ?_ (IsS65.ge HI0.out)) | exact HB.out)⟩⟩
                          · rw [if_neg c30] at H
                            exact absurd H (by simp)
                        · rw [if_neg c29] at H
                          exact absurd H (by simp)
                    · rw [if_neg c24] at H
                      have c24b0 : ((bt t191 x1001_1) == 92) = false := beq_eq_false_iff_ne.mpr c24
                      have c24b1 : ((bt t191 x1001_1) != 92) = true := bne_iff_ne.mpr c24
                      by_cases c44 : x3_1.length < 140737488355328
                      · rw [if_pos c44] at H
                        have LMc44 := Aside0.mk c44
                        clear c44
                        obtain ⟨y200, hy200⟩ : ∃ y_ : List Int, y_ = (x3_1 ++ [bt t191 x1001_1]) := ⟨_, rfl⟩
                        replace H : (edits_scanner_quoted.l0 kj6 y200 t191 (wrap64 (x1001_1 + 1)) false) = some (r1, r2, r3, r4) := by first | (rw [hy200]; with_reducible exact H) | (have H2_ := (Option.bind_some _ _).symm.trans H; rw [hy200]; with_reducible exact H2_) | (have H2_ := (Option.bind_some _ _).symm.trans H; with_reducible exact H2_) | with_reducible exact H | (rw [hy200]; exact H) | exact H
                        have Ny200 := Aside0.mk hy200
                        clear hy200
                        have H' := Aside0.mk H
                        clear H
                        obtain ⟨HGz45, hgz45⟩ := HI0.out
                        have hcz45_0 := cellS65_0 HGz45
                        have hcz45_1 := cellS65_1 HGz45
                        have hcz45_2 := cellS65_2 HGz45
                        have hfz45_0 := blk_frozen HGz45 0
                        have hfz45_1 := blk_frozen HGz45 1
                        have hfz45_2 := blk_frozen HGz45 2
                        clear HGz45 hgz45
                        have p20 : 0 ≤ (x1001_1 : Int) := of_decide_eq_true (by first | (with_reducible assumption) | assumption)
                        have q20 : x1001_1 < (t191.size : Int) := of_decide_eq_true (by first | (with_reducible assumption) | assumption)
                        have hx20 := bt_at t191 x1001_1
                        replace p20 := eq_true p20
                        replace q20 := eq_true q20
                        go_wp2_with (first | ((with_reducible refine gate_builtin (b := .append) (xs := #[.tmp 102, .tmp 104]) rfl ?_); at_builtin; refine Kd.R_append (Kd.int .u8) w.heap.size rfl (.tmp 102) (.tmp 104) 59 5 (.int .u8 0) 1 rfl Tryd.underlying59 info5 rfl (by decide) (by omega) u3 x3_1 (bt t191 x1001_1) [.int .u8 (bt t191 x1001_1)] (fun _ => True) (fun _ => False) rfl (by first | (go_simp; done) | (go_simp; rfl)) ?aP (fun _ hk => hk.elim) ?aF ?aO (Below.refl _ _) ?aS ?aL ?_; (case aP => exact rfl); (case aF => exact (fun _ _ => trivial)); (case aO => exact (by (with_reducible repeat (first | apply Kd.R_alloc | apply Kd.R_drewN | apply Kd.R_drew)); exact Kd.R_mono (Kd.R_far (p := ⟨g, 1, none⟩) (IsS65.apart HI0.out HO_3.out (by decide)) (fun _ hk => hk.2) (.int .i64 (wrap64 (x1001_1 + 1)))) (fun _ hk => trivial))); (case aS => exact (keep_size (w := w) (g := g) (row := none) (by repeat (first | (with_reducible first | exact HK.out | apply KeepBut.set_ | apply keep_drewN | apply keep_drew | apply keep_alloc) | exact HK.out)))); (case aL => have := LMc44.out; omega); intro v201 w46 ho hb hg hat; rw [← Ny200.out] at ho; have n0_ := Aside0.mk (IsS65.grown (by repeat (first | (with_reducible first | exact HI0.out | apply IsS65.alloc | apply IsS65.drewN | apply IsS65.drew | apply IsS65.set_0 | apply IsS65.set_1 | apply IsS65.set_2) | exact HI0.out)) hg (IsS65.own_ne HI0.out HO_3.out (by decide))); have n1_ := Aside0.mk (below_weaken (by repeat (first | (with_reducible first | exact HB.out | apply below_alloc | apply pw_below_drewN | apply below_drew1 | refine below_set ?_ (IsS65.ge HI0.out)) | exact HB.out)) HL.out hb); have n2_ := Aside0.mk (KeepBut.trans (by repeat (first | (with_reducible first | exact HK.out | apply KeepBut.set_ | apply keep_drewN | apply keep_drew | apply keep_alloc) | exact HK.out)) (KeepBut.of_grown hg g) (Kd.R_base2 HO_3.out)); have n3_ := Aside0.mk (ho); clear HI0; clear HB; clear HK; clear HO_3; have HI0 := n0_; have HB := n1_; have HK := n2_; have HO202 := n3_; clear n0_ n1_ n2_ n3_; clear ho hb hg hat))
                        repeat (go_quiet (first | ((with_reducible refine gate_builtin (b := .append) (xs := #[.tmp 102, .tmp 104]) rfl ?_); at_builtin; refine Kd.R_append (Kd.int .u8) w.heap.size rfl (.tmp 102) (.tmp 104) 59 5 (.int .u8 0) 1 rfl Tryd.underlying59 info5 rfl (by decide) (by omega) u3 x3_1 (bt t191 x1001_1) [.int .u8 (bt t191 x1001_1)] (fun _ => True) (fun _ => False) rfl (by first | (go_simp; done) | (go_simp; rfl)) ?aP (fun _ hk => hk.elim) ?aF ?aO (Below.refl _ _) ?aS ?aL ?_; (case aP => exact rfl); (case aF => exact (fun _ _ => trivial)); (case aO => exact (by (with_reducible repeat (first | apply Kd.R_alloc | apply Kd.R_drewN | apply Kd.R_drew)); exact Kd.R_mono (Kd.R_far (p := ⟨g, 1, none⟩) (IsS65.apart HI0.out HO_3.out (by decide)) (fun _ hk => hk.2) (.int .i64 (wrap64 (x1001_1 + 1)))) (fun _ hk => trivial))); (case aS => exact (keep_size (w := w) (g := g) (row := none) (by repeat (first | (with_reducible first | exact HK.out | apply KeepBut.set_ | apply keep_drewN | apply keep_drew | apply keep_alloc) | exact HK.out)))); (case aL => have := LMc44.out; omega); intro v201 w46 ho hb hg hat; rw [← Ny200.out] at ho; have n0_ := Aside0.mk (IsS65.grown (by repeat (first | (with_reducible first | exact HI0.out | apply IsS65.alloc | apply IsS65.drewN | apply IsS65.drew | apply IsS65.set_0 | apply IsS65.set_1 | apply IsS65.set_2) | exact HI0.out)) hg (IsS65.own_ne HI0.out HO_3.out (by decide))); have n1_ := Aside0.mk (below_weaken (by repeat (first | (with_reducible first | exact HB.out | apply below_alloc | apply pw_below_drewN | apply below_drew1 | refine below_set ?_ (IsS65.ge HI0.out)) | exact HB.out)) HL.out hb); have n2_ := Aside0.mk (KeepBut.trans (by repeat (first | (with_reducible first | exact HK.out | apply KeepBut.set_ | apply keep_drewN | apply keep_drew | apply keep_alloc) | exact HK.out)) (KeepBut.of_grown hg g) (Kd.R_base2 HO_3.out)); have n3_ := Aside0.mk (ho); clear HI0; clear HB; clear HK; clear HO_3; have HI0 := n0_; have HB := n1_; have HK := n2_; have HO202 := n3_; clear n0_ n1_ n2_ n3_; clear ho hb hg hat)); try go_wp2_with (first | ((with_reducible refine gate_builtin (b := .append) (xs := #[.tmp 102, .tmp 104]) rfl ?_); at_builtin; refine Kd.R_append (Kd.int .u8) w.heap.size rfl (.tmp 102) (.tmp 104) 59 5 (.int .u8 0) 1 rfl Tryd.underlying59 info5 rfl (by decide) (by omega) u3 x3_1 (bt t191 x1001_1) [.int .u8 (bt t191 x1001_1)] (fun _ => True) (fun _ => False) rfl (by first | (go_simp; done) | (go_simp; rfl)) ?aP (fun _ hk => hk.elim) ?aF ?aO (Below.refl _ _) ?aS ?aL ?_; (case aP => exact rfl); (case aF => exact (fun _ _ => trivial)); (case aO => exact (by (with_reducible repeat (first | apply Kd.R_alloc | apply Kd.R_drewN | apply Kd.R_drew)); exact Kd.R_mono (Kd.R_far (p := ⟨g, 1, none⟩) (IsS65.apart HI0.out HO_3.out (by decide)) (fun _ hk => hk.2) (.int .i64 (wrap64 (x1001_1 + 1)))) (fun _ hk => trivial))); (case aS => exact (keep_size (w := w) (g := g) (row := none) (by repeat (first | (with_reducible first | exact HK.out | apply KeepBut.set_ | apply keep_drewN | apply keep_drew | apply keep_alloc) | exact HK.out)))); (case aL => have := LMc44.out; omega); intro v201 w46 ho hb hg hat; rw [← Ny200.out] at ho; have n0_ := Aside0.mk (IsS65.grown (by repeat (first | (with_reducible first | exact HI0.out | apply IsS65.alloc | apply IsS65.drewN | apply IsS65.drew | apply IsS65.set_0 | apply IsS65.set_1 | apply IsS65.set_2) | exact HI0.out)) hg (IsS65.own_ne HI0.out HO_3.out (by decide))); have n1_ := Aside0.mk (below_weaken (by repeat (first | (with_reducible first | exact HB.out | apply below_alloc | apply pw_below_drewN | apply below_drew1 | refine below_set ?_ (IsS65.ge HI0.out)) | exact HB.out)) HL.out hb); have n2_ := Aside0.mk (KeepBut.trans (by repeat (first | (with_reducible first | exact HK.out | apply KeepBut.set_ | apply keep_drewN | apply keep_drew | apply keep_alloc) | exact HK.out)) (KeepBut.of_grown hg g) (Kd.R_base2 HO_3.out)); have n3_ := Aside0.mk (ho); clear HI0; clear HB; clear HK; clear HO_3; have HI0 := n0_; have HB := n1_; have HK := n2_; have HO202 := n3_; clear n0_ n1_ n2_ n3_; clear ho hb hg hat)))
                        go_roundg kj6
                        case measure => have := HK1.out; have := HJ6.out; omega
                        case rel => exact ⟨(y200), (wrap64 (x1001_1 + 1)), (false), H', ⟨by have := HK1.out; have := HJ6.out; omega⟩, ⟨by (with_reducible repeat (first | apply Kd.R_alloc | apply Kd.R_drewN | apply Kd.R_drew)); exact HO202.out⟩, ⟨by repeat (first | (with_reducible first | exact HI0.out | apply IsS65.alloc | apply IsS65.drewN | apply IsS65.drew | apply IsS65.set_0 | apply IsS65.set_1 | apply IsS65.set_2) | exact HI0.out)⟩, ⟨by repeat (first | (with_reducible first | exact HK.out | apply KeepBut.set_ | apply keep_drewN | apply keep_drew | apply keep_alloc) | exact HK.out)⟩, ⟨by repeat (first | (with_reducible first | exact HB.out | apply below_alloc | apply pw_below_drewN | apply below_drew1 | refine below_set ?_ (IsS65.ge HI0.out)) | exact HB.out)⟩⟩
                      · rw [if_neg c44] at H
                        exact absurd H (by simp)
                · rw [if_neg c19] at H
                  exact absurd H (by simp)
              · rw [if_neg c18] at H
                exact absurd H (by simp)

end Go.Proofs.YtaihajmdngoeiaaDoor.F

namespace Go.Proofs.YtaihajmdngoeiaaDoor.Q
open Go.RowKit Go.Proofs.YtaihajmdngoeiaaDoorW.PrintWords Go.Proofs.YtaihajmdngoeiaaDoorW.PrintLast Go.Proofs.YtaihajmdngoeiaaDoorW.PrintMore
open Go.Proofs.YtaihajmdngoeiaaDoor.F
set_option linter.unusedVariables false
set_option linter.unusedSimpArgs false

/-- Where the scanner stands behind a reader: its place, and whether a fault was met. -/
def after {α : Type} (s : ByteArray) : Res α → Int × Bool
  | .ok _ r => (plc s r, false)
  | .bad r => (plc s r, true)
theorem byte_is (s : ByteArray) (hs : s.size ≤ 140737488351232) (p : Nat) (h : p ≤ s.size) (c : Int) : edits_scanner_byte.f s (p : Int) false c = some (s, after s (byteL c ((bytesOf s).drop p))) := by
  by_cases e : p = s.size
  · have A1 : ((p : Int) = (s.size : Int)) = True := eq_true (by omega)
    rw [List.drop_eq_nil_of_le (by rw [bytesOf_length]; omega)]
    simp only [edits_scanner_byte.f, Bool.false_eq_true, if_false, if_true, A1, byteL, after, plc]
    congr 3
    simp [e]
  · have A1 : ((p : Int) = (s.size : Int)) = False := eq_false (by omega)
    have A2 : ((0 : Int) ≤ (p : Int)) = True := eq_true (by omega)
    have A3 : ((p : Int) < (s.size : Int)) = True := eq_true (by omega)
    have hw : wrap64 ((p : Int) + 1) = ((p + 1 : Nat) : Int) := by rw [w64] <;> omega
    have p1 := plc_dr s p h
    have p2 := plc_dr s (p + 1) (by omega)
    rw [dr_cons s p (by omega)] at p1 ⊢
    simp only [edits_scanner_byte.f, Bool.false_eq_true, if_false, if_true, A1, A2, A3, hw, byteL]
    split
    · simp only [after, p2]
    · simp only [after, p1]
theorem byte_bad (s : ByteArray) (p c : Int) : edits_scanner_byte.f s p true c = some (s, p, true) := by
  simp [edits_scanner_byte.f]

/-- The scanner's state within a number. -/
def nst : NS → Int → Bool → Int → Prop
  | .start, n, mi, dg => n = 0 ∧ mi = false ∧ dg = 0
  | .minus, n, mi, dg => n = 0 ∧ mi = true ∧ dg = 0
  | .num neg m, n, mi, dg => n = sgn neg m ∧ mi = neg ∧ 1 ≤ dg ∧ 0 ≤ m ∧ m ≤ lim neg ∧ (m = 0 ↔ dg = 1 ∧ m = 0) ∧ (neg = true → 0 < m)
theorem tdiv_lo2 {d : Int} (h : 0 ≤ d ∧ d ≤ 9) : wrap64 (Int.tdiv (wrap64 ((-9223372036854775808) + d)) 10) = -((9223372036854775808 - d) / 10) := by
  have h1 : wrap64 ((-9223372036854775808) + d) = -(9223372036854775808 - d) := by unfold wrap64; omega
  rw [h1, Int.neg_tdiv, Int.tdiv_eq_ediv, if_pos (Or.inl (by omega))]
  unfold wrap64
  omega
theorem tdiv_hi2 {d : Int} (h : 0 ≤ d ∧ d ≤ 9) : wrap64 (Int.tdiv (wrap64 (9223372036854775807 - d)) 10) = (9223372036854775807 - d) / 10 := tdiv_hi (by omega)
theorem num_loop (s : ByteArray) (hs : s.size ≤ 140737488351232) (e : Int) (he : ¬(48 ≤ e ∧ e ≤ 57) ∧ e ≠ 45) (d : Nat) : ∀ (p : Nat) (st : NS) (n : Int) (mi : Bool) (dg : Int), p ≤ s.size → s.size - p = d → nst st n mi dg → dg ≤ p → (st = .start → ∀ h : p < s.size, bt s (p : Int) ≠ 45) →
    ∃ v, Ev (fun k => edits_scanner_number.l0 k e n mi dg s (p : Int) false) (v, s, after s (takeL e st ((bytesOf s).drop p))) ∧ ∀ u r, takeL e st ((bytesOf s).drop p) = .ok u r → v = u := by
  induction d with
  | zero =>
    intro p st n mi dg h1 h2 h3 h4 h5
    have A1 : ((p : Int) < (s.size : Int)) = False := eq_false (by omega)
    have hb := byte_is s hs p h1 e
    have hbb := byte_bad s (p : Int) e
    have hp : p = s.size := by omega
    rw [List.drop_eq_nil_of_le (by rw [bytesOf_length]; omega)] at hb ⊢
    refine ⟨n, ⟨2, fun k hk => ?_⟩, fun u r h => by cases st <;> simp [takeL] at h⟩
    obtain ⟨k, rfl⟩ : ∃ m, k = m + 2 := ⟨k - 2, by omega⟩
    simp only [edits_scanner_number.l0, edits_scanner_number.j3, Bool.false_eq_true, if_false, A1, decide_false, hb, hbb, Option.bind_some, byteL, after]
    have : plc s [] = (p : Int) := by unfold plc; simp [hp]
    cases st <;> simp only [takeL, after, this] <;> split <;> rfl
  | succ d ih =>
    intro p st n mi dg h1 h2 h3 h4 h5
    have hlt : p < s.size := by omega
    have h5' : st = .start → bt s (p : Int) ≠ 45 := fun h => h5 h hlt
    clear h5
    have A1 : ((p : Int) < (s.size : Int)) = True := eq_true (by omega)
    have A2 : ((0 : Int) ≤ (p : Int)) = True := eq_true (by omega)
    have hw : wrap64 ((p : Int) + 1) = ((p + 1 : Nat) : Int) := by rw [w64] <;> omega
    have hdg : wrap64 (dg + 1) = dg + 1 := by
      have : 0 ≤ dg := by cases st <;> simp only [nst] at h3 <;> omega
      rw [w64] <;> omega
    have hb := byte_is s hs p h1 e
    have hbb := byte_bad s (p : Int) e
    have plcp := plc_dr s p h1
    have plcq := plc_dr s (p + 1) (by omega)
    have IH := fun (st' : NS) (n' : Int) (mi' : Bool) (h : nst st' n' mi' (dg + 1)) (hst : st' ≠ .start) => ih (p + 1) st' n' mi' (dg + 1) (by omega) (by omega) h (by omega) (fun x => absurd x hst)
    have hr := bt_range s (p : Int)
    have step0 : ∀ k, edits_scanner_number.l0 (k + 3) e n mi dg s (p : Int) false = edits_scanner_number.j4 (k + 1) e n mi dg (bt s (p : Int)) (decide (bt s (p : Int) < 48 ∨ bt s (p : Int) > 57)) s (p : Int) false := by
      intro k
      simp only [edits_scanner_number.l0, edits_scanner_number.j3, Bool.false_eq_true, if_false, if_true, A1, A2, decide_true]
      by_cases c : bt s (p : Int) < 48
      · rw [if_pos c, decide_eq_true (Or.inl c)]
      · rw [if_neg c]
        congr 1
        by_cases c2 : bt s (p : Int) > 57
        · rw [decide_eq_true c2, decide_eq_true (Or.inr c2)]
        · rw [decide_eq_false c2, decide_eq_false (by omega)]
    rw [dr_cons s p hlt] at hb plcp ⊢
    generalize (bytesOf s).drop (p + 1) = R at hb plcp plcq IH ⊢
    clear ih A1 A2 h4
    generalize bt s (p : Int) = c at hb step0 h5' hr plcp ⊢
    by_cases hc : c < 48 ∨ c > 57
    · -- no digit
      have hstep : st.step c = none := by
        cases st with
        | start => have := h5' rfl; simp only [NS.step]; rw [if_neg this, if_neg (by omega)]
        | minus => simp only [NS.step]; rw [if_neg (by omega)]
        | num neg m => simp only [NS.step]; rw [if_neg (by omega)]
      by_cases hz : dg = 0
      · have hnn : st.isNum = false := by
          cases st with
          | start => rfl
          | minus => rfl
          | num neg m => simp only [nst] at h3; omega
        refine ⟨n, ⟨3, fun k hk => ?_⟩, fun u r h => ?_⟩
        · obtain ⟨k, rfl⟩ : ∃ m, k = m + 3 := ⟨k - 3, by omega⟩
          refine (step0 k).trans ?_
          rw [decide_eq_true hc]
          simp only [edits_scanner_number.j4, if_true, hz, hbb, Option.bind_some, takeL, hnn, Bool.false_eq_true, false_and, if_false, hstep, after, plcp]
        · simp [takeL, hnn, hstep] at h
      · have hnn : ∃ neg m, st = .num neg m := by
          cases st with
          | start => simp only [nst] at h3; omega
          | minus => simp only [nst] at h3; omega
          | num neg m => exact ⟨neg, m, rfl⟩
        obtain ⟨neg, m, rfl⟩ := hnn
        refine ⟨n, ⟨3, fun k hk => ?_⟩, fun u r h => ?_⟩
        · obtain ⟨k, rfl⟩ : ∃ m, k = m + 3 := ⟨k - 3, by omega⟩
          refine (step0 k).trans ?_
          rw [decide_eq_true hc]
          simp only [edits_scanner_number.j4, if_true, hz, if_false, hb, Option.bind_some, takeL, NS.isNum, true_and, byteL, hstep]
          by_cases hce : c = e
          · simp only [hce, if_true, after]
          · simp only [hce, if_false, after]
        · simp only [takeL, NS.isNum, true_and, hstep] at h
          split at h
          · injection h with h _
            rw [← h]
            exact h3.1
          · cases h
    · -- a digit
      have hd : (c - 48) % 256 = c - 48 := by omega
      have hne : c ≠ e := by omega
      have hno : ¬(st.isNum = true ∧ c = e) := fun h => hne h.2
      have hj4 : ∀ k, edits_scanner_number.l0 (k + 3) e n mi dg s (p : Int) false = edits_scanner_number.j5 k e n mi dg (c - 48) (decide (dg = 1 ∧ n = 0 ∨ mi = true ∧ dg = 0 ∧ c - 48 = 0)) s (p : Int) false := by
        intro k
        rw [step0, decide_eq_false hc]
        simp only [edits_scanner_number.j4, Bool.false_eq_true, if_false, hd]
        by_cases a1 : dg = 1
        · rw [if_pos a1]
          by_cases a2 : n = 0
          · rw [if_pos a2, decide_eq_true (Or.inl ⟨a1, a2⟩)]
          · rw [if_neg a2]
            have : decide (dg = 1 ∧ n = 0 ∨ mi = true ∧ dg = 0 ∧ c - 48 = 0) = false := decide_eq_false (by omega)
            rw [this]
            by_cases a3 : mi = true
            · rw [if_pos a3, if_neg (by omega)]
            · rw [if_neg a3]
        · rw [if_neg a1]
          by_cases a3 : mi = true
          · rw [if_pos a3]
            by_cases a4 : dg = 0
            · rw [if_pos a4]
              congr 1
              by_cases a5 : c - 48 = 0
              · rw [a5, decide_eq_true (Or.inr ⟨a3, a4, rfl⟩)]; rfl
              · rw [decide_eq_false (by omega)]
                exact beq_eq_false_iff_ne.2 a5
            · rw [if_neg a4, decide_eq_false (by omega)]
          · rw [if_neg a3, decide_eq_false]
            rintro (h | h)
            · exact a1 h.1
            · exact a3 h.1
      have badcase : st.step c = none → (∀ k, edits_scanner_number.j5 (k + 1) e n mi dg (c - 48) (decide (dg = 1 ∧ n = 0 ∨ mi = true ∧ dg = 0 ∧ c - 48 = 0)) s (p : Int) false = some (0, s, (p : Int), true)) → ∃ v, Ev (fun k => edits_scanner_number.l0 k e n mi dg s (p : Int) false) (v, s, after s (takeL e st (c :: R))) ∧ ∀ u r, takeL e st (c :: R) = .ok u r → v = u := by
        intro hstep hj
        refine ⟨0, ⟨4, fun k hk => ?_⟩, fun u r h => ?_⟩
        · obtain ⟨k, rfl⟩ : ∃ m, k = m + 4 := ⟨k - 4, by omega⟩
          refine (hj4 (k + 1)).trans ?_
          rw [hj]
          simp only [takeL]
          rw [if_neg hno, hstep]
          simp only [after, plcp]
        · simp only [takeL] at h
          rw [if_neg hno, hstep] at h
          cases h
      have okcase : ∀ (st' : NS) (n' : Int), st.step c = some st' → st' ≠ .start → nst st' n' mi (dg + 1) → (∀ k, edits_scanner_number.j5 (k + 1) e n mi dg (c - 48) (decide (dg = 1 ∧ n = 0 ∨ mi = true ∧ dg = 0 ∧ c - 48 = 0)) s (p : Int) false = edits_scanner_number.l0 k e n' mi (dg + 1) s ((p + 1 : Nat) : Int) false) → ∃ v, Ev (fun k => edits_scanner_number.l0 k e n mi dg s (p : Int) false) (v, s, after s (takeL e st (c :: R))) ∧ ∀ u r, takeL e st (c :: R) = .ok u r → v = u := by
        intro st' n' hstep hns hn' hj
        obtain ⟨v, ⟨K, hK⟩, hv⟩ := IH st' n' mi hn' hns
        have ht : takeL e st (c :: R) = takeL e st' R := by
          simp only [takeL]
          rw [if_neg hno, hstep]
        rw [ht]
        refine ⟨v, ⟨K + 4, fun k hk => ?_⟩, hv⟩
        obtain ⟨k, rfl⟩ : ∃ m, k = m + 4 := ⟨k - 4, by omega⟩
        refine (hj4 (k + 1)).trans ?_
        rw [hj]
        exact hK k (by omega)
      -- the state turns as the machine does
      have j5go : ∀ (neg : Bool) (m : Int), mi = neg → n = sgn neg m → 0 ≤ m → m ≤ lim neg → decide (dg = 1 ∧ n = 0 ∨ mi = true ∧ dg = 0 ∧ c - 48 = 0) = false →
          (m * 10 + (c - 48) ≤ lim neg → ∀ k, edits_scanner_number.j5 (k + 1) e n mi dg (c - 48) (decide (dg = 1 ∧ n = 0 ∨ mi = true ∧ dg = 0 ∧ c - 48 = 0)) s (p : Int) false = edits_scanner_number.l0 k e (sgn neg (m * 10 + (c - 48))) mi (dg + 1) s ((p + 1 : Nat) : Int) false) ∧
          (¬ m * 10 + (c - 48) ≤ lim neg → ∀ k, edits_scanner_number.j5 (k + 1) e n mi dg (c - 48) (decide (dg = 1 ∧ n = 0 ∨ mi = true ∧ dg = 0 ∧ c - 48 = 0)) s (p : Int) false = some (0, s, (p : Int), true)) := by
        intro neg m hmi hn h0 hl hf
        subst hmi
        rw [hf]
        cases mi with
        | true =>
          simp only [sgn, lim, if_true] at hn hl ⊢
          constructor
          · intro h k
            simp only [edits_scanner_number.j5, Bool.false_eq_true, if_false, if_true, hdg, hw]
            rw [tdiv_lo2 (by omega), if_neg (by omega), w64 (x := n * 10) (by omega) (by omega), w64 (by omega) (by omega)]
            congr 1
            omega
          · intro h k
            simp only [edits_scanner_number.j5, Bool.false_eq_true, if_false, if_true, hdg, hw]
            rw [tdiv_lo2 (by omega), if_pos (by omega)]
        | false =>
          simp only [sgn, lim, Bool.false_eq_true, if_false] at hn hl ⊢
          constructor
          · intro h k
            simp only [edits_scanner_number.j5, Bool.false_eq_true, if_false, if_true, hdg, hw]
            rw [tdiv_hi2 (by omega), if_neg (by omega), w64 (x := n * 10) (by omega) (by omega), w64 (by omega) (by omega)]
            congr 1
            omega
          · intro h k
            simp only [edits_scanner_number.j5, Bool.false_eq_true, if_false, if_true, hdg, hw]
            rw [tdiv_hi2 (by omega), if_pos (by omega)]
      cases st with
      | start =>
        obtain ⟨hn, hm, hg⟩ := h3
        obtain ⟨j1, _⟩ := j5go false 0 hm (by rw [hn]; rfl) (by omega) (by simp [lim]) (decide_eq_false (by rw [hm]; simp; omega))
        have hz : (0 : Int) * 10 + (c - 48) = c - 48 := by omega
        rw [hz] at j1
        refine okcase (.num false (c - 48)) (sgn false (c - 48)) (by simp only [NS.step]; rw [if_neg (h5' rfl), if_pos (by omega)]) (by simp) ⟨rfl, hm, by omega, by omega, by simp only [lim, Bool.false_eq_true, if_false]; omega, by omega, by simp⟩ (j1 (by simp only [lim, Bool.false_eq_true, if_false]; omega))
      | minus =>
        obtain ⟨hn, hm, hg⟩ := h3
        by_cases hz : c = 48
        · refine badcase (by simp only [NS.step]; rw [if_neg (by omega)]) (fun k => ?_)
          rw [decide_eq_true (Or.inr ⟨hm, hg, by omega⟩)]
          simp only [edits_scanner_number.j5, if_true]
        · obtain ⟨j1, _⟩ := j5go true 0 hm (by rw [hn]; rfl) (by omega) (by simp [lim]) (decide_eq_false (by omega))
          have hz0 : (0 : Int) * 10 + (c - 48) = c - 48 := by omega
          rw [hz0] at j1
          refine okcase (.num true (c - 48)) (sgn true (c - 48)) (by simp only [NS.step]; rw [if_pos (by omega)]) (by simp) ⟨rfl, hm, by omega, by omega, by simp only [lim, if_true]; omega, by omega, fun _ => by omega⟩ (j1 (by simp only [lim, if_true]; omega))
      | num neg m =>
        obtain ⟨hn, hm, hg, h0, hl, hz, hp⟩ := h3
        by_cases hm0 : m = 0
        · have hz1 := hz.1 hm0
          refine badcase (by simp only [NS.step]; rw [if_neg (by omega)]) (fun k => ?_)
          rw [decide_eq_true (Or.inl ⟨hz1.1, by rw [hn, hm0]; cases neg <;> rfl⟩)]
          simp only [edits_scanner_number.j5, if_true]
        · have hn0 : n ≠ 0 := by rw [hn]; cases neg <;> simp [sgn] <;> omega
          obtain ⟨j1, j2⟩ := j5go neg m hm hn h0 hl (decide_eq_false (by omega))
          by_cases hfit : m * 10 + (c - 48) ≤ lim neg
          · exact okcase (.num neg (m * 10 + (c - 48))) _ (by simp only [NS.step]; rw [if_pos ⟨by omega, by omega, hm0, hfit⟩]) (by simp) ⟨rfl, hm, by omega, by omega, hfit, by omega, fun _ => by omega⟩ (j1 hfit)
          · exact badcase (by simp only [NS.step]; rw [if_neg (fun x => hfit x.2.2.2)]) (j2 hfit)
theorem number_is (s : ByteArray) (hs : s.size ≤ 140737488351232) (e : Int) (he : ¬(48 ≤ e ∧ e ≤ 57) ∧ e ≠ 45) (p : Nat) (h : p ≤ s.size) :
    ∃ v, Ev (fun k => edits_scanner_number.f k s (p : Int) false e) (v, s, after s (takeL e .start ((bytesOf s).drop p))) ∧ ∀ u r, takeL e .start ((bytesOf s).drop p) = .ok u r → v = u := by
  by_cases hlt : p < s.size
  · have A1 : ((p : Int) < (s.size : Int)) = True := eq_true (by omega)
    have A2 : ((0 : Int) ≤ (p : Int)) = True := eq_true (by omega)
    have hw : wrap64 ((p : Int) + 1) = ((p + 1 : Nat) : Int) := by rw [w64] <;> omega
    by_cases hm : bt s (p : Int) = 45
    · obtain ⟨v, ⟨K, hK⟩, hv⟩ := num_loop s hs e he _ (p + 1) .minus 0 true 0 (by omega) rfl ⟨rfl, rfl, rfl⟩ (by omega) (fun x => by cases x)
      have ht : takeL e .start ((bytesOf s).drop p) = takeL e .minus ((bytesOf s).drop (p + 1)) := by
        rw [dr_cons s p hlt, hm]
        simp [takeL, NS.isNum, NS.step]
      rw [ht]
      refine ⟨v, ⟨K + 2, fun k hk => ?_⟩, hv⟩
      obtain ⟨k, rfl⟩ : ∃ m, k = m + 2 := ⟨k - 2, by omega⟩
      simp only [edits_scanner_number.f, edits_scanner_number.j0, edits_scanner_number.j1, Bool.false_eq_true, if_false, if_true, A1, A2, hm, hw, show ((45 : Int) == 45) = true from rfl]
      exact hK k (by omega)
    · obtain ⟨v, ⟨K, hK⟩, hv⟩ := num_loop s hs e he _ p .start 0 false 0 h rfl ⟨rfl, rfl, rfl⟩ (by omega) (fun _ _ => hm)
      refine ⟨v, ⟨K + 2, fun k hk => ?_⟩, hv⟩
      obtain ⟨k, rfl⟩ : ∃ m, k = m + 2 := ⟨k - 2, by omega⟩
      simp only [edits_scanner_number.f, edits_scanner_number.j0, edits_scanner_number.j1, Bool.false_eq_true, if_false, if_true, A1, A2, beq_eq_false_iff_ne.2 hm]
      exact hK k (by omega)
  · have A1 : ((p : Int) < (s.size : Int)) = False := eq_false (by omega)
    obtain ⟨v, ⟨K, hK⟩, hv⟩ := num_loop s hs e he _ p .start 0 false 0 h rfl ⟨rfl, rfl, rfl⟩ (by omega) (fun _ hx => absurd hx hlt)
    refine ⟨v, ⟨K + 2, fun k hk => ?_⟩, hv⟩
    obtain ⟨k, rfl⟩ : ∃ m, k = m + 2 := ⟨k - 2, by omega⟩
    simp only [edits_scanner_number.f, edits_scanner_number.j0, edits_scanner_number.j1, Bool.false_eq_true, if_false, if_true, A1]
    exact hK k (by omega)
theorem number_bad (s : ByteArray) (p e : Int) : Ev (fun k => edits_scanner_number.f k s p true e) (0, s, p, true) := by
  refine ⟨5, fun k hk => ?_⟩
  obtain ⟨k, rfl⟩ : ∃ m, k = m + 5 := ⟨k - 5, by omega⟩
  simp [edits_scanner_number.f, edits_scanner_number.j0, edits_scanner_number.j1, edits_scanner_number.l0, edits_scanner_number.j3, byte_bad]
end Go.Proofs.YtaihajmdngoeiaaDoor.Q

namespace Go.Proofs.YtaihajmdngoeiaaDoor.Q
open Go.RowKit Go.Proofs.YtaihajmdngoeiaaDoorW.PrintWords Go.Proofs.YtaihajmdngoeiaaDoorW.PrintLast Go.Proofs.YtaihajmdngoeiaaDoorW.PrintMore
open Go.Proofs.YtaihajmdngoeiaaDoor.F
set_option linter.unusedVariables false
set_option linter.unusedSimpArgs false

theorem quot_loop (s : ByteArray) (hs : s.size ≤ 140737488351232) (d : Nat) : ∀ (p : Nat) (acc : List Int), p ≤ s.size → s.size - p ≤ d → acc.length ≤ p →
    ∃ v, Ev (fun k => edits_scanner_quoted.l0 k acc s (p : Int) false) (v, s, after s (quotL false acc ((bytesOf s).drop p))) ∧ ∀ u r, quotL false acc ((bytesOf s).drop p) = .ok u r → v = strOfNums u := by
  have atEnd : ∀ (p : Nat) (acc : List Int), p = s.size → ∃ v, Ev (fun k => edits_scanner_quoted.l0 k acc s (p : Int) false) (v, s, after s (quotL false acc ((bytesOf s).drop p))) ∧ ∀ u r, quotL false acc ((bytesOf s).drop p) = .ok u r → v = strOfNums u := by
    intro p acc hp
    have A1 : ((p : Int) = (s.size : Int)) = True := eq_true (by omega)
    have plc0 : plc s [] = (p : Int) := by unfold plc; simp [hp]
    rw [List.drop_eq_nil_of_le (by rw [bytesOf_length]; omega)]
    refine ⟨strOfNums acc, ⟨2, fun k hk => ?_⟩, fun u r h => by simp [quotL] at h⟩
    obtain ⟨k, rfl⟩ : ∃ m, k = m + 2 := ⟨k - 2, by omega⟩
    simp only [edits_scanner_quoted.l0, edits_scanner_quoted.j1, Bool.false_eq_true, if_false, if_true, A1, quotL, after, plc0]
  induction d with
  | zero => intro p acc h1 h2 h3; exact atEnd p acc (by omega)
  | succ d ih =>
    intro p acc h1 h2 h3
    by_cases hp : p = s.size
    · exact atEnd p acc hp
    have hlt : p < s.size := by omega
    have A1 : ((p : Int) = (s.size : Int)) = False := eq_false (by omega)
    have A2 : ((0 : Int) ≤ (p : Int)) = True := eq_true (by omega)
    have A3 : ((p : Int) < (s.size : Int)) = True := eq_true (by omega)
    have A4 : (acc.length < 140737488355328) = True := eq_true (by omega)
    have hw : wrap64 ((p : Int) + 1) = ((p + 1 : Nat) : Int) := by rw [w64] <;> omega
    have plcp := plc_dr s p h1
    have plcq := plc_dr s (p + 1) (by omega)
    have IH1 := fun c => ih (p + 1) (acc ++ [c]) (by omega) (by omega) (by simp; omega)
    have step0 : ∀ k, edits_scanner_quoted.l0 (k + 1) acc s (p : Int) false = edits_scanner_quoted.j1 k acc (bt s (p : Int) == 10) s (p : Int) false := by
      intro k
      simp only [edits_scanner_quoted.l0, Bool.false_eq_true, if_false, if_true, A1, A2, A3]
    rw [dr_cons s p hlt] at plcp ⊢
    by_cases e1 : p + 1 = s.size
    · have A5 : (((p + 1 : Nat) : Int) = (s.size : Int)) = True := eq_true (by omega)
      have stepJ : ∀ k, edits_scanner_quoted.j1 (k + 1) acc false s (p : Int) false = if bt s (p : Int) = 34 then some (strOfNums acc, s, ((p + 1 : Nat) : Int), false) else if bt s (p : Int) = 92 then some (strOfNums acc, s, ((p + 1 : Nat) : Int), true) else edits_scanner_quoted.l0 k (acc ++ [bt s (p : Int)]) s ((p + 1 : Nat) : Int) false := by
        intro k
        simp only [edits_scanner_quoted.j1, Bool.false_eq_true, if_false, if_true, A2, A3, A4, A5, hw]
      rw [List.drop_eq_nil_of_le (by rw [bytesOf_length]; omega)] at plcp plcq IH1 ⊢
      clear ih atEnd
      generalize bt s (p : Int) = c at step0 stepJ plcp ⊢
      by_cases c10 : c = 10
      · subst c10
        refine ⟨strOfNums acc, ⟨2, fun k hk => ?_⟩, fun u r h => by simp [quotL] at h⟩
        obtain ⟨k, rfl⟩ : ∃ m, k = m + 2 := ⟨k - 2, by omega⟩
        refine (step0 (k + 1)).trans ?_
        simp [edits_scanner_quoted.j1, quotL, after, plcp]
      have b10 := beq_eq_false_iff_ne.2 c10
      by_cases c34 : c = 34
      · subst c34
        refine ⟨strOfNums acc, ⟨2, fun k hk => ?_⟩, fun u r h => ?_⟩
        · obtain ⟨k, rfl⟩ : ∃ m, k = m + 2 := ⟨k - 2, by omega⟩
          refine (step0 (k + 1)).trans ?_
          rw [b10, stepJ]
          simp [quotL, after, plcq]
        · simp [quotL] at h; rw [h.1]
      by_cases c92 : c = 92
      · subst c92
        refine ⟨strOfNums acc, ⟨2, fun k hk => ?_⟩, fun u r h => by simp [quotL] at h⟩
        obtain ⟨k, rfl⟩ : ∃ m, k = m + 2 := ⟨k - 2, by omega⟩
        refine (step0 (k + 1)).trans ?_
        rw [b10, stepJ]
        simp [quotL, after, plcq]
      · obtain ⟨v, ⟨K, hK⟩, hv⟩ := IH1 c
        have hq : quotL false acc [c] = quotL false (acc ++ [c]) [] := by simp [quotL, c10, c34, c92]
        rw [hq]
        refine ⟨v, ⟨K + 2, fun k hk => ?_⟩, hv⟩
        obtain ⟨k, rfl⟩ : ∃ m, k = m + 2 := ⟨k - 2, by omega⟩
        refine (step0 (k + 1)).trans ?_
        rw [b10, stepJ, if_neg c34, if_neg c92]
        exact hK k (by omega)
    · have hlt1 : p + 1 < s.size := by omega
      have hw2 : wrap64 (((p + 1 : Nat) : Int) + 1) = ((p + 1 + 1 : Nat) : Int) := by rw [w64] <;> omega
      have plcr := plc_dr s (p + 1 + 1) (by omega)
      have IH2 := fun c => ih (p + 1 + 1) (acc ++ [c]) (by omega) (by omega) (by simp; omega)
      have A5 : (((p + 1 : Nat) : Int) = (s.size : Int)) = False := eq_false (by omega)
      have A6 : ((0 : Int) ≤ ((p + 1 : Nat) : Int)) = True := eq_true (by omega)
      have A7 : (((p + 1 : Nat) : Int) < (s.size : Int)) = True := eq_true (by omega)
      have stepJ : ∀ k, edits_scanner_quoted.j1 (k + 1) acc false s (p : Int) false = if bt s (p : Int) = 34 then some (strOfNums acc, s, ((p + 1 : Nat) : Int), false) else if bt s (p : Int) = 92 then (if bt s ((p + 1 : Nat) : Int) = 34 then edits_scanner_quoted.j2 k acc (bt s ((p + 1 : Nat) : Int)) (bt s ((p + 1 : Nat) : Int)) (bt s ((p + 1 : Nat) : Int) == 34) s ((p + 1 : Nat) : Int) false else edits_scanner_quoted.j2 k acc (bt s ((p + 1 : Nat) : Int)) (bt s ((p + 1 : Nat) : Int)) (bt s ((p + 1 : Nat) : Int) == 92) s ((p + 1 : Nat) : Int) false) else edits_scanner_quoted.l0 k (acc ++ [bt s (p : Int)]) s ((p + 1 : Nat) : Int) false := by
        intro k
        simp only [edits_scanner_quoted.j1, Bool.false_eq_true, if_false, if_true, A2, A3, A4, A5, A6, A7, hw]
      have stepK : ∀ (k : Nat) (x y : Int) (z : Bool), edits_scanner_quoted.j2 (k + 1) acc x y z s ((p + 1 : Nat) : Int) false = if z = true then edits_scanner_quoted.l0 k (acc ++ [x]) s ((p + 1 + 1 : Nat) : Int) false else if y = 110 then edits_scanner_quoted.l0 k (acc ++ [10]) s ((p + 1 + 1 : Nat) : Int) false else edits_scanner_quoted.l0 k acc s ((p + 1 : Nat) : Int) true := by
        intro k x y z
        simp only [edits_scanner_quoted.j2, Bool.false_eq_true, if_false, if_true, A4, hw2]
      have stepB : ∀ k, edits_scanner_quoted.l0 (k + 1) acc s ((p + 1 : Nat) : Int) true = some (strOfNums acc, s, ((p + 1 : Nat) : Int), true) := by
        intro k
        simp only [edits_scanner_quoted.l0, if_true]
      rw [dr_cons s (p + 1) hlt1] at IH1 plcp plcq ⊢
      clear ih atEnd
      generalize bt s (p : Int) = c at step0 stepJ plcp ⊢
      generalize bt s ((p + 1 : Nat) : Int) = c2 at stepJ plcp plcq IH1 ⊢
      generalize (bytesOf s).drop (p + 1 + 1) = R at plcp plcq plcr IH1 IH2 ⊢
      by_cases c10 : c = 10
      · subst c10
        refine ⟨strOfNums acc, ⟨2, fun k hk => ?_⟩, fun u r h => by simp [quotL] at h⟩
        obtain ⟨k, rfl⟩ : ∃ m, k = m + 2 := ⟨k - 2, by omega⟩
        refine (step0 (k + 1)).trans ?_
        simp [edits_scanner_quoted.j1, quotL, after, plcp]
      have b10 := beq_eq_false_iff_ne.2 c10
      by_cases c34 : c = 34
      · subst c34
        refine ⟨strOfNums acc, ⟨2, fun k hk => ?_⟩, fun u r h => ?_⟩
        · obtain ⟨k, rfl⟩ : ∃ m, k = m + 2 := ⟨k - 2, by omega⟩
          refine (step0 (k + 1)).trans ?_
          rw [b10, stepJ]
          simp [quotL, after, plcq]
        · simp [quotL] at h; rw [h.1]
      by_cases c92 : c = 92
      · subst c92
        have hq : quotL false acc (92 :: c2 :: R) = quotL true acc (c2 :: R) := by simp [quotL]
        rw [hq]
        by_cases f1 : c2 = 34 ∨ c2 = 92
        · obtain ⟨v, ⟨K, hK⟩, hv⟩ := IH2 c2
          have hq2 : quotL true acc (c2 :: R) = quotL false (acc ++ [c2]) R := by rw [quotL, if_pos f1]
          rw [hq2]
          refine ⟨v, ⟨K + 3, fun k hk => ?_⟩, hv⟩
          obtain ⟨k, rfl⟩ : ∃ m, k = m + 3 := ⟨k - 3, by omega⟩
          refine (step0 (k + 2)).trans ?_
          rw [b10, stepJ, if_neg (by omega), if_pos rfl]
          have hif : (if c2 = 34 then edits_scanner_quoted.j2 (k + 1) acc c2 c2 (c2 == 34) s ((p + 1 : Nat) : Int) false else edits_scanner_quoted.j2 (k + 1) acc c2 c2 (c2 == 92) s ((p + 1 : Nat) : Int) false) = edits_scanner_quoted.l0 k (acc ++ [c2]) s ((p + 1 + 1 : Nat) : Int) false := by
            rcases f1 with f | f
            · subst f; rw [if_pos rfl, stepK]; rfl
            · subst f; rw [if_neg (by omega), stepK]; rfl
          rw [hif]
          exact hK k (by omega)
        · have g34 : c2 ≠ 34 := fun h => f1 (Or.inl h)
          have g92 : c2 ≠ 92 := fun h => f1 (Or.inr h)
          by_cases f2 : c2 = 110
          · obtain ⟨v, ⟨K, hK⟩, hv⟩ := IH2 10
            have hq2 : quotL true acc (c2 :: R) = quotL false (acc ++ [10]) R := by rw [quotL, if_neg f1, if_pos f2]
            rw [hq2]
            refine ⟨v, ⟨K + 3, fun k hk => ?_⟩, hv⟩
            obtain ⟨k, rfl⟩ : ∃ m, k = m + 3 := ⟨k - 3, by omega⟩
            refine (step0 (k + 2)).trans ?_
            rw [b10, stepJ, if_neg (by omega), if_pos rfl, if_neg g34, stepK, beq_eq_false_iff_ne.2 g92, if_neg (by simp), if_pos f2]
            exact hK k (by omega)
          · have hq2 : quotL true acc (c2 :: R) = .bad (c2 :: R) := by rw [quotL, if_neg f1, if_neg f2]
            rw [hq2]
            refine ⟨strOfNums acc, ⟨4, fun k hk => ?_⟩, fun u r h => by cases h⟩
            obtain ⟨k, rfl⟩ : ∃ m, k = m + 4 := ⟨k - 4, by omega⟩
            refine (step0 (k + 3)).trans ?_
            rw [b10, stepJ, if_neg (by omega), if_pos rfl, if_neg g34, stepK, beq_eq_false_iff_ne.2 g92, if_neg (by simp), if_neg f2, stepB]
            simp only [after, plcq]
      · obtain ⟨v, ⟨K, hK⟩, hv⟩ := IH1 c
        have hq : quotL false acc (c :: c2 :: R) = quotL false (acc ++ [c]) (c2 :: R) := by rw [quotL, if_neg c10, if_neg c34, if_neg c92]
        rw [hq]
        refine ⟨v, ⟨K + 2, fun k hk => ?_⟩, hv⟩
        obtain ⟨k, rfl⟩ : ∃ m, k = m + 2 := ⟨k - 2, by omega⟩
        refine (step0 (k + 1)).trans ?_
        rw [b10, stepJ, if_neg c34, if_neg c92]
        exact hK k (by omega)
theorem suf_of {α : Type} {P : List Int → Res α} (hG : Good P) (s : ByteArray) (p : Nat) (v : α) (r : List Int) (hp : p ≤ s.size) (hP : P ((bytesOf s).drop p) = .ok v r) : ∃ q : Nat, q ≤ s.size ∧ r = (bytesOf s).drop q := by
  obtain ⟨c, hc, _, _⟩ := hG _ _ _ hP
  have hl := congrArg List.length hc
  rw [dr_len, List.length_append] at hl
  refine ⟨p + c.length, by omega, ?_⟩
  rw [← List.drop_drop, hc, List.drop_left]
def quotB (l : List Int) : Res (List Int) := (byteL 34 l).then fun _ l => quotL false [] l
theorem quotB_good : Good quotB := Good.then (byteL_good 34) fun _ => quotL_good false []
theorem quoted_is (s : ByteArray) (hs : s.size ≤ 140737488351232) (p : Nat) (h : p ≤ s.size) :
    ∃ v, Ev (fun k => edits_scanner_quoted.f k s (p : Int) false) (v, s, after s (quotB ((bytesOf s).drop p))) ∧ ∀ u r, quotB ((bytesOf s).drop p) = .ok u r → v = strOfNums u := by
  have hb := byte_is s hs p h 34
  unfold quotB
  cases h1 : byteL 34 ((bytesOf s).drop p) with
  | bad r =>
    rw [h1] at hb
    refine ⟨strOfNums [], ⟨1, fun k hk => ?_⟩, fun u r h => by cases h⟩
    obtain ⟨k, rfl⟩ : ∃ m, k = m + 1 := ⟨k - 1, by omega⟩
    simp only [edits_scanner_quoted.f]
    rw [hb]
    simp only [Option.bind_some, after, edits_scanner_quoted.l0, if_true, Res.then]
  | ok u r =>
    rw [h1] at hb
    obtain ⟨q, hq, rfl⟩ := suf_of (byteL_good 34) s p u r h h1
    obtain ⟨v, ⟨K, hK⟩, hv⟩ := quot_loop s hs _ q [] hq (Nat.le_refl _) (by simp)
    refine ⟨v, ⟨K, fun k hk => ?_⟩, hv⟩
    simp only [edits_scanner_quoted.f]
    rw [hb]
    simp only [Option.bind_some, after, Res.then]
    rw [plc_dr s q hq]
    exact hK k hk
theorem quoted_bad (s : ByteArray) (p : Int) : Ev (fun k => edits_scanner_quoted.f k s p true) (strOfNums [], s, p, true) := by
  refine ⟨1, fun k hk => ?_⟩
  obtain ⟨k, rfl⟩ : ∃ m, k = m + 1 := ⟨k - 1, by omega⟩
  simp [edits_scanner_quoted.f, byte_bad, edits_scanner_quoted.l0]
end Go.Proofs.YtaihajmdngoeiaaDoor.Q

-- A text of this session's own program (wip/myprint.sh over a changed print tool): functions and their walks
namespace Go.Proofs.YtaihajmdngoeiaaDoor.F
open Go.RowKit Go.Proofs.YtaihajmdngoeiaaDoorW.PrintWords Go.Proofs.YtaihajmdngoeiaaDoorW.PrintLast Go.Proofs.YtaihajmdngoeiaaDoorW.PrintMore
attribute [local go_sem] max2_int min2_int max_two min_two max_three min_three max_four min_four   -- for this text's walks alone
set_option linter.unusedVariables false
set_option linter.unusedSimpArgs false

/-! ### monikerref1_line: function 45 -/
mutual
def monikerref1_line.j0 : Nat → ByteArray → Int → Bool → Int → Int → ByteArray → Option (Int × Int × ByteArray × Int × Bool)
  | 0, _, _, _, _, _, _ => none
  | k + 1, x0, x1, x44, x414000, x414001, x414002 => if x44 = true then (some (x414000, x414001, x414002, x1, false)) else (monikerref1_line.l0 k x0 (wrap64 (x1 + 1)) ([] : List Int) x414000 x414001 x414002)
def monikerref1_line.l0 : Nat → ByteArray → Int → List Int → Int → Int → ByteArray → Option (Int × Int × ByteArray × Int × Bool)
  | 0, _, _, _, _, _, _ => none
  | k + 1, x0, x1, x9, x414000, x414001, x414002 => if x1 = (x0.size : Int) then (monikerref1_line.j2 k x0 x1 x9 true x414000 x414001 x414002) else (if 0 ≤ x1 then (if x1 < (x0.size : Int) then (monikerref1_line.j2 k x0 x1 x9 ((bt x0 x1) == 10) x414000 x414001 x414002) else (none)) else (none))
def monikerref1_line.j2 : Nat → ByteArray → Int → List Int → Bool → Int → Int → ByteArray → Option (Int × Int × ByteArray × Int × Bool)
  | 0, _, _, _, _, _, _, _ => none
  | k + 1, x0, x1, x9, x60, x414000, x414001, x414002 => if x60 = true then (some (x414000, x414001, x414002, x1, false)) else (if 0 ≤ x1 then (if x1 < (x0.size : Int) then (if (bt x0 x1) = 34 then (if (wrap64 (x1 + 1)) = (x0.size : Int) then (some (x414000, x414001, x414002, wrap64 (x1 + 1), false)) else (if 0 ≤ (wrap64 (x1 + 1)) then (if (wrap64 (x1 + 1)) < (x0.size : Int) then (if (bt x0 (wrap64 (x1 + 1))) = 10 then (some (x414000, x414001, strOfNums x9, wrap64 ((wrap64 (x1 + 1)) + 1), true)) else (some (x414000, x414001, x414002, wrap64 (x1 + 1), false))) else (none)) else (none))) else (if (bt x0 x1) = 92 then (if (wrap64 (x1 + 1)) = (x0.size : Int) then (monikerref1_line.j3 k x0 (wrap64 (x1 + 1)) x9 true x414000 x414001 x414002) else (if 0 ≤ (wrap64 (x1 + 1)) then (if (wrap64 (x1 + 1)) < (x0.size : Int) then (if (bt x0 (wrap64 (x1 + 1))) = 34 then (monikerref1_line.j3 k x0 (wrap64 (x1 + 1)) x9 false x414000 x414001 x414002) else (if (bt x0 (wrap64 (x1 + 1))) = 92 then (monikerref1_line.j3 k x0 (wrap64 (x1 + 1)) x9 false x414000 x414001 x414002) else (monikerref1_line.j3 k x0 (wrap64 (x1 + 1)) x9 ((bt x0 (wrap64 (x1 + 1))) != 110) x414000 x414001 x414002))) else (none)) else (none))) else (if x9.length < 140737488355328 then (monikerref1_line.l0 k x0 (wrap64 (x1 + 1)) (x9 ++ [bt x0 x1]) x414000 x414001 x414002) else (none)))) else (none)) else (none))
def monikerref1_line.j3 : Nat → ByteArray → Int → List Int → Bool → Int → Int → ByteArray → Option (Int × Int × ByteArray × Int × Bool)
  | 0, _, _, _, _, _, _, _ => none
  | k + 1, x0, x1, x9, x95, x414000, x414001, x414002 => if x95 = true then (some (x414000, x414001, x414002, x1, false)) else (if 0 ≤ x1 then (if x1 < (x0.size : Int) then (if (bt x0 x1) = 110 then (if x9.length < 140737488355328 then (monikerref1_line.l0 k x0 (wrap64 (x1 + 1)) (x9 ++ [10]) x414000 x414001 x414002) else (none)) else (if x9.length < 140737488355328 then (monikerref1_line.l0 k x0 (wrap64 (x1 + 1)) (x9 ++ [bt x0 x1]) x414000 x414001 x414002) else (none))) else (none)) else (none))
end
def monikerref1_line.f (k : Nat) (a0 : ByteArray) (a1 : Int) : Option (Int × Int × ByteArray × Int × Bool) := (monikerref1_take.f k a0 a1 44).bind fun bt414 => (if bt414.2.2 = true then ((monikerref1_take.f k a0 bt414.2.1 32).bind fun bt417 => (if bt417.2.2 = true then (if bt417.2.1 = (a0.size : Int) then (monikerref1_line.j0 k a0 bt417.2.1 true bt414.1 bt417.1 (⟨#[]⟩ : ByteArray)) else (if 0 ≤ bt417.2.1 then (if bt417.2.1 < (a0.size : Int) then (monikerref1_line.j0 k a0 bt417.2.1 ((bt a0 bt417.2.1) != 34) bt414.1 bt417.1 (⟨#[]⟩ : ByteArray)) else (none)) else (none))) else (some (bt414.1, bt417.1, (⟨#[]⟩ : ByteArray), bt417.2.1, false)))) else (some (bt414.1, 0, (⟨#[]⟩ : ByteArray), bt414.2.1, false)))
set_option maxHeartbeats 8000000 in
set_option maxRecDepth 100000 in
theorem monikerref1_line.calls (k : Nat) (a0 : ByteArray) (a1 : Int) (r1 : Int) (r2 : Int) (r3 : ByteArray) (r4 : Int) (r5 : Bool) (w : World) (h : monikerref1_line.f k a0 a1 = some (r1, r2, r3, r4, r5)) :
    Calls Tryd.prog 45 #[.string a0, .int .i64 a1] w fun e w' => e = .returned (.tuple #[.agg #[.int .i64 r1, .int .i64 r2, .string r3], .int .i64 r4, .bool r5]) ∧ Below w.heap.size w w' := by
  have hu42 := Tryd.underlying42
  have HB := Aside0.mk (Below.refl w.heap.size w)
  have H : ((monikerref1_take.f k a0 a1 44).bind fun bt414 => (if bt414.2.2 = true then ((monikerref1_take.f k a0 bt414.2.1 32).bind fun bt417 => (if bt417.2.2 = true then (if bt417.2.1 = (a0.size : Int) then (monikerref1_line.j0 k a0 bt417.2.1 true bt414.1 bt417.1 (⟨#[]⟩ : ByteArray)) else (if 0 ≤ bt417.2.1 then (if bt417.2.1 < (a0.size : Int) then (monikerref1_line.j0 k a0 bt417.2.1 ((bt a0 bt417.2.1) != 34) bt414.1 bt417.1 (⟨#[]⟩ : ByteArray)) else (none)) else (none))) else (some (bt414.1, bt417.1, (⟨#[]⟩ : ByteArray), bt417.2.1, false)))) else (some (bt414.1, 0, (⟨#[]⟩ : ByteArray), bt414.2.1, false)))) = some (r1, r2, r3, r4, r5) := h
  clear h
  replace H := Option.bind_eq_some_iff.mp H
  obtain ⟨⟨t414, t415, t416⟩, A30, H⟩ := H
  replace H : (if t416 = true then ((monikerref1_take.f k a0 t415 32).bind fun bt417 => (if bt417.2.2 = true then (if bt417.2.1 = (a0.size : Int) then (monikerref1_line.j0 k a0 bt417.2.1 true t414 bt417.1 (⟨#[]⟩ : ByteArray)) else (if 0 ≤ bt417.2.1 then (if bt417.2.1 < (a0.size : Int) then (monikerref1_line.j0 k a0 bt417.2.1 ((bt a0 bt417.2.1) != 34) t414 bt417.1 (⟨#[]⟩ : ByteArray)) else (none)) else (none))) else (some (t414, bt417.1, (⟨#[]⟩ : ByteArray), bt417.2.1, false)))) else (some (t414, 0, (⟨#[]⟩ : ByteArray), t415, false))) = some (r1, r2, r3, r4, r5) := H
  have A3 := Aside0.mk A30
  clear A30
  by_cases c4 : t416 = true
  · subst c4
    have H1 : ((monikerref1_take.f k a0 t415 32).bind fun bt417 => (if bt417.2.2 = true then (if bt417.2.1 = (a0.size : Int) then (monikerref1_line.j0 k a0 bt417.2.1 true t414 bt417.1 (⟨#[]⟩ : ByteArray)) else (if 0 ≤ bt417.2.1 then (if bt417.2.1 < (a0.size : Int) then (monikerref1_line.j0 k a0 bt417.2.1 ((bt a0 bt417.2.1) != 34) t414 bt417.1 (⟨#[]⟩ : ByteArray)) else (none)) else (none))) else (some (t414, bt417.1, (⟨#[]⟩ : ByteArray), bt417.2.1, false)))) = some (r1, r2, r3, r4, r5) := by rw [if_pos rfl] at H; exact H
    clear H
    have H := H1
    clear H1
    replace H := Option.bind_eq_some_iff.mp H
    obtain ⟨⟨t417, t418, t419⟩, A50, H⟩ := H
    replace H : (if t419 = true then (if t418 = (a0.size : Int) then (monikerref1_line.j0 k a0 t418 true t414 t417 (⟨#[]⟩ : ByteArray)) else (if 0 ≤ t418 then (if t418 < (a0.size : Int) then (monikerref1_line.j0 k a0 t418 ((bt a0 t418) != 34) t414 t417 (⟨#[]⟩ : ByteArray)) else (none)) else (none))) else (some (t414, t417, (⟨#[]⟩ : ByteArray), t418, false))) = some (r1, r2, r3, r4, r5) := H
    have A5 := Aside0.mk A50
    clear A50
    by_cases c6 : t419 = true
    · subst c6
      have H1 : (if t418 = (a0.size : Int) then (monikerref1_line.j0 k a0 t418 true t414 t417 (⟨#[]⟩ : ByteArray)) else (if 0 ≤ t418 then (if t418 < (a0.size : Int) then (monikerref1_line.j0 k a0 t418 ((bt a0 t418) != 34) t414 t417 (⟨#[]⟩ : ByteArray)) else (none)) else (none))) = some (r1, r2, r3, r4, r5) := by rw [if_pos rfl] at H; exact H
      clear H
      have H := H1
      clear H1
      have HC7 := Aside0.mk H
      clear H
      go_enter Tryd.func45, Tryd.ntmps45
      go_upto_region 9 with (first | ((with_reducible refine gate_dst (N := 4) rfl ?_); refine box_event ?hg (N := 4) ?hd (cs := #[.int .i64 0, .int .i64 0, .string (⟨#[]⟩ : ByteArray)]) (t := 42) ?hr ?_; (case hd => rfl); (case hg => rfl); (case hr => first | (go_simp; done) | (go_simp; rfl)); intro gb412 hg w8 hbox hb; have n0_ := Aside0.mk (below_step (by repeat (first | (with_reducible first | exact HB.out | apply below_alloc | apply pw_below_drewN | apply below_drew1) | exact HB.out)) hb); have n1_ := Aside0.mk (hbox); have n2_ := Aside0.mk ((by rw [hg]; exact (below_size (by repeat (first | (with_reducible first | exact HB.out | apply below_alloc | apply pw_below_drewN | apply below_drew1) | exact HB.out))) : w.heap.size ≤ gb412)); have n3_ := Aside0.mk ((by rw [hg]; exact (below_size (by repeat (first | (with_reducible first | exact HB.out | apply below_alloc | apply pw_below_drewN | apply below_drew1) | exact HB.out))) : w.heap.size ≤ gb412)); clear HB; have HB := n0_; have BK412 := n1_; have GW412 := n2_; have GE412 := n3_; clear n0_ n1_ n2_ n3_; clear hb hbox hg) | ((with_reducible refine gate_dst (N := 7) rfl ?_); refine box_event ?hg (N := 7) ?hd (cs := #[.int .i64 0, .int .i64 0, .string (⟨#[]⟩ : ByteArray)]) (t := 42) ?hr ?_; (case hd => rfl); (case hg => rfl); (case hr => first | (go_simp; done) | (go_simp; rfl)); intro gb413 hg w9 hbox hb; have n0_ := Aside0.mk (blk_below (g := gb412) (o := .cells #[.int .i64 0, .int .i64 0, .string (⟨#[]⟩ : ByteArray)] 42 (0, 0)) (by (with_reducible repeat (first | refine blk_drewN ?_ _ | refine blk_drew ?_ | refine blk_alloc ?_ _)); exact BK412.out) hb); have n1_ := Aside0.mk (below_step (by repeat (first | (with_reducible first | exact HB.out | apply below_alloc | apply pw_below_drewN | apply below_drew1 | refine below_set ?_ GE412.out) | exact HB.out)) hb); have n2_ := Aside0.mk (hbox); have n3_ := Aside0.mk ((by rw [hg]; exact (below_size (by repeat (first | (with_reducible first | exact HB.out | apply below_alloc | apply pw_below_drewN | apply below_drew1 | refine below_set ?_ GE412.out) | exact HB.out))) : w.heap.size ≤ gb413)); have n4_ := Aside0.mk ((by rw [hg]; exact (below_size (by repeat (first | (with_reducible first | exact HB.out | apply below_alloc | apply pw_below_drewN | apply below_drew1 | refine below_set ?_ GE412.out) | exact HB.out))) : w.heap.size ≤ gb413)); have n5_ := Aside0.mk ((by rw [hg]; exact Nat.ne_of_lt (blk_lt (g := gb412) (o := .cells #[.int .i64 0, .int .i64 0, .string (⟨#[]⟩ : ByteArray)] 42 (0, 0)) (by (with_reducible repeat (first | refine blk_drewN ?_ _ | refine blk_drew ?_ | refine blk_alloc ?_ _)); exact BK412.out)) : gb412 ≠ gb413)); have n6_ := Aside0.mk ((by rw [hg]; exact Nat.ne_of_gt (blk_lt (g := gb412) (o := .cells #[.int .i64 0, .int .i64 0, .string (⟨#[]⟩ : ByteArray)] 42 (0, 0)) (by (with_reducible repeat (first | refine blk_drewN ?_ _ | refine blk_drew ?_ | refine blk_alloc ?_ _)); exact BK412.out)) : gb413 ≠ gb412)); clear BK412; clear HB; have BK412 := n0_; have HB := n1_; have BK413 := n2_; have GW413 := n3_; have GE413 := n4_; have NB412_413 := n5_; have NB413_412 := n6_; clear n0_ n1_ n2_ n3_ n4_ n5_ n6_; clear hb hbox hg) | ((with_reducible refine gate_callee (f := 57) rfl ?_); refine goesL_ (some 14) rfl rfl Tryd.func57 (by kernel_rfl) rfl #[.string a0, .int .i64 a1, .int .u8 44] rfl (by (try simp only [List.map_toArray, List.map_cons, List.map_nil]); first | done | rfl | (simp only [List.length_drop, List.length_take]; rfl)) ?_; (with_reducible refine (monikerref1_take.calls k a0 a1 44 t414 t415 true _ A3.out).mono ?_); rintro e w10 ⟨rfl, hb⟩; refine ⟨_, rfl, ?_⟩; have n0_ := Aside0.mk (blk_below (g := gb412) (o := .cells #[.int .i64 0, .int .i64 0, .string (⟨#[]⟩ : ByteArray)] 42 (0, 0)) (by (with_reducible repeat (first | refine blk_drewN ?_ _ | refine blk_drew ?_ | refine blk_alloc ?_ _)); exact BK412.out) hb); have n1_ := Aside0.mk (blk_below (g := gb413) (o := .cells #[.int .i64 0, .int .i64 0, .string (⟨#[]⟩ : ByteArray)] 42 (0, 0)) (by (with_reducible repeat (first | refine blk_drewN ?_ _ | refine blk_drew ?_ | refine blk_alloc ?_ _)); exact BK413.out) hb); have n2_ := Aside0.mk (below_step (by repeat (first | (with_reducible first | exact HB.out | apply below_alloc | apply pw_below_drewN | apply below_drew1 | refine below_set ?_ GE412.out | refine below_set ?_ GE413.out) | exact HB.out)) hb); clear BK412; clear BK413; clear HB; have BK412 := n0_; have BK413 := n1_; have HB := n2_; clear n0_ n1_ n2_; (try clear hb); (try clear hb2); (try clear hk); (try clear hi); have hnb11 := NB413_412.out; have hnc11 := NB412_413.out; have hcz12_0 : w10.cell? ⟨gb413, 0, none⟩ = some (.int .i64 0) := (blk_cell BK413.out 0).trans rfl; have hcz12_1 : w10.cell? ⟨gb413, 1, none⟩ = some (.int .i64 0) := (blk_cell BK413.out 1).trans rfl; have hcz12_2 : w10.cell? ⟨gb413, 2, none⟩ = some (.string (⟨#[]⟩ : ByteArray)) := (blk_cell BK413.out 2).trans rfl; have hfz12_0 := blk_frozen BK413.out 0; have hfz12_1 := blk_frozen BK413.out 1; have hfz12_2 := blk_frozen BK413.out 2) | ((with_reducible refine gate_callee (f := 57) rfl ?_); refine goesL_ (some 26) rfl rfl Tryd.func57 (by kernel_rfl) rfl #[.string a0, .int .i64 t415, .int .u8 32] rfl (by (try simp only [List.map_toArray, List.map_cons, List.map_nil]); first | done | rfl | (simp only [List.length_drop, List.length_take]; rfl)) ?_; (with_reducible refine (monikerref1_take.calls k a0 t415 32 t417 t418 true _ A5.out).mono ?_); rintro e w13 ⟨rfl, hb⟩; refine ⟨_, rfl, ?_⟩; have n0_ := Aside0.mk (blk_below (g := gb412) (o := .cells #[.int .i64 0, .int .i64 0, .string (⟨#[]⟩ : ByteArray)] 42 (0, 0)) (by (with_reducible repeat (first | refine blk_drewN ?_ _ | refine blk_drew ?_ | refine blk_alloc ?_ _)); refine blk_far ?_ NB412_413.out _; (with_reducible repeat (first | refine blk_drewN ?_ _ | refine blk_drew ?_ | refine blk_alloc ?_ _)); exact BK412.out) hb); have n1_ := Aside0.mk (blk_below (g := gb413) (o := .cells #[.int .i64 t414, .int .i64 0, .string (⟨#[]⟩ : ByteArray)] 42 (0, 0)) (by (with_reducible repeat (first | refine blk_drewN ?_ _ | refine blk_drew ?_ | refine blk_alloc ?_ _)); refine blk_put (cs := #[.int .i64 0, .int .i64 0, .string (⟨#[]⟩ : ByteArray)]) ?_ 0 _ rfl; (with_reducible repeat (first | refine blk_drewN ?_ _ | refine blk_drew ?_ | refine blk_alloc ?_ _)); exact BK413.out) hb); have n2_ := Aside0.mk (below_step (by repeat (first | (with_reducible first | exact HB.out | apply below_alloc | apply pw_below_drewN | apply below_drew1 | refine below_set ?_ GE412.out | refine below_set ?_ GE413.out) | exact HB.out)) hb); clear BK412; clear BK413; clear HB; have BK412 := n0_; have BK413 := n1_; have HB := n2_; clear n0_ n1_ n2_; (try clear hb); (try clear hb2); (try clear hk); (try clear hi); have hcz14_0 : w13.cell? ⟨gb413, 0, none⟩ = some (.int .i64 t414) := (blk_cell BK413.out 0).trans rfl; have hcz14_1 : w13.cell? ⟨gb413, 1, none⟩ = some (.int .i64 0) := (blk_cell BK413.out 1).trans rfl; have hcz14_2 : w13.cell? ⟨gb413, 2, none⟩ = some (.string (⟨#[]⟩ : ByteArray)) := (blk_cell BK413.out 2).trans rfl; have hfz14_0 := blk_frozen BK413.out 0; have hfz14_1 := blk_frozen BK413.out 1; have hfz14_2 := blk_frozen BK413.out 2))
      (try simp only [Act.put, List.setIfInBounds_toArray, List.set_cons_zero, List.set_cons_succ])
      go_cut [44] (fun v44 wc => ∃ (kq : Nat) (x44_6 : Bool), v44 = .bool x44_6 ∧ Aside0 (monikerref1_line.j0 kq a0 t418 x44_6 t414 t417 (⟨#[]⟩ : ByteArray) = some (r1, r2, r3, r4, r5)) ∧ Aside0 (kq ≤ k) ∧ Aside0 (wc.heap[gb412]? = some (.cells #[.int .i64 0, .int .i64 0, .string (⟨#[]⟩ : ByteArray)] 42 (0, 0))) ∧ Aside0 (wc.heap[gb413]? = some (.cells #[.int .i64 t414, .int .i64 t417, .string (⟨#[]⟩ : ByteArray)] 42 (0, 0))) ∧ Aside0 (Below w.heap.size w wc))
      case first =>
        have H := HC7.out
        clear HC7
        by_cases c15 : t418 = (a0.size : Int)
        · rw [if_pos c15] at H
          have c15b0 : (t418 == (a0.size : Int)) = true := beq_iff_eq.mpr c15
          have c15b1 : (t418 != (a0.size : Int)) = false := bne_eq_false_iff_eq.mpr c15
          clear c15
          (first | rw [c15b0] | (simp only [i64_w, i32_w]; rw [c15b0]) | skip)
          have H' := Aside0.mk H
          clear H
          go_wp2
          go_meet
          case rel => exact ⟨_, (true), (by first | rfl | (simp; done) | (simp [*]; done)), (by first | exact H' | (first | (simp only [hji40]; exact H') | (simp only [← hji40]; exact H') | (rw [hji40]; exact H') | (rw [← hji40]; exact H')) | (first | (simp only [hji56]; exact H') | (simp only [← hji56]; exact H') | (rw [hji56]; exact H') | (rw [← hji56]; exact H')) | (first | (simp only [hji68]; exact H') | (simp only [← hji68]; exact H') | (rw [hji68]; exact H') | (rw [← hji68]; exact H'))), ⟨by first | omega | exact Nat.le_refl _⟩, ⟨by (with_reducible repeat (first | refine blk_drewN ?_ _ | refine blk_drew ?_ | refine blk_alloc ?_ _)); refine blk_far ?_ NB412_413.out _; (with_reducible repeat (first | refine blk_drewN ?_ _ | refine blk_drew ?_ | refine blk_alloc ?_ _)); exact BK412.out⟩, ⟨by (with_reducible repeat (first | refine blk_drewN ?_ _ | refine blk_drew ?_ | refine blk_alloc ?_ _)); refine blk_put (cs := #[.int .i64 t414, .int .i64 0, .string (⟨#[]⟩ : ByteArray)]) ?_ 1 _ rfl; (with_reducible repeat (first | refine blk_drewN ?_ _ | refine blk_drew ?_ | refine blk_alloc ?_ _)); exact BK413.out⟩, ⟨by repeat (first | (with_reducible first | exact HB.out | apply below_alloc | apply pw_below_drewN | apply below_drew1 | refine below_set ?_ GE412.out | refine below_set ?_ GE413.out) | exact HB.out)⟩⟩
        · rw [if_neg c15] at H
          have c15b0 : (t418 == (a0.size : Int)) = false := beq_eq_false_iff_ne.mpr c15
          have c15b1 : (t418 != (a0.size : Int)) = true := bne_iff_ne.mpr c15
          (first | rw [c15b0] | (simp only [i64_w, i32_w]; rw [c15b0]) | skip)
          by_cases c16 : 0 ≤ t418
          · rw [if_pos c16] at H
            have c16b0 : decide (0 ≤ t418) = true := decide_eq_true c16
            clear c16
            by_cases c17 : t418 < (a0.size : Int)
            · rw [if_pos c17] at H
              have c17b0 : decide (t418 < (a0.size : Int)) = true := decide_eq_true c17
              clear c17
              have H' := Aside0.mk H
              clear H
              have p18 : 0 ≤ (t418 : Int) := of_decide_eq_true (by first | (with_reducible assumption) | assumption)
              have q18 : t418 < (a0.size : Int) := of_decide_eq_true (by first | (with_reducible assumption) | assumption)
              have hx18 := bt_at a0 t418
              replace p18 := eq_true p18
              replace q18 := eq_true q18
              go_wp2
              go_meet
              case rel => exact ⟨_, (((bt a0 t418) != 34)), (by first | rfl | (simp; done) | (simp [*]; done)), (by first | exact H' | (first | (simp only [hji40]; exact H') | (simp only [← hji40]; exact H') | (rw [hji40]; exact H') | (rw [← hji40]; exact H')) | (first | (simp only [hji56]; exact H') | (simp only [← hji56]; exact H') | (rw [hji56]; exact H') | (rw [← hji56]; exact H')) | (first | (simp only [hji68]; exact H') | (simp only [← hji68]; exact H') | (rw [hji68]; exact H') | (rw [← hji68]; exact H'))), ⟨by first | omega | exact Nat.le_refl _⟩, ⟨by (with_reducible repeat (first | refine blk_drewN ?_ _ | refine blk_drew ?_ | refine blk_alloc ?_ _)); refine blk_far ?_ NB412_413.out _; (with_reducible repeat (first | refine blk_drewN ?_ _ | refine blk_drew ?_ | refine blk_alloc ?_ _)); exact BK412.out⟩, ⟨by (with_reducible repeat (first | refine blk_drewN ?_ _ | refine blk_drew ?_ | refine blk_alloc ?_ _)); refine blk_put (cs := #[.int .i64 t414, .int .i64 0, .string (⟨#[]⟩ : ByteArray)]) ?_ 1 _ rfl; (with_reducible repeat (first | refine blk_drewN ?_ _ | refine blk_drew ?_ | refine blk_alloc ?_ _)); exact BK413.out⟩, ⟨by repeat (first | (with_reducible first | exact HB.out | apply below_alloc | apply pw_below_drewN | apply below_drew1 | refine below_set ?_ GE412.out | refine below_set ?_ GE413.out) | exact HB.out)⟩⟩
            · rw [if_neg c17] at H
              exact absurd H (by simp)
          · rw [if_neg c16] at H
            exact absurd H (by simp)
      case rest =>
        clear HC7
        try clear c1
        try clear p1
        try clear q1
        try clear hx1
        try clear p2
        try clear c4
        try clear c5
        try clear c6
        try clear c11
        try clear c15
        try clear c15b0
        try clear c15b1
        try clear c16
        try clear c16b0
        try clear c17
        try clear c17b0
        try clear p18
        try clear q18
        try clear hx18
        try clear hcz12_0
        try clear hcz12_1
        try clear hcz12_2
        try clear hcz14_0
        try clear hcz14_1
        try clear hcz14_2
        try clear hfz12_0
        try clear hfz12_1
        try clear hfz12_2
        try clear hfz14_0
        try clear hfz14_1
        try clear hfz14_2
        try clear p18
        try clear q18
        obtain ⟨kq, x44_6, rfl, HA, HJ6, BK412, BK413, HB⟩ := hcut
        cases kq with
        | zero => exact absurd HA.out (by simp [monikerref1_line.j0])
        | succ kj6 =>
          have H := HA.out
          clear HA
          simp only [monikerref1_line.j0] at H
          by_cases c19 : x44_6 = true
          · subst c19
            have H1 : (some (t414, t417, (⟨#[]⟩ : ByteArray), t418, false)) = some (r1, r2, r3, r4, r5) := by rw [if_pos rfl] at H; exact H
            clear H
            have H := H1
            clear H1
            simp only [Option.some.injEq, Prod.mk.injEq] at H
            obtain ⟨rfl, rfl, rfl, rfl, rfl⟩ := H
            have hnb20 := NB413_412.out
            have hnc20 := NB412_413.out
            have hcz21_0 : wc.cell? ⟨gb413, 0, none⟩ = some (.int .i64 t414) := (blk_cell BK413.out 0).trans rfl
            have hcz21_1 : wc.cell? ⟨gb413, 1, none⟩ = some (.int .i64 t417) := (blk_cell BK413.out 1).trans rfl
            have hcz21_2 : wc.cell? ⟨gb413, 2, none⟩ = some (.string (⟨#[]⟩ : ByteArray)) := (blk_cell BK413.out 2).trans rfl
            have hfz21_0 := blk_frozen BK413.out 0
            have hfz21_1 := blk_frozen BK413.out 1
            have hfz21_2 := blk_frozen BK413.out 2
            have hcz22_0 : wc.cell? ⟨gb412, 0, none⟩ = some (.int .i64 0) := (blk_cell BK412.out 0).trans rfl
            have hcz22_1 : wc.cell? ⟨gb412, 1, none⟩ = some (.int .i64 0) := (blk_cell BK412.out 1).trans rfl
            have hcz22_2 : wc.cell? ⟨gb412, 2, none⟩ = some (.string (⟨#[]⟩ : ByteArray)) := (blk_cell BK412.out 2).trans rfl
            have hfz22_0 := blk_frozen BK412.out 0
            have hfz22_1 := blk_frozen BK412.out 1
            have hfz22_2 := blk_frozen BK412.out 2
            go_wp2
            refine bodyPost_ret (results_ctt rfl _ _ gb412 42 #[.int .i64 t414, .int .i64 t417, .string (⟨#[]⟩ : ByteArray)] (0, 0) _ rfl (by (with_reducible repeat (first | refine blk_drewN ?_ _ | refine blk_drew ?_ | refine blk_alloc ?_ _)); refine blk_put (cs := #[.int .i64 t414, .int .i64 t417, .string (⟨#[]⟩ : ByteArray)]) ?_ 2 _ rfl; (with_reducible repeat (first | refine blk_drewN ?_ _ | refine blk_drew ?_ | refine blk_alloc ?_ _)); refine blk_put (cs := #[.int .i64 t414, .int .i64 0, .string (⟨#[]⟩ : ByteArray)]) ?_ 1 _ rfl; (with_reducible repeat (first | refine blk_drewN ?_ _ | refine blk_drew ?_ | refine blk_alloc ?_ _)); refine blk_put (cs := #[.int .i64 0, .int .i64 0, .string (⟨#[]⟩ : ByteArray)]) ?_ 0 _ rfl; (with_reducible repeat (first | refine blk_drewN ?_ _ | refine blk_drew ?_ | refine blk_alloc ?_ _)); exact BK412.out) Tryd.underlying42 rfl (by kernel_rfl)) rfl ?_
            exact ⟨by first | rfl | (simp [errW_none, errW_some] <;> rfl) | (simp [*, errW_none, errW_some] <;> rfl), by repeat (first | (with_reducible first | exact HB.out | apply below_alloc | apply pw_below_drewN | apply below_drew1 | refine below_set ?_ GE412.out | refine below_set ?_ GE413.out) | exact HB.out)⟩
          · replace c19 := Bool.eq_false_iff.mpr c19
            subst c19
            have H1 : (monikerref1_line.l0 kj6 a0 (wrap64 (t418 + 1)) ([] : List Int) t414 t417 (⟨#[]⟩ : ByteArray)) = some (r1, r2, r3, r4, r5) := by rw [if_neg (show ¬ (false = true) by decide)] at H; exact H
            clear H
            have H := H1
            clear H1
            have H' := Aside0.mk H
            clear H
            go_wp2
            go_loopg [1, 9] kj6 (fun kq v1 v9 w' => ∃ (x1_2 : Int) (x9_2 : List Int) (x413000_2 : Int) (x413001_2 : Int) (x413002_2 : ByteArray), v1 = .int .i64 x1_2 ∧ Aside0 (monikerref1_line.l0 kq a0 x1_2 x9_2 t414 t417 (⟨#[]⟩ : ByteArray) = some (r1, r2, r3, r4, r5)) ∧ Aside0 (kq ≤ kj6) ∧ Aside0 (Kd.R (Kd.int .u8) 5 w' w.heap.size (fun _ => True) v9 x9_2) ∧ Aside0 (w'.heap[gb412]? = some (.cells #[.int .i64 x413000_2, .int .i64 x413001_2, .string x413002_2] 42 (0, 0))) ∧ Aside0 (w'.heap[gb413]? = some (.cells #[.int .i64 t414, .int .i64 t417, .string (⟨#[]⟩ : ByteArray)] 42 (0, 0))) ∧ Aside0 (Below w.heap.size w w'))
            case atStart => exact ⟨(wrap64 (t418 + 1)), (([] : List Int)), (0), (0), ((⟨#[]⟩ : ByteArray)), (by first | rfl | (simp; done) | (simp [*]; done)), H', ⟨Nat.le_refl _⟩, ⟨by first | exact Kd.R_nil _ _ _ _ _ | exact Kd.N_nil _ _ _ _ _ | exact Kd.V_nil _ _ _ _ _ | exact Kd.Q_nil _ _ _ _ _ | exact Kd.S_nil _ _ _ _ _⟩, ⟨by (with_reducible repeat (first | refine blk_drewN ?_ _ | refine blk_drew ?_ | refine blk_alloc ?_ _)); exact BK412.out⟩, ⟨by (with_reducible repeat (first | refine blk_drewN ?_ _ | refine blk_drew ?_ | refine blk_alloc ?_ _)); exact BK413.out⟩, ⟨by repeat (first | (with_reducible first | exact HB.out | apply below_alloc | apply pw_below_drewN | apply below_drew1 | refine below_set ?_ GE412.out | refine below_set ?_ GE413.out) | exact HB.out)⟩⟩
            case round =>
              clear H'
              try clear c1
              try clear p1
              try clear q1
              try clear hx1
              try clear c2
              try clear p2
              try clear c4
              try clear c5
              try clear c6
              try clear p6
              try clear c11
              try clear c15
              try clear c15b0
              try clear c15b1
              try clear c16
              try clear c16b0
              try clear c17
              try clear c17b0
              try clear p18
              try clear q18
              try clear hx18
              try clear c19
              try clear c20
              try clear hcz12_0
              try clear hcz12_1
              try clear hcz12_2
              try clear hcz14_0
              try clear hcz14_1
              try clear hcz14_2
              try clear hcz21_0
              try clear hcz21_1
              try clear hcz21_2
              try clear hcz22_0
              try clear hcz22_1
              try clear hcz22_2
              try clear hfz12_0
              try clear hfz12_1
              try clear hfz12_2
              try clear hfz14_0
              try clear hfz14_1
              try clear hfz14_2
              try clear hfz21_0
              try clear hfz21_1
              try clear hfz21_2
              try clear hfz22_0
              try clear hfz22_1
              try clear hfz22_2
              try clear p1
              try clear p18
              try clear p2
              try clear q1
              try clear q18
              obtain ⟨x1_2, x9_2, x413000_2, x413001_2, x413002_2, rfl, HA, HK2, HO_9, BK412, BK413, HB⟩ := hrel
              cases gk with
              | zero => exact absurd HA.out (by simp [monikerref1_line.l0])
              | succ k2 =>
                have H := HA.out
                clear HA
                simp only [monikerref1_line.l0] at H
                have HC23 := Aside0.mk H
                clear H
                go_upto_region 14 with (fail)
                go_cut [60] (fun v60 wc => ∃ (kq : Nat) (x60_22 : Bool), v60 = .bool x60_22 ∧ Aside0 (monikerref1_line.j2 kq a0 x1_2 x9_2 x60_22 t414 t417 (⟨#[]⟩ : ByteArray) = some (r1, r2, r3, r4, r5)) ∧ Aside0 (kq ≤ k2) ∧ Aside0 (Kd.R (Kd.int .u8) 5 wc w.heap.size (fun _ => True) u9 x9_2) ∧ Aside0 (wc.heap[gb412]? = some (.cells #[.int .i64 x413000_2, .int .i64 x413001_2, .string x413002_2] 42 (0, 0))) ∧ Aside0 (wc.heap[gb413]? = some (.cells #[.int .i64 t414, .int .i64 t417, .string (⟨#[]⟩ : ByteArray)] 42 (0, 0))) ∧ Aside0 (Below w.heap.size w wc))
                case first =>
                  have H := HC23.out
                  clear HC23
                  by_cases c24 : x1_2 = (a0.size : Int)
                  · rw [if_pos c24] at H
                    have c24b0 : (x1_2 == (a0.size : Int)) = true := beq_iff_eq.mpr c24
                    have c24b1 : (x1_2 != (a0.size : Int)) = false := bne_eq_false_iff_eq.mpr c24
                    clear c24
                    (first | rw [c24b0] | (simp only [i64_w, i32_w]; rw [c24b0]) | skip)
                    have H' := Aside0.mk H
                    clear H
                    go_wp2
                    go_meet
                    case rel => exact ⟨_, (true), (by first | rfl | (simp; done) | (simp [*]; done)), (by first | exact H' | (first | (simp only [hji40]; exact H') | (simp only [← hji40]; exact H') | (rw [hji40]; exact H') | (rw [← hji40]; exact H')) | (first | (simp only [hji56]; exact H') | (simp only [← hji56]; exact H') | (rw [hji56]; exact H') | (rw [← hji56]; exact H')) | (first | (simp only [hji68]; exact H') | (simp only [← hji68]; exact H') | (rw [hji68]; exact H') | (rw [← hji68]; exact H'))), ⟨by have := HJ6.out; have := HK2.out; first | omega | exact Nat.le_refl _⟩, ⟨by (with_reducible repeat (first | apply Kd.R_alloc | apply Kd.R_drewN | apply Kd.R_drew)); exact HO_9.out⟩, ⟨by (with_reducible repeat (first | refine blk_drewN ?_ _ | refine blk_drew ?_ | refine blk_alloc ?_ _)); exact BK412.out⟩, ⟨by (with_reducible repeat (first | refine blk_drewN ?_ _ | refine blk_drew ?_ | refine blk_alloc ?_ _)); exact BK413.out⟩, ⟨by repeat (first | (with_reducible first | exact HB.out | apply below_alloc | apply pw_below_drewN | apply below_drew1 | refine below_set ?_ GE412.out | refine below_set ?_ GE413.out) | exact HB.out)⟩⟩
                  · rw [if_neg c24] at H
                    have c24b0 : (x1_2 == (a0.size : Int)) = false := beq_eq_false_iff_ne.mpr c24
                    have c24b1 : (x1_2 != (a0.size : Int)) = true := bne_iff_ne.mpr c24
                    (first | rw [c24b0] | (simp only [i64_w, i32_w]; rw [c24b0]) | skip)
                    by_cases c25 : 0 ≤ x1_2
                    · rw [if_pos c25] at H
                      have c25b0 : decide (0 ≤ x1_2) = true := decide_eq_true c25
                      clear c25
                      by_cases c26 : x1_2 < (a0.size : Int)
                      · rw [if_pos c26] at H
                        have c26b0 : decide (x1_2 < (a0.size : Int)) = true := decide_eq_true c26
                        clear c26
                        have H' := Aside0.mk H
                        clear H
                        have p27 : 0 ≤ (x1_2 : Int) := of_decide_eq_true (by first | (with_reducible assumption) | assumption)
                        have q27 : x1_2 < (a0.size : Int) := of_decide_eq_true (by first | (with_reducible assumption) | assumption)
                        have hx27 := bt_at a0 x1_2
                        replace p27 := eq_true p27
                        replace q27 := eq_true q27
                        go_wp2
                        go_meet
                        case rel => exact ⟨_, (((bt a0 x1_2) == 10)), (by first | rfl | (simp; done) | (simp [*]; done)), (by first | exact H' | (first | (simp only [hji40]; exact H') | (simp only [← hji40]; exact H') | (rw [hji40]; exact H') | (rw [← hji40]; exact H')) | (first | (simp only [hji56]; exact H') | (simp only [← hji56]; exact H') | (rw [hji56]; exact H') | (rw [← hji56]; exact H')) | (first | (simp only [hji68]; exact H') | (simp only [← hji68]; exact H') | (rw [hji68]; exact H') | (rw [← hji68]; exact H'))), ⟨by have := HJ6.out; have := HK2.out; first | omega | exact Nat.le_refl _⟩, ⟨by (with_reducible repeat (first | apply Kd.R_alloc | apply Kd.R_drewN | apply Kd.R_drew)); exact HO_9.out⟩, ⟨by (with_reducible repeat (first | refine blk_drewN ?_ _ | refine blk_drew ?_ | refine blk_alloc ?_ _)); exact BK412.out⟩, ⟨by (with_reducible repeat (first | refine blk_drewN ?_ _ | refine blk_drew ?_ | refine blk_alloc ?_ _)); exact BK413.out⟩, ⟨by repeat (first | (with_reducible first | exact HB.out | apply below_alloc | apply pw_below_drewN | apply below_drew1 | refine below_set ?_ GE412.out | refine below_set ?_ GE413.out) | exact HB.out)⟩⟩
                      · rw [if_neg c26] at H
                        exact absurd H (by simp)
                    · rw [if_neg c25] at H
                      exact absurd H (by simp)
                case rest =>
                  clear HC23
                  try clear c1
                  try clear p1
                  try clear q1
                  try clear hx1
                  try clear c2
                  try clear p2
                  try clear q2
                  try clear hx2
                  try clear c4
                  try clear c5
                  try clear c6
                  try clear p6
                  try clear c11
                  try clear c15
                  try clear c15b0
                  try clear c15b1
                  try clear c16
                  try clear c16b0
                  try clear c17
                  try clear c17b0
                  try clear p18
                  try clear q18
                  try clear hx18
                  try clear c19
                  try clear c20
                  try clear c24
                  try clear c24b0
                  try clear c24b1
                  try clear c25
                  try clear c25b0
                  try clear c26
                  try clear c26b0
                  try clear p27
                  try clear q27
                  try clear hx27
                  try clear hcz12_0
                  try clear hcz12_1
                  try clear hcz12_2
                  try clear hcz14_0
                  try clear hcz14_1
                  try clear hcz14_2
                  try clear hcz21_0
                  try clear hcz21_1
                  try clear hcz21_2
                  try clear hcz22_0
                  try clear hcz22_1
                  try clear hcz22_2
                  try clear hfz12_0
                  try clear hfz12_1
                  try clear hfz12_2
                  try clear hfz14_0
                  try clear hfz14_1
                  try clear hfz14_2
                  try clear hfz21_0
                  try clear hfz21_1
                  try clear hfz21_2
                  try clear hfz22_0
                  try clear hfz22_1
                  try clear hfz22_2
                  try clear p1
                  try clear p18
                  try clear p2
                  try clear p27
                  try clear p6
                  try clear q1
                  try clear q18
                  try clear q27
                  obtain ⟨kq, x60_22, rfl, HA, HJ22, HO_9, BK412, BK413, HB⟩ := hcut
                  cases kq with
                  | zero => exact absurd HA.out (by simp [monikerref1_line.j2])
                  | succ kj22 =>
                    have H := HA.out
                    clear HA
                    simp only [monikerref1_line.j2] at H
                    by_cases c28 : x60_22 = true
                    · subst c28
                      have H1 : (some (t414, t417, (⟨#[]⟩ : ByteArray), x1_2, false)) = some (r1, r2, r3, r4, r5) := by rw [if_pos rfl] at H; exact H
                      clear H
                      have H := H1
                      clear H1
                      simp only [Option.some.injEq, Prod.mk.injEq] at H
                      obtain ⟨rfl, rfl, rfl, rfl, rfl⟩ := H
                      have hnb29 := NB413_412.out
                      have hnc29 := NB412_413.out
                      have hcz30_0 : wc.cell? ⟨gb413, 0, none⟩ = some (.int .i64 t414) := (blk_cell BK413.out 0).trans rfl
                      have hcz30_1 : wc.cell? ⟨gb413, 1, none⟩ = some (.int .i64 t417) := (blk_cell BK413.out 1).trans rfl
                      have hcz30_2 : wc.cell? ⟨gb413, 2, none⟩ = some (.string (⟨#[]⟩ : ByteArray)) := (blk_cell BK413.out 2).trans rfl
                      have hfz30_0 := blk_frozen BK413.out 0
                      have hfz30_1 := blk_frozen BK413.out 1
                      have hfz30_2 := blk_frozen BK413.out 2
                      have hcz31_0 : wc.cell? ⟨gb412, 0, none⟩ = some (.int .i64 x413000_2) := (blk_cell BK412.out 0).trans rfl
                      have hcz31_1 : wc.cell? ⟨gb412, 1, none⟩ = some (.int .i64 x413001_2) := (blk_cell BK412.out 1).trans rfl
                      have hcz31_2 : wc.cell? ⟨gb412, 2, none⟩ = some (.string x413002_2) := (blk_cell BK412.out 2).trans rfl
                      have hfz31_0 := blk_frozen BK412.out 0
                      have hfz31_1 := blk_frozen BK412.out 1
                      have hfz31_2 := blk_frozen BK412.out 2
                      go_wp2
                      refine bodyPost_ret (results_ctt rfl _ _ gb412 42 #[.int .i64 t414, .int .i64 t417, .string (⟨#[]⟩ : ByteArray)] (0, 0) _ rfl (by (with_reducible repeat (first | refine blk_drewN ?_ _ | refine blk_drew ?_ | refine blk_alloc ?_ _)); refine blk_put (cs := #[.int .i64 t414, .int .i64 t417, .string x413002_2]) ?_ 2 _ rfl; (with_reducible repeat (first | refine blk_drewN ?_ _ | refine blk_drew ?_ | refine blk_alloc ?_ _)); refine blk_put (cs := #[.int .i64 t414, .int .i64 x413001_2, .string x413002_2]) ?_ 1 _ rfl; (with_reducible repeat (first | refine blk_drewN ?_ _ | refine blk_drew ?_ | refine blk_alloc ?_ _)); refine blk_put (cs := #[.int .i64 x413000_2, .int .i64 x413001_2, .string x413002_2]) ?_ 0 _ rfl; (with_reducible repeat (first | refine blk_drewN ?_ _ | refine blk_drew ?_ | refine blk_alloc ?_ _)); exact BK412.out) Tryd.underlying42 rfl (by kernel_rfl)) rfl ?_
                      exact ⟨by first | rfl | (simp [errW_none, errW_some] <;> rfl) | (simp [*, errW_none, errW_some] <;> rfl), by repeat (first | (with_reducible first | exact HB.out | apply below_alloc | apply pw_below_drewN | apply below_drew1 | refine below_set ?_ GE412.out | refine below_set ?_ GE413.out) | exact HB.out)⟩
                    · replace c28 := Bool.eq_false_iff.mpr c28
                      subst c28
                      have H1 : (if 0 ≤ x1_2 then (if x1_2 < (a0.size : Int) then (if (bt a0 x1_2) = 34 then (if (wrap64 (x1_2 + 1)) = (a0.size : Int) then (some (t414, t417, (⟨#[]⟩ : ByteArray), wrap64 (x1_2 + 1), false)) else (if 0 ≤ (wrap64 (x1_2 + 1)) then (if (wrap64 (x1_2 + 1)) < (a0.size : Int) then (if (bt a0 (wrap64 (x1_2 + 1))) = 10 then (some (t414, t417, strOfNums x9_2, wrap64 ((wrap64 (x1_2 + 1)) + 1), true)) else (some (t414, t417, (⟨#[]⟩ : ByteArray), wrap64 (x1_2 + 1), false))) else (none)) else (none))) else (if (bt a0 x1_2) = 92 then (if (wrap64 (x1_2 + 1)) = (a0.size : Int) then (monikerref1_line.j3 kj22 a0 (wrap64 (x1_2 + 1)) x9_2 true t414 t417 (⟨#[]⟩ : ByteArray)) else (if 0 ≤ (wrap64 (x1_2 + 1)) then (if (wrap64 (x1_2 + 1)) < (a0.size : Int) then (if (bt a0 (wrap64 (x1_2 + 1))) = 34 then (monikerref1_line.j3 kj22 a0 (wrap64 (x1_2 + 1)) x9_2 false t414 t417 (⟨#[]⟩ : ByteArray)) else (if (bt a0 (wrap64 (x1_2 + 1))) = 92 then (monikerref1_line.j3 kj22 a0 (wrap64 (x1_2 + 1)) x9_2 false t414 t417 (⟨#[]⟩ : ByteArray)) else (monikerref1_line.j3 kj22 a0 (wrap64 (x1_2 + 1)) x9_2 ((bt a0 (wrap64 (x1_2 + 1))) != 110) t414 t417 (⟨#[]⟩ : ByteArray)))) else (none)) else (none))) else (if x9_2.length < 140737488355328 then (monikerref1_line.l0 kj22 a0 (wrap64 (x1_2 + 1)) (x9_2 ++ [bt a0 x1_2]) t414 t417 (⟨#[]⟩ : ByteArray)) else (none)))) else (none)) else (none)) = some (r1, r2, r3, r4, r5) := by rw [if_neg (show ¬ (false = true) by decide)] at H; exact H
                      clear H
                      have H := H1
                      clear H1
                      by_cases c32 : 0 ≤ x1_2
                      · rw [if_pos c32] at H
                        have c32b0 : decide (0 ≤ x1_2) = true := decide_eq_true c32
                        clear c32
                        by_cases c33 : x1_2 < (a0.size : Int)
                        · rw [if_pos c33] at H
                          have c33b0 : decide (x1_2 < (a0.size : Int)) = true := decide_eq_true c33
                          clear c33
                          by_cases c35 : (bt a0 x1_2) = 34
                          · rw [if_pos c35] at H
                            have c35b0 : ((bt a0 x1_2) == 34) = true := beq_iff_eq.mpr c35
                            have c35b1 : ((bt a0 x1_2) != 34) = false := bne_eq_false_iff_eq.mpr c35
                            clear c35
                            by_cases c36 : (wrap64 (x1_2 + 1)) = (a0.size : Int)
                            · rw [if_pos c36] at H
                              have c36b0 : ((wrap64 (x1_2 + 1)) == (a0.size : Int)) = true := beq_iff_eq.mpr c36
                              have c36b1 : ((wrap64 (x1_2 + 1)) != (a0.size : Int)) = false := bne_eq_false_iff_eq.mpr c36
                              clear c36
                              simp only [Option.some.injEq, Prod.mk.injEq] at H
                              obtain ⟨rfl, rfl, rfl, rfl, rfl⟩ := H
                              have p34 : 0 ≤ (x1_2 : Int) := of_decide_eq_true (by first | (with_reducible assumption) | assumption)
                              have q34 : x1_2 < (a0.size : Int) := of_decide_eq_true (by first | (with_reducible assumption) | assumption)
                              have hx34 := bt_at a0 x1_2
                              replace p34 := eq_true p34
                              replace q34 := eq_true q34
                              have hnb37 := NB413_412.out
                              have hnc37 := NB412_413.out
                              have hcz38_0 : wc.cell? ⟨gb413, 0, none⟩ = some (.int .i64 t414) := (blk_cell BK413.out 0).trans rfl
                              have hcz38_1 : wc.cell? ⟨gb413, 1, none⟩ = some (.int .i64 t417) := (blk_cell BK413.out 1).trans rfl
                              have hcz38_2 : wc.cell? ⟨gb413, 2, none⟩ = some (.string (⟨#[]⟩ : ByteArray)) := (blk_cell BK413.out 2).trans rfl
                              have hfz38_0 := blk_frozen BK413.out 0
                              have hfz38_1 := blk_frozen BK413.out 1
                              have hfz38_2 := blk_frozen BK413.out 2
                              have hcz39_0 : wc.cell? ⟨gb412, 0, none⟩ = some (.int .i64 x413000_2) := (blk_cell BK412.out 0).trans rfl
                              have hcz39_1 : wc.cell? ⟨gb412, 1, none⟩ = some (.int .i64 x413001_2) := (blk_cell BK412.out 1).trans rfl
                              have hcz39_2 : wc.cell? ⟨gb412, 2, none⟩ = some (.string x413002_2) := (blk_cell BK412.out 2).trans rfl
                              have hfz39_0 := blk_frozen BK412.out 0
                              have hfz39_1 := blk_frozen BK412.out 1
                              have hfz39_2 := blk_frozen BK412.out 2
                              go_wp2
                              refine bodyPost_ret (results_ctt rfl _ _ gb412 42 #[.int .i64 t414, .int .i64 t417, .string (⟨#[]⟩ : ByteArray)] (0, 0) _ rfl (by (with_reducible repeat (first | refine blk_drewN ?_ _ | refine blk_drew ?_ | refine blk_alloc ?_ _)); refine blk_put (cs := #[.int .i64 t414, .int .i64 t417, .string x413002_2]) ?_ 2 _ rfl; (with_reducible repeat (first | refine blk_drewN ?_ _ | refine blk_drew ?_ | refine blk_alloc ?_ _)); refine blk_put (cs := #[.int .i64 t414, .int .i64 x413001_2, .string x413002_2]) ?_ 1 _ rfl; (with_reducible repeat (first | refine blk_drewN ?_ _ | refine blk_drew ?_ | refine blk_alloc ?_ _)); refine blk_put (cs := #[.int .i64 x413000_2, .int .i64 x413001_2, .string x413002_2]) ?_ 0 _ rfl; (with_reducible repeat (first | refine blk_drewN ?_ _ | refine blk_drew ?_ | refine blk_alloc ?_ _)); exact BK412.out) Tryd.underlying42 rfl (by kernel_rfl)) rfl ?_
                              exact ⟨by first | rfl | (simp [errW_none, errW_some] <;> rfl) | (simp [*, errW_none, errW_some] <;> rfl), by repeat (first | (with_reducible first | exact HB.out | apply below_alloc | apply pw_below_drewN | apply below_drew1 | refine below_set ?_ GE412.out | refine below_set ?_ GE413.out) | exact HB.out)⟩
                            · rw [if_neg c36] at H
                              have c36b0 : ((wrap64 (x1_2 + 1)) == (a0.size : Int)) = false := beq_eq_false_iff_ne.mpr c36
                              have c36b1 : ((wrap64 (x1_2 + 1)) != (a0.size : Int)) = true := bne_iff_ne.mpr c36
                              obtain ⟨ji40, hji40⟩ : ∃ j_ : Int, (wrap64 (x1_2 + 1)) = j_ := ⟨_, rfl⟩
                              replace H : (if 0 ≤ (ji40) then (if (ji40) < (a0.size : Int) then (if (bt a0 (ji40)) = 10 then (some (t414, t417, strOfNums x9_2, wrap64 ((ji40) + 1), true)) else (some (t414, t417, (⟨#[]⟩ : ByteArray), ji40, false))) else (none)) else (none)) = some (r1, r2, r3, r4, r5) := by first | (rw [hji40] at H; exact H) | (simp only [hji40] at H ⊢; exact H)
                              (try rw [hji40] at c36b0)
                              (try rw [hji40] at c36b1)
                              have hji40w : (IntKind.i64.wrap (x1_2 + 1)) = ji40 := (i64_w _).trans hji40
                              by_cases c41 : 0 ≤ (ji40)
                              · rw [if_pos c41] at H
                                have c41b0 : decide (0 ≤ (ji40)) = true := decide_eq_true c41
                                clear c41
                                by_cases c42 : (ji40) < (a0.size : Int)
                                · rw [if_pos c42] at H
                                  have c42b0 : decide ((ji40) < (a0.size : Int)) = true := decide_eq_true c42
                                  clear c42
                                  by_cases c44 : (bt a0 (ji40)) = 10
                                  · rw [if_pos c44] at H
                                    have c44b0 : ((bt a0 (ji40)) == 10) = true := beq_iff_eq.mpr c44
                                    have c44b1 : ((bt a0 (ji40)) != 10) = false := bne_eq_false_iff_eq.mpr c44
                                    clear c44
                                    simp only [Option.some.injEq, Prod.mk.injEq] at H
                                    obtain ⟨rfl, rfl, rfl, rfl, rfl⟩ := H
                                    have p34 : 0 ≤ (x1_2 : Int) := of_decide_eq_true (by first | (with_reducible assumption) | assumption)
                                    have q34 : x1_2 < (a0.size : Int) := of_decide_eq_true (by first | (with_reducible assumption) | assumption)
                                    have hx34 := bt_at a0 x1_2
                                    replace p34 := eq_true p34
                                    replace q34 := eq_true q34
                                    have p43 : 0 ≤ ((ji40) : Int) := of_decide_eq_true (by first | (with_reducible assumption) | assumption)
                                    have q43 : (ji40) < (a0.size : Int) := of_decide_eq_true (by first | (with_reducible assumption) | assumption)
                                    have hx43 := bt_at a0 (ji40)
                                    replace p43 := eq_true p43
                                    replace q43 := eq_true q43
                                    have hcv45 := own_string (P := Tryd.prog) Tryd.underlying59 Tryd.underlying5 Tryd.underlying9 (Kd.own_of_R HO_9.out)
                                    have hnb46 := NB413_412.out
                                    have hnc46 := NB412_413.out
                                    have hcz47_0 : wc.cell? ⟨gb413, 0, none⟩ = some (.int .i64 t414) := (blk_cell BK413.out 0).trans rfl
                                    have hcz47_1 : wc.cell? ⟨gb413, 1, none⟩ = some (.int .i64 t417) := (blk_cell BK413.out 1).trans rfl
                                    have hcz47_2 : wc.cell? ⟨gb413, 2, none⟩ = some (.string (⟨#[]⟩ : ByteArray)) := (blk_cell BK413.out 2).trans rfl
                                    have hfz47_0 := blk_frozen BK413.out 0
                                    have hfz47_1 := blk_frozen BK413.out 1
                                    have hfz47_2 := blk_frozen BK413.out 2
                                    have hcz48_0 : wc.cell? ⟨gb412, 0, none⟩ = some (.int .i64 x413000_2) := (blk_cell BK412.out 0).trans rfl
                                    have hcz48_1 : wc.cell? ⟨gb412, 1, none⟩ = some (.int .i64 x413001_2) := (blk_cell BK412.out 1).trans rfl
                                    have hcz48_2 : wc.cell? ⟨gb412, 2, none⟩ = some (.string x413002_2) := (blk_cell BK412.out 2).trans rfl
                                    have hfz48_0 := blk_frozen BK412.out 0
                                    have hfz48_1 := blk_frozen BK412.out 1
                                    have hfz48_2 := blk_frozen BK412.out 2
                                    go_wp2
                                    refine bodyPost_ret (results_ctt rfl _ _ gb412 42 #[.int .i64 t414, .int .i64 t417, .string (strOfNums x9_2)] (0, 0) _ rfl (by (with_reducible repeat (first | refine blk_drewN ?_ _ | refine blk_drew ?_ | refine blk_alloc ?_ _)); refine blk_put (cs := #[.int .i64 t414, .int .i64 t417, .string x413002_2]) ?_ 2 _ rfl; (with_reducible repeat (first | refine blk_drewN ?_ _ | refine blk_drew ?_ | refine blk_alloc ?_ _)); refine blk_put (cs := #[.int .i64 t414, .int .i64 x413001_2, .string x413002_2]) ?_ 1 _ rfl; (with_reducible repeat (first | refine blk_drewN ?_ _ | refine blk_drew ?_ | refine blk_alloc ?_ _)); refine blk_put (cs := #[.int .i64 x413000_2, .int .i64 x413001_2, .string x413002_2]) ?_ 0 _ rfl; (with_reducible repeat (first | refine blk_drewN ?_ _ | refine blk_drew ?_ | refine blk_alloc ?_ _)); refine blk_far ?_ NB412_413.out _; (with_reducible repeat (first | refine blk_drewN ?_ _ | refine blk_drew ?_ | refine blk_alloc ?_ _)); exact BK412.out) Tryd.underlying42 rfl (by kernel_rfl)) rfl ?_
                                    exact ⟨by first | rfl | (simp [errW_none, errW_some] <;> rfl) | (simp only [← hji40]; first | rfl | (simp [errW_none, errW_some] <;> rfl)) | (simp [*, errW_none, errW_some] <;> rfl), by repeat (first | (with_reducible first | exact HB.out | apply below_alloc | apply pw_below_drewN | apply below_drew1 | refine below_set ?_ GE412.out | refine below_set ?_ GE413.out) | exact HB.out)⟩
                                  · rw [if_neg c44] at H
                                    have c44b0 : ((bt a0 (ji40)) == 10) = false := beq_eq_false_iff_ne.mpr c44
                                    have c44b1 : ((bt a0 (ji40)) != 10) = true := bne_iff_ne.mpr c44
                                    simp only [Option.some.injEq, Prod.mk.injEq] at H
                                    obtain ⟨rfl, rfl, rfl, rfl, rfl⟩ := H
                                    have p34 : 0 ≤ (x1_2 : Int) := of_decide_eq_true (by first | (with_reducible assumption) | assumption)
                                    have q34 : x1_2 < (a0.size : Int) := of_decide_eq_true (by first | (with_reducible assumption) | assumption)
                                    have hx34 := bt_at a0 x1_2
                                    replace p34 := eq_true p34
                                    replace q34 := eq_true q34
                                    have p43 : 0 ≤ ((ji40) : Int) := of_decide_eq_true (by first | (with_reducible assumption) | assumption)
                                    have q43 : (ji40) < (a0.size : Int) := of_decide_eq_true (by first | (with_reducible assumption) | assumption)
                                    have hx43 := bt_at a0 (ji40)
                                    replace p43 := eq_true p43
                                    replace q43 := eq_true q43
                                    have hnb49 := NB413_412.out
                                    have hnc49 := NB412_413.out
                                    have hcz50_0 : wc.cell? ⟨gb413, 0, none⟩ = some (.int .i64 t414) := (blk_cell BK413.out 0).trans rfl
                                    have hcz50_1 : wc.cell? ⟨gb413, 1, none⟩ = some (.int .i64 t417) := (blk_cell BK413.out 1).trans rfl
                                    have hcz50_2 : wc.cell? ⟨gb413, 2, none⟩ = some (.string (⟨#[]⟩ : ByteArray)) := (blk_cell BK413.out 2).trans rfl
                                    have hfz50_0 := blk_frozen BK413.out 0
                                    have hfz50_1 := blk_frozen BK413.out 1
                                    have hfz50_2 := blk_frozen BK413.out 2
                                    have hcz51_0 : wc.cell? ⟨gb412, 0, none⟩ = some (.int .i64 x413000_2) := (blk_cell BK412.out 0).trans rfl
                                    have hcz51_1 : wc.cell? ⟨gb412, 1, none⟩ = some (.int .i64 x413001_2) := (blk_cell BK412.out 1).trans rfl
                                    have hcz51_2 : wc.cell? ⟨gb412, 2, none⟩ = some (.string x413002_2) := (blk_cell BK412.out 2).trans rfl
                                    have hfz51_0 := blk_frozen BK412.out 0
                                    have hfz51_1 := blk_frozen BK412.out 1
                                    have hfz51_2 := blk_frozen BK412.out 2
                                    go_wp2
                                    refine bodyPost_ret (results_ctt rfl _ _ gb412 42 #[.int .i64 t414, .int .i64 t417, .string (⟨#[]⟩ : ByteArray)] (0, 0) _ rfl (by (with_reducible repeat (first | refine blk_drewN ?_ _ | refine blk_drew ?_ | refine blk_alloc ?_ _)); refine blk_put (cs := #[.int .i64 t414, .int .i64 t417, .string x413002_2]) ?_ 2 _ rfl; (with_reducible repeat (first | refine blk_drewN ?_ _ | refine blk_drew ?_ | refine blk_alloc ?_ _)); refine blk_put (cs := #[.int .i64 t414, .int .i64 x413001_2, .string x413002_2]) ?_ 1 _ rfl; (with_reducible repeat (first | refine blk_drewN ?_ _ | refine blk_drew ?_ | refine blk_alloc ?_ _)); refine blk_put (cs := #[.int .i64 x413000_2, .int .i64 x413001_2, .string x413002_2]) ?_ 0 _ rfl; (with_reducible repeat (first | refine blk_drewN ?_ _ | refine blk_drew ?_ | refine blk_alloc ?_ _)); exact BK412.out) Tryd.underlying42 rfl (by kernel_rfl)) rfl ?_
                                    exact ⟨by first | rfl | (simp [errW_none, errW_some] <;> rfl) | (simp only [← hji40]; first | rfl | (simp [errW_none, errW_some] <;> rfl)) | (simp [*, errW_none, errW_some] <;> rfl), by repeat (first | (with_reducible first | exact HB.out | apply below_alloc | apply pw_below_drewN | apply below_drew1 | refine below_set ?_ GE412.out | refine below_set ?_ GE413.out) | exact HB.out)⟩
                                · rw [if_neg c42] at H
                                  exact absurd H (by simp)
                              · rw [if_neg c41] at H
                                exact absurd H (by simp)
                          · rw [if_neg c35] at H
                            have c35b0 : ((bt a0 x1_2) == 34) = false := beq_eq_false_iff_ne.mpr c35
                            have c35b1 : ((bt a0 x1_2) != 34) = true := bne_iff_ne.mpr c35
                            by_cases c53 : (bt a0 x1_2) = 92
                            · rw [if_pos c53] at H
                              have c53b0 : ((bt a0 x1_2) == 92) = true := beq_iff_eq.mpr c53
                              have c53b1 : ((bt a0 x1_2) != 92) = false := bne_eq_false_iff_eq.mpr c53
                              clear c53
                              have HC54 := Aside0.mk H
                              clear H
                              have p34 : 0 ≤ (x1_2 : Int) := of_decide_eq_true (by first | (with_reducible assumption) | assumption)
                              have q34 : x1_2 < (a0.size : Int) := of_decide_eq_true (by first | (with_reducible assumption) | assumption)
                              have hx34 := bt_at a0 x1_2
                              replace p34 := eq_true p34
                              replace q34 := eq_true q34
                              have p52 : 0 ≤ (x1_2 : Int) := of_decide_eq_true (by first | (with_reducible assumption) | assumption)
                              have q52 : x1_2 < (a0.size : Int) := of_decide_eq_true (by first | (with_reducible assumption) | assumption)
                              have hx52 := bt_at a0 x1_2
                              replace p52 := eq_true p52
                              replace q52 := eq_true q52
                              go_upto_region 20 with (fail)
                              go_cut [95] (fun v95 wc => ∃ (kq : Nat) (x95_53 : Bool), v95 = .bool x95_53 ∧ Aside0 (monikerref1_line.j3 kq a0 (wrap64 (x1_2 + 1)) x9_2 x95_53 t414 t417 (⟨#[]⟩ : ByteArray) = some (r1, r2, r3, r4, r5)) ∧ Aside0 (kq ≤ kj22) ∧ Aside0 (Kd.R (Kd.int .u8) 5 wc w.heap.size (fun _ => True) u9 x9_2) ∧ Aside0 (wc.heap[gb412]? = some (.cells #[.int .i64 x413000_2, .int .i64 x413001_2, .string x413002_2] 42 (0, 0))) ∧ Aside0 (wc.heap[gb413]? = some (.cells #[.int .i64 t414, .int .i64 t417, .string (⟨#[]⟩ : ByteArray)] 42 (0, 0))) ∧ Aside0 (Below w.heap.size w wc))
                              case first =>
                                have H := HC54.out
                                clear HC54
                                by_cases c55 : (wrap64 (x1_2 + 1)) = (a0.size : Int)
                                · rw [if_pos c55] at H
                                  have c55b0 : ((wrap64 (x1_2 + 1)) == (a0.size : Int)) = true := beq_iff_eq.mpr c55
                                  have c55b1 : ((wrap64 (x1_2 + 1)) != (a0.size : Int)) = false := bne_eq_false_iff_eq.mpr c55
                                  clear c55
                                  (first | rw [c55b0] | (simp only [i64_w, i32_w]; rw [c55b0]) | skip)
                                  have H' := Aside0.mk H
                                  clear H
                                  go_wp2
                                  go_meet
                                  case rel => exact ⟨_, (true), (by first | rfl | (simp; done) | (simp [*]; done)), (by first | exact H' | (first | (simp only [hji40]; exact H') | (simp only [← hji40]; exact H') | (rw [hji40]; exact H') | (rw [← hji40]; exact H')) | (first | (simp only [hji56]; exact H') | (simp only [← hji56]; exact H') | (rw [hji56]; exact H') | (rw [← hji56]; exact H')) | (first | (simp only [hji68]; exact H') | (simp only [← hji68]; exact H') | (rw [hji68]; exact H') | (rw [← hji68]; exact H'))), ⟨by have := HJ6.out; have := HK2.out; have := HJ22.out; first | omega | exact Nat.le_refl _⟩, ⟨by (with_reducible repeat (first | apply Kd.R_alloc | apply Kd.R_drewN | apply Kd.R_drew)); exact HO_9.out⟩, ⟨by (with_reducible repeat (first | refine blk_drewN ?_ _ | refine blk_drew ?_ | refine blk_alloc ?_ _)); exact BK412.out⟩, ⟨by (with_reducible repeat (first | refine blk_drewN ?_ _ | refine blk_drew ?_ | refine blk_alloc ?_ _)); exact BK413.out⟩, ⟨by repeat (first | (with_reducible first | exact HB.out | apply below_alloc | apply pw_below_drewN | apply below_drew1 | refine below_set ?_ GE412.out | refine below_set ?_ GE413.out) | exact HB.out)⟩⟩
                                · rw [if_neg c55] at H
                                  have c55b0 : ((wrap64 (x1_2 + 1)) == (a0.size : Int)) = false := beq_eq_false_iff_ne.mpr c55
                                  have c55b1 : ((wrap64 (x1_2 + 1)) != (a0.size : Int)) = true := bne_iff_ne.mpr c55
                                  (first | rw [c55b0] | (simp only [i64_w, i32_w]; rw [c55b0]) | skip)
                                  obtain ⟨ji56, hji56⟩ : ∃ j_ : Int, (wrap64 (x1_2 + 1)) = j_ := ⟨_, rfl⟩
                                  replace H : (if 0 ≤ (ji56) then (if (ji56) < (a0.size : Int) then (if (bt a0 (ji56)) = 34 then (monikerref1_line.j3 kj22 a0 ji56 x9_2 false t414 t417 (⟨#[]⟩ : ByteArray)) else (if (bt a0 (ji56)) = 92 then (monikerref1_line.j3 kj22 a0 ji56 x9_2 false t414 t417 (⟨#[]⟩ : ByteArray)) else (monikerref1_line.j3 kj22 a0 ji56 x9_2 ((bt a0 (ji56)) != 110) t414 t417 (⟨#[]⟩ : ByteArray)))) else (none)) else (none)) = some (r1, r2, r3, r4, r5) := by first | (rw [hji56] at H; exact H) | (simp only [hji56] at H ⊢; exact H)
                                  (try rw [hji56] at c55b0)
                                  (try rw [hji56] at c55b1)
                                  have hji56w : (IntKind.i64.wrap (x1_2 + 1)) = ji56 := (i64_w _).trans hji56
                                  by_cases c57 : 0 ≤ (ji56)
                                  · rw [if_pos c57] at H
                                    have c57b0 : decide (0 ≤ (ji56)) = true := decide_eq_true c57
                                    clear c57
                                    by_cases c58 : (ji56) < (a0.size : Int)
                                    · rw [if_pos c58] at H
                                      have c58b0 : decide ((ji56) < (a0.size : Int)) = true := decide_eq_true c58
                                      clear c58
                                      by_cases c60 : (bt a0 (ji56)) = 34
                                      · rw [if_pos c60] at H
                                        have c60b0 : ((bt a0 (ji56)) == 34) = true := beq_iff_eq.mpr c60
                                        have c60b1 : ((bt a0 (ji56)) != 34) = false := bne_eq_false_iff_eq.mpr c60
                                        clear c60
                                        have H' := Aside0.mk H
                                        clear H
                                        have p59 : 0 ≤ ((ji56) : Int) := of_decide_eq_true (by first | (with_reducible assumption) | assumption)
                                        have q59 : (ji56) < (a0.size : Int) := of_decide_eq_true (by first | (with_reducible assumption) | assumption)
                                        have hx59 := bt_at a0 (ji56)
                                        replace p59 := eq_true p59
                                        replace q59 := eq_true q59
                                        go_wp2
                                        go_meet
                                        case rel => exact ⟨_, (false), (by first | rfl | (simp; done) | (simp [*]; done)), (by first | exact H' | (first | (simp only [hji40]; exact H') | (simp only [← hji40]; exact H') | (rw [hji40]; exact H') | (rw [← hji40]; exact H')) | (first | (simp only [hji56]; exact H') | (simp only [← hji56]; exact H') | (rw [hji56]; exact H') | (rw [← hji56]; exact H')) | (first | (simp only [hji68]; exact H') | (simp only [← hji68]; exact H') | (rw [hji68]; exact H') | (rw [← hji68]; exact H'))), ⟨by have := HJ6.out; have := HK2.out; have := HJ22.out; first | omega | exact Nat.le_refl _⟩, ⟨by (with_reducible repeat (first | apply Kd.R_alloc | apply Kd.R_drewN | apply Kd.R_drew)); exact HO_9.out⟩, ⟨by (with_reducible repeat (first | refine blk_drewN ?_ _ | refine blk_drew ?_ | refine blk_alloc ?_ _)); exact BK412.out⟩, ⟨by (with_reducible repeat (first | refine blk_drewN ?_ _ | refine blk_drew ?_ | refine blk_alloc ?_ _)); exact BK413.out⟩, ⟨by repeat (first | (with_reducible first | exact HB.out | apply below_alloc | apply pw_below_drewN | apply below_drew1 | refine below_set ?_ GE412.out | refine below_set ?_ GE413.out) | exact HB.out)⟩⟩
                                      · rw [if_neg c60] at H
                                        have c60b0 : ((bt a0 (ji56)) == 34) = false := beq_eq_false_iff_ne.mpr c60
                                        have c60b1 : ((bt a0 (ji56)) != 34) = true := bne_iff_ne.mpr c60
                                        by_cases c62 : (bt a0 (ji56)) = 92
                                        · rw [if_pos c62] at H
                                          have c62b0 : ((bt a0 (ji56)) == 92) = true := beq_iff_eq.mpr c62
                                          have c62b1 : ((bt a0 (ji56)) != 92) = false := bne_eq_false_iff_eq.mpr c62
                                          clear c62
                                          have H' := Aside0.mk H
                                          clear H
                                          have p59 : 0 ≤ ((ji56) : Int) := of_decide_eq_true (by first | (with_reducible assumption) | assumption)
                                          have q59 : (ji56) < (a0.size : Int) := of_decide_eq_true (by first | (with_reducible assumption) | assumption)
                                          have hx59 := bt_at a0 (ji56)
                                          replace p59 := eq_true p59
                                          replace q59 := eq_true q59
                                          have p61 : 0 ≤ ((ji56) : Int) := of_decide_eq_true (by first | (with_reducible assumption) | assumption)
                                          have q61 : (ji56) < (a0.size : Int) := of_decide_eq_true (by first | (with_reducible assumption) | assumption)
                                          have hx61 := bt_at a0 (ji56)
                                          replace p61 := eq_true p61
                                          replace q61 := eq_true q61
                                          go_wp2
                                          go_meet
                                          case rel => exact ⟨_, (false), (by first | rfl | (simp; done) | (simp [*]; done)), (by first | exact H' | (first | (simp only [hji40]; exact H') | (simp only [← hji40]; exact H') | (rw [hji40]; exact H') | (rw [← hji40]; exact H')) | (first | (simp only [hji56]; exact H') | (simp only [← hji56]; exact H') | (rw [hji56]; exact H') | (rw [← hji56]; exact H')) | (first | (simp only [hji68]; exact H') | (simp only [← hji68]; exact H') | (rw [hji68]; exact H') | (rw [← hji68]; exact H'))), ⟨by have := HJ6.out; have := HK2.out; have := HJ22.out; first | omega | exact Nat.le_refl _⟩, ⟨by (with_reducible repeat (first | apply Kd.R_alloc | apply Kd.R_drewN | apply Kd.R_drew)); exact HO_9.out⟩, ⟨by (with_reducible repeat (first | refine blk_drewN ?_ _ | refine blk_drew ?_ | refine blk_alloc ?_ _)); exact BK412.out⟩, ⟨by (with_reducible repeat (first | refine blk_drewN ?_ _ | refine blk_drew ?_ | refine blk_alloc ?_ _)); exact BK413.out⟩, ⟨by repeat (first | (with_reducible first | exact HB.out | apply below_alloc | apply pw_below_drewN | apply below_drew1 | refine below_set ?_ GE412.out | refine below_set ?_ GE413.out) | exact HB.out)⟩⟩
                                        · rw [if_neg c62] at H
                                          have c62b0 : ((bt a0 (ji56)) == 92) = false := beq_eq_false_iff_ne.mpr c62
                                          have c62b1 : ((bt a0 (ji56)) != 92) = true := bne_iff_ne.mpr c62
                                          have H' := Aside0.mk H
                                          clear H
                                          have p59 : 0 ≤ ((ji56) : Int) := of_decide_eq_true (by first | (with_reducible assumption) | assumption)
                                          have q59 : (ji56) < (a0.size : Int) := of_decide_eq_true (by first | (with_reducible assumption) | assumption)
                                          have hx59 := bt_at a0 (ji56)
                                          replace p59 := eq_true p59
                                          replace q59 := eq_true q59
                                          have p61 : 0 ≤ ((ji56) : Int) := of_decide_eq_true (by first | (with_reducible assumption) | assumption)
                                          have q61 : (ji56) < (a0.size : Int) := of_decide_eq_true (by first | (with_reducible assumption) | assumption)
                                          have hx61 := bt_at a0 (ji56)
                                          replace p61 := eq_true p61
                                          replace q61 := eq_true q61
                                          have p63 : 0 ≤ ((ji56) : Int) := of_decide_eq_true (by first | (with_reducible assumption) | assumption)
                                          have q63 : (ji56) < (a0.size : Int) := of_decide_eq_true (by first | (with_reducible assumption) | assumption)
                                          have hx63 := bt_at a0 (ji56)
                                          replace p63 := eq_true p63
                                          replace q63 := eq_true q63
                                          go_wp2
                                          go_meet
                                          case rel => exact ⟨_, (((bt a0 (ji56)) != 110)), (by first | rfl | (simp; done) | (simp only [← hji56] <;> (first | rfl | simp)) | (simp [*]; done)), (by first | exact H' | (first | (simp only [hji40]; exact H') | (simp only [← hji40]; exact H') | (rw [hji40]; exact H') | (rw [← hji40]; exact H')) | (first | (simp only [hji56]; exact H') | (simp only [← hji56]; exact H') | (rw [hji56]; exact H') | (rw [← hji56]; exact H')) | (first | (simp only [hji68]; exact H') | (simp only [← hji68]; exact H') | (rw [hji68]; exact H') | (rw [← hji68]; exact H'))), ⟨by have := HJ6.out; have := HK2.out; have := HJ22.out; first | omega | exact Nat.le_refl _⟩, ⟨by (with_reducible repeat (first | apply Kd.R_alloc | apply Kd.R_drewN | apply Kd.R_drew)); exact HO_9.out⟩, ⟨by (with_reducible repeat (first | refine blk_drewN ?_ _ | refine blk_drew ?_ | refine blk_alloc ?_ _)); exact BK412.out⟩, ⟨by (with_reducible repeat (first | refine blk_drewN ?_ _ | refine blk_drew ?_ | refine blk_alloc ?_ _)); exact BK413.out⟩, ⟨by repeat (first | (with_reducible first | exact HB.out | apply below_alloc | apply pw_below_drewN | apply below_drew1 | refine below_set ?_ GE412.out | refine below_set ?_ GE413.out) | exact HB.out)⟩⟩
                                    · rw [if_neg c58] at H
                                      exact absurd H (by simp)
                                  · rw [if_neg c57] at H
                                    exact absurd H (by simp)
                              case rest =>
                                clear HC54
                                try clear c1
                                try clear p1
                                try clear q1
                                try clear hx1
                                try clear c2
                                try clear p2
                                try clear q2
                                try clear hx2
                                try clear c3
                                try clear p3
                                try clear q3
                                try clear hx3
                                try clear c4
                                try clear p4
                                try clear q4
                                try clear hx4
                                try clear hcv4
                                try clear c5
                                try clear p5
                                try clear q5
                                try clear hx5
                                try clear c6
                                try clear p6
                                try clear q6
                                try clear hx6
                                try clear c11
                                try clear c15
                                try clear c15b0
                                try clear c15b1
                                try clear c16
                                try clear c16b0
                                try clear c17
                                try clear c17b0
                                try clear p18
                                try clear q18
                                try clear hx18
                                try clear c19
                                try clear c20
                                try clear c24
                                try clear c24b0
                                try clear c24b1
                                try clear c25
                                try clear c25b0
                                try clear c26
                                try clear c26b0
                                try clear p27
                                try clear q27
                                try clear hx27
                                try clear c28
                                try clear c29
                                try clear c32
                                try clear c32b0
                                try clear c33
                                try clear c33b0
                                try clear p34
                                try clear q34
                                try clear hx34
                                try clear c35
                                try clear c35b0
                                try clear c35b1
                                try clear c36
                                try clear c36b0
                                try clear c36b1
                                try clear c37
                                try clear c41
                                try clear c41b0
                                try clear c42
                                try clear c42b0
                                try clear p43
                                try clear q43
                                try clear hx43
                                try clear c44
                                try clear c44b0
                                try clear c44b1
                                try clear c45
                                try clear hcv45
                                try clear c46
                                try clear c49
                                try clear p52
                                try clear q52
                                try clear hx52
                                try clear c53
                                try clear c53b0
                                try clear c53b1
                                try clear c55
                                try clear c55b0
                                try clear c55b1
                                try clear c57
                                try clear c57b0
                                try clear c58
                                try clear c58b0
                                try clear p59
                                try clear q59
                                try clear hx59
                                try clear c60
                                try clear c60b0
                                try clear c60b1
                                try clear p61
                                try clear q61
                                try clear hx61
                                try clear c62
                                try clear c62b0
                                try clear c62b1
                                try clear p63
                                try clear q63
                                try clear hx63
                                try clear hcz12_0
                                try clear hcz12_1
                                try clear hcz12_2
                                try clear hcz14_0
                                try clear hcz14_1
                                try clear hcz14_2
                                try clear hcz21_0
                                try clear hcz21_1
                                try clear hcz21_2
                                try clear hcz22_0
                                try clear hcz22_1
                                try clear hcz22_2
                                try clear hcz30_0
                                try clear hcz30_1
                                try clear hcz30_2
                                try clear hcz31_0
                                try clear hcz31_1
                                try clear hcz31_2
                                try clear hcz38_0
                                try clear hcz38_1
                                try clear hcz38_2
                                try clear hcz39_0
                                try clear hcz39_1
                                try clear hcz39_2
                                try clear hcz47_0
                                try clear hcz47_1
                                try clear hcz47_2
                                try clear hcz48_0
                                try clear hcz48_1
                                try clear hcz48_2
                                try clear hcz50_0
                                try clear hcz50_1
                                try clear hcz50_2
                                try clear hcz51_0
                                try clear hcz51_1
                                try clear hcz51_2
                                try clear hfz12_0
                                try clear hfz12_1
                                try clear hfz12_2
                                try clear hfz14_0
                                try clear hfz14_1
                                try clear hfz14_2
                                try clear hfz21_0
                                try clear hfz21_1
                                try clear hfz21_2
                                try clear hfz22_0
                                try clear hfz22_1
                                try clear hfz22_2
                                try clear hfz30_0
                                try clear hfz30_1
                                try clear hfz30_2
                                try clear hfz31_0
                                try clear hfz31_1
                                try clear hfz31_2
                                try clear hfz38_0
                                try clear hfz38_1
                                try clear hfz38_2
                                try clear hfz39_0
                                try clear hfz39_1
                                try clear hfz39_2
                                try clear hfz47_0
                                try clear hfz47_1
                                try clear hfz47_2
                                try clear hfz48_0
                                try clear hfz48_1
                                try clear hfz48_2
                                try clear hfz50_0
                                try clear hfz50_1
                                try clear hfz50_2
                                try clear hfz51_0
                                try clear hfz51_1
                                try clear hfz51_2
                                try clear p1
                                try clear p18
                                try clear p2
                                try clear p27
                                try clear p34
                                try clear p43
                                try clear p52
                                try clear p59
                                try clear p6
                                try clear p61
                                try clear p63
                                try clear q1
                                try clear q18
                                try clear q2
                                try clear q27
                                try clear q34
                                try clear q43
                                try clear q52
                                try clear q59
                                try clear q61
                                try clear q63
                                obtain ⟨kq, x95_53, rfl, HA, HJ53, HO_9, BK412, BK413, HB⟩ := hcut
                                cases kq with
                                | zero => exact absurd HA.out (by simp [monikerref1_line.j3])
                                | succ kj53 =>
                                  have H := HA.out
                                  clear HA
                                  simp only [monikerref1_line.j3] at H
                                  by_cases c64 : x95_53 = true
                                  · subst c64
                                    have H1 : (some (t414, t417, (⟨#[]⟩ : ByteArray), (wrap64 (x1_2 + 1)), false)) = some (r1, r2, r3, r4, r5) := by rw [if_pos rfl] at H; exact H
                                    clear H
                                    have H := H1
                                    clear H1
                                    simp only [Option.some.injEq, Prod.mk.injEq] at H
                                    obtain ⟨rfl, rfl, rfl, rfl, rfl⟩ := H
                                    have hnb65 := NB413_412.out
                                    have hnc65 := NB412_413.out
                                    have hcz66_0 : wc.cell? ⟨gb413, 0, none⟩ = some (.int .i64 t414) := (blk_cell BK413.out 0).trans rfl
                                    have hcz66_1 : wc.cell? ⟨gb413, 1, none⟩ = some (.int .i64 t417) := (blk_cell BK413.out 1).trans rfl
                                    have hcz66_2 : wc.cell? ⟨gb413, 2, none⟩ = some (.string (⟨#[]⟩ : ByteArray)) := (blk_cell BK413.out 2).trans rfl
                                    have hfz66_0 := blk_frozen BK413.out 0
                                    have hfz66_1 := blk_frozen BK413.out 1
                                    have hfz66_2 := blk_frozen BK413.out 2
                                    have hcz67_0 : wc.cell? ⟨gb412, 0, none⟩ = some (.int .i64 x413000_2) := (blk_cell BK412.out 0).trans rfl
                                    have hcz67_1 : wc.cell? ⟨gb412, 1, none⟩ = some (.int .i64 x413001_2) := (blk_cell BK412.out 1).trans rfl
                                    have hcz67_2 : wc.cell? ⟨gb412, 2, none⟩ = some (.string x413002_2) := (blk_cell BK412.out 2).trans rfl
                                    have hfz67_0 := blk_frozen BK412.out 0
                                    have hfz67_1 := blk_frozen BK412.out 1
                                    have hfz67_2 := blk_frozen BK412.out 2
                                    go_wp2
                                    refine bodyPost_ret (results_ctt rfl _ _ gb412 42 #[.int .i64 t414, .int .i64 t417, .string (⟨#[]⟩ : ByteArray)] (0, 0) _ rfl (by (with_reducible repeat (first | refine blk_drewN ?_ _ | refine blk_drew ?_ | refine blk_alloc ?_ _)); refine blk_put (cs := #[.int .i64 t414, .int .i64 t417, .string x413002_2]) ?_ 2 _ rfl; (with_reducible repeat (first | refine blk_drewN ?_ _ | refine blk_drew ?_ | refine blk_alloc ?_ _)); refine blk_put (cs := #[.int .i64 t414, .int .i64 x413001_2, .string x413002_2]) ?_ 1 _ rfl; (with_reducible repeat (first | refine blk_drewN ?_ _ | refine blk_drew ?_ | refine blk_alloc ?_ _)); refine blk_put (cs := #[.int .i64 x413000_2, .int .i64 x413001_2, .string x413002_2]) ?_ 0 _ rfl; (with_reducible repeat (first | refine blk_drewN ?_ _ | refine blk_drew ?_ | refine blk_alloc ?_ _)); exact BK412.out) Tryd.underlying42 rfl (by kernel_rfl)) rfl ?_
                                    exact ⟨by first | rfl | (simp [errW_none, errW_some] <;> rfl) | (simp [*, errW_none, errW_some] <;> rfl), by repeat (first | (with_reducible first | exact HB.out | apply below_alloc | apply pw_below_drewN | apply below_drew1 | refine below_set ?_ GE412.out | refine below_set ?_ GE413.out) | exact HB.out)⟩
                                  · replace c64 := Bool.eq_false_iff.mpr c64
                                    subst c64
                                    have H1 : (if 0 ≤ (wrap64 (x1_2 + 1)) then (if (wrap64 (x1_2 + 1)) < (a0.size : Int) then (if (bt a0 (wrap64 (x1_2 + 1))) = 110 then (if x9_2.length < 140737488355328 then (monikerref1_line.l0 kj53 a0 (wrap64 ((wrap64 (x1_2 + 1)) + 1)) (x9_2 ++ [10]) t414 t417 (⟨#[]⟩ : ByteArray)) else (none)) else (if x9_2.length < 140737488355328 then (monikerref1_line.l0 kj53 a0 (wrap64 ((wrap64 (x1_2 + 1)) + 1)) (x9_2 ++ [bt a0 (wrap64 (x1_2 + 1))]) t414 t417 (⟨#[]⟩ : ByteArray)) else (none))) else (none)) else (none)) = some (r1, r2, r3, r4, r5) := by rw [if_neg (show ¬ (false = true) by decide)] at H; exact H
                                    clear H
                                    have H := H1
                                    clear H1
                                    obtain ⟨ji68, hji68⟩ : ∃ j_ : Int, (wrap64 (x1_2 + 1)) = j_ := ⟨_, rfl⟩
                                    replace H : (if 0 ≤ (ji68) then (if (ji68) < (a0.size : Int) then (if (bt a0 (ji68)) = 110 then (if x9_2.length < 140737488355328 then (monikerref1_line.l0 kj53 a0 (wrap64 ((ji68) + 1)) (x9_2 ++ [10]) t414 t417 (⟨#[]⟩ : ByteArray)) else (none)) else (if x9_2.length < 140737488355328 then (monikerref1_line.l0 kj53 a0 (wrap64 ((ji68) + 1)) (x9_2 ++ [bt a0 (ji68)]) t414 t417 (⟨#[]⟩ : ByteArray)) else (none))) else (none)) else (none)) = some (r1, r2, r3, r4, r5) := by first | (rw [hji68] at H; exact H) | (simp only [hji68] at H ⊢; exact H)
                                    have hji68w : (IntKind.i64.wrap (x1_2 + 1)) = ji68 := (i64_w _).trans hji68
                                    by_cases c69 : 0 ≤ (ji68)
                                    · rw [if_pos c69] at H
                                      have c69b0 : decide (0 ≤ (ji68)) = true := decide_eq_true c69
                                      clear c69
                                      by_cases c70 : (ji68) < (a0.size : Int)
                                      · rw [if_pos c70] at H
                                        have c70b0 : decide ((ji68) < (a0.size : Int)) = true := decide_eq_true c70
                                        clear c70
                                        by_cases c72 : (bt a0 (ji68)) = 110
                                        · rw [if_pos c72] at H
                                          have c72b0 : ((bt a0 (ji68)) == 110) = true := beq_iff_eq.mpr c72
                                          have c72b1 : ((bt a0 (ji68)) != 110) = false := bne_eq_false_iff_eq.mpr c72
                                          clear c72
                                          by_cases c73 : x9_2.length < 140737488355328
                                          · rw [if_pos c73] at H
                                            have LMc73 := Aside0.mk c73
                                            clear c73
                                            obtain ⟨y420, hy420⟩ : ∃ y_ : List Int, y_ = (x9_2 ++ [10]) := ⟨_, rfl⟩
                                            replace H : (monikerref1_line.l0 kj53 a0 (wrap64 ((ji68) + 1)) y420 t414 t417 (⟨#[]⟩ : ByteArray)) = some (r1, r2, r3, r4, r5) := by first | (rw [hy420]; with_reducible exact H) | (have H2_ := (Option.bind_some _ _).symm.trans H; rw [hy420]; with_reducible exact H2_) | (have H2_ := (Option.bind_some _ _).symm.trans H; with_reducible exact H2_) | with_reducible exact H | (rw [hy420]; exact H) | exact H
                                            have Ny420 := Aside0.mk hy420
                                            clear hy420
                                            have H' := Aside0.mk H
                                            clear H
                                            have p71 : 0 ≤ ((ji68) : Int) := of_decide_eq_true (by first | (with_reducible assumption) | assumption)
                                            have q71 : (ji68) < (a0.size : Int) := of_decide_eq_true (by first | (with_reducible assumption) | assumption)
                                            have hx71 := bt_at a0 (ji68)
                                            replace p71 := eq_true p71
                                            replace q71 := eq_true q71
                                            go_wp2_with (first | ((with_reducible refine gate_builtin (b := .append) (xs := #[.tmp 103, .tmp 105]) rfl ?_); at_builtin; refine Kd.R_append (Kd.int .u8) (w0 := w) w.heap.size rfl (.tmp 103) (.tmp 105) 59 5 (.int .u8 0) 1 rfl Tryd.underlying59 info5 rfl (by decide) (by omega) u9 x9_2 10 [.int .u8 10] (fun _ => True) (fun _ => False) rfl rfl ?aP (fun _ hk => hk.elim) ?aF ?aO ?aB ?aS ?aL ?_; (case aP => exact rfl); (case aB => exact (by repeat (first | (with_reducible first | exact HB.out | apply below_alloc | apply pw_below_drewN | apply below_drew1 | refine below_set ?_ GE412.out | refine below_set ?_ GE413.out) | exact HB.out))); (case aF => exact (fun _ _ => trivial)); (case aO => exact (by (with_reducible repeat (first | apply Kd.R_alloc | apply Kd.R_drewN | apply Kd.R_drew)); exact HO_9.out)); (case aS => exact (below_size (by repeat (first | (with_reducible first | exact HB.out | apply below_alloc | apply pw_below_drewN | apply below_drew1 | refine below_set ?_ GE412.out | refine below_set ?_ GE413.out) | exact HB.out)))); (case aL => have := LMc73.out; omega); intro v421 w74 ho hb hg hat; rw [← Ny420.out] at ho; have n0_ := Aside0.mk (blk_grown (g := gb412) (o := .cells #[.int .i64 x413000_2, .int .i64 x413001_2, .string x413002_2] 42 (0, 0)) (by (with_reducible repeat (first | refine blk_drewN ?_ _ | refine blk_drew ?_ | refine blk_alloc ?_ _)); exact BK412.out) hg (Kd.R_ne HO_9.out BK412.out (by decide))); have n1_ := Aside0.mk (blk_grown (g := gb413) (o := .cells #[.int .i64 t414, .int .i64 t417, .string (⟨#[]⟩ : ByteArray)] 42 (0, 0)) (by (with_reducible repeat (first | refine blk_drewN ?_ _ | refine blk_drew ?_ | refine blk_alloc ?_ _)); exact BK413.out) hg (Kd.R_ne HO_9.out BK413.out (by decide))); have n2_ := Aside0.mk (hb); have n3_ := Aside0.mk (ho); clear BK412; clear BK413; clear HB; clear HO_9; have BK412 := n0_; have BK413 := n1_; have HB := n2_; have HO422 := n3_; clear n0_ n1_ n2_ n3_; clear ho hb hg hat))
                                            go_roundg kj53
                                            case measure => have := HJ6.out; have := HK2.out; have := HJ22.out; have := HJ53.out; omega
                                            case rel => exact ⟨(wrap64 ((ji68) + 1)), (y420), (x413000_2), (x413001_2), (x413002_2), (by first | rfl | (simp; done) | (simp only [← hji68] <;> (first | rfl | simp)) | (simp [*]; done)), H', ⟨by have := HJ6.out; have := HK2.out; have := HJ22.out; have := HJ53.out; omega⟩, ⟨by (with_reducible repeat (first | apply Kd.R_alloc | apply Kd.R_drewN | apply Kd.R_drew)); exact HO422.out⟩, ⟨by (with_reducible repeat (first | refine blk_drewN ?_ _ | refine blk_drew ?_ | refine blk_alloc ?_ _)); exact BK412.out⟩, ⟨by (with_reducible repeat (first | refine blk_drewN ?_ _ | refine blk_drew ?_ | refine blk_alloc ?_ _)); exact BK413.out⟩, ⟨by repeat (first | (with_reducible first | exact HB.out | apply below_alloc | apply pw_below_drewN | apply below_drew1 | refine below_set ?_ GE412.out | refine below_set ?_ GE413.out) | exact HB.out)⟩⟩
                                          · rw [if_neg c73] at H
                                            exact absurd H (by simp)
                                        · rw [if_neg c72] at H
                                          have c72b0 : ((bt a0 (ji68)) == 110) = false := beq_eq_false_iff_ne.mpr c72
                                          have c72b1 : ((bt a0 (ji68)) != 110) = true := bne_iff_ne.mpr c72
                                          by_cases c75 : x9_2.length < 140737488355328
                                          · rw [if_pos c75] at H
                                            have LMc75 := Aside0.mk c75
                                            clear c75
                                            obtain ⟨y423, hy423⟩ : ∃ y_ : List Int, y_ = (x9_2 ++ [bt a0 (ji68)]) := ⟨_, rfl⟩
                                            replace H : (monikerref1_line.l0 kj53 a0 (wrap64 ((ji68) + 1)) y423 t414 t417 (⟨#[]⟩ : ByteArray)) = some (r1, r2, r3, r4, r5) := by first | (rw [hy423]; with_reducible exact H) | (have H2_ := (Option.bind_some _ _).symm.trans H; rw [hy423]; with_reducible exact H2_) | (have H2_ := (Option.bind_some _ _).symm.trans H; with_reducible exact H2_) | with_reducible exact H | (rw [hy423]; exact H) | exact H
                                            have Ny423 := Aside0.mk hy423
                                            clear hy423
                                            have H' := Aside0.mk H
                                            clear H
                                            have p71 : 0 ≤ ((ji68) : Int) := of_decide_eq_true (by first | (with_reducible assumption) | assumption)
                                            have q71 : (ji68) < (a0.size : Int) := of_decide_eq_true (by first | (with_reducible assumption) | assumption)
                                            have hx71 := bt_at a0 (ji68)
                                            replace p71 := eq_true p71
                                            replace q71 := eq_true q71
                                            go_wp2_with (first | ((with_reducible refine gate_builtin (b := .append) (xs := #[.tmp 103, .tmp 105]) rfl ?_); at_builtin; refine Kd.R_append (Kd.int .u8) (w0 := w) w.heap.size rfl (.tmp 103) (.tmp 105) 59 5 (.int .u8 0) 1 rfl Tryd.underlying59 info5 rfl (by decide) (by omega) u9 x9_2 (bt a0 (ji68)) [.int .u8 (bt a0 (ji68))] (fun _ => True) (fun _ => False) rfl rfl ?aP (fun _ hk => hk.elim) ?aF ?aO ?aB ?aS ?aL ?_; (case aP => exact rfl); (case aB => exact (by repeat (first | (with_reducible first | exact HB.out | apply below_alloc | apply pw_below_drewN | apply below_drew1 | refine below_set ?_ GE412.out | refine below_set ?_ GE413.out) | exact HB.out))); (case aF => exact (fun _ _ => trivial)); (case aO => exact (by (with_reducible repeat (first | apply Kd.R_alloc | apply Kd.R_drewN | apply Kd.R_drew)); exact HO_9.out)); (case aS => exact (below_size (by repeat (first | (with_reducible first | exact HB.out | apply below_alloc | apply pw_below_drewN | apply below_drew1 | refine below_set ?_ GE412.out | refine below_set ?_ GE413.out) | exact HB.out)))); (case aL => have := LMc75.out; omega); intro v424 w76 ho hb hg hat; rw [← Ny423.out] at ho; have n0_ := Aside0.mk (blk_grown (g := gb412) (o := .cells #[.int .i64 x413000_2, .int .i64 x413001_2, .string x413002_2] 42 (0, 0)) (by (with_reducible repeat (first | refine blk_drewN ?_ _ | refine blk_drew ?_ | refine blk_alloc ?_ _)); exact BK412.out) hg (Kd.R_ne HO_9.out BK412.out (by decide))); have n1_ := Aside0.mk (blk_grown (g := gb413) (o := .cells #[.int .i64 t414, .int .i64 t417, .string (⟨#[]⟩ : ByteArray)] 42 (0, 0)) (by (with_reducible repeat (first | refine blk_drewN ?_ _ | refine blk_drew ?_ | refine blk_alloc ?_ _)); exact BK413.out) hg (Kd.R_ne HO_9.out BK413.out (by decide))); have n2_ := Aside0.mk (hb); have n3_ := Aside0.mk (ho); clear BK412; clear BK413; clear HB; clear HO_9; have BK412 := n0_; have BK413 := n1_; have HB := n2_; have HO425 := n3_; clear n0_ n1_ n2_ n3_; clear ho hb hg hat))
                                            go_roundg kj53
                                            case measure => have := HJ6.out; have := HK2.out; have := HJ22.out; have := HJ53.out; omega
                                            case rel => exact ⟨(wrap64 ((ji68) + 1)), (y423), (x413000_2), (x413001_2), (x413002_2), (by first | rfl | (simp; done) | (simp only [← hji68] <;> (first | rfl | simp)) | (simp [*]; done)), H', ⟨by have := HJ6.out; have := HK2.out; have := HJ22.out; have := HJ53.out; omega⟩, ⟨by (with_reducible repeat (first | apply Kd.R_alloc | apply Kd.R_drewN | apply Kd.R_drew)); exact HO425.out⟩, ⟨by (with_reducible repeat (first | refine blk_drewN ?_ _ | refine blk_drew ?_ | refine blk_alloc ?_ _)); exact BK412.out⟩, ⟨by (with_reducible repeat (first | refine blk_drewN ?_ _ | refine blk_drew ?_ | refine blk_alloc ?_ _)); exact BK413.out⟩, ⟨by repeat (first | (with_reducible first | exact HB.out | apply below_alloc | apply pw_below_drewN | apply below_drew1 | refine below_set ?_ GE412.out | refine below_set ?_ GE413.out) | exact HB.out)⟩⟩
                                          · rw [if_neg c75] at H
                                            exact absurd H (by simp)
                                      · rw [if_neg c70] at H
                                        exact absurd H (by simp)
                                    · rw [if_neg c69] at H
                                      exact absurd H (by simp)
                            · rw [if_neg c53] at H
                              have c53b0 : ((bt a0 x1_2) == 92) = false := beq_eq_false_iff_ne.mpr c53
                              have c53b1 : ((bt a0 x1_2) != 92) = true := bne_iff_ne.mpr c53
                              by_cases c77 : x9_2.length < 140737488355328
                              · rw [if_pos c77] at H
                                have LMc77 := Aside0.mk c77
                                clear c77
                                obtain ⟨y426, hy426⟩ : ∃ y_ : List Int, y_ = (x9_2 ++ [bt a0 x1_2]) := ⟨_, rfl⟩
                                replace H : (monikerref1_line.l0 kj22 a0 (wrap64 (x1_2 + 1)) y426 t414 t417 (⟨#[]⟩ : ByteArray)) = some (r1, r2, r3, r4, r5) := by first | (rw [hy426]; with_reducible exact H) | (have H2_ := (Option.bind_some _ _).symm.trans H; rw [hy426]; with_reducible exact H2_) | (have H2_ := (Option.bind_some _ _).symm.trans H; with_reducible exact H2_) | with_reducible exact H | (rw [hy426]; exact H) | exact H
                                have Ny426 := Aside0.mk hy426
                                clear hy426
                                have H' := Aside0.mk H
                                clear H
                                have p34 : 0 ≤ (x1_2 : Int) := of_decide_eq_true (by first | (with_reducible assumption) | assumption)
                                have q34 : x1_2 < (a0.size : Int) := of_decide_eq_true (by first | (with_reducible assumption) | assumption)
                                have hx34 := bt_at a0 x1_2
                                replace p34 := eq_true p34
                                replace q34 := eq_true q34
                                have p52 : 0 ≤ (x1_2 : Int) := of_decide_eq_true (by first | (with_reducible assumption) | assumption)
                                have q52 : x1_2 < (a0.size : Int) := of_decide_eq_true (by first | (with_reducible assumption) | assumption)
                                have hx52 := bt_at a0 x1_2
                                replace p52 := eq_true p52
                                replace q52 := eq_true q52
                                go_wp2_with (first | ((with_reducible refine gate_builtin (b := .append) (xs := #[.tmp 103, .tmp 105]) rfl ?_); at_builtin; refine Kd.R_append (Kd.int .u8) (w0 := w) w.heap.size rfl (.tmp 103) (.tmp 105) 59 5 (.int .u8 0) 1 rfl Tryd.underlying59 info5 rfl (by decide) (by omega) u9 x9_2 (bt a0 x1_2) [.int .u8 (bt a0 x1_2)] (fun _ => True) (fun _ => False) rfl rfl ?aP (fun _ hk => hk.elim) ?aF ?aO ?aB ?aS ?aL ?_; (case aP => exact rfl); (case aB => exact (by repeat (first | (with_reducible first | exact HB.out | apply below_alloc | apply pw_below_drewN | apply below_drew1 | refine below_set ?_ GE412.out | refine below_set ?_ GE413.out) | exact HB.out))); (case aF => exact (fun _ _ => trivial)); (case aO => exact (by (with_reducible repeat (first | apply Kd.R_alloc | apply Kd.R_drewN | apply Kd.R_drew)); exact HO_9.out)); (case aS => exact (below_size (by repeat (first | (with_reducible first | exact HB.out | apply below_alloc | apply pw_below_drewN | apply below_drew1 | refine below_set ?_ GE412.out | refine below_set ?_ GE413.out) | exact HB.out)))); (case aL => have := LMc77.out; omega); intro v427 w78 ho hb hg hat; rw [← Ny426.out] at ho; have n0_ := Aside0.mk (blk_grown (g := gb412) (o := .cells #[.int .i64 x413000_2, .int .i64 x413001_2, .string x413002_2] 42 (0, 0)) (by (with_reducible repeat (first | refine blk_drewN ?_ _ | refine blk_drew ?_ | refine blk_alloc ?_ _)); exact BK412.out) hg (Kd.R_ne HO_9.out BK412.out (by decide))); have n1_ := Aside0.mk (blk_grown (g := gb413) (o := .cells #[.int .i64 t414, .int .i64 t417, .string (⟨#[]⟩ : ByteArray)] 42 (0, 0)) (by (with_reducible repeat (first | refine blk_drewN ?_ _ | refine blk_drew ?_ | refine blk_alloc ?_ _)); exact BK413.out) hg (Kd.R_ne HO_9.out BK413.out (by decide))); have n2_ := Aside0.mk (hb); have n3_ := Aside0.mk (ho); clear BK412; clear BK413; clear HB; clear HO_9; have BK412 := n0_; have BK413 := n1_; have HB := n2_; have HO428 := n3_; clear n0_ n1_ n2_ n3_; clear ho hb hg hat))
                                go_roundg kj22
                                case measure => have := HJ6.out; have := HK2.out; have := HJ22.out; omega
                                case rel => exact ⟨(wrap64 (x1_2 + 1)), (y426), (x413000_2), (x413001_2), (x413002_2), (by first | rfl | (simp; done) | (simp [*]; done)), H', ⟨by have := HJ6.out; have := HK2.out; have := HJ22.out; omega⟩, ⟨by (with_reducible repeat (first | apply Kd.R_alloc | apply Kd.R_drewN | apply Kd.R_drew)); exact HO428.out⟩, ⟨by (with_reducible repeat (first | refine blk_drewN ?_ _ | refine blk_drew ?_ | refine blk_alloc ?_ _)); exact BK412.out⟩, ⟨by (with_reducible repeat (first | refine blk_drewN ?_ _ | refine blk_drew ?_ | refine blk_alloc ?_ _)); exact BK413.out⟩, ⟨by repeat (first | (with_reducible first | exact HB.out | apply below_alloc | apply pw_below_drewN | apply below_drew1 | refine below_set ?_ GE412.out | refine below_set ?_ GE413.out) | exact HB.out)⟩⟩
                              · rw [if_neg c77] at H
                                exact absurd H (by simp)
                        · rw [if_neg c33] at H
                          exact absurd H (by simp)
                      · rw [if_neg c32] at H
                        exact absurd H (by simp)
    · replace c6 := Bool.eq_false_iff.mpr c6
      subst c6
      have H1 : (some (t414, t417, (⟨#[]⟩ : ByteArray), t418, false)) = some (r1, r2, r3, r4, r5) := by rw [if_neg (show ¬ (false = true) by decide)] at H; exact H
      clear H
      have H := H1
      clear H1
      simp only [Option.some.injEq, Prod.mk.injEq] at H
      obtain ⟨rfl, rfl, rfl, rfl, rfl⟩ := H
      go_enter Tryd.func45, Tryd.ntmps45
      go_wp2_with (first | ((with_reducible refine gate_dst (N := 4) rfl ?_); refine box_event ?hg (N := 4) ?hd (cs := #[.int .i64 0, .int .i64 0, .string (⟨#[]⟩ : ByteArray)]) (t := 42) ?hr ?_; (case hd => rfl); (case hg => rfl); (case hr => first | (go_simp; done) | (go_simp; rfl)); intro gb412 hg w79 hbox hb; have n0_ := Aside0.mk (below_step (by repeat (first | (with_reducible first | exact HB.out | apply below_alloc | apply pw_below_drewN | apply below_drew1) | exact HB.out)) hb); have n1_ := Aside0.mk (hbox); have n2_ := Aside0.mk ((by rw [hg]; exact (below_size (by repeat (first | (with_reducible first | exact HB.out | apply below_alloc | apply pw_below_drewN | apply below_drew1) | exact HB.out))) : w.heap.size ≤ gb412)); have n3_ := Aside0.mk ((by rw [hg]; exact (below_size (by repeat (first | (with_reducible first | exact HB.out | apply below_alloc | apply pw_below_drewN | apply below_drew1) | exact HB.out))) : w.heap.size ≤ gb412)); clear HB; have HB := n0_; have BK412 := n1_; have GW412 := n2_; have GE412 := n3_; clear n0_ n1_ n2_ n3_; clear hb hbox hg) | ((with_reducible refine gate_dst (N := 7) rfl ?_); refine box_event ?hg (N := 7) ?hd (cs := #[.int .i64 0, .int .i64 0, .string (⟨#[]⟩ : ByteArray)]) (t := 42) ?hr ?_; (case hd => rfl); (case hg => rfl); (case hr => first | (go_simp; done) | (go_simp; rfl)); intro gb413 hg w80 hbox hb; have n0_ := Aside0.mk (blk_below (g := gb412) (o := .cells #[.int .i64 0, .int .i64 0, .string (⟨#[]⟩ : ByteArray)] 42 (0, 0)) (by (with_reducible repeat (first | refine blk_drewN ?_ _ | refine blk_drew ?_ | refine blk_alloc ?_ _)); exact BK412.out) hb); have n1_ := Aside0.mk (below_step (by repeat (first | (with_reducible first | exact HB.out | apply below_alloc | apply pw_below_drewN | apply below_drew1 | refine below_set ?_ GE412.out) | exact HB.out)) hb); have n2_ := Aside0.mk (hbox); have n3_ := Aside0.mk ((by rw [hg]; exact (below_size (by repeat (first | (with_reducible first | exact HB.out | apply below_alloc | apply pw_below_drewN | apply below_drew1 | refine below_set ?_ GE412.out) | exact HB.out))) : w.heap.size ≤ gb413)); have n4_ := Aside0.mk ((by rw [hg]; exact (below_size (by repeat (first | (with_reducible first | exact HB.out | apply below_alloc | apply pw_below_drewN | apply below_drew1 | refine below_set ?_ GE412.out) | exact HB.out))) : w.heap.size ≤ gb413)); have n5_ := Aside0.mk ((by rw [hg]; exact Nat.ne_of_lt (blk_lt (g := gb412) (o := .cells #[.int .i64 0, .int .i64 0, .string (⟨#[]⟩ : ByteArray)] 42 (0, 0)) (by (with_reducible repeat (first | refine blk_drewN ?_ _ | refine blk_drew ?_ | refine blk_alloc ?_ _)); exact BK412.out)) : gb412 ≠ gb413)); have n6_ := Aside0.mk ((by rw [hg]; exact Nat.ne_of_gt (blk_lt (g := gb412) (o := .cells #[.int .i64 0, .int .i64 0, .string (⟨#[]⟩ : ByteArray)] 42 (0, 0)) (by (with_reducible repeat (first | refine blk_drewN ?_ _ | refine blk_drew ?_ | refine blk_alloc ?_ _)); exact BK412.out)) : gb413 ≠ gb412)); clear BK412; clear HB; have BK412 := n0_; have HB := n1_; have BK413 := n2_; have GW413 := n3_; have GE413 := n4_; have NB412_413 := n5_; have NB413_412 := n6_; clear n0_ n1_ n2_ n3_ n4_ n5_ n6_; clear hb hbox hg) | ((with_reducible refine gate_callee (f := 57) rfl ?_); refine goesL_ (some 14) rfl rfl Tryd.func57 (by kernel_rfl) rfl #[.string a0, .int .i64 a1, .int .u8 44] rfl (by (try simp only [List.map_toArray, List.map_cons, List.map_nil]); first | done | rfl | (simp only [List.length_drop, List.length_take]; rfl)) ?_; (with_reducible refine (monikerref1_take.calls k a0 a1 44 t414 t415 true _ A3.out).mono ?_); rintro e w81 ⟨rfl, hb⟩; refine ⟨_, rfl, ?_⟩; have n0_ := Aside0.mk (blk_below (g := gb412) (o := .cells #[.int .i64 0, .int .i64 0, .string (⟨#[]⟩ : ByteArray)] 42 (0, 0)) (by (with_reducible repeat (first | refine blk_drewN ?_ _ | refine blk_drew ?_ | refine blk_alloc ?_ _)); exact BK412.out) hb); have n1_ := Aside0.mk (blk_below (g := gb413) (o := .cells #[.int .i64 0, .int .i64 0, .string (⟨#[]⟩ : ByteArray)] 42 (0, 0)) (by (with_reducible repeat (first | refine blk_drewN ?_ _ | refine blk_drew ?_ | refine blk_alloc ?_ _)); exact BK413.out) hb); have n2_ := Aside0.mk (below_step (by repeat (first | (with_reducible first | exact HB.out | apply below_alloc | apply pw_below_drewN | apply below_drew1 | refine below_set ?_ GE412.out | refine below_set ?_ GE413.out) | exact HB.out)) hb); clear BK412; clear BK413; clear HB; have BK412 := n0_; have BK413 := n1_; have HB := n2_; clear n0_ n1_ n2_; (try clear hb); (try clear hb2); (try clear hk); (try clear hi); have hnb82 := NB413_412.out; have hnc82 := NB412_413.out; have hcz83_0 : w81.cell? ⟨gb413, 0, none⟩ = some (.int .i64 0) := (blk_cell BK413.out 0).trans rfl; have hcz83_1 : w81.cell? ⟨gb413, 1, none⟩ = some (.int .i64 0) := (blk_cell BK413.out 1).trans rfl; have hcz83_2 : w81.cell? ⟨gb413, 2, none⟩ = some (.string (⟨#[]⟩ : ByteArray)) := (blk_cell BK413.out 2).trans rfl; have hfz83_0 := blk_frozen BK413.out 0; have hfz83_1 := blk_frozen BK413.out 1; have hfz83_2 := blk_frozen BK413.out 2) | ((with_reducible refine gate_callee (f := 57) rfl ?_); refine goesL_ (some 26) rfl rfl Tryd.func57 (by kernel_rfl) rfl #[.string a0, .int .i64 t415, .int .u8 32] rfl (by (try simp only [List.map_toArray, List.map_cons, List.map_nil]); first | done | rfl | (simp only [List.length_drop, List.length_take]; rfl)) ?_; (with_reducible refine (monikerref1_take.calls k a0 t415 32 t417 t418 false _ A5.out).mono ?_); rintro e w84 ⟨rfl, hb⟩; refine ⟨_, rfl, ?_⟩; have n0_ := Aside0.mk (blk_below (g := gb412) (o := .cells #[.int .i64 0, .int .i64 0, .string (⟨#[]⟩ : ByteArray)] 42 (0, 0)) (by (with_reducible repeat (first | refine blk_drewN ?_ _ | refine blk_drew ?_ | refine blk_alloc ?_ _)); refine blk_far ?_ NB412_413.out _; (with_reducible repeat (first | refine blk_drewN ?_ _ | refine blk_drew ?_ | refine blk_alloc ?_ _)); exact BK412.out) hb); have n1_ := Aside0.mk (blk_below (g := gb413) (o := .cells #[.int .i64 t414, .int .i64 0, .string (⟨#[]⟩ : ByteArray)] 42 (0, 0)) (by (with_reducible repeat (first | refine blk_drewN ?_ _ | refine blk_drew ?_ | refine blk_alloc ?_ _)); refine blk_put (cs := #[.int .i64 0, .int .i64 0, .string (⟨#[]⟩ : ByteArray)]) ?_ 0 _ rfl; (with_reducible repeat (first | refine blk_drewN ?_ _ | refine blk_drew ?_ | refine blk_alloc ?_ _)); exact BK413.out) hb); have n2_ := Aside0.mk (below_step (by repeat (first | (with_reducible first | exact HB.out | apply below_alloc | apply pw_below_drewN | apply below_drew1 | refine below_set ?_ GE412.out | refine below_set ?_ GE413.out) | exact HB.out)) hb); clear BK412; clear BK413; clear HB; have BK412 := n0_; have BK413 := n1_; have HB := n2_; clear n0_ n1_ n2_; (try clear hb); (try clear hb2); (try clear hk); (try clear hi); have hcz85_0 : w84.cell? ⟨gb413, 0, none⟩ = some (.int .i64 t414) := (blk_cell BK413.out 0).trans rfl; have hcz85_1 : w84.cell? ⟨gb413, 1, none⟩ = some (.int .i64 0) := (blk_cell BK413.out 1).trans rfl; have hcz85_2 : w84.cell? ⟨gb413, 2, none⟩ = some (.string (⟨#[]⟩ : ByteArray)) := (blk_cell BK413.out 2).trans rfl; have hfz85_0 := blk_frozen BK413.out 0; have hfz85_1 := blk_frozen BK413.out 1; have hfz85_2 := blk_frozen BK413.out 2; have hcz86_0 : w84.cell? ⟨gb412, 0, none⟩ = some (.int .i64 0) := (blk_cell BK412.out 0).trans rfl; have hcz86_1 : w84.cell? ⟨gb412, 1, none⟩ = some (.int .i64 0) := (blk_cell BK412.out 1).trans rfl; have hcz86_2 : w84.cell? ⟨gb412, 2, none⟩ = some (.string (⟨#[]⟩ : ByteArray)) := (blk_cell BK412.out 2).trans rfl; have hfz86_0 := blk_frozen BK412.out 0; have hfz86_1 := blk_frozen BK412.out 1; have hfz86_2 := blk_frozen BK412.out 2))
      refine bodyPost_ret (results_ctt rfl _ _ gb412 42 #[.int .i64 t414, .int .i64 t417, .string (⟨#[]⟩ : ByteArray)] (0, 0) _ rfl (by (with_reducible repeat (first | refine blk_drewN ?_ _ | refine blk_drew ?_ | refine blk_alloc ?_ _)); refine blk_put (cs := #[.int .i64 t414, .int .i64 t417, .string (⟨#[]⟩ : ByteArray)]) ?_ 2 _ rfl; (with_reducible repeat (first | refine blk_drewN ?_ _ | refine blk_drew ?_ | refine blk_alloc ?_ _)); refine blk_put (cs := #[.int .i64 t414, .int .i64 0, .string (⟨#[]⟩ : ByteArray)]) ?_ 1 _ rfl; (with_reducible repeat (first | refine blk_drewN ?_ _ | refine blk_drew ?_ | refine blk_alloc ?_ _)); refine blk_put (cs := #[.int .i64 0, .int .i64 0, .string (⟨#[]⟩ : ByteArray)]) ?_ 0 _ rfl; (with_reducible repeat (first | refine blk_drewN ?_ _ | refine blk_drew ?_ | refine blk_alloc ?_ _)); refine blk_far ?_ NB412_413.out _; (with_reducible repeat (first | refine blk_drewN ?_ _ | refine blk_drew ?_ | refine blk_alloc ?_ _)); exact BK412.out) Tryd.underlying42 rfl (by kernel_rfl)) rfl ?_
      exact ⟨by first | rfl | (simp [errW_none, errW_some] <;> rfl) | (simp [*, errW_none, errW_some] <;> rfl), by repeat (first | (with_reducible first | exact HB.out | apply below_alloc | apply pw_below_drewN | apply below_drew1 | refine below_set ?_ GE412.out | refine below_set ?_ GE413.out) | exact HB.out)⟩
  · replace c4 := Bool.eq_false_iff.mpr c4
    subst c4
    have H1 : (some (t414, 0, (⟨#[]⟩ : ByteArray), t415, false)) = some (r1, r2, r3, r4, r5) := by rw [if_neg (show ¬ (false = true) by decide)] at H; exact H
    clear H
    have H := H1
    clear H1
    simp only [Option.some.injEq, Prod.mk.injEq] at H
    obtain ⟨rfl, rfl, rfl, rfl, rfl⟩ := H
    go_enter Tryd.func45, Tryd.ntmps45
    go_wp2_with (first | ((with_reducible refine gate_dst (N := 4) rfl ?_); refine box_event ?hg (N := 4) ?hd (cs := #[.int .i64 0, .int .i64 0, .string (⟨#[]⟩ : ByteArray)]) (t := 42) ?hr ?_; (case hd => rfl); (case hg => rfl); (case hr => first | (go_simp; done) | (go_simp; rfl)); intro gb412 hg w87 hbox hb; have n0_ := Aside0.mk (below_step (by repeat (first | (with_reducible first | exact HB.out | apply below_alloc | apply pw_below_drewN | apply below_drew1) | exact HB.out)) hb); have n1_ := Aside0.mk (hbox); have n2_ := Aside0.mk ((by rw [hg]; exact (below_size (by repeat (first | (with_reducible first | exact HB.out | apply below_alloc | apply pw_below_drewN | apply below_drew1) | exact HB.out))) : w.heap.size ≤ gb412)); have n3_ := Aside0.mk ((by rw [hg]; exact (below_size (by repeat (first | (with_reducible first | exact HB.out | apply below_alloc | apply pw_below_drewN | apply below_drew1) | exact HB.out))) : w.heap.size ≤ gb412)); clear HB; have HB := n0_; have BK412 := n1_; have GW412 := n2_; have GE412 := n3_; clear n0_ n1_ n2_ n3_; clear hb hbox hg) | ((with_reducible refine gate_dst (N := 7) rfl ?_); refine box_event ?hg (N := 7) ?hd (cs := #[.int .i64 0, .int .i64 0, .string (⟨#[]⟩ : ByteArray)]) (t := 42) ?hr ?_; (case hd => rfl); (case hg => rfl); (case hr => first | (go_simp; done) | (go_simp; rfl)); intro gb413 hg w88 hbox hb; have n0_ := Aside0.mk (blk_below (g := gb412) (o := .cells #[.int .i64 0, .int .i64 0, .string (⟨#[]⟩ : ByteArray)] 42 (0, 0)) (by (with_reducible repeat (first | refine blk_drewN ?_ _ | refine blk_drew ?_ | refine blk_alloc ?_ _)); exact BK412.out) hb); have n1_ := Aside0.mk (below_step (by repeat (first | (with_reducible first | exact HB.out | apply below_alloc | apply pw_below_drewN | apply below_drew1 | refine below_set ?_ GE412.out) | exact HB.out)) hb); have n2_ := Aside0.mk (hbox); have n3_ := Aside0.mk ((by rw [hg]; exact (below_size (by repeat (first | (with_reducible first | exact HB.out | apply below_alloc | apply pw_below_drewN | apply below_drew1 | refine below_set ?_ GE412.out) | exact HB.out))) : w.heap.size ≤ gb413)); have n4_ := Aside0.mk ((by rw [hg]; exact (below_size (by repeat (first | (with_reducible first | exact HB.out | apply below_alloc | apply pw_below_drewN | apply below_drew1 | refine below_set ?_ GE412.out) | exact HB.out))) : w.heap.size ≤ gb413)); have n5_ := Aside0.mk ((by rw [hg]; exact Nat.ne_of_lt (blk_lt (g := gb412) (o := .cells #[.int .i64 0, .int .i64 0, .string (⟨#[]⟩ : ByteArray)] 42 (0, 0)) (by (with_reducible repeat (first | refine blk_drewN ?_ _ | refine blk_drew ?_ | refine blk_alloc ?_ _)); exact BK412.out)) : gb412 ≠ gb413)); have n6_ := Aside0.mk ((by rw [hg]; exact Nat.ne_of_gt (blk_lt (g := gb412) (o := .cells #[.int .i64 0, .int .i64 0, .string (⟨#[]⟩ : ByteArray)] 42 (0, 0)) (by (with_reducible repeat (first | refine blk_drewN ?_ _ | refine blk_drew ?_ | refine blk_alloc ?_ _)); exact BK412.out)) : gb413 ≠ gb412)); clear BK412; clear HB; have BK412 := n0_; have HB := n1_; have BK413 := n2_; have GW413 := n3_; have GE413 := n4_; have NB412_413 := n5_; have NB413_412 := n6_; clear n0_ n1_ n2_ n3_ n4_ n5_ n6_; clear hb hbox hg) | ((with_reducible refine gate_callee (f := 57) rfl ?_); refine goesL_ (some 14) rfl rfl Tryd.func57 (by kernel_rfl) rfl #[.string a0, .int .i64 a1, .int .u8 44] rfl (by (try simp only [List.map_toArray, List.map_cons, List.map_nil]); first | done | rfl | (simp only [List.length_drop, List.length_take]; rfl)) ?_; (with_reducible refine (monikerref1_take.calls k a0 a1 44 t414 t415 false _ A3.out).mono ?_); rintro e w89 ⟨rfl, hb⟩; refine ⟨_, rfl, ?_⟩; have n0_ := Aside0.mk (blk_below (g := gb412) (o := .cells #[.int .i64 0, .int .i64 0, .string (⟨#[]⟩ : ByteArray)] 42 (0, 0)) (by (with_reducible repeat (first | refine blk_drewN ?_ _ | refine blk_drew ?_ | refine blk_alloc ?_ _)); exact BK412.out) hb); have n1_ := Aside0.mk (blk_below (g := gb413) (o := .cells #[.int .i64 0, .int .i64 0, .string (⟨#[]⟩ : ByteArray)] 42 (0, 0)) (by (with_reducible repeat (first | refine blk_drewN ?_ _ | refine blk_drew ?_ | refine blk_alloc ?_ _)); exact BK413.out) hb); have n2_ := Aside0.mk (below_step (by repeat (first | (with_reducible first | exact HB.out | apply below_alloc | apply pw_below_drewN | apply below_drew1 | refine below_set ?_ GE412.out | refine below_set ?_ GE413.out) | exact HB.out)) hb); clear BK412; clear BK413; clear HB; have BK412 := n0_; have BK413 := n1_; have HB := n2_; clear n0_ n1_ n2_; (try clear hb); (try clear hb2); (try clear hk); (try clear hi); have hnb90 := NB413_412.out; have hnc90 := NB412_413.out; have hcz91_0 : w89.cell? ⟨gb413, 0, none⟩ = some (.int .i64 0) := (blk_cell BK413.out 0).trans rfl; have hcz91_1 : w89.cell? ⟨gb413, 1, none⟩ = some (.int .i64 0) := (blk_cell BK413.out 1).trans rfl; have hcz91_2 : w89.cell? ⟨gb413, 2, none⟩ = some (.string (⟨#[]⟩ : ByteArray)) := (blk_cell BK413.out 2).trans rfl; have hfz91_0 := blk_frozen BK413.out 0; have hfz91_1 := blk_frozen BK413.out 1; have hfz91_2 := blk_frozen BK413.out 2; have hcz92_0 : w89.cell? ⟨gb412, 0, none⟩ = some (.int .i64 0) := (blk_cell BK412.out 0).trans rfl; have hcz92_1 : w89.cell? ⟨gb412, 1, none⟩ = some (.int .i64 0) := (blk_cell BK412.out 1).trans rfl; have hcz92_2 : w89.cell? ⟨gb412, 2, none⟩ = some (.string (⟨#[]⟩ : ByteArray)) := (blk_cell BK412.out 2).trans rfl; have hfz92_0 := blk_frozen BK412.out 0; have hfz92_1 := blk_frozen BK412.out 1; have hfz92_2 := blk_frozen BK412.out 2))
    refine bodyPost_ret (results_ctt rfl _ _ gb412 42 #[.int .i64 t414, .int .i64 0, .string (⟨#[]⟩ : ByteArray)] (0, 0) _ rfl (by (with_reducible repeat (first | refine blk_drewN ?_ _ | refine blk_drew ?_ | refine blk_alloc ?_ _)); refine blk_put (cs := #[.int .i64 t414, .int .i64 0, .string (⟨#[]⟩ : ByteArray)]) ?_ 2 _ rfl; (with_reducible repeat (first | refine blk_drewN ?_ _ | refine blk_drew ?_ | refine blk_alloc ?_ _)); refine blk_put (cs := #[.int .i64 t414, .int .i64 0, .string (⟨#[]⟩ : ByteArray)]) ?_ 1 _ rfl; (with_reducible repeat (first | refine blk_drewN ?_ _ | refine blk_drew ?_ | refine blk_alloc ?_ _)); refine blk_put (cs := #[.int .i64 0, .int .i64 0, .string (⟨#[]⟩ : ByteArray)]) ?_ 0 _ rfl; (with_reducible repeat (first | refine blk_drewN ?_ _ | refine blk_drew ?_ | refine blk_alloc ?_ _)); refine blk_far ?_ NB412_413.out _; (with_reducible repeat (first | refine blk_drewN ?_ _ | refine blk_drew ?_ | refine blk_alloc ?_ _)); exact BK412.out) Tryd.underlying42 rfl (by kernel_rfl)) rfl ?_
    exact ⟨by first | rfl | (simp [errW_none, errW_some] <;> rfl) | (simp [*, errW_none, errW_some] <;> rfl), by repeat (first | (with_reducible first | exact HB.out | apply below_alloc | apply pw_below_drewN | apply below_drew1 | refine below_set ?_ GE412.out | refine below_set ?_ GE413.out) | exact HB.out)⟩

end Go.Proofs.YtaihajmdngoeiaaDoor.F

namespace Go.Proofs.YtaihajmdngoeiaaDoor.Q
open Go.RowKit Go.Proofs.YtaihajmdngoeiaaDoorW.PrintWords Go.Proofs.YtaihajmdngoeiaaDoorW.PrintLast Go.Proofs.YtaihajmdngoeiaaDoorW.PrintMore
open Go.Proofs.YtaihajmdngoeiaaDoor.F
set_option linter.unusedVariables false
set_option linter.unusedSimpArgs false

/-- What the reference makes of the rest of a line behind its text. -/
def qThen (s : ByteArray) (acc : List Int) (x : Bool) (l : List Int) : Res (List Int) := (quotL x acc l).then fun t l => (byteL 10 l).then fun _ l => .ok t l
def resQ (s : ByteArray) (a b : Int) : Res (List Int) → Int × Int × ByteArray × Int × Bool
  | .ok t r => (a, b, strOfNums t, plc s r, true)
  | .bad r => (a, b, ⟨#[]⟩, plc s r, false)
theorem lineR_quot (s : ByteArray) (hs : s.size ≤ 140737488351232) (a b : Int) (d : Nat) : ∀ (p : Nat) (acc : List Int), p ≤ s.size → s.size - p ≤ d → acc.length ≤ p →
    Ev (fun k => monikerref1_line.l0 k s (p : Int) acc a b ⟨#[]⟩) (resQ s a b (qThen s acc false ((bytesOf s).drop p))) := by
  induction d with
  | zero =>
    intro p acc h1 h2 h3
    have hp : p = s.size := by omega
    refine ⟨2, fun n hn => ?_⟩
    obtain ⟨k, rfl⟩ : ∃ m, n = m + 2 := ⟨n - 2, by omega⟩
    rw [List.drop_eq_nil_of_le (by rw [bytesOf_length]; omega)]
    simp only [monikerref1_line.l0]
    rw [if_pos (by omega)]
    simp [monikerref1_line.j2, qThen, quotL, Res.then, resQ, plc, hp]
  | succ d ih =>
    intro p acc h1 h2 h3
    by_cases hp : p = s.size
    · refine ⟨2, fun n hn => ?_⟩
      obtain ⟨k, rfl⟩ : ∃ m, n = m + 2 := ⟨n - 2, by omega⟩
      rw [List.drop_eq_nil_of_le (by rw [bytesOf_length]; omega)]
      simp only [monikerref1_line.l0]
      rw [if_pos (by omega)]
      simp [monikerref1_line.j2, qThen, quotL, Res.then, resQ, plc, hp]
    have hlt : p < s.size := by omega
    have hw : wrap64 ((p : Int) + 1) = ((p + 1 : Nat) : Int) := by rw [w64] <;> omega
    have plcp : plc s (bt s (p : Int) :: (bytesOf s).drop (p + 1)) = p := by rw [← dr_cons s p hlt]; exact plc_dr s p h1
    have step0 : ∀ k, monikerref1_line.l0 (k + 1) s (p : Int) acc a b ⟨#[]⟩ = monikerref1_line.j2 k s (p : Int) acc (bt s (p : Int) == 10) a b ⟨#[]⟩ := by
      intro k
      simp only [monikerref1_line.l0]
      rw [if_neg (by omega), if_pos (by omega), if_pos (by omega)]
    have IH1 : ∀ c, Ev (fun k => monikerref1_line.l0 k s ((p + 1 : Nat) : Int) (acc ++ [c]) a b ⟨#[]⟩) (resQ s a b (qThen s (acc ++ [c]) false ((bytesOf s).drop (p + 1)))) := fun c => ih (p + 1) (acc ++ [c]) (by omega) (by omega) (by simp; omega)
    rw [dr_cons s p hlt]
    by_cases e1 : p + 1 = s.size
    · have stepJ : ∀ k, monikerref1_line.j2 (k + 2) s (p : Int) acc false a b ⟨#[]⟩ = if bt s (p : Int) = 34 then some (a, b, ⟨#[]⟩, ((p + 1 : Nat) : Int), false) else if bt s (p : Int) = 92 then some (a, b, ⟨#[]⟩, ((p + 1 : Nat) : Int), false) else monikerref1_line.l0 (k + 1) s ((p + 1 : Nat) : Int) (acc ++ [bt s (p : Int)]) a b ⟨#[]⟩ := by
        intro k
        have A1 : ((0 : Int) ≤ (p : Int)) = True := eq_true (by omega)
        have A2 : ((p : Int) < (s.size : Int)) = True := eq_true (by omega)
        have A4 : (acc.length < 140737488355328) = True := eq_true (by omega)
        have A3 : (((p + 1 : Nat) : Int) = (s.size : Int)) = True := eq_true (by omega)
        simp only [monikerref1_line.j2, monikerref1_line.j3, Bool.false_eq_true, if_false, if_true, hw, A1, A2, A3, A4]
      have plc0 : plc s [] = ((p + 1 : Nat) : Int) := by unfold plc; simp; omega
      rw [List.drop_eq_nil_of_le (by rw [bytesOf_length]; omega)] at IH1 plcp ⊢
      clear ih hw
      generalize bt s (p : Int) = c at step0 stepJ plcp ⊢
      obtain ⟨K, hK⟩ := IH1 c
      refine ⟨K + 4, fun n hn => ?_⟩
      obtain ⟨k, rfl⟩ : ∃ m, n = m + 3 := ⟨n - 3, by omega⟩
      refine (step0 (k + 2)).trans ?_
      by_cases c10 : c = 10
      · subst c10
        simp [monikerref1_line.j2, qThen, quotL, Res.then, resQ, plcp]
      rw [beq_eq_false_iff_ne.2 c10, stepJ]
      by_cases c34 : c = 34
      · subst c34
        simp [qThen, quotL, byteL, Res.then, resQ, plc0]
      by_cases c92 : c = 92
      · subst c92
        simp [qThen, quotL, Res.then, resQ, plc0]
      · rw [if_neg c34, if_neg c92, show qThen s acc false [c] = qThen s (acc ++ [c]) false [] by simp only [qThen, quotL]; rw [if_neg c10, if_neg c34, if_neg c92]]
        exact hK (k + 1) (by omega)
    · have hlt1 : p + 1 < s.size := by omega
      have hw2 : wrap64 (((p + 1 : Nat) : Int) + 1) = ((p + 1 + 1 : Nat) : Int) := by rw [w64] <;> omega
      have plcq : plc s (bt s ((p + 1 : Nat) : Int) :: (bytesOf s).drop (p + 1 + 1)) = ((p + 1 : Nat) : Int) := by rw [← dr_cons s (p + 1) hlt1]; exact plc_dr s (p + 1) (by omega)
      have plcr : plc s ((bytesOf s).drop (p + 1 + 1)) = ((p + 1 + 1 : Nat) : Int) := plc_dr s (p + 1 + 1) (by omega)
      have IH2 : ∀ c, Ev (fun k => monikerref1_line.l0 k s ((p + 1 + 1 : Nat) : Int) (acc ++ [c]) a b ⟨#[]⟩) (resQ s a b (qThen s (acc ++ [c]) false ((bytesOf s).drop (p + 1 + 1)))) := fun c => ih (p + 1 + 1) (acc ++ [c]) (by omega) (by omega) (by simp; omega)
      have stepJ : ∀ k, monikerref1_line.j2 (k + 1) s (p : Int) acc false a b ⟨#[]⟩ = if bt s (p : Int) = 34 then (if bt s ((p + 1 : Nat) : Int) = 10 then some (a, b, strOfNums acc, ((p + 1 + 1 : Nat) : Int), true) else some (a, b, ⟨#[]⟩, ((p + 1 : Nat) : Int), false)) else if bt s (p : Int) = 92 then (if bt s ((p + 1 : Nat) : Int) = 34 then monikerref1_line.j3 k s ((p + 1 : Nat) : Int) acc false a b ⟨#[]⟩ else if bt s ((p + 1 : Nat) : Int) = 92 then monikerref1_line.j3 k s ((p + 1 : Nat) : Int) acc false a b ⟨#[]⟩ else monikerref1_line.j3 k s ((p + 1 : Nat) : Int) acc (bt s ((p + 1 : Nat) : Int) != 110) a b ⟨#[]⟩) else monikerref1_line.l0 k s ((p + 1 : Nat) : Int) (acc ++ [bt s (p : Int)]) a b ⟨#[]⟩ := by
        intro k
        have A1 : ((0 : Int) ≤ (p : Int)) = True := eq_true (by omega)
        have A2 : ((p : Int) < (s.size : Int)) = True := eq_true (by omega)
        have A4 : (acc.length < 140737488355328) = True := eq_true (by omega)
        have A3 : (((p + 1 : Nat) : Int) = (s.size : Int)) = False := eq_false (by omega)
        have A5 : ((0 : Int) ≤ ((p + 1 : Nat) : Int)) = True := eq_true (by omega)
        have A6 : (((p + 1 : Nat) : Int) < (s.size : Int)) = True := eq_true (by omega)
        simp only [monikerref1_line.j2, Bool.false_eq_true, if_false, if_true, hw, hw2, A1, A2, A3, A4, A5, A6]
      have j3f : ∀ k, monikerref1_line.j3 (k + 1) s ((p + 1 : Nat) : Int) acc false a b ⟨#[]⟩ = (if bt s ((p + 1 : Nat) : Int) = 110 then monikerref1_line.l0 k s ((p + 1 + 1 : Nat) : Int) (acc ++ [10]) a b ⟨#[]⟩ else monikerref1_line.l0 k s ((p + 1 + 1 : Nat) : Int) (acc ++ [bt s ((p + 1 : Nat) : Int)]) a b ⟨#[]⟩) := by
        intro k
        have A4 : (acc.length < 140737488355328) = True := eq_true (by omega)
        have A5 : ((0 : Int) ≤ ((p + 1 : Nat) : Int)) = True := eq_true (by omega)
        have A6 : (((p + 1 : Nat) : Int) < (s.size : Int)) = True := eq_true (by omega)
        simp only [monikerref1_line.j3, Bool.false_eq_true, if_false, if_true, hw2, A4, A5, A6]
      rw [dr_cons s (p + 1) hlt1] at IH1 plcp ⊢
      clear ih hw hw2
      generalize bt s (p : Int) = c at step0 stepJ plcp ⊢
      generalize bt s ((p + 1 : Nat) : Int) = c2 at stepJ j3f plcp plcq IH1 ⊢
      generalize (bytesOf s).drop (p + 1 + 1) = R at plcp plcq plcr IH1 IH2 ⊢
      by_cases c10 : c = 10
      · refine ⟨2, fun n hn => ?_⟩
        obtain ⟨k, rfl⟩ : ∃ m, n = m + 2 := ⟨n - 2, by omega⟩
        refine (step0 (k + 1)).trans ?_
        subst c10
        simp [monikerref1_line.j2, qThen, quotL, Res.then, resQ, plcp]
      by_cases c34 : c = 34
      · refine ⟨2, fun n hn => ?_⟩
        obtain ⟨k, rfl⟩ : ∃ m, n = m + 2 := ⟨n - 2, by omega⟩
        refine (step0 (k + 1)).trans ?_
        rw [beq_eq_false_iff_ne.2 c10, stepJ, if_pos c34]
        subst c34
        by_cases e2 : c2 = 10
        · subst e2
          simp [qThen, quotL, byteL, Res.then, resQ, plcr]
        · simp [qThen, quotL, byteL, Res.then, resQ, plcq, e2]
      by_cases c92 : c = 92
      · subst c92
        have hq : qThen s acc false (92 :: c2 :: R) = qThen s acc true (c2 :: R) := by simp [qThen, quotL]
        rw [hq]
        by_cases f1 : c2 = 34 ∨ c2 = 92
        · obtain ⟨K, hK⟩ := IH2 c2
          refine ⟨K + 3, fun n hn => ?_⟩
          obtain ⟨k, rfl⟩ : ∃ m, n = m + 3 := ⟨n - 3, by omega⟩
          refine (step0 (k + 2)).trans ?_
          rw [show ((92 : Int) == 10) = false by rfl, stepJ, if_neg (by omega), if_pos rfl]
          have hif : (if c2 = 34 then monikerref1_line.j3 (k + 1) s ((p + 1 : Nat) : Int) acc false a b ⟨#[]⟩ else if c2 = 92 then monikerref1_line.j3 (k + 1) s ((p + 1 : Nat) : Int) acc false a b ⟨#[]⟩ else monikerref1_line.j3 (k + 1) s ((p + 1 : Nat) : Int) acc (c2 != 110) a b ⟨#[]⟩) = monikerref1_line.j3 (k + 1) s ((p + 1 : Nat) : Int) acc false a b ⟨#[]⟩ := by
            rcases f1 with f | f
            · rw [if_pos f]
            · rw [if_neg (by omega), if_pos f]
          rw [hif, j3f, if_neg (by omega), show qThen s acc true (c2 :: R) = qThen s (acc ++ [c2]) false R by simp only [qThen, quotL]; rw [if_pos f1]]
          exact hK k (by omega)
        · by_cases f2 : c2 = 110
          · obtain ⟨K, hK⟩ := IH2 10
            refine ⟨K + 3, fun n hn => ?_⟩
            obtain ⟨k, rfl⟩ : ∃ m, n = m + 3 := ⟨n - 3, by omega⟩
            refine (step0 (k + 2)).trans ?_
            rw [show ((92 : Int) == 10) = false by rfl, stepJ, if_neg (by omega), if_pos rfl, if_neg (fun h => f1 (Or.inl h)), if_neg (fun h => f1 (Or.inr h)), show (c2 != 110) = false by rw [f2]; rfl, j3f, if_pos f2, show qThen s acc true (c2 :: R) = qThen s (acc ++ [10]) false R by simp only [qThen, quotL]; rw [if_neg f1, if_pos f2]]
            exact hK k (by omega)
          · refine ⟨3, fun n hn => ?_⟩
            obtain ⟨k, rfl⟩ : ∃ m, n = m + 3 := ⟨n - 3, by omega⟩
            refine (step0 (k + 2)).trans ?_
            rw [show ((92 : Int) == 10) = false by rfl, stepJ, if_neg (by omega), if_pos rfl, if_neg (fun h => f1 (Or.inl h)), if_neg (fun h => f1 (Or.inr h)), show (c2 != 110) = true by rw [bne_iff_ne]; exact f2]
            simp only [monikerref1_line.j3, if_true, qThen, quotL]
            rw [if_neg f1, if_neg f2]
            simp only [Res.then, resQ]
            rw [plcq]
      · obtain ⟨K, hK⟩ := IH1 c
        refine ⟨K + 2, fun n hn => ?_⟩
        obtain ⟨k, rfl⟩ : ∃ m, n = m + 2 := ⟨n - 2, by omega⟩
        refine (step0 (k + 1)).trans ?_
        rw [beq_eq_false_iff_ne.2 c10, stepJ, if_neg c34, if_neg c92, show qThen s acc false (c :: c2 :: R) = qThen s (acc ++ [c]) false (c2 :: R) by simp only [qThen, quotL]; rw [if_neg c10, if_neg c34, if_neg c92]]
        exact hK k (by omega)

theorem lineL_eq (l : List Int) : lineL l = (takeL 44 .start l).then fun a l => (takeL 32 .start l).then fun b l => (byteL 34 l).then fun _ l => (qThen ⟨#[]⟩ [] false l).then fun t l => .ok (a, b, t) l := by
  unfold lineL qThen
  congr 1
  funext a l
  congr 1
  funext b l
  congr 1
  funext u l
  cases quotL false [] l with
  | bad r => rfl
  | ok t r =>
    simp only [Res.then]
    cases byteL 10 r with
    | bad r => rfl
    | ok u r => rfl
/-- What the reference reads of a line. -/
theorem lineR_is (s : ByteArray) (hs : s.size ≤ 140737488351232) (i : Nat) (h : i ≤ s.size) :
    ∃ r : Int × Int × ByteArray × Int × Bool, Ev (fun k => monikerref1_line.f k s (i : Int)) r ∧ (match lineL ((bytesOf s).drop i) with | .ok e x => r = (e.1, e.2.1, strOfNums e.2.2, plc s x, true) | .bad x => r.2.2.2 = (plc s x, false)) := by
  rw [lineL_eq]
  have hsuf : ∀ {α : Type} {P : List Int → Res α}, Short P → Good P → ∀ p v r, p ≤ s.size → P ((bytesOf s).drop p) = .ok v r → ∃ q : Nat, q ≤ s.size ∧ r = (bytesOf s).drop q := by
    intro α P hS hG p v r hp hP
    obtain ⟨c, hc, _, _⟩ := hG _ _ _ hP
    have hl := congrArg List.length hc
    rw [dr_len, List.length_append] at hl
    refine ⟨p + c.length, by omega, ?_⟩
    rw [← List.drop_drop, hc, List.drop_left]
  obtain ⟨K1, hK1⟩ := take_is_ref s hs 44 (by omega) i h
  cases h1 : takeL 44 .start ((bytesOf s).drop i) with
  | bad x =>
    rw [h1] at hK1
    refine ⟨(0, 0, ⟨#[]⟩, plc s x, false), ⟨K1, fun n hn => ?_⟩, rfl⟩
    have g := hK1 n hn
    simp only at g
    unfold monikerref1_line.f
    simp only []
    rw [g]
    simp [resT]
  | ok a x =>
    rw [h1] at hK1
    obtain ⟨q, hq, rfl⟩ := hsuf (takeL_short 44 _) (takeL_good 44 _) i a x h h1
    simp only [Res.then]
    obtain ⟨K2, hK2⟩ := take_is_ref s hs 32 (by omega) q hq
    have e1 : ∀ k, K1 ≤ k → monikerref1_line.f k s (i : Int) = ((monikerref1_take.f k s (q : Int) 32).bind fun bt465 => (if bt465.2.2 = true then (if bt465.2.1 = (s.size : Int) then (monikerref1_line.j0 k s bt465.2.1 true a bt465.1 (⟨#[]⟩ : ByteArray)) else (if 0 ≤ bt465.2.1 then (if bt465.2.1 < (s.size : Int) then (monikerref1_line.j0 k s bt465.2.1 ((bt s bt465.2.1) != 34) a bt465.1 (⟨#[]⟩ : ByteArray)) else (none)) else (none))) else (some (a, bt465.1, (⟨#[]⟩ : ByteArray), bt465.2.1, false)))) := by
      intro k hk
      have g := hK1 k hk
      simp only at g
      unfold monikerref1_line.f
      rw [g]
      simp only [resT, Option.bind_some, if_true]
      rw [plc_dr s q hq]
    cases h2 : takeL 32 .start ((bytesOf s).drop q) with
    | bad x =>
      rw [h2] at hK2
      refine ⟨(a, 0, ⟨#[]⟩, plc s x, false), ⟨max K1 K2, fun n hn => ?_⟩, rfl⟩
      have g := hK2 n (by omega)
      simp only at g
      refine (e1 n (by omega)).trans ?_
      rw [g]
      simp [resT]
    | ok b x =>
      rw [h2] at hK2
      obtain ⟨q2, hq2, rfl⟩ := hsuf (takeL_short 32 _) (takeL_good 32 _) q b x hq h2
      simp only [Res.then]
      have e2 : ∀ k, max K1 K2 ≤ k → monikerref1_line.f k s (i : Int) = (if (q2 : Int) = (s.size : Int) then (monikerref1_line.j0 k s (q2 : Int) true a b (⟨#[]⟩ : ByteArray)) else (if 0 ≤ (q2 : Int) then (if (q2 : Int) < (s.size : Int) then (monikerref1_line.j0 k s (q2 : Int) ((bt s (q2 : Int)) != 34) a b (⟨#[]⟩ : ByteArray)) else (none)) else (none))) := by
        intro k hk
        have g := hK2 k (by omega)
        simp only at g
        rw [e1 k (by omega), g]
        simp only [resT, Option.bind_some, if_true]
        rw [plc_dr s q2 hq2]
      by_cases e3 : q2 = s.size
      · refine ⟨(a, b, ⟨#[]⟩, plc s [], false), ⟨max K1 K2 + 1, fun n hn => ?_⟩, ?_⟩
        · obtain ⟨k, rfl⟩ : ∃ m, n = m + 1 := ⟨n - 1, by omega⟩
          refine (e2 (k + 1) (by omega)).trans ?_
          rw [if_pos (by omega)]
          simp [monikerref1_line.j0, plc, e3]
        · rw [List.drop_eq_nil_of_le (by rw [bytesOf_length]; omega)]
          rfl
      · have hlt : q2 < s.size := by omega
        have plcq : plc s (bt s (q2 : Int) :: (bytesOf s).drop (q2 + 1)) = q2 := by rw [← dr_cons s q2 hlt]; exact plc_dr s q2 hq2
        rw [dr_cons s q2 hlt]
        by_cases e4 : bt s (q2 : Int) = 34
        · obtain ⟨K3, hK3⟩ := lineR_quot s hs a b _ (q2 + 1) [] (by omega) (Nat.le_refl _) (by simp)
          have hw : wrap64 ((q2 : Int) + 1) = ((q2 + 1 : Nat) : Int) := by rw [w64] <;> omega
          refine ⟨resQ s a b (qThen s [] false ((bytesOf s).drop (q2 + 1))), ⟨max (max K1 K2) K3 + 1, fun n hn => ?_⟩, ?_⟩
          · obtain ⟨k, rfl⟩ : ∃ m, n = m + 1 := ⟨n - 1, by omega⟩
            refine (e2 (k + 1) (by omega)).trans ?_
            rw [if_neg (by omega), if_pos (by omega), if_pos (by omega), show (bt s (q2 : Int) != 34) = false by rw [e4]; rfl]
            simp only [monikerref1_line.j0]
            rw [if_neg (by simp), hw]
            exact hK3 k (by omega)
          · simp only [byteL]
            rw [if_pos e4]
            simp only [Res.then]
            have : qThen s [] false ((bytesOf s).drop (q2 + 1)) = qThen ⟨#[]⟩ [] false ((bytesOf s).drop (q2 + 1)) := rfl
            rw [this]
            cases qThen ⟨#[]⟩ [] false ((bytesOf s).drop (q2 + 1)) with
            | ok t r => rfl
            | bad r => rfl
        · refine ⟨(a, b, ⟨#[]⟩, (q2 : Int), false), ⟨max K1 K2 + 1, fun n hn => ?_⟩, ?_⟩
          · obtain ⟨k, rfl⟩ : ∃ m, n = m + 1 := ⟨n - 1, by omega⟩
            refine (e2 (k + 1) (by omega)).trans ?_
            rw [if_neg (by omega), if_pos (by omega), if_pos (by omega), show (bt s (q2 : Int) != 34) = true by rw [bne_iff_ne]; exact e4]
            simp [monikerref1_line.j0]
          · simp only [byteL]
            rw [if_neg e4]
            simp only [Res.then]
            rw [plcq]
end Go.Proofs.YtaihajmdngoeiaaDoor.Q
