/- Texts of the proof of one law (Anew), part 1: functions printed as Lean functions with their walks, and what is proved of them. Conditions: those of each theorem. -/
import Derived.Test.YtaihajmdngoeiaaDoorZAnew0
import Derived.BigRegion
import Derived.Great.Walk
import Derived.Lib.ItoaLen
namespace Go.Proofs.YtaihajmdngoeiaaDoor.F
open Go.RowKit Go.Proofs.YtaihajmdngoeiaaDoorW.PrintWords Go.Proofs.YtaihajmdngoeiaaDoorW.PrintLast Go.Proofs.YtaihajmdngoeiaaDoorW.PrintMore
attribute [local go_sem] max2_int min2_int max_two min_two max_three min_three max_four min_four   -- for this text's walks alone
set_option linter.unusedVariables false
set_option linter.unusedSimpArgs false
/-! ### monikerref1_Left: function 42 -/
def monikerref1_Left.l0 : Nat → Int → List (S42) → Int → Option (Int)
 | 0, _, _, _ => none
 | k + 1, x0, x1, x5 => if x5 < (x1.length : Int) then (if 0 ≤ x5 then (monikerref1_Left.l0 k (wrap64 (x0 + (wrap64 ((((rd_T42 x1 x5).f2).size : Int) - (wrap64 (((rd_T42 x1 x5).f1) - ((rd_T42 x1 x5).f0))))))) x1 (wrap64 (x5 + 1))) else (none)) else (some x0)
def monikerref1_Left.f (k : Nat) (a0 : Int) (l1 : List (S42)) : Option (Int) := monikerref1_Left.l0 k a0 l1 0
set_option maxHeartbeats 8000000 in
set_option maxRecDepth 100000 in
theorem monikerref1_Left.calls (k : Nat) (a0 : Int) (A1 : Option Addr) (c1 : Nat) (l1 : List (S42)) (r : Int) (w : World) (hr1 : Kd.C k42 w A1 l1.length l1) (hc1 : l1.length ≤ c1) (h : monikerref1_Left.f k a0 l1 = some r) :
  Calls Tryd.prog 42 #[.int .i64 a0, .slice A1 l1.length c1] w fun e w' => e = .returned (.int .i64 r) ∧ Drawn0 w w' := by
 have HR1 := Aside0.mk hr1
 have HC1 := Aside0.mk hc1
 clear hr1 hc1
 have H : (monikerref1_Left.l0 k a0 l1 0) = some r := h
 clear h
 have H' := Aside0.mk H
 clear H
 go_enter Tryd.func42, Tryd.ntmps42
 go_wp2
 repeat (go_quiet (fail); try go_wp2)
 go_loopg [0, 5] k (fun kq v0 v5 w' => ∃ (x0_1 : Int) (x5_1 : Int), v0 = .int .i64 x0_1 ∧ v5 = .int .i64 x5_1 ∧ Aside0 (monikerref1_Left.l0 kq x0_1 l1 x5_1 = some r) ∧ Aside0 (kq ≤ k) ∧ Drawn0 w w')
 case atStart => exact ⟨(a0), (0), (by first | rfl | (simp; done) | (simp [*]; done)), (by first | rfl | (simp; done) | (simp [*]; done)), H', ⟨Nat.le_refl _⟩, by repeat (first | exact Drawn0.refl _ | apply Drawn0.step)⟩
 case round =>
  clear H'
  try clear c1
  try clear p2
  obtain ⟨x0_1, x5_1, rfl, rfl, HA, HK1, ⟨m1, rfl⟩⟩ := hrel
  cases gk with
  | zero => exact absurd HA.out (by simp [monikerref1_Left.l0])
  | succ k1 =>
   have H := HA.out
   clear HA
   simp only [monikerref1_Left.l0] at H
   by_cases c3 : x5_1 < (l1.length : Int)
   ·rw [if_pos c3] at H
    have c3b0 : decide (x5_1 < (l1.length : Int)) = true := decide_eq_true c3
    clear c3
    by_cases c4 : 0 ≤ x5_1
    ·rw [if_pos c4] at H
     have c4b0 : decide (0 ≤ x5_1) = true := decide_eq_true c4
     clear c4
     have H' := Aside0.mk H
     clear H
     have p344 : 0 ≤ (x5_1 : Int) := of_decide_eq_true (by first | (with_reducible assumption) | assumption)
     have q344 : x5_1 < (l1.length : Int) := of_decide_eq_true (by first | (with_reducible assumption) | assumption)
     obtain ⟨ad344, e344, hx344_0, hx344_1, hx344_2⟩ := at_T42 HR1.out x5_1 p344 q344
     cases e344
     replace p344 := eq_true p344
     replace q344 := eq_true q344
     have p345 : 0 ≤ (x5_1 : Int) := of_decide_eq_true (by first | (with_reducible assumption) | assumption)
     have q345 : x5_1 < (l1.length : Int) := of_decide_eq_true (by first | (with_reducible assumption) | assumption)
     obtain ⟨ad345, e345, hx345_0, hx345_1, hx345_2⟩ := at_T42 HR1.out x5_1 p345 q345
     obtain rfl : ad344 = ad345 := (by injection e345)
     replace p345 := eq_true p345
     replace q345 := eq_true q345
     have p346 : 0 ≤ (x5_1 : Int) := of_decide_eq_true (by first | (with_reducible assumption) | assumption)
     have q346 : x5_1 < (l1.length : Int) := of_decide_eq_true (by first | (with_reducible assumption) | assumption)
     obtain ⟨ad346, e346, hx346_0, hx346_1, hx346_2⟩ := at_T42 HR1.out x5_1 p346 q346
     obtain rfl : ad344 = ad346 := (by injection e346)
     replace p346 := eq_true p346
     replace q346 := eq_true q346
     go_wp2
     repeat (go_quiet (fail); try go_wp2)
     go_roundg k1
     case measure => have := HK1.out; omega
     case rel => exact ⟨(wrap64 (x0_1 + (wrap64 ((((rd_T42 l1 x5_1).f2).size : Int) - (wrap64 (((rd_T42 l1 x5_1).f1) - ((rd_T42 l1 x5_1).f0))))))), (wrap64 (x5_1 + 1)), (by first | rfl | (simp; done) | (simp [*]; done)), (by first | rfl | (simp; done) | (simp [*]; done)), H', ⟨by have := HK1.out; omega⟩, by repeat (first | exact Drawn0.refl _ | apply Drawn0.step)⟩
    ·rw [if_neg c4] at H
     exact absurd H (by simp)
   ·rw [if_neg c3] at H
    have c3b0 : decide (x5_1 < (l1.length : Int)) = false := decide_eq_false c3
    clear c3
    obtain rfl := Option.some.inj H
    go_wp2
    repeat (go_quiet (fail); try go_wp2)
    go_ret
    exact ⟨by first | rfl | (simp; done) | (simp [*]; done), by repeat (first | exact Drawn0.refl _ | apply Drawn0.step)⟩
end Go.Proofs.YtaihajmdngoeiaaDoor.F
namespace Go.Proofs.YtaihajmdngoeiaaDoor.F
open Go.RowKit Go.Proofs.YtaihajmdngoeiaaDoorW.PrintWords Go.Proofs.YtaihajmdngoeiaaDoorW.PrintLast Go.Proofs.YtaihajmdngoeiaaDoorW.PrintMore
attribute [local go_sem] max2_int min2_int max_two min_two max_three min_three max_four min_four   -- for this text's walks alone
set_option linter.unusedVariables false
set_option linter.unusedSimpArgs false
/-! ### monikerref1_List: function 43 -/
mutual
def monikerref1_List.l0 : Nat → List (S86) → Int → List (S42) → Int → Bool → ByteArray → Int → Option ((List (S42)))
 | 0, _, _, _, _, _, _, _ => none
 | k + 1, x0, x1, x5, x6, x7, x8, x9 => if x9 ≤ (x0.length : Int) then (if x9 < (x0.length : Int) then (if 0 ≤ x9 then (if ((rd_T86 x0 x9).f0 = true) then (monikerref1_List.j1 k x0 x1 x5 x6 x7 x8 x9 ((rd_T86 x0 x9).f1)) else (if x8.size + ((rd_T86 x0 x9).f3).size ≤ 9223372036854775807 then (monikerref1_List.l0 k x0 x1 x5 x6 true (x8 ++ ((rd_T86 x0 x9).f3)) (wrap64 (x9 + 1))) else (none))) else (none)) else (monikerref1_List.j1 k x0 x1 x5 x6 x7 x8 x9 x1)) else (some x5)
def monikerref1_List.j1 : Nat → List (S86) → Int → List (S42) → Int → Bool → ByteArray → Int → Int → Option ((List (S42)))
 | 0, _, _, _, _, _, _, _, _ => none
 | k + 1, x0, x1, x5, x6, x7, x8, x9, x10 => if x7 = true then (monikerref1_List.j2 k x0 x1 x5 x6 x8 x9 x10 true) else (monikerref1_List.j2 k x0 x1 x5 x6 x8 x9 x10 (decide (x10 > x6)))
def monikerref1_List.j2 : Nat → List (S86) → Int → List (S42) → Int → ByteArray → Int → Int → Bool → Option ((List (S42)))
 | 0, _, _, _, _, _, _, _, _ => none
 | k + 1, x0, x1, x5, x6, x8, x9, x10, x45 => if x45 = true then (if x5.length < 4398046511104 then ((some (x5 ++ [(⟨x6, x10, x8⟩ : S42)] : List (S42))).bind fun y350 => (if x9 < (x0.length : Int) then (if 0 ≤ x9 then (monikerref1_List.l0 k x0 x1 y350 ((rd_T86 x0 x9).f2) false (⟨#[]⟩ : ByteArray) (wrap64 (x9 + 1))) else (none)) else (monikerref1_List.l0 k x0 x1 y350 x6 false (⟨#[]⟩ : ByteArray) (wrap64 (x9 + 1))))) else (none)) else (if x9 < (x0.length : Int) then (if 0 ≤ x9 then (monikerref1_List.l0 k x0 x1 x5 ((rd_T86 x0 x9).f2) false (⟨#[]⟩ : ByteArray) (wrap64 (x9 + 1))) else (none)) else (monikerref1_List.l0 k x0 x1 x5 x6 false (⟨#[]⟩ : ByteArray) (wrap64 (x9 + 1))))
end
def monikerref1_List.f (k : Nat) (l0 : List (S86)) (a1 : Int) : Option ((List (S42))) := monikerref1_List.l0 k l0 a1 ([] : List (S42)) 0 false (⟨#[]⟩ : ByteArray) 0
set_option maxHeartbeats 8000000 in
set_option maxRecDepth 100000 in
theorem monikerref1_List.calls (k : Nat) (A0 : Option Addr) (c0 : Nat) (l0 : List (S86)) (a1 : Int) (r : List (S42)) (w : World) (hr0 : Kd.C k86 w A0 l0.length l0) (hc0 : l0.length ≤ c0) (h : monikerref1_List.f k l0 a1 = some r) :
  Calls Tryd.prog 43 #[.slice A0 l0.length c0, .int .i64 a1] w fun e w' => ∃ v0_ : Value, e = .returned (v0_) ∧ Kd.R k42 42 w' w.heap.size (fun _ => True) v0_ r ∧ Below w.heap.size w w' := by
 have hu42 := Tryd.underlying42
 have HR0 := Aside0.mk hr0
 have HC0 := Aside0.mk hc0
 clear hr0 hc0
 have HB := Aside0.mk (Below.refl w.heap.size w)
 have H : (monikerref1_List.l0 k l0 a1 ([] : List (S42)) 0 false (⟨#[]⟩ : ByteArray) 0) = some r := h
 clear h
 have H' := Aside0.mk H
 clear H
 go_enter Tryd.func43, Tryd.ntmps43
 go_wp2
 go_loopg [5, 6, 7, 8, 9] k (fun kq v5 v6 v7 v8 v9 w' => ∃ (x5_1 : List (S42)) (x6_1 : Int) (x7_1 : Bool) (x8_1 : ByteArray) (x9_1 : Int), v6 = .int .i64 x6_1 ∧ v7 = .bool x7_1 ∧ v8 = .string x8_1 ∧ v9 = .int .i64 x9_1 ∧ Aside0 (monikerref1_List.l0 kq l0 a1 x5_1 x6_1 x7_1 x8_1 x9_1 = some r) ∧ Aside0 (kq ≤ k) ∧ Aside0 (Kd.R k42 42 w' w.heap.size (fun _ => True) v5 x5_1) ∧ Aside0 (Below w.heap.size w w'))
 case atStart => exact ⟨(([] : List (S42))), (0), (false), ((⟨#[]⟩ : ByteArray)), (0), (by first | rfl | (simp; done) | (simp [*]; done)), (by first | rfl | (simp; done) | (simp [*]; done)), (by first | rfl | (simp; done) | (simp [*]; done)), (by first | rfl | (simp; done) | (simp [*]; done)), H', ⟨Nat.le_refl _⟩, ⟨by first | exact Kd.R_nil _ _ _ _ _ | exact Kd.N_nil _ _ _ _ _ | exact Kd.V_nil _ _ _ _ _ | exact Kd.Q_nil _ _ _ _ _ | exact Kd.S_nil _ _ _ _ _⟩, ⟨by repeat (first | (with_reducible first | exact HB.out | apply below_alloc | apply pw_below_drewN | apply below_drew1) | exact HB.out)⟩⟩
 case round =>
  clear H'
  try clear p2
  obtain ⟨x5_1, x6_1, x7_1, x8_1, x9_1, rfl, rfl, rfl, rfl, HA, HK1, HO_5, HB⟩ := hrel
  cases gk with
  | zero => exact absurd HA.out (by simp [monikerref1_List.l0])
  | succ k1 =>
   have H := HA.out
   clear HA
   simp only [monikerref1_List.l0] at H
   by_cases c3 : x9_1 ≤ (l0.length : Int)
   ·rw [if_pos c3] at H
    have c3b0 : decide (x9_1 ≤ (l0.length : Int)) = true := decide_eq_true c3
    clear c3
    have HC4 := Aside0.mk H
    clear H
    go_upto_if 21 with (fail)
    go_cut [7, 8, 10] (fun v7 v8 v10 wc => ∃ (kq : Nat) (x7_3 : Bool) (x8_3 : ByteArray) (x10_3 : Int), v7 = .bool x7_3 ∧ v8 = .string x8_3 ∧ v10 = .int .i64 x10_3 ∧ Aside0 (monikerref1_List.j1 kq l0 a1 x5_1 x6_1 x7_3 x8_3 x9_1 x10_3 = some r) ∧ Aside0 (kq ≤ k1) ∧ Aside0 (Kd.R k42 42 wc w.heap.size (fun _ => True) u5 x5_1) ∧ Aside0 (Below w.heap.size w wc))
    case first =>
     have H := HC4.out
     clear HC4
     by_cases c5 : x9_1 < (l0.length : Int)
     ·rw [if_pos c5] at H
      have c5b0 : decide (x9_1 < (l0.length : Int)) = true := decide_eq_true c5
      clear c5
      (first | rw [c5b0] | (simp only [i64_w, i32_w]; rw [c5b0]) | skip)
      by_cases c6 : 0 ≤ x9_1
      ·rw [if_pos c6] at H
       have c6b0 : decide (0 ≤ x9_1) = true := decide_eq_true c6
       clear c6
       obtain ⟨bq7, hbq7⟩ : ∃ b_ : Bool, b_ = ((rd_T86 l0 x9_1).f0) := ⟨_, rfl⟩
       replace H : (if (bq7 = true) then (monikerref1_List.j1 k1 l0 a1 x5_1 x6_1 x7_1 x8_1 x9_1 ((rd_T86 l0 x9_1).f1)) else (if x8_1.size + ((rd_T86 l0 x9_1).f3).size ≤ 9223372036854775807 then (monikerref1_List.l0 k1 l0 a1 x5_1 x6_1 true (x8_1 ++ ((rd_T86 l0 x9_1).f3)) (wrap64 (x9_1 + 1))) else (none))) = some r := by rw [← hbq7] at H; exact H
       have Nbq7 := Aside0.mk hbq7
       clear hbq7
       by_cases c8 : (bq7 = true)
       ·subst c8
        have H1 : (monikerref1_List.j1 k1 l0 a1 x5_1 x6_1 x7_1 x8_1 x9_1 ((rd_T86 l0 x9_1).f1)) = some r := by rw [if_pos rfl] at H; exact H
        clear H
        have H := H1
        clear H1
        have H' := Aside0.mk H
        clear H
        have p347 : 0 ≤ (x9_1 : Int) := of_decide_eq_true (by first | (with_reducible assumption) | assumption)
        have q347 : x9_1 < (l0.length : Int) := of_decide_eq_true (by first | (with_reducible assumption) | assumption)
        obtain ⟨ad347, e347, hx347_0, hx347_1, hx347_2, hx347_3⟩ := at_T86 HR0.out x9_1 p347 q347
        (try rw [← Nbq7.out] at hx347_0)
        cases e347
        replace hx347_0 := (HB.out.cell (World.block_lt_of_cell? w _ hx347_0)).trans hx347_0
        replace hx347_1 := (HB.out.cell (World.block_lt_of_cell? w _ hx347_1)).trans hx347_1
        replace hx347_2 := (HB.out.cell (World.block_lt_of_cell? w _ hx347_2)).trans hx347_2
        replace hx347_3 := (HB.out.cell (World.block_lt_of_cell? w _ hx347_3)).trans hx347_3
        replace p347 := eq_true p347
        replace q347 := eq_true q347
        have p348 : 0 ≤ (x9_1 : Int) := of_decide_eq_true (by first | (with_reducible assumption) | assumption)
        have q348 : x9_1 < (l0.length : Int) := of_decide_eq_true (by first | (with_reducible assumption) | assumption)
        obtain ⟨ad348, e348, hx348_0, hx348_1, hx348_2, hx348_3⟩ := at_T86 HR0.out x9_1 p348 q348
        (try rw [← Nbq7.out] at hx348_0)
        obtain rfl : ad347 = ad348 := (by injection e348)
        replace hx348_0 := (HB.out.cell (World.block_lt_of_cell? w _ hx348_0)).trans hx348_0
        replace hx348_1 := (HB.out.cell (World.block_lt_of_cell? w _ hx348_1)).trans hx348_1
        replace hx348_2 := (HB.out.cell (World.block_lt_of_cell? w _ hx348_2)).trans hx348_2
        replace hx348_3 := (HB.out.cell (World.block_lt_of_cell? w _ hx348_3)).trans hx348_3
        replace p348 := eq_true p348
        replace q348 := eq_true q348
        go_wp2
        go_meet
        case rel => exact ⟨_, (x7_1), (x8_1), ((rd_T86 l0 x9_1).f1), (by first | rfl | (simp; done) | (simp [*]; done)), (by first | rfl | (simp; done) | (simp [*]; done)), (by first | rfl | (simp; done) | (simp [*]; done)), H', ⟨by have := HK1.out; first | omega | exact Nat.le_refl _⟩, ⟨by (with_reducible repeat (first | apply Kd.R_alloc | apply Kd.R_drewN | apply Kd.R_drew)); exact HO_5.out⟩, ⟨by repeat (first | (with_reducible first | exact HB.out | apply below_alloc | apply pw_below_drewN | apply below_drew1) | exact HB.out)⟩⟩
       ·replace c8 := Bool.eq_false_iff.mpr c8
        subst c8
        have H1 : (if x8_1.size + ((rd_T86 l0 x9_1).f3).size ≤ 9223372036854775807 then (monikerref1_List.l0 k1 l0 a1 x5_1 x6_1 true (x8_1 ++ ((rd_T86 l0 x9_1).f3)) (wrap64 (x9_1 + 1))) else (none)) = some r := by rw [if_neg (show ¬ (false = true) by decide)] at H; exact H
        clear H
        have H := H1
        clear H1
        by_cases c9 : x8_1.size + ((rd_T86 l0 x9_1).f3).size ≤ 9223372036854775807
        ·rw [if_pos c9] at H
         have c9b0 := eq_true c9
         have c9b1 : decide (x8_1.size + ((rd_T86 l0 x9_1).f3).size ≤ 9223372036854775807) = true := decide_eq_true c9
         try have c9b2 : (9223372036854775807 < x8_1.size + ((rd_T86 l0 x9_1).f3).size) = False := eq_false (Nat.not_lt.2 c9)
         have H' := Aside0.mk H
         clear H
         have p347 : 0 ≤ (x9_1 : Int) := of_decide_eq_true (by first | (with_reducible assumption) | assumption)
         have q347 : x9_1 < (l0.length : Int) := of_decide_eq_true (by first | (with_reducible assumption) | assumption)
         obtain ⟨ad347, e347, hx347_0, hx347_1, hx347_2, hx347_3⟩ := at_T86 HR0.out x9_1 p347 q347
         (try rw [← Nbq7.out] at hx347_0)
         cases e347
         replace hx347_0 := (HB.out.cell (World.block_lt_of_cell? w _ hx347_0)).trans hx347_0
         replace hx347_1 := (HB.out.cell (World.block_lt_of_cell? w _ hx347_1)).trans hx347_1
         replace hx347_2 := (HB.out.cell (World.block_lt_of_cell? w _ hx347_2)).trans hx347_2
         replace hx347_3 := (HB.out.cell (World.block_lt_of_cell? w _ hx347_3)).trans hx347_3
         replace p347 := eq_true p347
         replace q347 := eq_true q347
         have p349 : 0 ≤ (x9_1 : Int) := of_decide_eq_true (by first | (with_reducible assumption) | assumption)
         have q349 : x9_1 < (l0.length : Int) := of_decide_eq_true (by first | (with_reducible assumption) | assumption)
         obtain ⟨ad349, e349, hx349_0, hx349_1, hx349_2, hx349_3⟩ := at_T86 HR0.out x9_1 p349 q349
         (try rw [← Nbq7.out] at hx349_0)
         obtain rfl : ad347 = ad349 := (by injection e349)
         replace hx349_0 := (HB.out.cell (World.block_lt_of_cell? w _ hx349_0)).trans hx349_0
         replace hx349_1 := (HB.out.cell (World.block_lt_of_cell? w _ hx349_1)).trans hx349_1
         replace hx349_2 := (HB.out.cell (World.block_lt_of_cell? w _ hx349_2)).trans hx349_2
         replace hx349_3 := (HB.out.cell (World.block_lt_of_cell? w _ hx349_3)).trans hx349_3
         replace p349 := eq_true p349
         replace q349 := eq_true q349
         go_wp2
         go_roundg k1
         case measure => have := HK1.out; omega
         case rel => exact ⟨(x5_1), (x6_1), (true), (x8_1 ++ ((rd_T86 l0 x9_1).f3)), (wrap64 (x9_1 + 1)), (by first | rfl | (simp; done) | (simp [*]; done)), (by first | rfl | (simp; done) | (simp [*]; done)), (by first | rfl | (simp; done) | (simp [*]; done)), (by first | rfl | (simp; done) | (simp [*]; done)), H', ⟨by have := HK1.out; omega⟩, ⟨by (with_reducible repeat (first | apply Kd.R_alloc | apply Kd.R_drewN | apply Kd.R_drew)); exact HO_5.out⟩, ⟨by repeat (first | (with_reducible first | exact HB.out | apply below_alloc | apply pw_below_drewN | apply below_drew1) | exact HB.out)⟩⟩
        ·rw [if_neg c9] at H
         exact absurd H (by simp)
      ·rw [if_neg c6] at H
       exact absurd H (by simp)
     ·rw [if_neg c5] at H
      have c5b0 : decide (x9_1 < (l0.length : Int)) = false := decide_eq_false c5
      clear c5
      (first | rw [c5b0] | (simp only [i64_w, i32_w]; rw [c5b0]) | skip)
      have H' := Aside0.mk H
      clear H
      go_wp2
      go_meet
      case rel => exact ⟨_, (x7_1), (x8_1), (a1), (by first | rfl | (simp; done) | (simp [*]; done)), (by first | rfl | (simp; done) | (simp [*]; done)), (by first | rfl | (simp; done) | (simp [*]; done)), H', ⟨by have := HK1.out; first | omega | exact Nat.le_refl _⟩, ⟨by (with_reducible repeat (first | apply Kd.R_alloc | apply Kd.R_drewN | apply Kd.R_drew)); exact HO_5.out⟩, ⟨by repeat (first | (with_reducible first | exact HB.out | apply below_alloc | apply pw_below_drewN | apply below_drew1) | exact HB.out)⟩⟩
    case rest =>
     clear HC4
     try clear p2
     try clear c3
     try clear c3b0
     try clear p3
     try clear q3
     try clear hx3
     try clear c4
     try clear c5
     try clear c5b0
     try clear c6
     try clear c6b0
     try clear p6
     try clear q7
     try clear c8
     try clear c9
     try clear c9b0
     try clear c9b1
     try clear c9b2
     try clear hx347_0
     try clear hx347_1
     try clear hx347_2
     try clear hx347_3
     try clear hx348_0
     try clear hx348_1
     try clear hx348_2
     try clear hx348_3
     try clear hx349_0
     try clear hx349_1
     try clear hx349_2
     try clear hx349_3
     try clear p2
     try clear p347
     try clear p348
     try clear p349
     try clear q347
     try clear q348
     try clear q349
     obtain ⟨kq, x7_3, x8_3, x10_3, rfl, rfl, rfl, HA, HJ3, HO_5, HB⟩ := hcut
     cases kq with
     | zero => exact absurd HA.out (by simp [monikerref1_List.j1])
     | succ kj3 =>
      have H := HA.out
      clear HA
      simp only [monikerref1_List.j1] at H
      have HC10 := Aside0.mk H
      clear H
      go_upto_region 14 with (fail)
      go_cut [45] (fun v45 wc => ∃ (kq : Nat) (x45_9 : Bool), v45 = .bool x45_9 ∧ Aside0 (monikerref1_List.j2 kq l0 a1 x5_1 x6_1 x8_3 x9_1 x10_3 x45_9 = some r) ∧ Aside0 (kq ≤ kj3) ∧ Aside0 (Kd.R k42 42 wc w.heap.size (fun _ => True) u5 x5_1) ∧ Aside0 (Below w.heap.size w wc))
      case first =>
       have H := HC10.out
       clear HC10
       by_cases c11 : x7_3 = true
       ·subst c11
        have H1 : (monikerref1_List.j2 kj3 l0 a1 x5_1 x6_1 x8_3 x9_1 x10_3 true) = some r := by rw [if_pos rfl] at H; exact H
        clear H
        have H := H1
        clear H1
        have H' := Aside0.mk H
        clear H
        go_wp2
        go_meet
        case rel => exact ⟨_, (true), (by first | rfl | (simp; done) | (simp [*]; done)), H', ⟨by have := HK1.out; have := HJ3.out; first | omega | exact Nat.le_refl _⟩, ⟨by (with_reducible repeat (first | apply Kd.R_alloc | apply Kd.R_drewN | apply Kd.R_drew)); exact HO_5.out⟩, ⟨by repeat (first | (with_reducible first | exact HB.out | apply below_alloc | apply pw_below_drewN | apply below_drew1) | exact HB.out)⟩⟩
       ·replace c11 := Bool.eq_false_iff.mpr c11
        subst c11
        have H1 : (monikerref1_List.j2 kj3 l0 a1 x5_1 x6_1 x8_3 x9_1 x10_3 (decide (x10_3 > x6_1))) = some r := by rw [if_neg (show ¬ (false = true) by decide)] at H; exact H
        clear H
        have H := H1
        clear H1
        have H' := Aside0.mk H
        clear H
        go_wp2
        go_meet
        case rel => exact ⟨_, (decide (x10_3 > x6_1)), (by first | rfl | (simp; done) | (simp [*]; done)), H', ⟨by have := HK1.out; have := HJ3.out; first | omega | exact Nat.le_refl _⟩, ⟨by (with_reducible repeat (first | apply Kd.R_alloc | apply Kd.R_drewN | apply Kd.R_drew)); exact HO_5.out⟩, ⟨by repeat (first | (with_reducible first | exact HB.out | apply below_alloc | apply pw_below_drewN | apply below_drew1) | exact HB.out)⟩⟩
      case rest =>
       clear HC10
       try clear c1
       try clear p2
       try clear c3
       try clear c3b0
       try clear p3
       try clear q3
       try clear hx3
       try clear c4
       try clear c5
       try clear c5b0
       try clear c6
       try clear c6b0
       try clear p6
       try clear q7
       try clear c8
       try clear c9
       try clear c9b0
       try clear c9b1
       try clear c9b2
       try clear c11
       try clear hx347_0
       try clear hx347_1
       try clear hx347_2
       try clear hx347_3
       try clear hx348_0
       try clear hx348_1
       try clear hx348_2
       try clear hx348_3
       try clear hx349_0
       try clear hx349_1
       try clear hx349_2
       try clear hx349_3
       try clear p2
       try clear p3
       try clear p347
       try clear p348
       try clear p349
       try clear p6
       try clear q3
       try clear q347
       try clear q348
       try clear q349
       try clear q7
       obtain ⟨kq, x45_9, rfl, HA, HJ9, HO_5, HB⟩ := hcut
       cases kq with
       | zero => exact absurd HA.out (by simp [monikerref1_List.j2])
       | succ kj9 =>
        have H := HA.out
        clear HA
        simp only [monikerref1_List.j2] at H
        by_cases c12 : x45_9 = true
        ·subst c12
         have H1 : (if x5_1.length < 4398046511104 then ((some (x5_1 ++ [(⟨x6_1, x10_3, x8_3⟩ : S42)] : List (S42))).bind fun y350 => (if x9_1 < (l0.length : Int) then (if 0 ≤ x9_1 then (monikerref1_List.l0 kj9 l0 a1 y350 ((rd_T86 l0 x9_1).f2) false (⟨#[]⟩ : ByteArray) (wrap64 (x9_1 + 1))) else (none)) else (monikerref1_List.l0 kj9 l0 a1 y350 x6_1 false (⟨#[]⟩ : ByteArray) (wrap64 (x9_1 + 1))))) else (none)) = some r := by rw [if_pos rfl] at H; exact H
         clear H
         have H := H1
         clear H1
         by_cases c13 : x5_1.length < 4398046511104
         ·rw [if_pos c13] at H
          have LMc13 := Aside0.mk c13
          clear c13
          obtain ⟨y350, hy350⟩ : ∃ y_ : List (S42), y_ = (x5_1 ++ [(⟨x6_1, x10_3, x8_3⟩ : S42)]) := ⟨_, rfl⟩
          replace H : (if x9_1 < (l0.length : Int) then (if 0 ≤ x9_1 then (monikerref1_List.l0 kj9 l0 a1 y350 ((rd_T86 l0 x9_1).f2) false (⟨#[]⟩ : ByteArray) (wrap64 (x9_1 + 1))) else (none)) else (monikerref1_List.l0 kj9 l0 a1 y350 x6_1 false (⟨#[]⟩ : ByteArray) (wrap64 (x9_1 + 1)))) = some r := by first | (rw [hy350]; with_reducible exact H) | (have H2_ := (Option.bind_some _ _).symm.trans H; rw [hy350]; with_reducible exact H2_) | (have H2_ := (Option.bind_some _ _).symm.trans H; with_reducible exact H2_) | with_reducible exact H | (rw [hy350]; exact H) | exact H
          have Ny350 := Aside0.mk hy350
          clear hy350
          by_cases c14 : x9_1 < (l0.length : Int)
          ·rw [if_pos c14] at H
           have c14b0 : decide (x9_1 < (l0.length : Int)) = true := decide_eq_true c14
           clear c14
           by_cases c15 : 0 ≤ x9_1
           ·rw [if_pos c15] at H
            have c15b0 : decide (0 ≤ x9_1) = true := decide_eq_true c15
            clear c15
            have H' := Aside0.mk H
            clear H
            go_wp2_with (first | ((with_reducible refine gate_builtin (b := .append) (xs := #[.tmp 46, .tmp 51]) rfl ?_); at_builtin; refine Kd.R_append k42 (w0 := w) w.heap.size rfl (.tmp 46) (.tmp 51) 22 42 (.agg #[(.int .i64 0), (.int .i64 0), (.string ⟨#[]⟩)]) 32 rfl Tryd.underlying22 info42 rfl (by decide) (by omega) u5 x5_1 (⟨x6_1, x10_3, x8_3⟩ : S42) [.int .i64 x6_1, .int .i64 x10_3, .string x8_3] (fun _ => True) (fun _ => False) rfl rfl ?aP (fun _ hk => hk.elim) ?aF ?aO ?aB ?aS ?aL ?_; (case aP => exact k42_mkM _ _ _ (⟨x6_1, x10_3, x8_3⟩ : S42)); (case aB => exact (by repeat (first | (with_reducible first | exact HB.out | apply below_alloc | apply pw_below_drewN | apply below_drew1) | exact HB.out))); (case aF => exact (fun _ _ => trivial)); (case aO => exact (by (with_reducible repeat (first | apply Kd.R_alloc | apply Kd.R_drewN | apply Kd.R_drew)); exact HO_5.out)); (case aS => exact (below_size (by repeat (first | (with_reducible first | exact HB.out | apply below_alloc | apply pw_below_drewN | apply below_drew1) | exact HB.out)))); (case aL => have := LMc13.out; omega); intro v351 w16 ho hb hg hat; rw [← Ny350.out] at ho; have n0_ := Aside0.mk (hb); have n1_ := Aside0.mk (ho); clear HB; clear HO_5; have HB := n0_; have HO352 := n1_; clear n0_ n1_; clear ho hb hg hat; have p353 : 0 ≤ (x9_1 : Int) := of_decide_eq_true (by first | (with_reducible assumption) | assumption); have q353 : x9_1 < (l0.length : Int) := of_decide_eq_true (by first | (with_reducible assumption) | assumption); obtain ⟨ad353, e353, hx353_0, hx353_1, hx353_2, hx353_3⟩ := at_T86 HR0.out x9_1 p353 q353; cases e353; replace hx353_0 := (HB.out.cell (World.block_lt_of_cell? w _ hx353_0)).trans hx353_0; replace hx353_1 := (HB.out.cell (World.block_lt_of_cell? w _ hx353_1)).trans hx353_1; replace hx353_2 := (HB.out.cell (World.block_lt_of_cell? w _ hx353_2)).trans hx353_2; replace hx353_3 := (HB.out.cell (World.block_lt_of_cell? w _ hx353_3)).trans hx353_3; replace p353 := eq_true p353; replace q353 := eq_true q353))
            go_roundg kj9
            case measure => have := HK1.out; have := HJ3.out; have := HJ9.out; omega
            case rel => exact ⟨(y350), ((rd_T86 l0 x9_1).f2), (false), ((⟨#[]⟩ : ByteArray)), (wrap64 (x9_1 + 1)), (by first | rfl | (simp; done) | (simp [*]; done)), (by first | rfl | (simp; done) | (simp [*]; done)), (by first | rfl | (simp; done) | (simp [*]; done)), (by first | rfl | (simp; done) | (simp [*]; done)), H', ⟨by have := HK1.out; have := HJ3.out; have := HJ9.out; omega⟩, ⟨by (with_reducible repeat (first | apply Kd.R_alloc | apply Kd.R_drewN | apply Kd.R_drew)); exact HO352.out⟩, ⟨by repeat (first | (with_reducible first | exact HB.out | apply below_alloc | apply pw_below_drewN | apply below_drew1) | exact HB.out)⟩⟩
           ·rw [if_neg c15] at H
            exact absurd H (by simp)
          ·rw [if_neg c14] at H
           have c14b0 : decide (x9_1 < (l0.length : Int)) = false := decide_eq_false c14
           clear c14
           have H' := Aside0.mk H
           clear H
           go_wp2_with (first | ((with_reducible refine gate_builtin (b := .append) (xs := #[.tmp 46, .tmp 51]) rfl ?_); at_builtin; refine Kd.R_append k42 (w0 := w) w.heap.size rfl (.tmp 46) (.tmp 51) 22 42 (.agg #[(.int .i64 0), (.int .i64 0), (.string ⟨#[]⟩)]) 32 rfl Tryd.underlying22 info42 rfl (by decide) (by omega) u5 x5_1 (⟨x6_1, x10_3, x8_3⟩ : S42) [.int .i64 x6_1, .int .i64 x10_3, .string x8_3] (fun _ => True) (fun _ => False) rfl rfl ?aP (fun _ hk => hk.elim) ?aF ?aO ?aB ?aS ?aL ?_; (case aP => exact k42_mkM _ _ _ (⟨x6_1, x10_3, x8_3⟩ : S42)); (case aB => exact (by repeat (first | (with_reducible first | exact HB.out | apply below_alloc | apply pw_below_drewN | apply below_drew1) | exact HB.out))); (case aF => exact (fun _ _ => trivial)); (case aO => exact (by (with_reducible repeat (first | apply Kd.R_alloc | apply Kd.R_drewN | apply Kd.R_drew)); exact HO_5.out)); (case aS => exact (below_size (by repeat (first | (with_reducible first | exact HB.out | apply below_alloc | apply pw_below_drewN | apply below_drew1) | exact HB.out)))); (case aL => have := LMc13.out; omega); intro v351 w17 ho hb hg hat; rw [← Ny350.out] at ho; have n0_ := Aside0.mk (hb); have n1_ := Aside0.mk (ho); clear HB; clear HO_5; have HB := n0_; have HO352 := n1_; clear n0_ n1_; clear ho hb hg hat))
           go_roundg kj9
           case measure => have := HK1.out; have := HJ3.out; have := HJ9.out; omega
           case rel => exact ⟨(y350), (x6_1), (false), ((⟨#[]⟩ : ByteArray)), (wrap64 (x9_1 + 1)), (by first | rfl | (simp; done) | (simp [*]; done)), (by first | rfl | (simp; done) | (simp [*]; done)), (by first | rfl | (simp; done) | (simp [*]; done)), (by first | rfl | (simp; done) | (simp [*]; done)), H', ⟨by have := HK1.out; have := HJ3.out; have := HJ9.out; omega⟩, ⟨by (with_reducible repeat (first | apply Kd.R_alloc | apply Kd.R_drewN | apply Kd.R_drew)); exact HO352.out⟩, ⟨by repeat (first | (with_reducible first | exact HB.out | apply below_alloc | apply pw_below_drewN | apply below_drew1) | exact HB.out)⟩⟩
         ·rw [if_neg c13] at H
          exact absurd H (by simp)
        ·replace c12 := Bool.eq_false_iff.mpr c12
         subst c12
         have H1 : (if x9_1 < (l0.length : Int) then (if 0 ≤ x9_1 then (monikerref1_List.l0 kj9 l0 a1 x5_1 ((rd_T86 l0 x9_1).f2) false (⟨#[]⟩ : ByteArray) (wrap64 (x9_1 + 1))) else (none)) else (monikerref1_List.l0 kj9 l0 a1 x5_1 x6_1 false (⟨#[]⟩ : ByteArray) (wrap64 (x9_1 + 1)))) = some r := by rw [if_neg (show ¬ (false = true) by decide)] at H; exact H
         clear H
         have H := H1
         clear H1
         by_cases c18 : x9_1 < (l0.length : Int)
         ·rw [if_pos c18] at H
          have c18b0 : decide (x9_1 < (l0.length : Int)) = true := decide_eq_true c18
          clear c18
          by_cases c19 : 0 ≤ x9_1
          ·rw [if_pos c19] at H
           have c19b0 : decide (0 ≤ x9_1) = true := decide_eq_true c19
           clear c19
           have H' := Aside0.mk H
           clear H
           have p354 : 0 ≤ (x9_1 : Int) := of_decide_eq_true (by first | (with_reducible assumption) | assumption)
           have q354 : x9_1 < (l0.length : Int) := of_decide_eq_true (by first | (with_reducible assumption) | assumption)
           obtain ⟨ad354, e354, hx354_0, hx354_1, hx354_2, hx354_3⟩ := at_T86 HR0.out x9_1 p354 q354
           cases e354
           replace hx354_0 := (HB.out.cell (World.block_lt_of_cell? w _ hx354_0)).trans hx354_0
           replace hx354_1 := (HB.out.cell (World.block_lt_of_cell? w _ hx354_1)).trans hx354_1
           replace hx354_2 := (HB.out.cell (World.block_lt_of_cell? w _ hx354_2)).trans hx354_2
           replace hx354_3 := (HB.out.cell (World.block_lt_of_cell? w _ hx354_3)).trans hx354_3
           replace p354 := eq_true p354
           replace q354 := eq_true q354
           go_wp2
           go_roundg kj9
           case measure => have := HK1.out; have := HJ3.out; have := HJ9.out; omega
           case rel => exact ⟨(x5_1), ((rd_T86 l0 x9_1).f2), (false), ((⟨#[]⟩ : ByteArray)), (wrap64 (x9_1 + 1)), (by first | rfl | (simp; done) | (simp [*]; done)), (by first | rfl | (simp; done) | (simp [*]; done)), (by first | rfl | (simp; done) | (simp [*]; done)), (by first | rfl | (simp; done) | (simp [*]; done)), H', ⟨by have := HK1.out; have := HJ3.out; have := HJ9.out; omega⟩, ⟨by (with_reducible repeat (first | apply Kd.R_alloc | apply Kd.R_drewN | apply Kd.R_drew)); exact HO_5.out⟩, ⟨by repeat (first | (with_reducible first | exact HB.out | apply below_alloc | apply pw_below_drewN | apply below_drew1) | exact HB.out)⟩⟩
          ·rw [if_neg c19] at H
           exact absurd H (by simp)
         ·rw [if_neg c18] at H
          have c18b0 : decide (x9_1 < (l0.length : Int)) = false := decide_eq_false c18
          clear c18
          have H' := Aside0.mk H
          clear H
          go_wp2
          go_roundg kj9
          case measure => have := HK1.out; have := HJ3.out; have := HJ9.out; omega
          case rel => exact ⟨(x5_1), (x6_1), (false), ((⟨#[]⟩ : ByteArray)), (wrap64 (x9_1 + 1)), (by first | rfl | (simp; done) | (simp [*]; done)), (by first | rfl | (simp; done) | (simp [*]; done)), (by first | rfl | (simp; done) | (simp [*]; done)), (by first | rfl | (simp; done) | (simp [*]; done)), H', ⟨by have := HK1.out; have := HJ3.out; have := HJ9.out; omega⟩, ⟨by (with_reducible repeat (first | apply Kd.R_alloc | apply Kd.R_drewN | apply Kd.R_drew)); exact HO_5.out⟩, ⟨by repeat (first | (with_reducible first | exact HB.out | apply below_alloc | apply pw_below_drewN | apply below_drew1) | exact HB.out)⟩⟩
   ·rw [if_neg c3] at H
    have c3b0 : decide (x9_1 ≤ (l0.length : Int)) = false := decide_eq_false c3
    clear c3
    obtain rfl := Option.some.inj H
    go_wp2
    go_ret
    exact ⟨_, by first | rfl | (simp [errW_none, errW_some] <;> rfl) | (simp [*, errW_none, errW_some] <;> rfl), by (with_reducible repeat (first | apply Kd.R_alloc | apply Kd.R_drewN | apply Kd.R_drew)); exact HO_5.out, by repeat (first | (with_reducible first | exact HB.out | apply below_alloc | apply pw_below_drewN | apply below_drew1) | exact HB.out)⟩
end Go.Proofs.YtaihajmdngoeiaaDoor.F
namespace Go.Proofs.YtaihajmdngoeiaaDoor.F
open Go.RowKit Go.Proofs.YtaihajmdngoeiaaDoorW.PrintWords Go.Proofs.YtaihajmdngoeiaaDoorW.PrintLast Go.Proofs.YtaihajmdngoeiaaDoorW.PrintMore
attribute [local go_sem] max2_int min2_int max_two min_two max_three min_three max_four min_four   -- for this text's walks alone
set_option linter.unusedVariables false
set_option linter.unusedSimpArgs false
/-! ### monikerref1_Compose: function 17 -/
def monikerref1_Compose.f (k : Nat) (a0 : Int) (l1 : List (S42)) (l2 : List (S42)) : Option ((List (S42)) × Int) := (monikerref1_Valid.f k a0 l1).bind fun t355 => (if t355 = 0 then ((monikerref1_Left.f k a0 l1).bind fun t356 => ((monikerref1_valid.f k t356 l2).bind fun t357 => (if t357 = 0 then ((monikerref1_Whole.f a0).bind fun t358 => ((monikerref1_Done.f k t358 l1).bind fun t361 => ((monikerref1_Done.f k t361 l2).bind fun t364 => ((monikerref1_List.f k t364 a0).bind fun t367 => (if (t367.length : Int) > 65536 then (some (([] : List (S42)), 2)) else (some (t367, 0))))))) else (some (([] : List (S42)), t357))))) else (some (([] : List (S42)), t355)))
set_option maxHeartbeats 8000000 in
set_option maxRecDepth 100000 in
theorem monikerref1_Compose.calls (k : Nat) (a0 : Int) (A1 : Option Addr) (c1 : Nat) (l1 : List (S42)) (A2 : Option Addr) (c2 : Nat) (l2 : List (S42)) (r1 : List (S42)) (r2 : Int) (w : World) (hr1 : Kd.C k42 w A1 l1.length l1) (hc1 : l1.length ≤ c1) (hr2 : Kd.C k42 w A2 l2.length l2) (hc2 : l2.length ≤ c2) (h : monikerref1_Compose.f k a0 l1 l2 = some (r1, r2)) :
  Calls Tryd.prog 17 #[.int .i64 a0, .slice A1 l1.length c1, .slice A2 l2.length c2] w fun e w' => ∃ v0_ : Value, e = .returned (.tuple #[v0_, .int .i64 r2]) ∧ Kd.R k42 42 w' w.heap.size (fun _ => True) v0_ r1 ∧ Below w.heap.size w w' := by
 have HR1 := Aside0.mk hr1
 have HC1 := Aside0.mk hc1
 clear hr1 hc1
 have HR2 := Aside0.mk hr2
 have HC2 := Aside0.mk hc2
 clear hr2 hc2
 have HB := Aside0.mk (Below.refl w.heap.size w)
 have H : ((monikerref1_Valid.f k a0 l1).bind fun t355 => (if t355 = 0 then ((monikerref1_Left.f k a0 l1).bind fun t356 => ((monikerref1_valid.f k t356 l2).bind fun t357 => (if t357 = 0 then ((monikerref1_Whole.f a0).bind fun t358 => ((monikerref1_Done.f k t358 l1).bind fun t361 => ((monikerref1_Done.f k t361 l2).bind fun t364 => ((monikerref1_List.f k t364 a0).bind fun t367 => (if (t367.length : Int) > 65536 then (some (([] : List (S42)), 2)) else (some (t367, 0))))))) else (some (([] : List (S42)), t357))))) else (some (([] : List (S42)), t355)))) = some (r1, r2) := h
 clear h
 replace H := Option.bind_eq_some_iff.mp H
 obtain ⟨t355, A40, H⟩ := H
 replace H : (if t355 = 0 then ((monikerref1_Left.f k a0 l1).bind fun t356 => ((monikerref1_valid.f k t356 l2).bind fun t357 => (if t357 = 0 then ((monikerref1_Whole.f a0).bind fun t358 => ((monikerref1_Done.f k t358 l1).bind fun t361 => ((monikerref1_Done.f k t361 l2).bind fun t364 => ((monikerref1_List.f k t364 a0).bind fun t367 => (if (t367.length : Int) > 65536 then (some (([] : List (S42)), 2)) else (some (t367, 0))))))) else (some (([] : List (S42)), t357))))) else (some (([] : List (S42)), t355))) = some (r1, r2) := H
 have A4 := Aside0.mk A40
 clear A40
 by_cases c5 : t355 = 0
 ·rw [if_pos c5] at H
  have c5b0 : (t355 == 0) = true := beq_iff_eq.mpr c5
  have c5b1 : (t355 != 0) = false := bne_eq_false_iff_eq.mpr c5
  clear c5
  replace H := Option.bind_eq_some_iff.mp H
  obtain ⟨t356, A60, H⟩ := H
  replace H : ((monikerref1_valid.f k t356 l2).bind fun t357 => (if t357 = 0 then ((monikerref1_Whole.f a0).bind fun t358 => ((monikerref1_Done.f k t358 l1).bind fun t361 => ((monikerref1_Done.f k t361 l2).bind fun t364 => ((monikerref1_List.f k t364 a0).bind fun t367 => (if (t367.length : Int) > 65536 then (some (([] : List (S42)), 2)) else (some (t367, 0))))))) else (some (([] : List (S42)), t357)))) = some (r1, r2) := H
  have A6 := Aside0.mk A60
  clear A60
  replace H := Option.bind_eq_some_iff.mp H
  obtain ⟨t357, A70, H⟩ := H
  replace H : (if t357 = 0 then ((monikerref1_Whole.f a0).bind fun t358 => ((monikerref1_Done.f k t358 l1).bind fun t361 => ((monikerref1_Done.f k t361 l2).bind fun t364 => ((monikerref1_List.f k t364 a0).bind fun t367 => (if (t367.length : Int) > 65536 then (some (([] : List (S42)), 2)) else (some (t367, 0))))))) else (some (([] : List (S42)), t357))) = some (r1, r2) := H
  have A7 := Aside0.mk A70
  clear A70
  by_cases c8 : t357 = 0
  ·rw [if_pos c8] at H
   have c8b0 : (t357 == 0) = true := beq_iff_eq.mpr c8
   have c8b1 : (t357 != 0) = false := bne_eq_false_iff_eq.mpr c8
   clear c8
   replace H := Option.bind_eq_some_iff.mp H
   obtain ⟨t358, A90, H⟩ := H
   replace H : ((monikerref1_Done.f k t358 l1).bind fun t361 => ((monikerref1_Done.f k t361 l2).bind fun t364 => ((monikerref1_List.f k t364 a0).bind fun t367 => (if (t367.length : Int) > 65536 then (some (([] : List (S42)), 2)) else (some (t367, 0)))))) = some (r1, r2) := H
   have A9 := Aside0.mk A90
   clear A90
   replace H := Option.bind_eq_some_iff.mp H
   obtain ⟨t361, A100, H⟩ := H
   replace H : ((monikerref1_Done.f k t361 l2).bind fun t364 => ((monikerref1_List.f k t364 a0).bind fun t367 => (if (t367.length : Int) > 65536 then (some (([] : List (S42)), 2)) else (some (t367, 0))))) = some (r1, r2) := H
   have A10 := Aside0.mk A100
   clear A100
   replace H := Option.bind_eq_some_iff.mp H
   obtain ⟨t364, A110, H⟩ := H
   replace H : ((monikerref1_List.f k t364 a0).bind fun t367 => (if (t367.length : Int) > 65536 then (some (([] : List (S42)), 2)) else (some (t367, 0)))) = some (r1, r2) := H
   have A11 := Aside0.mk A110
   clear A110
   replace H := Option.bind_eq_some_iff.mp H
   obtain ⟨t367, A120, H⟩ := H
   replace H : (if (t367.length : Int) > 65536 then (some (([] : List (S42)), 2)) else (some (t367, 0))) = some (r1, r2) := H
   have A12 := Aside0.mk A120
   clear A120
   by_cases c13 : (t367.length : Int) > 65536
   ·rw [if_pos c13] at H
    have c13b0 : decide (65536 < (t367.length : Int)) = true := decide_eq_true c13
    have c13b1 : decide (65536 < t367.length) = true := decide_eq_true (by omega)
    clear c13
    simp only [Option.some.injEq, Prod.mk.injEq] at H
    obtain ⟨rfl, rfl⟩ := H
    go_enter Tryd.func17, Tryd.ntmps17
    go_wp2_with (first | ((with_reducible refine gate_callee (f := 41) rfl ?_); refine goesL_ (some 12) rfl rfl Tryd.func41 (by kernel_rfl) rfl #[.int .i64 a0, .slice A1 l1.length c1] rfl (by (try simp only [List.map_toArray, List.map_cons, List.map_nil]); first | done | rfl | (simp only [List.length_drop, List.length_take]; rfl)) ?_; (with_reducible refine (monikerref1_Valid.calls k a0 _ _ l1 t355 _ ?side1 ?side2 A4.out).mono ?_); (case side1 => repeat (first | exact HR1.out | (with_reducible refine Kd.C_alloc ?_ _) | (with_reducible refine Kd.C_drewN ?_ _) | (with_reducible refine Kd.C_drew ?_))); (case side2 => exact HC1.out); rintro e w14 ⟨rfl, hb⟩; refine ⟨_, rfl, ?_⟩; have n0_ := Aside0.mk (below_step (by repeat (first | (with_reducible first | exact HB.out | apply below_alloc | apply pw_below_drewN | apply below_drew1) | exact HB.out)) hb); clear HB; have HB := n0_; clear n0_; (try clear hb); (try clear hb2); (try clear hk); (try clear hi)) | ((with_reducible refine gate_callee (f := 42) rfl ?_); refine goesL_ (some 18) rfl rfl Tryd.func42 (by kernel_rfl) rfl #[.int .i64 a0, .slice A1 l1.length c1] rfl (by (try simp only [List.map_toArray, List.map_cons, List.map_nil]); first | done | rfl | (simp only [List.length_drop, List.length_take]; rfl)) ?_; (with_reducible refine (monikerref1_Left.calls k a0 _ _ l1 t356 _ ?side1 ?side2 A6.out).mono ?_); (case side1 => repeat (first | exact (Kd.C_below HR1.out HB.out) | (with_reducible refine Kd.C_alloc ?_ _) | (with_reducible refine Kd.C_drewN ?_ _) | (with_reducible refine Kd.C_drew ?_))); (case side2 => exact HC1.out); rintro e w' ⟨rfl, ⟨nd, rfl⟩⟩; refine ⟨_, rfl, ?_⟩) | ((with_reducible refine gate_callee (f := 35) rfl ?_); refine goesL_ (some 20) rfl rfl Tryd.func35 (by kernel_rfl) rfl #[.int .i64 t356, .slice A2 l2.length c2] rfl (by (try simp only [List.map_toArray, List.map_cons, List.map_nil]); first | done | rfl | (simp only [List.length_drop, List.length_take]; rfl)) ?_; (with_reducible refine (monikerref1_valid.calls k t356 _ _ l2 t357 _ ?side1 ?side2 A7.out).mono ?_); (case side1 => repeat (first | exact (Kd.C_below HR2.out (by repeat (first | (with_reducible first | exact HB.out | apply below_alloc | apply pw_below_drewN | apply below_drew1) | exact HB.out))) | (with_reducible refine Kd.C_alloc ?_ _) | (with_reducible refine Kd.C_drewN ?_ _) | (with_reducible refine Kd.C_drew ?_))); (case side2 => exact HC2.out); rintro e w15 ⟨rfl, hb⟩; refine ⟨_, rfl, ?_⟩; have n0_ := Aside0.mk (below_step (by repeat (first | (with_reducible first | exact HB.out | apply below_alloc | apply pw_below_drewN | apply below_drew1) | exact HB.out)) hb); clear HB; have HB := n0_; clear n0_; (try clear hb); (try clear hb2); (try clear hk); (try clear hi)) | ((with_reducible refine gate_callee (f := 38) rfl ?_); refine goesL_ (some 25) rfl rfl Tryd.func38 (by kernel_rfl) rfl #[.int .i64 a0] rfl (by (try simp only [List.map_toArray, List.map_cons, List.map_nil]); first | done | rfl | (simp only [List.length_drop, List.length_take]; rfl)) ?_; (with_reducible refine (monikerref1_Whole.calls a0 t358 _ A9.out).mono ?_); rintro e w16 ⟨v359, rfl, ho0, hb⟩; refine ⟨_, rfl, ?_⟩; have n0_ := Aside0.mk (Kd.R_lower ho0 (below_size (by repeat (first | (with_reducible first | exact HB.out | apply below_alloc | apply pw_below_drewN | apply below_drew1) | exact HB.out)))); have n1_ := Aside0.mk (below_step (by repeat (first | (with_reducible first | exact HB.out | apply below_alloc | apply pw_below_drewN | apply below_drew1) | exact HB.out)) hb); clear HB; have HO360 := n0_; have HB := n1_; clear n0_ n1_; (try clear hb); (try clear hb2); (try clear hk); (try clear hi); (try clear ho0); obtain ⟨Ao17, co17, eo17⟩ := Kd.R_slice HO360.out; subst eo17) | ((with_reducible refine gate_callee (f := 37) rfl ?_); refine goesL_ (some 27) rfl rfl Tryd.func37 (by kernel_rfl) rfl #[.slice Ao17 t358.length co17, .slice A1 l1.length c1] rfl (by (try simp only [List.map_toArray, List.map_cons, List.map_nil]); first | done | rfl | (simp only [List.length_drop, List.length_take]; rfl)) ?_; (with_reducible refine (monikerref1_Done.calls k (fun k_ => some k_ = (.slice Ao17 t358.length co17 : Value).ownBlock) _ _ t358 _ _ l1 t361 _ ?side1 ?side2 ?side3 A10.out).mono ?_); (case side1 => exact Kd.R_V (Kd.R_tight rfl (HO360.out))); (case side2 => repeat (first | exact (Kd.C_below HR1.out HB.out) | (with_reducible refine Kd.C_alloc ?_ _) | (with_reducible refine Kd.C_drewN ?_ _) | (with_reducible refine Kd.C_drew ?_))); (case side3 => exact HC1.out); rintro e w18 ⟨v362, rfl, ho0, hb⟩; refine ⟨_, rfl, ?_⟩; have n0_ := Aside0.mk (Kd.R_elder' (by (with_reducible repeat (first | apply Kd.R_alloc | apply Kd.R_drewN | apply Kd.R_drew)); exact HO360.out) (Kd.R_base ho0) hb); have n1_ := Aside0.mk (Kd.R_lower (Kd.R_new' (Kd.R_mono (ok' := fun k_ => True) ho0 (fun _ hk_ => trivial)) (Kd.R_lt (by (with_reducible repeat (first | apply Kd.R_alloc | apply Kd.R_drewN | apply Kd.R_drew)); exact HO360.out))) (below_size (by repeat (first | (with_reducible first | exact HB.out | apply below_alloc | apply pw_below_drewN | apply below_drew1) | exact HB.out)))); have n2_ := Aside0.mk (below_step (by repeat (first | (with_reducible first | exact HB.out | apply below_alloc | apply pw_below_drewN | apply below_drew1) | exact HB.out)) hb); clear HO360; clear HB; have HO360 := n0_; have HO363 := n1_; have HB := n2_; clear n0_ n1_ n2_; (try clear hb); (try clear hb2); (try clear hk); (try clear hi); (try clear ho0); obtain ⟨Ao19, co19, eo19⟩ := Kd.R_slice HO363.out; subst eo19) | ((with_reducible refine gate_callee (f := 37) rfl ?_); refine goesL_ (some 29) rfl rfl Tryd.func37 (by kernel_rfl) rfl #[.slice Ao19 t361.length co19, .slice A2 l2.length c2] rfl (by (try simp only [List.map_toArray, List.map_cons, List.map_nil]); first | done | rfl | (simp only [List.length_drop, List.length_take]; rfl)) ?_; (with_reducible refine (monikerref1_Done.calls k (fun k_ => some k_ = (.slice Ao19 t361.length co19 : Value).ownBlock) _ _ t361 _ _ l2 t364 _ ?side1 ?side2 ?side3 A11.out).mono ?_); (case side1 => exact Kd.R_V (Kd.R_tight rfl (HO363.out))); (case side2 => repeat (first | exact (Kd.C_below HR2.out HB.out) | (with_reducible refine Kd.C_alloc ?_ _) | (with_reducible refine Kd.C_drewN ?_ _) | (with_reducible refine Kd.C_drew ?_))); (case side3 => exact HC2.out); rintro e w20 ⟨v365, rfl, ho0, hb⟩; refine ⟨_, rfl, ?_⟩; have n0_ := Aside0.mk (Kd.R_elder' (by (with_reducible repeat (first | apply Kd.R_alloc | apply Kd.R_drewN | apply Kd.R_drew)); exact HO360.out) (Kd.R_base ho0) hb); have n1_ := Aside0.mk (Kd.R_elder' (by (with_reducible repeat (first | apply Kd.R_alloc | apply Kd.R_drewN | apply Kd.R_drew)); exact HO363.out) (Kd.R_base ho0) hb); have n2_ := Aside0.mk (Kd.R_lower (Kd.R_new' (Kd.R_new' (Kd.R_mono (ok' := fun k_ => True) ho0 (fun _ hk_ => trivial)) (Kd.R_lt (by (with_reducible repeat (first | apply Kd.R_alloc | apply Kd.R_drewN | apply Kd.R_drew)); exact HO360.out))) (Kd.R_lt (by (with_reducible repeat (first | apply Kd.R_alloc | apply Kd.R_drewN | apply Kd.R_drew)); exact HO363.out))) (below_size (by repeat (first | (with_reducible first | exact HB.out | apply below_alloc | apply pw_below_drewN | apply below_drew1) | exact HB.out)))); have n3_ := Aside0.mk (below_step (by repeat (first | (with_reducible first | exact HB.out | apply below_alloc | apply pw_below_drewN | apply below_drew1) | exact HB.out)) hb); clear HO360; clear HO363; clear HB; have HO360 := n0_; have HO363 := n1_; have HO366 := n2_; have HB := n3_; clear n0_ n1_ n2_ n3_; (try clear hb); (try clear hb2); (try clear hk); (try clear hi); (try clear ho0); obtain ⟨Ao21, co21, eo21⟩ := Kd.R_slice HO366.out; subst eo21) | ((with_reducible refine gate_callee (f := 43) rfl ?_); refine goesL_ (some 31) rfl rfl Tryd.func43 (by kernel_rfl) rfl #[.slice Ao21 t364.length co21, .int .i64 a0] rfl (by (try simp only [List.map_toArray, List.map_cons, List.map_nil]); first | done | rfl | (simp only [List.length_drop, List.length_take]; rfl)) ?_; (with_reducible refine (monikerref1_List.calls k _ _ t364 a0 t367 _ ?side1 ?side2 A12.out).mono ?_); (case side1 => repeat (first | exact (Kd.R_reads' HO366.out).2.2 | (with_reducible refine Kd.C_alloc ?_ _) | (with_reducible refine Kd.C_drewN ?_ _) | (with_reducible refine Kd.C_drew ?_))); (case side2 => exact (Kd.R_reads' HO366.out).2.1); rintro e w22 ⟨v368, rfl, ho0, hb⟩; refine ⟨_, rfl, ?_⟩; have n0_ := Aside0.mk (Kd.R_below (by (with_reducible repeat (first | apply Kd.R_alloc | apply Kd.R_drewN | apply Kd.R_drew)); exact HO360.out) hb); have n1_ := Aside0.mk (Kd.R_below (by (with_reducible repeat (first | apply Kd.R_alloc | apply Kd.R_drewN | apply Kd.R_drew)); exact HO363.out) hb); have n2_ := Aside0.mk (Kd.R_below (by (with_reducible repeat (first | apply Kd.R_alloc | apply Kd.R_drewN | apply Kd.R_drew)); exact HO366.out) hb); have n3_ := Aside0.mk (Kd.R_lower ho0 (below_size (by repeat (first | (with_reducible first | exact HB.out | apply below_alloc | apply pw_below_drewN | apply below_drew1) | exact HB.out)))); have n4_ := Aside0.mk (below_step (by repeat (first | (with_reducible first | exact HB.out | apply below_alloc | apply pw_below_drewN | apply below_drew1) | exact HB.out)) hb); clear HO360; clear HO363; clear HO366; clear HB; have HO360 := n0_; have HO363 := n1_; have HO366 := n2_; have HO369 := n3_; have HB := n4_; clear n0_ n1_ n2_ n3_ n4_; (try clear hb); (try clear hb2); (try clear hk); (try clear hi); (try clear ho0); obtain ⟨Ao23, co23, eo23⟩ := Kd.R_slice HO369.out; subst eo23))
    go_ret2
    exact ⟨_, by first | rfl | (simp [errW_none, errW_some] <;> rfl) | (simp [*, errW_none, errW_some] <;> rfl), by first | exact Kd.R_nil _ _ _ _ _ | exact Kd.N_nil _ _ _ _ _ | exact Kd.V_nil _ _ _ _ _ | exact Kd.Q_nil _ _ _ _ _ | exact Kd.S_nil _ _ _ _ _, by repeat (first | (with_reducible first | exact HB.out | apply below_alloc | apply pw_below_drewN | apply below_drew1) | exact HB.out)⟩
   ·rw [if_neg c13] at H
    have c13b0 : decide (65536 < (t367.length : Int)) = false := decide_eq_false c13
    have c13b1 : decide (65536 < t367.length) = false := decide_eq_false (by omega)
    clear c13
    simp only [Option.some.injEq, Prod.mk.injEq] at H
    obtain ⟨rfl, rfl⟩ := H
    go_enter Tryd.func17, Tryd.ntmps17
    go_wp2_with (first | ((with_reducible refine gate_callee (f := 41) rfl ?_); refine goesL_ (some 12) rfl rfl Tryd.func41 (by kernel_rfl) rfl #[.int .i64 a0, .slice A1 l1.length c1] rfl (by (try simp only [List.map_toArray, List.map_cons, List.map_nil]); first | done | rfl | (simp only [List.length_drop, List.length_take]; rfl)) ?_; (with_reducible refine (monikerref1_Valid.calls k a0 _ _ l1 t355 _ ?side1 ?side2 A4.out).mono ?_); (case side1 => repeat (first | exact HR1.out | (with_reducible refine Kd.C_alloc ?_ _) | (with_reducible refine Kd.C_drewN ?_ _) | (with_reducible refine Kd.C_drew ?_))); (case side2 => exact HC1.out); rintro e w24 ⟨rfl, hb⟩; refine ⟨_, rfl, ?_⟩; have n0_ := Aside0.mk (below_step (by repeat (first | (with_reducible first | exact HB.out | apply below_alloc | apply pw_below_drewN | apply below_drew1) | exact HB.out)) hb); clear HB; have HB := n0_; clear n0_; (try clear hb); (try clear hb2); (try clear hk); (try clear hi)) | ((with_reducible refine gate_callee (f := 42) rfl ?_); refine goesL_ (some 18) rfl rfl Tryd.func42 (by kernel_rfl) rfl #[.int .i64 a0, .slice A1 l1.length c1] rfl (by (try simp only [List.map_toArray, List.map_cons, List.map_nil]); first | done | rfl | (simp only [List.length_drop, List.length_take]; rfl)) ?_; (with_reducible refine (monikerref1_Left.calls k a0 _ _ l1 t356 _ ?side1 ?side2 A6.out).mono ?_); (case side1 => repeat (first | exact (Kd.C_below HR1.out HB.out) | (with_reducible refine Kd.C_alloc ?_ _) | (with_reducible refine Kd.C_drewN ?_ _) | (with_reducible refine Kd.C_drew ?_))); (case side2 => exact HC1.out); rintro e w' ⟨rfl, ⟨nd, rfl⟩⟩; refine ⟨_, rfl, ?_⟩) | ((with_reducible refine gate_callee (f := 35) rfl ?_); refine goesL_ (some 20) rfl rfl Tryd.func35 (by kernel_rfl) rfl #[.int .i64 t356, .slice A2 l2.length c2] rfl (by (try simp only [List.map_toArray, List.map_cons, List.map_nil]); first | done | rfl | (simp only [List.length_drop, List.length_take]; rfl)) ?_; (with_reducible refine (monikerref1_valid.calls k t356 _ _ l2 t357 _ ?side1 ?side2 A7.out).mono ?_); (case side1 => repeat (first | exact (Kd.C_below HR2.out (by repeat (first | (with_reducible first | exact HB.out | apply below_alloc | apply pw_below_drewN | apply below_drew1) | exact HB.out))) | (with_reducible refine Kd.C_alloc ?_ _) | (with_reducible refine Kd.C_drewN ?_ _) | (with_reducible refine Kd.C_drew ?_))); (case side2 => exact HC2.out); rintro e w25 ⟨rfl, hb⟩; refine ⟨_, rfl, ?_⟩; have n0_ := Aside0.mk (below_step (by repeat (first | (with_reducible first | exact HB.out | apply below_alloc | apply pw_below_drewN | apply below_drew1) | exact HB.out)) hb); clear HB; have HB := n0_; clear n0_; (try clear hb); (try clear hb2); (try clear hk); (try clear hi)) | ((with_reducible refine gate_callee (f := 38) rfl ?_); refine goesL_ (some 25) rfl rfl Tryd.func38 (by kernel_rfl) rfl #[.int .i64 a0] rfl (by (try simp only [List.map_toArray, List.map_cons, List.map_nil]); first | done | rfl | (simp only [List.length_drop, List.length_take]; rfl)) ?_; (with_reducible refine (monikerref1_Whole.calls a0 t358 _ A9.out).mono ?_); rintro e w26 ⟨v359, rfl, ho0, hb⟩; refine ⟨_, rfl, ?_⟩; have n0_ := Aside0.mk (Kd.R_lower ho0 (below_size (by repeat (first | (with_reducible first | exact HB.out | apply below_alloc | apply pw_below_drewN | apply below_drew1) | exact HB.out)))); have n1_ := Aside0.mk (below_step (by repeat (first | (with_reducible first | exact HB.out | apply below_alloc | apply pw_below_drewN | apply below_drew1) | exact HB.out)) hb); clear HB; have HO360 := n0_; have HB := n1_; clear n0_ n1_; (try clear hb); (try clear hb2); (try clear hk); (try clear hi); (try clear ho0); obtain ⟨Ao27, co27, eo27⟩ := Kd.R_slice HO360.out; subst eo27) | ((with_reducible refine gate_callee (f := 37) rfl ?_); refine goesL_ (some 27) rfl rfl Tryd.func37 (by kernel_rfl) rfl #[.slice Ao27 t358.length co27, .slice A1 l1.length c1] rfl (by (try simp only [List.map_toArray, List.map_cons, List.map_nil]); first | done | rfl | (simp only [List.length_drop, List.length_take]; rfl)) ?_; (with_reducible refine (monikerref1_Done.calls k (fun k_ => some k_ = (.slice Ao27 t358.length co27 : Value).ownBlock) _ _ t358 _ _ l1 t361 _ ?side1 ?side2 ?side3 A10.out).mono ?_); (case side1 => exact Kd.R_V (Kd.R_tight rfl (HO360.out))); (case side2 => repeat (first | exact (Kd.C_below HR1.out HB.out) | (with_reducible refine Kd.C_alloc ?_ _) | (with_reducible refine Kd.C_drewN ?_ _) | (with_reducible refine Kd.C_drew ?_))); (case side3 => exact HC1.out); rintro e w28 ⟨v362, rfl, ho0, hb⟩; refine ⟨_, rfl, ?_⟩; have n0_ := Aside0.mk (Kd.R_elder' (by (with_reducible repeat (first | apply Kd.R_alloc | apply Kd.R_drewN | apply Kd.R_drew)); exact HO360.out) (Kd.R_base ho0) hb); have n1_ := Aside0.mk (Kd.R_lower (Kd.R_new' (Kd.R_mono (ok' := fun k_ => True) ho0 (fun _ hk_ => trivial)) (Kd.R_lt (by (with_reducible repeat (first | apply Kd.R_alloc | apply Kd.R_drewN | apply Kd.R_drew)); exact HO360.out))) (below_size (by repeat (first | (with_reducible first | exact HB.out | apply below_alloc | apply pw_below_drewN | apply below_drew1) | exact HB.out)))); have n2_ := Aside0.mk (below_step (by repeat (first | (with_reducible first | exact HB.out | apply below_alloc | apply pw_below_drewN | apply below_drew1) | exact HB.out)) hb); clear HO360; clear HB; have HO360 := n0_; have HO363 := n1_; have HB := n2_; clear n0_ n1_ n2_; (try clear hb); (try clear hb2); (try clear hk); (try clear hi); (try clear ho0); obtain ⟨Ao29, co29, eo29⟩ := Kd.R_slice HO363.out; subst eo29) | ((with_reducible refine gate_callee (f := 37) rfl ?_); refine goesL_ (some 29) rfl rfl Tryd.func37 (by kernel_rfl) rfl #[.slice Ao29 t361.length co29, .slice A2 l2.length c2] rfl (by (try simp only [List.map_toArray, List.map_cons, List.map_nil]); first | done | rfl | (simp only [List.length_drop, List.length_take]; rfl)) ?_; (with_reducible refine (monikerref1_Done.calls k (fun k_ => some k_ = (.slice Ao29 t361.length co29 : Value).ownBlock) _ _ t361 _ _ l2 t364 _ ?side1 ?side2 ?side3 A11.out).mono ?_); (case side1 => exact Kd.R_V (Kd.R_tight rfl (HO363.out))); (case side2 => repeat (first | exact (Kd.C_below HR2.out HB.out) | (with_reducible refine Kd.C_alloc ?_ _) | (with_reducible refine Kd.C_drewN ?_ _) | (with_reducible refine Kd.C_drew ?_))); (case side3 => exact HC2.out); rintro e w30 ⟨v365, rfl, ho0, hb⟩; refine ⟨_, rfl, ?_⟩; have n0_ := Aside0.mk (Kd.R_elder' (by (with_reducible repeat (first | apply Kd.R_alloc | apply Kd.R_drewN | apply Kd.R_drew)); exact HO360.out) (Kd.R_base ho0) hb); have n1_ := Aside0.mk (Kd.R_elder' (by (with_reducible repeat (first | apply Kd.R_alloc | apply Kd.R_drewN | apply Kd.R_drew)); exact HO363.out) (Kd.R_base ho0) hb); have n2_ := Aside0.mk (Kd.R_lower (Kd.R_new' (Kd.R_new' (Kd.R_mono (ok' := fun k_ => True) ho0 (fun _ hk_ => trivial)) (Kd.R_lt (by (with_reducible repeat (first | apply Kd.R_alloc | apply Kd.R_drewN | apply Kd.R_drew)); exact HO360.out))) (Kd.R_lt (by (with_reducible repeat (first | apply Kd.R_alloc | apply Kd.R_drewN | apply Kd.R_drew)); exact HO363.out))) (below_size (by repeat (first | (with_reducible first | exact HB.out | apply below_alloc | apply pw_below_drewN | apply below_drew1) | exact HB.out)))); have n3_ := Aside0.mk (below_step (by repeat (first | (with_reducible first | exact HB.out | apply below_alloc | apply pw_below_drewN | apply below_drew1) | exact HB.out)) hb); clear HO360; clear HO363; clear HB; have HO360 := n0_; have HO363 := n1_; have HO366 := n2_; have HB := n3_; clear n0_ n1_ n2_ n3_; (try clear hb); (try clear hb2); (try clear hk); (try clear hi); (try clear ho0); obtain ⟨Ao31, co31, eo31⟩ := Kd.R_slice HO366.out; subst eo31) | ((with_reducible refine gate_callee (f := 43) rfl ?_); refine goesL_ (some 31) rfl rfl Tryd.func43 (by kernel_rfl) rfl #[.slice Ao31 t364.length co31, .int .i64 a0] rfl (by (try simp only [List.map_toArray, List.map_cons, List.map_nil]); first | done | rfl | (simp only [List.length_drop, List.length_take]; rfl)) ?_; (with_reducible refine (monikerref1_List.calls k _ _ t364 a0 t367 _ ?side1 ?side2 A12.out).mono ?_); (case side1 => repeat (first | exact (Kd.R_reads' HO366.out).2.2 | (with_reducible refine Kd.C_alloc ?_ _) | (with_reducible refine Kd.C_drewN ?_ _) | (with_reducible refine Kd.C_drew ?_))); (case side2 => exact (Kd.R_reads' HO366.out).2.1); rintro e w32 ⟨v368, rfl, ho0, hb⟩; refine ⟨_, rfl, ?_⟩; have n0_ := Aside0.mk (Kd.R_below (by (with_reducible repeat (first | apply Kd.R_alloc | apply Kd.R_drewN | apply Kd.R_drew)); exact HO360.out) hb); have n1_ := Aside0.mk (Kd.R_below (by (with_reducible repeat (first | apply Kd.R_alloc | apply Kd.R_drewN | apply Kd.R_drew)); exact HO363.out) hb); have n2_ := Aside0.mk (Kd.R_below (by (with_reducible repeat (first | apply Kd.R_alloc | apply Kd.R_drewN | apply Kd.R_drew)); exact HO366.out) hb); have n3_ := Aside0.mk (Kd.R_lower ho0 (below_size (by repeat (first | (with_reducible first | exact HB.out | apply below_alloc | apply pw_below_drewN | apply below_drew1) | exact HB.out)))); have n4_ := Aside0.mk (below_step (by repeat (first | (with_reducible first | exact HB.out | apply below_alloc | apply pw_below_drewN | apply below_drew1) | exact HB.out)) hb); clear HO360; clear HO363; clear HO366; clear HB; have HO360 := n0_; have HO363 := n1_; have HO366 := n2_; have HO369 := n3_; have HB := n4_; clear n0_ n1_ n2_ n3_ n4_; (try clear hb); (try clear hb2); (try clear hk); (try clear hi); (try clear ho0); obtain ⟨Ao33, co33, eo33⟩ := Kd.R_slice HO369.out; subst eo33))
    go_ret2
    exact ⟨_, by first | rfl | (simp [errW_none, errW_some] <;> rfl) | (simp [*, errW_none, errW_some] <;> rfl), by (with_reducible repeat (first | apply Kd.R_alloc | apply Kd.R_drewN | apply Kd.R_drew)); exact HO369.out, by repeat (first | (with_reducible first | exact HB.out | apply below_alloc | apply pw_below_drewN | apply below_drew1) | exact HB.out)⟩
  ·rw [if_neg c8] at H
   have c8b0 : (t357 == 0) = false := beq_eq_false_iff_ne.mpr c8
   have c8b1 : (t357 != 0) = true := bne_iff_ne.mpr c8
   simp only [Option.some.injEq, Prod.mk.injEq] at H
   obtain ⟨rfl, rfl⟩ := H
   go_enter Tryd.func17, Tryd.ntmps17
   go_wp2_with (first | ((with_reducible refine gate_callee (f := 41) rfl ?_); refine goesL_ (some 12) rfl rfl Tryd.func41 (by kernel_rfl) rfl #[.int .i64 a0, .slice A1 l1.length c1] rfl (by (try simp only [List.map_toArray, List.map_cons, List.map_nil]); first | done | rfl | (simp only [List.length_drop, List.length_take]; rfl)) ?_; (with_reducible refine (monikerref1_Valid.calls k a0 _ _ l1 t355 _ ?side1 ?side2 A4.out).mono ?_); (case side1 => repeat (first | exact HR1.out | (with_reducible refine Kd.C_alloc ?_ _) | (with_reducible refine Kd.C_drewN ?_ _) | (with_reducible refine Kd.C_drew ?_))); (case side2 => exact HC1.out); rintro e w34 ⟨rfl, hb⟩; refine ⟨_, rfl, ?_⟩; have n0_ := Aside0.mk (below_step (by repeat (first | (with_reducible first | exact HB.out | apply below_alloc | apply pw_below_drewN | apply below_drew1) | exact HB.out)) hb); clear HB; have HB := n0_; clear n0_; (try clear hb); (try clear hb2); (try clear hk); (try clear hi)) | ((with_reducible refine gate_callee (f := 42) rfl ?_); refine goesL_ (some 18) rfl rfl Tryd.func42 (by kernel_rfl) rfl #[.int .i64 a0, .slice A1 l1.length c1] rfl (by (try simp only [List.map_toArray, List.map_cons, List.map_nil]); first | done | rfl | (simp only [List.length_drop, List.length_take]; rfl)) ?_; (with_reducible refine (monikerref1_Left.calls k a0 _ _ l1 t356 _ ?side1 ?side2 A6.out).mono ?_); (case side1 => repeat (first | exact (Kd.C_below HR1.out HB.out) | (with_reducible refine Kd.C_alloc ?_ _) | (with_reducible refine Kd.C_drewN ?_ _) | (with_reducible refine Kd.C_drew ?_))); (case side2 => exact HC1.out); rintro e w' ⟨rfl, ⟨nd, rfl⟩⟩; refine ⟨_, rfl, ?_⟩) | ((with_reducible refine gate_callee (f := 35) rfl ?_); refine goesL_ (some 20) rfl rfl Tryd.func35 (by kernel_rfl) rfl #[.int .i64 t356, .slice A2 l2.length c2] rfl (by (try simp only [List.map_toArray, List.map_cons, List.map_nil]); first | done | rfl | (simp only [List.length_drop, List.length_take]; rfl)) ?_; (with_reducible refine (monikerref1_valid.calls k t356 _ _ l2 t357 _ ?side1 ?side2 A7.out).mono ?_); (case side1 => repeat (first | exact (Kd.C_below HR2.out (by repeat (first | (with_reducible first | exact HB.out | apply below_alloc | apply pw_below_drewN | apply below_drew1) | exact HB.out))) | (with_reducible refine Kd.C_alloc ?_ _) | (with_reducible refine Kd.C_drewN ?_ _) | (with_reducible refine Kd.C_drew ?_))); (case side2 => exact HC2.out); rintro e w35 ⟨rfl, hb⟩; refine ⟨_, rfl, ?_⟩; have n0_ := Aside0.mk (below_step (by repeat (first | (with_reducible first | exact HB.out | apply below_alloc | apply pw_below_drewN | apply below_drew1) | exact HB.out)) hb); clear HB; have HB := n0_; clear n0_; (try clear hb); (try clear hb2); (try clear hk); (try clear hi)))
   go_ret2
   exact ⟨_, by first | rfl | (simp [errW_none, errW_some] <;> rfl) | (simp [*, errW_none, errW_some] <;> rfl), by first | exact Kd.R_nil _ _ _ _ _ | exact Kd.N_nil _ _ _ _ _ | exact Kd.V_nil _ _ _ _ _ | exact Kd.Q_nil _ _ _ _ _ | exact Kd.S_nil _ _ _ _ _, by repeat (first | (with_reducible first | exact HB.out | apply below_alloc | apply pw_below_drewN | apply below_drew1) | exact HB.out)⟩
 ·rw [if_neg c5] at H
  have c5b0 : (t355 == 0) = false := beq_eq_false_iff_ne.mpr c5
  have c5b1 : (t355 != 0) = true := bne_iff_ne.mpr c5
  simp only [Option.some.injEq, Prod.mk.injEq] at H
  obtain ⟨rfl, rfl⟩ := H
  go_enter Tryd.func17, Tryd.ntmps17
  go_wp2_with (first | ((with_reducible refine gate_callee (f := 41) rfl ?_); refine goesL_ (some 12) rfl rfl Tryd.func41 (by kernel_rfl) rfl #[.int .i64 a0, .slice A1 l1.length c1] rfl (by (try simp only [List.map_toArray, List.map_cons, List.map_nil]); first | done | rfl | (simp only [List.length_drop, List.length_take]; rfl)) ?_; (with_reducible refine (monikerref1_Valid.calls k a0 _ _ l1 t355 _ ?side1 ?side2 A4.out).mono ?_); (case side1 => repeat (first | exact HR1.out | (with_reducible refine Kd.C_alloc ?_ _) | (with_reducible refine Kd.C_drewN ?_ _) | (with_reducible refine Kd.C_drew ?_))); (case side2 => exact HC1.out); rintro e w36 ⟨rfl, hb⟩; refine ⟨_, rfl, ?_⟩; have n0_ := Aside0.mk (below_step (by repeat (first | (with_reducible first | exact HB.out | apply below_alloc | apply pw_below_drewN | apply below_drew1) | exact HB.out)) hb); clear HB; have HB := n0_; clear n0_; (try clear hb); (try clear hb2); (try clear hk); (try clear hi)))
  go_ret2
  exact ⟨_, by first | rfl | (simp [errW_none, errW_some] <;> rfl) | (simp [*, errW_none, errW_some] <;> rfl), by first | exact Kd.R_nil _ _ _ _ _ | exact Kd.N_nil _ _ _ _ _ | exact Kd.V_nil _ _ _ _ _ | exact Kd.Q_nil _ _ _ _ _ | exact Kd.S_nil _ _ _ _ _, by repeat (first | (with_reducible first | exact HB.out | apply below_alloc | apply pw_below_drewN | apply below_drew1) | exact HB.out)⟩
end Go.Proofs.YtaihajmdngoeiaaDoor.F
namespace Go.Proofs.YtaihajmdngoeiaaDoor.F
open Go.RowKit Go.Proofs.YtaihajmdngoeiaaDoorW.PrintWords Go.Proofs.YtaihajmdngoeiaaDoorW.PrintLast Go.Proofs.YtaihajmdngoeiaaDoorW.PrintMore
attribute [local go_sem] max2_int min2_int max_two min_two max_three min_three max_four min_four   -- for this text's walks alone
set_option linter.unusedVariables false
set_option linter.unusedSimpArgs false
/-! ### edits_Shift: function 18 -/
mutual
def edits_Shift.j0 : Nat → List (S42) → Int → Bool → Option (Int × Bool)
 | 0, _, _, _ => none
 | k + 1, x0, x1, x19 => if x19 = true then (some (0, false)) else (edits_Shift.l0 k x1 x1 x0 (x0.length : Int) 0)
def edits_Shift.l0 : Nat → Int → Int → List (S42) → Int → Int → Option (Int × Bool)
 | 0, _, _, _, _, _ => none
 | k + 1, x1, x6, x21, x22, x23 => if x23 < x22 then (if 0 ≤ x23 then (if x23 < (x21.length : Int) then (if ((rd_T42 x21 x23).f1) > x1 then (if ((rd_T42 x21 x23).f0) < x1 then (some (0, false)) else (some (x6, true))) else ((edits_grows.f ((rd_T42 x21 x23).f0) ((rd_T42 x21 x23).f1) ((rd_T42 x21 x23).f2)).bind fun t373 => (edits_Shift.l0 k x1 (wrap64 (x6 + t373)) x21 x22 (wrap64 (x23 + 1))))) else (none)) else (none)) else (some (x6, true))
end
def edits_Shift.f (k : Nat) (l0 : List (S42)) (a1 : Int) : Option (Int × Bool) := if a1 < 0 then (edits_Shift.j0 k l0 a1 true) else (if a1 > 4611686018427387904 then (edits_Shift.j0 k l0 a1 true) else ((edits_valid.f k 4611686018427387904 l0).bind fun t370 => (edits_Shift.j0 k l0 a1 (t370 != 0))))
set_option maxHeartbeats 8000000 in
set_option maxRecDepth 100000 in
theorem edits_Shift.calls (k : Nat) (A0 : Option Addr) (c0 : Nat) (l0 : List (S42)) (a1 : Int) (r1 : Int) (r2 : Bool) (w : World) (hr0 : Kd.C k42 w A0 l0.length l0) (hc0 : l0.length ≤ c0) (h : edits_Shift.f k l0 a1 = some (r1, r2)) :
  Calls Tryd.prog 18 #[.slice A0 l0.length c0, .int .i64 a1] w fun e w' => e = .returned (.tuple #[.int .i64 r1, .bool r2]) ∧ Below w.heap.size w w' := by
 have hu42 := Tryd.underlying42
 have HR0 := Aside0.mk hr0
 have HC0 := Aside0.mk hc0
 clear hr0 hc0
 have HB := Aside0.mk (Below.refl w.heap.size w)
 have H : (if a1 < 0 then (edits_Shift.j0 k l0 a1 true) else (if a1 > 4611686018427387904 then (edits_Shift.j0 k l0 a1 true) else ((edits_valid.f k 4611686018427387904 l0).bind fun t370 => (edits_Shift.j0 k l0 a1 (t370 != 0))))) = some (r1, r2) := h
 clear h
 have HC3 := Aside0.mk H
 clear H
 go_enter Tryd.func18, Tryd.ntmps18
 go_upto_region 1 with (fail)
 go_cut [19] (fun v19 wc => ∃ (kq : Nat) (x19_2 : Bool), v19 = .bool x19_2 ∧ Aside0 (edits_Shift.j0 kq l0 a1 x19_2 = some (r1, r2)) ∧ Aside0 (kq ≤ k) ∧ Aside0 (Below w.heap.size w wc))
 case first =>
  have H := HC3.out
  clear HC3
  by_cases c4 : a1 < 0
  ·rw [if_pos c4] at H
   have c4b0 : decide (a1 < 0) = true := decide_eq_true c4
   clear c4
   (first | rw [c4b0] | (simp only [i64_w, i32_w]; rw [c4b0]) | skip)
   have H' := Aside0.mk H
   clear H
   go_wp2
   go_meet
   case rel => exact ⟨_, (true), (by first | rfl | (simp; done) | (simp [*]; done)), H', ⟨by first | omega | exact Nat.le_refl _⟩, ⟨by repeat (first | (with_reducible first | exact HB.out | apply below_alloc | apply pw_below_drewN | apply below_drew1) | exact HB.out)⟩⟩
  ·rw [if_neg c4] at H
   have c4b0 : decide (a1 < 0) = false := decide_eq_false c4
   clear c4
   (first | rw [c4b0] | (simp only [i64_w, i32_w]; rw [c4b0]) | skip)
   by_cases c5 : a1 > 4611686018427387904
   ·rw [if_pos c5] at H
    have c5b0 : decide (4611686018427387904 < a1) = true := decide_eq_true c5
    clear c5
    have H' := Aside0.mk H
    clear H
    go_wp2
    go_meet
    case rel => exact ⟨_, (true), (by first | rfl | (simp; done) | (simp [*]; done)), H', ⟨by first | omega | exact Nat.le_refl _⟩, ⟨by repeat (first | (with_reducible first | exact HB.out | apply below_alloc | apply pw_below_drewN | apply below_drew1) | exact HB.out)⟩⟩
   ·rw [if_neg c5] at H
    have c5b0 : decide (4611686018427387904 < a1) = false := decide_eq_false c5
    clear c5
    replace H := Option.bind_eq_some_iff.mp H
    obtain ⟨t370, A60, H⟩ := H
    replace H : (edits_Shift.j0 k l0 a1 (t370 != 0)) = some (r1, r2) := H
    have A6 := Aside0.mk A60
    clear A60
    have H' := Aside0.mk H
    clear H
    go_wp2_with (first | (go_at_call 33; (with_reducible refine (edits_valid.calls k 4611686018427387904 _ _ l0 t370 _ ?side1 ?side2 A6.out).mono ?_); (case side1 => repeat (first | exact (Kd.C_below HR0.out HB.out) | (with_reducible refine Kd.C_alloc ?_ _) | (with_reducible refine Kd.C_drewN ?_ _) | (with_reducible refine Kd.C_drew ?_))); (case side2 => exact HC0.out); rintro e w7 ⟨rfl, hb⟩; have n0_ := Aside0.mk (below_step (by repeat (first | (with_reducible first | exact HB.out | apply below_alloc | apply pw_below_drewN | apply below_drew1) | exact HB.out)) hb); clear HB; have HB := n0_; clear n0_; (try clear hb); (try clear hb2); (try clear hk); (try clear hi)))
    go_meet
    case rel => exact ⟨_, ((t370 != 0)), (by first | rfl | (simp; done) | (simp [*]; done)), H', ⟨by first | omega | exact Nat.le_refl _⟩, ⟨by repeat (first | (with_reducible first | exact HB.out | apply below_alloc | apply pw_below_drewN | apply below_drew1) | exact HB.out)⟩⟩
 case rest =>
  clear HC3
  try clear c1
  try clear p2
  try clear c4
  try clear c4b0
  try clear c5
  try clear c5b0
  obtain ⟨kq, x19_2, rfl, HA, HJ2, HB⟩ := hcut
  cases kq with
  | zero => exact absurd HA.out (by simp [edits_Shift.j0])
  | succ kj2 =>
   have H := HA.out
   clear HA
   simp only [edits_Shift.j0] at H
   by_cases c8 : x19_2 = true
   ·subst c8
    have H1 : (some (0, false)) = some (r1, r2) := by rw [if_pos rfl] at H; exact H
    clear H
    have H := H1
    clear H1
    simp only [Option.some.injEq, Prod.mk.injEq] at H
    obtain ⟨rfl, rfl⟩ := H
    go_wp2
    go_ret2
    exact ⟨by first | rfl | (simp [errW_none, errW_some] <;> rfl) | (simp [*, errW_none, errW_some] <;> rfl), by repeat (first | (with_reducible first | exact HB.out | apply below_alloc | apply pw_below_drewN | apply below_drew1) | exact HB.out)⟩
   ·replace c8 := Bool.eq_false_iff.mpr c8
    subst c8
    have H1 : (edits_Shift.l0 kj2 a1 a1 l0 (l0.length : Int) 0) = some (r1, r2) := by rw [if_neg (show ¬ (false = true) by decide)] at H; exact H
    clear H
    have H := H1
    clear H1
    have H' := Aside0.mk H
    clear H
    go_wp2
    go_loopg [6, 23] kj2 (fun kq v6 v23 w' => ∃ (x6_2 : Int) (x23_2 : Int), v6 = .int .i64 x6_2 ∧ v23 = .int .i64 x23_2 ∧ Aside0 (edits_Shift.l0 kq a1 x6_2 l0 (l0.length : Int) x23_2 = some (r1, r2)) ∧ Aside0 (kq ≤ kj2) ∧ Aside0 (Below w.heap.size w w'))
    case atStart => exact ⟨(a1), (0), (by first | rfl | (simp; done) | (simp [*]; done)), (by first | rfl | (simp; done) | (simp [*]; done)), H', ⟨Nat.le_refl _⟩, ⟨by repeat (first | (with_reducible first | exact HB.out | apply below_alloc | apply pw_below_drewN | apply below_drew1) | exact HB.out)⟩⟩
    case round =>
     clear H'
     try clear c1
     try clear p2
     try clear c4
     try clear c4b0
     try clear c5
     try clear c5b0
     try clear c8
     try clear p2
     obtain ⟨x6_2, x23_2, rfl, rfl, HA, HK2, HB⟩ := hrel
     cases gk with
     | zero => exact absurd HA.out (by simp [edits_Shift.l0])
     | succ k2 =>
      have H := HA.out
      clear HA
      simp only [edits_Shift.l0] at H
      by_cases c9 : x23_2 < (l0.length : Int)
      ·rw [if_pos c9] at H
       have c9b0 : decide (x23_2 < (l0.length : Int)) = true := decide_eq_true c9
       clear c9
       by_cases c10 : 0 ≤ x23_2
       ·rw [if_pos c10] at H
        have c10b0 : decide (0 ≤ x23_2) = true := decide_eq_true c10
        clear c10
        by_cases c11 : x23_2 < (l0.length : Int)
        ·rw [if_pos c11] at H
         have c11b0 : decide (x23_2 < (l0.length : Int)) = true := decide_eq_true c11
         clear c11
         by_cases c12 : ((rd_T42 l0 x23_2).f1) > a1
         ·rw [if_pos c12] at H
          have c12b0 : decide (a1 < ((rd_T42 l0 x23_2).f1)) = true := decide_eq_true c12
          clear c12
          by_cases c13 : ((rd_T42 l0 x23_2).f0) < a1
          ·rw [if_pos c13] at H
           have c13b0 : decide (((rd_T42 l0 x23_2).f0) < a1) = true := decide_eq_true c13
           clear c13
           simp only [Option.some.injEq, Prod.mk.injEq] at H
           obtain ⟨rfl, rfl⟩ := H
           have p371 : 0 ≤ (x23_2 : Int) := of_decide_eq_true (by first | (with_reducible assumption) | assumption)
           have q371 : x23_2 < (l0.length : Int) := of_decide_eq_true (by first | (with_reducible assumption) | assumption)
           obtain ⟨ad371, e371, hx371_0, hx371_1, hx371_2⟩ := at_T42 HR0.out x23_2 p371 q371
           cases e371
           replace hx371_0 := (HB.out.cell (World.block_lt_of_cell? w _ hx371_0)).trans hx371_0
           replace hx371_1 := (HB.out.cell (World.block_lt_of_cell? w _ hx371_1)).trans hx371_1
           replace hx371_2 := (HB.out.cell (World.block_lt_of_cell? w _ hx371_2)).trans hx371_2
           replace p371 := eq_true p371
           replace q371 := eq_true q371
           go_wp2_with (first | ((with_reducible refine gate_dst (N := 8) rfl ?_); refine box_event ?hg (N := 8) ?hd (cs := #[.int .i64 0, .int .i64 0, .string (⟨#[]⟩ : ByteArray)]) (t := 42) ?hr ?_; (case hd => rfl); (case hg => rfl); (case hr => first | (go_simp; done) | (go_simp; rfl)); intro gb372 hg w14 hbox hb; have n0_ := Aside0.mk (below_step (by repeat (first | (with_reducible first | exact HB.out | apply below_alloc | apply pw_below_drewN | apply below_drew1) | exact HB.out)) hb); have n1_ := Aside0.mk (hbox); have n2_ := Aside0.mk ((by rw [hg]; exact (below_size (by repeat (first | (with_reducible first | exact HB.out | apply below_alloc | apply pw_below_drewN | apply below_drew1) | exact HB.out))) : w.heap.size ≤ gb372)); have n3_ := Aside0.mk ((by rw [hg]; exact (below_size (by repeat (first | (with_reducible first | exact HB.out | apply below_alloc | apply pw_below_drewN | apply below_drew1) | exact HB.out))) : w.heap.size ≤ gb372)); clear HB; have HB := n0_; have BK372 := n1_; have GW372 := n2_; have GE372 := n3_; clear n0_ n1_ n2_ n3_; clear hb hbox hg; have hcz15_0 : w14.cell? ⟨gb372, 0, none⟩ = some (.int .i64 0) := (blk_cell BK372.out 0).trans rfl; have hcz15_1 : w14.cell? ⟨gb372, 1, none⟩ = some (.int .i64 0) := (blk_cell BK372.out 1).trans rfl; have hcz15_2 : w14.cell? ⟨gb372, 2, none⟩ = some (.string (⟨#[]⟩ : ByteArray)) := (blk_cell BK372.out 2).trans rfl; have hfz15_0 := blk_frozen BK372.out 0; have hfz15_1 := blk_frozen BK372.out 1; have hfz15_2 := blk_frozen BK372.out 2))
           go_ret2
           exact ⟨by first | rfl | (simp [errW_none, errW_some] <;> rfl) | (simp [*, errW_none, errW_some] <;> rfl), by repeat (first | (with_reducible first | exact HB.out | apply below_alloc | apply pw_below_drewN | apply below_drew1 | refine below_set ?_ GE372.out) | exact HB.out)⟩
          ·rw [if_neg c13] at H
           have c13b0 : decide (((rd_T42 l0 x23_2).f0) < a1) = false := decide_eq_false c13
           clear c13
           simp only [Option.some.injEq, Prod.mk.injEq] at H
           obtain ⟨rfl, rfl⟩ := H
           have p371 : 0 ≤ (x23_2 : Int) := of_decide_eq_true (by first | (with_reducible assumption) | assumption)
           have q371 : x23_2 < (l0.length : Int) := of_decide_eq_true (by first | (with_reducible assumption) | assumption)
           obtain ⟨ad371, e371, hx371_0, hx371_1, hx371_2⟩ := at_T42 HR0.out x23_2 p371 q371
           cases e371
           replace hx371_0 := (HB.out.cell (World.block_lt_of_cell? w _ hx371_0)).trans hx371_0
           replace hx371_1 := (HB.out.cell (World.block_lt_of_cell? w _ hx371_1)).trans hx371_1
           replace hx371_2 := (HB.out.cell (World.block_lt_of_cell? w _ hx371_2)).trans hx371_2
           replace p371 := eq_true p371
           replace q371 := eq_true q371
           go_wp2_with (first | ((with_reducible refine gate_dst (N := 8) rfl ?_); refine box_event ?hg (N := 8) ?hd (cs := #[.int .i64 0, .int .i64 0, .string (⟨#[]⟩ : ByteArray)]) (t := 42) ?hr ?_; (case hd => rfl); (case hg => rfl); (case hr => first | (go_simp; done) | (go_simp; rfl)); intro gb372 hg w16 hbox hb; have n0_ := Aside0.mk (below_step (by repeat (first | (with_reducible first | exact HB.out | apply below_alloc | apply pw_below_drewN | apply below_drew1) | exact HB.out)) hb); have n1_ := Aside0.mk (hbox); have n2_ := Aside0.mk ((by rw [hg]; exact (below_size (by repeat (first | (with_reducible first | exact HB.out | apply below_alloc | apply pw_below_drewN | apply below_drew1) | exact HB.out))) : w.heap.size ≤ gb372)); have n3_ := Aside0.mk ((by rw [hg]; exact (below_size (by repeat (first | (with_reducible first | exact HB.out | apply below_alloc | apply pw_below_drewN | apply below_drew1) | exact HB.out))) : w.heap.size ≤ gb372)); clear HB; have HB := n0_; have BK372 := n1_; have GW372 := n2_; have GE372 := n3_; clear n0_ n1_ n2_ n3_; clear hb hbox hg; have hcz17_0 : w16.cell? ⟨gb372, 0, none⟩ = some (.int .i64 0) := (blk_cell BK372.out 0).trans rfl; have hcz17_1 : w16.cell? ⟨gb372, 1, none⟩ = some (.int .i64 0) := (blk_cell BK372.out 1).trans rfl; have hcz17_2 : w16.cell? ⟨gb372, 2, none⟩ = some (.string (⟨#[]⟩ : ByteArray)) := (blk_cell BK372.out 2).trans rfl; have hfz17_0 := blk_frozen BK372.out 0; have hfz17_1 := blk_frozen BK372.out 1; have hfz17_2 := blk_frozen BK372.out 2))
           go_ret2
           exact ⟨by first | rfl | (simp [errW_none, errW_some] <;> rfl) | (simp [*, errW_none, errW_some] <;> rfl), by repeat (first | (with_reducible first | exact HB.out | apply below_alloc | apply pw_below_drewN | apply below_drew1 | refine below_set ?_ GE372.out) | exact HB.out)⟩
         ·rw [if_neg c12] at H
          have c12b0 : decide (a1 < ((rd_T42 l0 x23_2).f1)) = false := decide_eq_false c12
          clear c12
          replace H := Option.bind_eq_some_iff.mp H
          obtain ⟨t373, A180, H⟩ := H
          replace H : (edits_Shift.l0 k2 a1 (wrap64 (x6_2 + t373)) l0 (l0.length : Int) (wrap64 (x23_2 + 1))) = some (r1, r2) := H
          have A18 := Aside0.mk A180
          clear A180
          have H' := Aside0.mk H
          clear H
          have p371 : 0 ≤ (x23_2 : Int) := of_decide_eq_true (by first | (with_reducible assumption) | assumption)
          have q371 : x23_2 < (l0.length : Int) := of_decide_eq_true (by first | (with_reducible assumption) | assumption)
          obtain ⟨ad371, e371, hx371_0, hx371_1, hx371_2⟩ := at_T42 HR0.out x23_2 p371 q371
          cases e371
          replace hx371_0 := (HB.out.cell (World.block_lt_of_cell? w _ hx371_0)).trans hx371_0
          replace hx371_1 := (HB.out.cell (World.block_lt_of_cell? w _ hx371_1)).trans hx371_1
          replace hx371_2 := (HB.out.cell (World.block_lt_of_cell? w _ hx371_2)).trans hx371_2
          replace p371 := eq_true p371
          replace q371 := eq_true q371
          go_wp2_with (first | ((with_reducible refine gate_dst (N := 8) rfl ?_); refine box_event ?hg (N := 8) ?hd (cs := #[.int .i64 0, .int .i64 0, .string (⟨#[]⟩ : ByteArray)]) (t := 42) ?hr ?_; (case hd => rfl); (case hg => rfl); (case hr => first | (go_simp; done) | (go_simp; rfl)); intro gb372 hg w19 hbox hb; have n0_ := Aside0.mk (below_step (by repeat (first | (with_reducible first | exact HB.out | apply below_alloc | apply pw_below_drewN | apply below_drew1) | exact HB.out)) hb); have n1_ := Aside0.mk (hbox); have n2_ := Aside0.mk ((by rw [hg]; exact (below_size (by repeat (first | (with_reducible first | exact HB.out | apply below_alloc | apply pw_below_drewN | apply below_drew1) | exact HB.out))) : w.heap.size ≤ gb372)); have n3_ := Aside0.mk ((by rw [hg]; exact (below_size (by repeat (first | (with_reducible first | exact HB.out | apply below_alloc | apply pw_below_drewN | apply below_drew1) | exact HB.out))) : w.heap.size ≤ gb372)); clear HB; have HB := n0_; have BK372 := n1_; have GW372 := n2_; have GE372 := n3_; clear n0_ n1_ n2_ n3_; clear hb hbox hg; have hcz20_0 : w19.cell? ⟨gb372, 0, none⟩ = some (.int .i64 0) := (blk_cell BK372.out 0).trans rfl; have hcz20_1 : w19.cell? ⟨gb372, 1, none⟩ = some (.int .i64 0) := (blk_cell BK372.out 1).trans rfl; have hcz20_2 : w19.cell? ⟨gb372, 2, none⟩ = some (.string (⟨#[]⟩ : ByteArray)) := (blk_cell BK372.out 2).trans rfl; have hfz20_0 := blk_frozen BK372.out 0; have hfz20_1 := blk_frozen BK372.out 1; have hfz20_2 := blk_frozen BK372.out 2) | ((with_reducible refine gate_callee (f := 44) rfl ?_); refine goesL_ (some 37) rfl rfl Tryd.func44 (by kernel_rfl) rfl #[.agg #[.int .i64 ((rd_T42 l0 x23_2).f0), .int .i64 ((rd_T42 l0 x23_2).f1), .string ((rd_T42 l0 x23_2).f2)]] rfl (by (try simp only [List.map_toArray, List.map_cons, List.map_nil]); first | done | rfl | (simp only [List.length_drop, List.length_take]; rfl)) ?_; (with_reducible refine (edits_grows.calls ((rd_T42 l0 x23_2).f0) ((rd_T42 l0 x23_2).f1) ((rd_T42 l0 x23_2).f2) t373 _ A18.out).mono ?_); rintro e w21 ⟨rfl, hb⟩; refine ⟨_, rfl, ?_⟩; have n0_ := Aside0.mk (blk_below (g := gb372) (o := .cells #[.int .i64 ((rd_T42 l0 x23_2).f0), .int .i64 ((rd_T42 l0 x23_2).f1), .string ((rd_T42 l0 x23_2).f2)] 42 (0, 0)) (by (with_reducible repeat (first | refine blk_drewN ?_ _ | refine blk_drew ?_ | refine blk_alloc ?_ _)); refine blk_put (cs := #[.int .i64 ((rd_T42 l0 x23_2).f0), .int .i64 ((rd_T42 l0 x23_2).f1), .string (⟨#[]⟩ : ByteArray)]) ?_ 2 _ rfl; (with_reducible repeat (first | refine blk_drewN ?_ _ | refine blk_drew ?_ | refine blk_alloc ?_ _)); refine blk_put (cs := #[.int .i64 ((rd_T42 l0 x23_2).f0), .int .i64 0, .string (⟨#[]⟩ : ByteArray)]) ?_ 1 _ rfl; (with_reducible repeat (first | refine blk_drewN ?_ _ | refine blk_drew ?_ | refine blk_alloc ?_ _)); refine blk_put (cs := #[.int .i64 0, .int .i64 0, .string (⟨#[]⟩ : ByteArray)]) ?_ 0 _ rfl; (with_reducible repeat (first | refine blk_drewN ?_ _ | refine blk_drew ?_ | refine blk_alloc ?_ _)); exact BK372.out) hb); have n1_ := Aside0.mk (below_step (by repeat (first | (with_reducible first | exact HB.out | apply below_alloc | apply pw_below_drewN | apply below_drew1 | refine below_set ?_ GE372.out) | exact HB.out)) hb); clear BK372; clear HB; have BK372 := n0_; have HB := n1_; clear n0_ n1_; (try clear hb); (try clear hb2); (try clear hk); (try clear hi)))
          go_roundg k2
          case measure => have := HJ2.out; have := HK2.out; omega
          case rel => exact ⟨(wrap64 (x6_2 + t373)), (wrap64 (x23_2 + 1)), (by first | rfl | (simp; done) | (simp [*]; done)), (by first | rfl | (simp; done) | (simp [*]; done)), H', ⟨by have := HJ2.out; have := HK2.out; omega⟩, ⟨by repeat (first | (with_reducible first | exact HB.out | apply below_alloc | apply pw_below_drewN | apply below_drew1 | refine below_set ?_ GE372.out) | exact HB.out)⟩⟩
        ·rw [if_neg c11] at H
         exact absurd H (by simp)
       ·rw [if_neg c10] at H
        exact absurd H (by simp)
      ·rw [if_neg c9] at H
       have c9b0 : decide (x23_2 < (l0.length : Int)) = false := decide_eq_false c9
       clear c9
       simp only [Option.some.injEq, Prod.mk.injEq] at H
       obtain ⟨rfl, rfl⟩ := H
       go_wp2
       go_ret2
       exact ⟨by first | rfl | (simp [errW_none, errW_some] <;> rfl) | (simp [*, errW_none, errW_some] <;> rfl), by repeat (first | (with_reducible first | exact HB.out | apply below_alloc | apply pw_below_drewN | apply below_drew1) | exact HB.out)⟩
end Go.Proofs.YtaihajmdngoeiaaDoor.F
namespace Go.Proofs.YtaihajmdngoeiaaDoor.F
open Go.RowKit Go.Proofs.YtaihajmdngoeiaaDoorW.PrintWords Go.Proofs.YtaihajmdngoeiaaDoorW.PrintLast Go.Proofs.YtaihajmdngoeiaaDoorW.PrintMore
attribute [local go_sem] max2_int min2_int max_two min_two max_three min_three max_four min_four   -- for this text's walks alone
set_option linter.unusedVariables false
set_option linter.unusedSimpArgs false
/-! ### monikerref1_Shift: function 19 -/
mutual
def monikerref1_Shift.j0 : Nat → List (S42) → Int → Bool → Option (Int × Bool)
 | 0, _, _, _ => none
 | k + 1, x0, x1, x18 => if x18 = true then (some (0, false)) else (monikerref1_Shift.l0 k x0 x1 x1 0)
def monikerref1_Shift.l0 : Nat → List (S42) → Int → Int → Int → Option (Int × Bool)
 | 0, _, _, _, _ => none
 | k + 1, x0, x1, x6, x7 => if x7 < (x0.length : Int) then (if 0 ≤ x7 then (if ((rd_T42 x0 x7).f0) < x1 then (monikerref1_Shift.j2 k x0 x1 x6 x7 (decide (x1 < ((rd_T42 x0 x7).f1)))) else (monikerref1_Shift.j2 k x0 x1 x6 x7 false)) else (none)) else (some (x6, true))
def monikerref1_Shift.j2 : Nat → List (S42) → Int → Int → Int → Bool → Option (Int × Bool)
 | 0, _, _, _, _, _ => none
 | k + 1, x0, x1, x6, x7, x41 => if x41 = true then (some (0, false)) else (if 0 ≤ x7 then (if x7 < (x0.length : Int) then (if ((rd_T42 x0 x7).f1) ≤ x1 then (monikerref1_Shift.l0 k x0 x1 (wrap64 (x6 + (wrap64 ((((rd_T42 x0 x7).f2).size : Int) - (wrap64 (((rd_T42 x0 x7).f1) - ((rd_T42 x0 x7).f0))))))) (wrap64 (x7 + 1))) else (monikerref1_Shift.l0 k x0 x1 x6 (wrap64 (x7 + 1)))) else (none)) else (none))
end
def monikerref1_Shift.f (k : Nat) (l0 : List (S42)) (a1 : Int) : Option (Int × Bool) := if a1 < 0 then (monikerref1_Shift.j0 k l0 a1 true) else (if a1 > 4611686018427387904 then (monikerref1_Shift.j0 k l0 a1 true) else ((monikerref1_valid.f k 4611686018427387904 l0).bind fun t374 => (monikerref1_Shift.j0 k l0 a1 (t374 != 0))))
set_option maxHeartbeats 8000000 in
set_option maxRecDepth 100000 in
theorem monikerref1_Shift.calls (k : Nat) (A0 : Option Addr) (c0 : Nat) (l0 : List (S42)) (a1 : Int) (r1 : Int) (r2 : Bool) (w : World) (hr0 : Kd.C k42 w A0 l0.length l0) (hc0 : l0.length ≤ c0) (h : monikerref1_Shift.f k l0 a1 = some (r1, r2)) :
  Calls Tryd.prog 19 #[.slice A0 l0.length c0, .int .i64 a1] w fun e w' => e = .returned (.tuple #[.int .i64 r1, .bool r2]) ∧ Below w.heap.size w w' := by
 have HR0 := Aside0.mk hr0
 have HC0 := Aside0.mk hc0
 clear hr0 hc0
 have HB := Aside0.mk (Below.refl w.heap.size w)
 have H : (if a1 < 0 then (monikerref1_Shift.j0 k l0 a1 true) else (if a1 > 4611686018427387904 then (monikerref1_Shift.j0 k l0 a1 true) else ((monikerref1_valid.f k 4611686018427387904 l0).bind fun t374 => (monikerref1_Shift.j0 k l0 a1 (t374 != 0))))) = some (r1, r2) := h
 clear h
 have HC3 := Aside0.mk H
 clear H
 go_enter Tryd.func19, Tryd.ntmps19
 go_upto_region 1 with (fail)
 repeat (go_quiet (fail); go_upto_region 1 with (fail))
 go_cut [18] (fun v18 wc => ∃ (kq : Nat) (x18_2 : Bool), v18 = .bool x18_2 ∧ Aside0 (monikerref1_Shift.j0 kq l0 a1 x18_2 = some (r1, r2)) ∧ Aside0 (kq ≤ k) ∧ Aside0 (Below w.heap.size w wc))
 case first =>
  have H := HC3.out
  clear HC3
  by_cases c4 : a1 < 0
  ·rw [if_pos c4] at H
   have c4b0 : decide (a1 < 0) = true := decide_eq_true c4
   clear c4
   (first | rw [c4b0] | (simp only [i64_w, i32_w]; rw [c4b0]) | skip)
   have H' := Aside0.mk H
   clear H
   go_wp2
   repeat (go_quiet (fail); try go_wp2)
   go_meet
   case rel => exact ⟨_, (true), (by first | rfl | (simp; done) | (simp [*]; done)), H', ⟨by first | omega | exact Nat.le_refl _⟩, ⟨by repeat (first | (with_reducible first | exact HB.out | apply below_alloc | apply pw_below_drewN | apply below_drew1) | exact HB.out)⟩⟩
  ·rw [if_neg c4] at H
   have c4b0 : decide (a1 < 0) = false := decide_eq_false c4
   clear c4
   (first | rw [c4b0] | (simp only [i64_w, i32_w]; rw [c4b0]) | skip)
   by_cases c5 : a1 > 4611686018427387904
   ·rw [if_pos c5] at H
    have c5b0 : decide (4611686018427387904 < a1) = true := decide_eq_true c5
    clear c5
    have H' := Aside0.mk H
    clear H
    go_wp2
    repeat (go_quiet (fail); try go_wp2)
    go_meet
    case rel => exact ⟨_, (true), (by first | rfl | (simp; done) | (simp [*]; done)), H', ⟨by first | omega | exact Nat.le_refl _⟩, ⟨by repeat (first | (with_reducible first | exact HB.out | apply below_alloc | apply pw_below_drewN | apply below_drew1) | exact HB.out)⟩⟩
   ·rw [if_neg c5] at H
    have c5b0 : decide (4611686018427387904 < a1) = false := decide_eq_false c5
    clear c5
    replace H := Option.bind_eq_some_iff.mp H
    obtain ⟨t374, A60, H⟩ := H
    replace H : (monikerref1_Shift.j0 k l0 a1 (t374 != 0)) = some (r1, r2) := H
    have A6 := Aside0.mk A60
    clear A60
    have H' := Aside0.mk H
    clear H
    go_wp2_with (first | (go_at_call 35; (with_reducible refine (monikerref1_valid.calls k 4611686018427387904 _ _ l0 t374 _ ?side1 ?side2 A6.out).mono ?_); (case side1 => repeat (first | exact (Kd.C_below HR0.out HB.out) | (with_reducible refine Kd.C_alloc ?_ _) | (with_reducible refine Kd.C_drewN ?_ _) | (with_reducible refine Kd.C_drew ?_))); (case side2 => exact HC0.out); rintro e w7 ⟨rfl, hb⟩; have n0_ := Aside0.mk (below_step (by repeat (first | (with_reducible first | exact HB.out | apply below_alloc | apply pw_below_drewN | apply below_drew1) | exact HB.out)) hb); clear HB; have HB := n0_; clear n0_; (try clear hb); (try clear hb2); (try clear hk); (try clear hi)))
    repeat (go_quiet (first | (go_at_call 35; (with_reducible refine (monikerref1_valid.calls k 4611686018427387904 _ _ l0 t374 _ ?side1 ?side2 A6.out).mono ?_); (case side1 => repeat (first | exact (Kd.C_below HR0.out HB.out) | (with_reducible refine Kd.C_alloc ?_ _) | (with_reducible refine Kd.C_drewN ?_ _) | (with_reducible refine Kd.C_drew ?_))); (case side2 => exact HC0.out); rintro e w7 ⟨rfl, hb⟩; have n0_ := Aside0.mk (below_step (by repeat (first | (with_reducible first | exact HB.out | apply below_alloc | apply pw_below_drewN | apply below_drew1) | exact HB.out)) hb); clear HB; have HB := n0_; clear n0_; (try clear hb); (try clear hb2); (try clear hk); (try clear hi))); try go_wp2_with (first | (go_at_call 35; (with_reducible refine (monikerref1_valid.calls k 4611686018427387904 _ _ l0 t374 _ ?side1 ?side2 A6.out).mono ?_); (case side1 => repeat (first | exact (Kd.C_below HR0.out HB.out) | (with_reducible refine Kd.C_alloc ?_ _) | (with_reducible refine Kd.C_drewN ?_ _) | (with_reducible refine Kd.C_drew ?_))); (case side2 => exact HC0.out); rintro e w7 ⟨rfl, hb⟩; have n0_ := Aside0.mk (below_step (by repeat (first | (with_reducible first | exact HB.out | apply below_alloc | apply pw_below_drewN | apply below_drew1) | exact HB.out)) hb); clear HB; have HB := n0_; clear n0_; (try clear hb); (try clear hb2); (try clear hk); (try clear hi))))
    go_meet
    case rel => exact ⟨_, ((t374 != 0)), (by first | rfl | (simp; done) | (simp [*]; done)), H', ⟨by first | omega | exact Nat.le_refl _⟩, ⟨by repeat (first | (with_reducible first | exact HB.out | apply below_alloc | apply pw_below_drewN | apply below_drew1) | exact HB.out)⟩⟩
 case rest =>
  clear HC3
  try clear c1
  try clear p2
  try clear c4
  try clear c4b0
  try clear c5
  try clear c5b0
  obtain ⟨kq, x18_2, rfl, HA, HJ2, HB⟩ := hcut
  cases kq with
  | zero => exact absurd HA.out (by simp [monikerref1_Shift.j0])
  | succ kj2 =>
   have H := HA.out
   clear HA
   simp only [monikerref1_Shift.j0] at H
   by_cases c8 : x18_2 = true
   ·subst c8
    have H1 : (some (0, false)) = some (r1, r2) := by rw [if_pos rfl] at H; exact H
    clear H
    have H := H1
    clear H1
    simp only [Option.some.injEq, Prod.mk.injEq] at H
    obtain ⟨rfl, rfl⟩ := H
    go_wp2
    repeat (go_quiet (fail); try go_wp2)
    go_ret2
    exact ⟨by first | rfl | (simp [errW_none, errW_some] <;> rfl) | (simp [*, errW_none, errW_some] <;> rfl), by repeat (first | (with_reducible first | exact HB.out | apply below_alloc | apply pw_below_drewN | apply below_drew1) | exact HB.out)⟩
   ·replace c8 := Bool.eq_false_iff.mpr c8
    subst c8
    have H1 : (monikerref1_Shift.l0 kj2 l0 a1 a1 0) = some (r1, r2) := by rw [if_neg (show ¬ (false = true) by decide)] at H; exact H
    clear H
    have H := H1
    clear H1
    have H' := Aside0.mk H
    clear H
    go_wp2
    repeat (go_quiet (fail); try go_wp2)
    go_loopg [6, 7] kj2 (fun kq v6 v7 w' => ∃ (x6_2 : Int) (x7_2 : Int), v6 = .int .i64 x6_2 ∧ v7 = .int .i64 x7_2 ∧ Aside0 (monikerref1_Shift.l0 kq l0 a1 x6_2 x7_2 = some (r1, r2)) ∧ Aside0 (kq ≤ kj2) ∧ Aside0 (Below w.heap.size w w'))
    case atStart => exact ⟨(a1), (0), (by first | rfl | (simp; done) | (simp [*]; done)), (by first | rfl | (simp; done) | (simp [*]; done)), H', ⟨Nat.le_refl _⟩, ⟨by repeat (first | (with_reducible first | exact HB.out | apply below_alloc | apply pw_below_drewN | apply below_drew1) | exact HB.out)⟩⟩
    case round =>
     clear H'
     try clear c1
     try clear p2
     try clear c4
     try clear c4b0
     try clear c5
     try clear c5b0
     try clear c8
     try clear p2
     obtain ⟨x6_2, x7_2, rfl, rfl, HA, HK2, HB⟩ := hrel
     cases gk with
     | zero => exact absurd HA.out (by simp [monikerref1_Shift.l0])
     | succ k2 =>
      have H := HA.out
      clear HA
      simp only [monikerref1_Shift.l0] at H
      by_cases c9 : x7_2 < (l0.length : Int)
      ·rw [if_pos c9] at H
       have c9b0 : decide (x7_2 < (l0.length : Int)) = true := decide_eq_true c9
       clear c9
       have HC10 := Aside0.mk H
       clear H
       go_upto_region 7 with (fail)
       repeat (go_quiet (fail); go_upto_region 7 with (fail))
       go_cut [41] (fun v41 wc => ∃ (kq : Nat) (x41_9 : Bool), v41 = .bool x41_9 ∧ Aside0 (monikerref1_Shift.j2 kq l0 a1 x6_2 x7_2 x41_9 = some (r1, r2)) ∧ Aside0 (kq ≤ k2) ∧ Aside0 (Below w.heap.size w wc))
       case first =>
        have H := HC10.out
        clear HC10
        by_cases c11 : 0 ≤ x7_2
        ·rw [if_pos c11] at H
         have c11b0 : decide (0 ≤ x7_2) = true := decide_eq_true c11
         clear c11
         (first | rw [c11b0] | (simp only [i64_w, i32_w]; rw [c11b0]) | skip)
         by_cases c12 : ((rd_T42 l0 x7_2).f0) < a1
         ·rw [if_pos c12] at H
          have c12b0 : decide (((rd_T42 l0 x7_2).f0) < a1) = true := decide_eq_true c12
          clear c12
          have H' := Aside0.mk H
          clear H
          have p375 : 0 ≤ (x7_2 : Int) := of_decide_eq_true (by first | (with_reducible assumption) | assumption)
          have q375 : x7_2 < (l0.length : Int) := of_decide_eq_true (by first | (with_reducible assumption) | assumption)
          obtain ⟨ad375, e375, hx375_0, hx375_1, hx375_2⟩ := at_T42 HR0.out x7_2 p375 q375
          cases e375
          replace hx375_0 := (HB.out.cell (World.block_lt_of_cell? w _ hx375_0)).trans hx375_0
          replace hx375_1 := (HB.out.cell (World.block_lt_of_cell? w _ hx375_1)).trans hx375_1
          replace hx375_2 := (HB.out.cell (World.block_lt_of_cell? w _ hx375_2)).trans hx375_2
          replace p375 := eq_true p375
          replace q375 := eq_true q375
          have p376 : 0 ≤ (x7_2 : Int) := of_decide_eq_true (by first | (with_reducible assumption) | assumption)
          have q376 : x7_2 < (l0.length : Int) := of_decide_eq_true (by first | (with_reducible assumption) | assumption)
          obtain ⟨ad376, e376, hx376_0, hx376_1, hx376_2⟩ := at_T42 HR0.out x7_2 p376 q376
          obtain rfl : ad375 = ad376 := (by injection e376)
          replace hx376_0 := (HB.out.cell (World.block_lt_of_cell? w _ hx376_0)).trans hx376_0
          replace hx376_1 := (HB.out.cell (World.block_lt_of_cell? w _ hx376_1)).trans hx376_1
          replace hx376_2 := (HB.out.cell (World.block_lt_of_cell? w _ hx376_2)).trans hx376_2
          replace p376 := eq_true p376
          replace q376 := eq_true q376
          go_wp2
          repeat (go_quiet (fail); try go_wp2)
          go_meet
          case rel => exact ⟨_, (decide (a1 < ((rd_T42 l0 x7_2).f1))), (by first | rfl | (simp; done) | (simp [*]; done)), H', ⟨by have := HJ2.out; have := HK2.out; first | omega | exact Nat.le_refl _⟩, ⟨by repeat (first | (with_reducible first | exact HB.out | apply below_alloc | apply pw_below_drewN | apply below_drew1) | exact HB.out)⟩⟩
         ·rw [if_neg c12] at H
          have c12b0 : decide (((rd_T42 l0 x7_2).f0) < a1) = false := decide_eq_false c12
          clear c12
          have H' := Aside0.mk H
          clear H
          have p375 : 0 ≤ (x7_2 : Int) := of_decide_eq_true (by first | (with_reducible assumption) | assumption)
          have q375 : x7_2 < (l0.length : Int) := of_decide_eq_true (by first | (with_reducible assumption) | assumption)
          obtain ⟨ad375, e375, hx375_0, hx375_1, hx375_2⟩ := at_T42 HR0.out x7_2 p375 q375
          cases e375
          replace hx375_0 := (HB.out.cell (World.block_lt_of_cell? w _ hx375_0)).trans hx375_0
          replace hx375_1 := (HB.out.cell (World.block_lt_of_cell? w _ hx375_1)).trans hx375_1
          replace hx375_2 := (HB.out.cell (World.block_lt_of_cell? w _ hx375_2)).trans hx375_2
          replace p375 := eq_true p375
          replace q375 := eq_true q375
          go_wp2
          repeat (go_quiet (fail); try go_wp2)
          go_meet
          case rel => exact ⟨_, (false), (by first | rfl | (simp; done) | (simp [*]; done)), H', ⟨by have := HJ2.out; have := HK2.out; first | omega | exact Nat.le_refl _⟩, ⟨by repeat (first | (with_reducible first | exact HB.out | apply below_alloc | apply pw_below_drewN | apply below_drew1) | exact HB.out)⟩⟩
        ·rw [if_neg c11] at H
         exact absurd H (by simp)
       case rest =>
        clear HC10
        try clear c1
        try clear p2
        try clear p3
        try clear q3
        try clear hx3
        try clear c4
        try clear c4b0
        try clear c5
        try clear c5b0
        try clear c8
        try clear c9
        try clear c9b0
        try clear c11
        try clear c11b0
        try clear c12
        try clear c12b0
        try clear hx375_0
        try clear hx375_1
        try clear hx375_2
        try clear hx376_0
        try clear hx376_1
        try clear hx376_2
        try clear p2
        try clear p375
        try clear p376
        try clear q375
        try clear q376
        obtain ⟨kq, x41_9, rfl, HA, HJ9, HB⟩ := hcut
        cases kq with
        | zero => exact absurd HA.out (by simp [monikerref1_Shift.j2])
        | succ kj9 =>
         have H := HA.out
         clear HA
         simp only [monikerref1_Shift.j2] at H
         by_cases c13 : x41_9 = true
         ·subst c13
          have H1 : (some (0, false)) = some (r1, r2) := by rw [if_pos rfl] at H; exact H
          clear H
          have H := H1
          clear H1
          simp only [Option.some.injEq, Prod.mk.injEq] at H
          obtain ⟨rfl, rfl⟩ := H
          go_wp2
          repeat (go_quiet (fail); try go_wp2)
          go_ret2
          exact ⟨by first | rfl | (simp [errW_none, errW_some] <;> rfl) | (simp [*, errW_none, errW_some] <;> rfl), by repeat (first | (with_reducible first | exact HB.out | apply below_alloc | apply pw_below_drewN | apply below_drew1) | exact HB.out)⟩
         ·replace c13 := Bool.eq_false_iff.mpr c13
          subst c13
          have H1 : (if 0 ≤ x7_2 then (if x7_2 < (l0.length : Int) then (if ((rd_T42 l0 x7_2).f1) ≤ a1 then (monikerref1_Shift.l0 kj9 l0 a1 (wrap64 (x6_2 + (wrap64 ((((rd_T42 l0 x7_2).f2).size : Int) - (wrap64 (((rd_T42 l0 x7_2).f1) - ((rd_T42 l0 x7_2).f0))))))) (wrap64 (x7_2 + 1))) else (monikerref1_Shift.l0 kj9 l0 a1 x6_2 (wrap64 (x7_2 + 1)))) else (none)) else (none)) = some (r1, r2) := by rw [if_neg (show ¬ (false = true) by decide)] at H; exact H
          clear H
          have H := H1
          clear H1
          by_cases c14 : 0 ≤ x7_2
          ·rw [if_pos c14] at H
           have c14b0 : decide (0 ≤ x7_2) = true := decide_eq_true c14
           clear c14
           by_cases c15 : x7_2 < (l0.length : Int)
           ·rw [if_pos c15] at H
            have c15b0 : decide (x7_2 < (l0.length : Int)) = true := decide_eq_true c15
            clear c15
            by_cases c16 : ((rd_T42 l0 x7_2).f1) ≤ a1
            ·rw [if_pos c16] at H
             have c16b0 : decide (((rd_T42 l0 x7_2).f1) ≤ a1) = true := decide_eq_true c16
             clear c16
             have H' := Aside0.mk H
             clear H
             have p377 : 0 ≤ (x7_2 : Int) := of_decide_eq_true (by first | (with_reducible assumption) | assumption)
             have q377 : x7_2 < (l0.length : Int) := of_decide_eq_true (by first | (with_reducible assumption) | assumption)
             obtain ⟨ad377, e377, hx377_0, hx377_1, hx377_2⟩ := at_T42 HR0.out x7_2 p377 q377
             cases e377
             replace hx377_0 := (HB.out.cell (World.block_lt_of_cell? w _ hx377_0)).trans hx377_0
             replace hx377_1 := (HB.out.cell (World.block_lt_of_cell? w _ hx377_1)).trans hx377_1
             replace hx377_2 := (HB.out.cell (World.block_lt_of_cell? w _ hx377_2)).trans hx377_2
             replace p377 := eq_true p377
             replace q377 := eq_true q377
             have p378 : 0 ≤ (x7_2 : Int) := of_decide_eq_true (by first | (with_reducible assumption) | assumption)
             have q378 : x7_2 < (l0.length : Int) := of_decide_eq_true (by first | (with_reducible assumption) | assumption)
             obtain ⟨ad378, e378, hx378_0, hx378_1, hx378_2⟩ := at_T42 HR0.out x7_2 p378 q378
             obtain rfl : ad377 = ad378 := (by injection e378)
             replace hx378_0 := (HB.out.cell (World.block_lt_of_cell? w _ hx378_0)).trans hx378_0
             replace hx378_1 := (HB.out.cell (World.block_lt_of_cell? w _ hx378_1)).trans hx378_1
             replace hx378_2 := (HB.out.cell (World.block_lt_of_cell? w _ hx378_2)).trans hx378_2
             replace p378 := eq_true p378
             replace q378 := eq_true q378
             have p379 : 0 ≤ (x7_2 : Int) := of_decide_eq_true (by first | (with_reducible assumption) | assumption)
             have q379 : x7_2 < (l0.length : Int) := of_decide_eq_true (by first | (with_reducible assumption) | assumption)
             obtain ⟨ad379, e379, hx379_0, hx379_1, hx379_2⟩ := at_T42 HR0.out x7_2 p379 q379
             obtain rfl : ad377 = ad379 := (by injection e379)
             replace hx379_0 := (HB.out.cell (World.block_lt_of_cell? w _ hx379_0)).trans hx379_0
             replace hx379_1 := (HB.out.cell (World.block_lt_of_cell? w _ hx379_1)).trans hx379_1
             replace hx379_2 := (HB.out.cell (World.block_lt_of_cell? w _ hx379_2)).trans hx379_2
             replace p379 := eq_true p379
             replace q379 := eq_true q379
             have p380 : 0 ≤ (x7_2 : Int) := of_decide_eq_true (by first | (with_reducible assumption) | assumption)
             have q380 : x7_2 < (l0.length : Int) := of_decide_eq_true (by first | (with_reducible assumption) | assumption)
             obtain ⟨ad380, e380, hx380_0, hx380_1, hx380_2⟩ := at_T42 HR0.out x7_2 p380 q380
             obtain rfl : ad377 = ad380 := (by injection e380)
             replace hx380_0 := (HB.out.cell (World.block_lt_of_cell? w _ hx380_0)).trans hx380_0
             replace hx380_1 := (HB.out.cell (World.block_lt_of_cell? w _ hx380_1)).trans hx380_1
             replace hx380_2 := (HB.out.cell (World.block_lt_of_cell? w _ hx380_2)).trans hx380_2
             replace p380 := eq_true p380
             replace q380 := eq_true q380
             go_wp2
             repeat (go_quiet (fail); try go_wp2)
             go_roundg kj9
             case measure => have := HJ2.out; have := HK2.out; have := HJ9.out; omega
             case rel => exact ⟨(wrap64 (x6_2 + (wrap64 ((((rd_T42 l0 x7_2).f2).size : Int) - (wrap64 (((rd_T42 l0 x7_2).f1) - ((rd_T42 l0 x7_2).f0))))))), (wrap64 (x7_2 + 1)), (by first | rfl | (simp; done) | (simp [*]; done)), (by first | rfl | (simp; done) | (simp [*]; done)), H', ⟨by have := HJ2.out; have := HK2.out; have := HJ9.out; omega⟩, ⟨by repeat (first | (with_reducible first | exact HB.out | apply below_alloc | apply pw_below_drewN | apply below_drew1) | exact HB.out)⟩⟩
            ·rw [if_neg c16] at H
             have c16b0 : decide (((rd_T42 l0 x7_2).f1) ≤ a1) = false := decide_eq_false c16
             clear c16
             have H' := Aside0.mk H
             clear H
             have p377 : 0 ≤ (x7_2 : Int) := of_decide_eq_true (by first | (with_reducible assumption) | assumption)
             have q377 : x7_2 < (l0.length : Int) := of_decide_eq_true (by first | (with_reducible assumption) | assumption)
             obtain ⟨ad377, e377, hx377_0, hx377_1, hx377_2⟩ := at_T42 HR0.out x7_2 p377 q377
             cases e377
             replace hx377_0 := (HB.out.cell (World.block_lt_of_cell? w _ hx377_0)).trans hx377_0
             replace hx377_1 := (HB.out.cell (World.block_lt_of_cell? w _ hx377_1)).trans hx377_1
             replace hx377_2 := (HB.out.cell (World.block_lt_of_cell? w _ hx377_2)).trans hx377_2
             replace p377 := eq_true p377
             replace q377 := eq_true q377
             go_wp2
             repeat (go_quiet (fail); try go_wp2)
             go_roundg kj9
             case measure => have := HJ2.out; have := HK2.out; have := HJ9.out; omega
             case rel => exact ⟨(x6_2), (wrap64 (x7_2 + 1)), (by first | rfl | (simp; done) | (simp [*]; done)), (by first | rfl | (simp; done) | (simp [*]; done)), H', ⟨by have := HJ2.out; have := HK2.out; have := HJ9.out; omega⟩, ⟨by repeat (first | (with_reducible first | exact HB.out | apply below_alloc | apply pw_below_drewN | apply below_drew1) | exact HB.out)⟩⟩
           ·rw [if_neg c15] at H
            exact absurd H (by simp)
          ·rw [if_neg c14] at H
           exact absurd H (by simp)
      ·rw [if_neg c9] at H
       have c9b0 : decide (x7_2 < (l0.length : Int)) = false := decide_eq_false c9
       clear c9
       simp only [Option.some.injEq, Prod.mk.injEq] at H
       obtain ⟨rfl, rfl⟩ := H
       go_wp2
       repeat (go_quiet (fail); try go_wp2)
       go_ret2
       exact ⟨by first | rfl | (simp [errW_none, errW_some] <;> rfl) | (simp [*, errW_none, errW_some] <;> rfl), by repeat (first | (with_reducible first | exact HB.out | apply below_alloc | apply pw_below_drewN | apply below_drew1) | exact HB.out)⟩
end Go.Proofs.YtaihajmdngoeiaaDoor.F
namespace Go.Proofs.YtaihajmdngoeiaaDoor.F
open Go.RowKit Go.Proofs.YtaihajmdngoeiaaDoorW.PrintWords Go.Proofs.YtaihajmdngoeiaaDoorW.PrintLast Go.Proofs.YtaihajmdngoeiaaDoorW.PrintMore
attribute [local go_sem] max2_int min2_int max_two min_two max_three min_three max_four min_four   -- for this text's walks alone
set_option linter.unusedVariables false
set_option linter.unusedSimpArgs false
/-! ### edits_Valid: function 39 -/
def edits_Valid.f (k : Nat) (a0 : Int) (l1 : List (S42)) : Option (Int) := if a0 < 0 then (some 1) else (if a0 > 4611686018427387904 then (some 1) else ((edits_valid.f k a0 l1).bind fun t334 => (some t334)))
set_option maxHeartbeats 8000000 in
set_option maxRecDepth 100000 in
theorem edits_Valid.calls (k : Nat) (a0 : Int) (A1 : Option Addr) (c1 : Nat) (l1 : List (S42)) (r : Int) (w : World) (hr1 : Kd.C k42 w A1 l1.length l1) (hc1 : l1.length ≤ c1) (h : edits_Valid.f k a0 l1 = some r) :
  Calls Tryd.prog 39 #[.int .i64 a0, .slice A1 l1.length c1] w fun e w' => e = .returned (.int .i64 r) ∧ Below w.heap.size w w' := by
 have HR1 := Aside0.mk hr1
 have HC1 := Aside0.mk hc1
 clear hr1 hc1
 have HB := Aside0.mk (Below.refl w.heap.size w)
 have H : (if a0 < 0 then (some 1) else (if a0 > 4611686018427387904 then (some 1) else ((edits_valid.f k a0 l1).bind fun t334 => (some t334)))) = some r := h
 clear h
 by_cases c3 : a0 < 0
 ·rw [if_pos c3] at H
  have c3b0 : decide (a0 < 0) = true := decide_eq_true c3
  clear c3
  obtain rfl := Option.some.inj H
  go_enter Tryd.func39, Tryd.ntmps39
  go_wp2
  go_ret
  exact ⟨by first | rfl | (simp [errW_none, errW_some] <;> rfl) | (simp [*, errW_none, errW_some] <;> rfl), by repeat (first | (with_reducible first | exact HB.out | apply below_alloc | apply pw_below_drewN | apply below_drew1) | exact HB.out)⟩
 ·rw [if_neg c3] at H
  have c3b0 : decide (a0 < 0) = false := decide_eq_false c3
  clear c3
  by_cases c4 : a0 > 4611686018427387904
  ·rw [if_pos c4] at H
   have c4b0 : decide (4611686018427387904 < a0) = true := decide_eq_true c4
   clear c4
   obtain rfl := Option.some.inj H
   go_enter Tryd.func39, Tryd.ntmps39
   go_wp2
   go_ret
   exact ⟨by first | rfl | (simp [errW_none, errW_some] <;> rfl) | (simp [*, errW_none, errW_some] <;> rfl), by repeat (first | (with_reducible first | exact HB.out | apply below_alloc | apply pw_below_drewN | apply below_drew1) | exact HB.out)⟩
  ·rw [if_neg c4] at H
   have c4b0 : decide (4611686018427387904 < a0) = false := decide_eq_false c4
   clear c4
   replace H := Option.bind_eq_some_iff.mp H
   obtain ⟨t334, A50, H⟩ := H
   replace H : (some t334) = some r := H
   have A5 := Aside0.mk A50
   clear A50
   obtain rfl := Option.some.inj H
   go_enter Tryd.func39, Tryd.ntmps39
   go_wp2_with (first | ((with_reducible refine gate_callee (f := 33) rfl ?_); refine goesL_ (some 13) rfl rfl Tryd.func33 (by kernel_rfl) rfl #[.int .i64 a0, .slice A1 l1.length c1] rfl (by (try simp only [List.map_toArray, List.map_cons, List.map_nil]); first | done | rfl | (simp only [List.length_drop, List.length_take]; rfl)) ?_; (with_reducible refine (edits_valid.calls k a0 _ _ l1 t334 _ ?side1 ?side2 A5.out).mono ?_); (case side1 => repeat (first | exact HR1.out | (with_reducible refine Kd.C_alloc ?_ _) | (with_reducible refine Kd.C_drewN ?_ _) | (with_reducible refine Kd.C_drew ?_))); (case side2 => exact HC1.out); rintro e w6 ⟨rfl, hb⟩; refine ⟨_, rfl, ?_⟩; have n0_ := Aside0.mk (below_step (by repeat (first | (with_reducible first | exact HB.out | apply below_alloc | apply pw_below_drewN | apply below_drew1) | exact HB.out)) hb); clear HB; have HB := n0_; clear n0_; (try clear hb); (try clear hb2); (try clear hk); (try clear hi)))
   go_ret
   exact ⟨by first | rfl | (simp [errW_none, errW_some] <;> rfl) | (simp [*, errW_none, errW_some] <;> rfl), by repeat (first | (with_reducible first | exact HB.out | apply below_alloc | apply pw_below_drewN | apply below_drew1) | exact HB.out)⟩
end Go.Proofs.YtaihajmdngoeiaaDoor.F
namespace Go.Proofs.YtaihajmdngoeiaaDoor.QE
open Go.RowKit Go.Proofs.YtaihajmdngoeiaaDoorW.PrintWords Go.Proofs.YtaihajmdngoeiaaDoorW.PrintLast Go.Proofs.YtaihajmdngoeiaaDoorW.PrintMore
open Go.Proofs.YtaihajmdngoeiaaDoor.F
theorem w64 {x : Int} (h0 : -9223372036854775808 ≤ x) (h1 : x ≤ 9223372036854775807) : wrap64 x = x := by unfold wrap64; omega
theorem rd_at (l : List S42) (i : Nat) (h : i < l.length) : rd_T42 l (i : Int) = l[i] := by
 simp [rd_T42, List.getD_eq_getElem?_getD, h]
def vgo (size : Int) : Option Int → List S42 → Int
 | _, [] => 0
 | p, e :: t => if e.f0 < 0 ∨ e.f1 < e.f0 ∨ e.f1 > size then 10 else match p with
  | none => vgo size (some e.f1) t
  | some q => if e.f0 ≤ q then 11 else vgo size (some e.f1) t
def vspec (size : Int) (l : List S42) : Int := if (l.length : Int) > 65536 then 2 else vgo size none l
def prev (l : List S42) (i : Nat) : Option Int := if i = 0 then none else some (rd_T42 l ((i : Int) - 1)).f1
theorem prev_zero (l : List S42) : prev l 0 = none := rfl
theorem prev_succ (l : List S42) (i : Nat) (h : i < l.length) : prev l (i + 1) = some (l[i]).f1 := by
 unfold prev
 rw [if_neg (by omega), show ((i + 1 : Nat) : Int) - 1 = (i : Int) by omega, rd_at l i h]
theorem vgo_at (size : Int) (l : List S42) (i : Nat) (h : i < l.length) (p : Option Int) : vgo size p (l.drop i) =
  if (l[i]).f0 < 0 ∨ (l[i]).f1 < (l[i]).f0 ∨ (l[i]).f1 > size then 10 else match p with
  | none => vgo size (prev l (i + 1)) (l.drop (i + 1))
  | some q => if (l[i]).f0 ≤ q then 11 else vgo size (prev l (i + 1)) (l.drop (i + 1)) := by
 rw [prev_succ l i h, List.drop_eq_getElem_cons h]
 cases p <;> simp only [vgo]
theorem vgo_end (size : Int) (l : List S42) (i : Nat) (h : ¬ i < l.length) (p : Option Int) : vgo size p (l.drop i) = 0 := by
 rw [List.drop_eq_nil_of_le (by omega)]
 cases p <;> rfl
theorem valid_loop (size : Int) (l : List S42) (hl : l.length ≤ 65536) (d : Nat) : ∀ i, i ≤ l.length → l.length - i = d →
  Ev (fun k => edits_valid.l0 k size l l (l.length : Int) (i : Int)) (vgo size (prev l i) (l.drop i)) := by
 induction d with
 | zero =>
  intro i h1 h2
  refine ⟨1, fun n hn => ?_⟩
  obtain ⟨k, rfl⟩ : ∃ m, n = m + 1 := ⟨n - 1, by omega⟩
  simp only [edits_valid.l0]
  rw [if_neg (by omega), vgo_end _ _ _ (by omega)]
 | succ d ih =>
  intro i h1 h2
  have hi : i < l.length := by omega
  obtain ⟨K, hK⟩ := ih (i + 1) (by omega) (by omega)
  refine ⟨K + 4, fun n hn => ?_⟩
  obtain ⟨k, rfl⟩ : ∃ m, n = m + 4 := ⟨n - 4, by omega⟩
  have hgo := hK (k + 1) (by omega)
  have hgo2 := hK (k + 2) (by omega)
  rw [vgo_at size l i hi]
  have hj : ∀ b : Bool, b = decide ((l[i]).f0 < 0 ∨ (l[i]).f1 < (l[i]).f0 ∨ (l[i]).f1 > size) →
    edits_valid.j1 (k + 3) size l (i : Int) l (l.length : Int) (i : Int) b (l[i]).f0 (l[i]).f1 (l[i]).f2 = some (if (l[i]).f0 < 0 ∨ (l[i]).f1 < (l[i]).f0 ∨ (l[i]).f1 > size then 10 else match prev l i with
  | none => vgo size (prev l (i + 1)) (l.drop (i + 1))
  | some q => if (l[i]).f0 ≤ q then 11 else vgo size (prev l (i + 1)) (l.drop (i + 1))) := by
   intro b hb
   simp only [edits_valid.j1]
   by_cases hbad : (l[i]).f0 < 0 ∨ (l[i]).f1 < (l[i]).f0 ∨ (l[i]).f1 > size
   ·rw [if_pos (by rw [hb]; exact decide_eq_true hbad), if_pos hbad]
   ·rw [if_neg (by rw [hb]; simpa using hbad), if_neg hbad]
    have hw1 : wrap64 ((i : Int) + 1) = ((i + 1 : Nat) : Int) := by rw [w64] <;> omega
    rcases Nat.eq_zero_or_pos i with h0 | h0
    ·subst h0
     have hm : mx (wrap64 (((0 : Nat) : Int) - 1)) 0 = 0 := by rw [w64 (by omega) (by omega)]; unfold mx; omega
     rw [hm, if_pos (by omega), if_pos (by omega), if_pos (by omega)]
     simp only [Option.bind_some, edits_valid.l1, prev_zero]
     rw [if_neg (by simp), hw1]
     exact hgo
    ·have hm : mx (wrap64 ((i : Int) - 1)) 0 = (i : Int) - 1 := by rw [w64 (by omega) (by omega)]; unfold mx; omega
     rw [hm, if_pos (by omega), if_pos (by omega), if_pos (by omega)]
     have hp : prev l i = some (rd_T42 l ((i : Int) - 1)).f1 := by unfold prev; rw [if_neg (by omega)]
     have hy : (l.take (i : Int).toNat).drop ((i : Int) - 1).toNat = [rd_T42 l ((i : Int) - 1)] := by
      obtain ⟨j, rfl⟩ : ∃ j, i = j + 1 := ⟨i - 1, by omega⟩
      rw [show (((j + 1 : Nat) : Int) - 1) = (j : Int) by omega, rd_at l j (by omega), Int.toNat_natCast, Int.toNat_natCast]
      rw [List.take_succ_eq_append_getElem (by omega), List.drop_append_of_le_length (by rw [List.length_take]; omega)]
      simp
     rw [hy, hp]
     simp only [Option.bind_some, edits_valid.l1, List.length_singleton]
     rw [if_pos (by omega), if_pos (by omega), if_pos (by omega)]
     have hz : rd_T42 [rd_T42 l ((i : Int) - 1)] 0 = rd_T42 l ((i : Int) - 1) := rfl
     rw [hz]
     by_cases hle : (l[i]).f0 ≤ (rd_T42 l ((i : Int) - 1)).f1
     ·rw [if_neg (by omega), if_pos hle]
     ·rw [if_pos (by omega), if_neg hle, hw1]
      exact hgo
  simp only [edits_valid.l0]
  rw [rd_at l i hi, if_pos (by omega), if_pos (by omega), if_pos (by omega)]
  by_cases c1 : (l[i]).f0 < 0
  ·rw [if_pos c1]; exact hj _ (by simp [c1])
  ·rw [if_neg c1]
   by_cases c2 : (l[i]).f1 < (l[i]).f0
   ·rw [if_pos c2]; exact hj _ (by simp [c2])
   ·rw [if_neg c2]; exact hj _ (by simp [c1, c2])
theorem valid_is (size : Int) (l : List S42) : Ev (fun k => edits_valid.f k size l) (vspec size l) := by
 unfold edits_valid.f vspec
 by_cases h : (l.length : Int) > 65536
 ·simp only [if_pos h]; exact Ev.now _
 ·simp only [if_neg h]
  have := valid_loop size l (by omega) l.length 0 (by omega) (by omega)
  simpa [prev_zero] using this
theorem rvalid_loop (size : Int) (l : List S42) (hl : l.length ≤ 65536) (d : Nat) : ∀ i, i ≤ l.length → l.length - i = d →
  Ev (fun k => monikerref1_valid.l0 k size l (i : Int)) (vgo size (prev l i) (l.drop i)) := by
 induction d with
 | zero =>
  intro i h1 h2
  refine ⟨1, fun n hn => ?_⟩
  obtain ⟨k, rfl⟩ : ∃ m, n = m + 1 := ⟨n - 1, by omega⟩
  simp only [monikerref1_valid.l0]
  rw [if_neg (by omega), vgo_end _ _ _ (by omega)]
 | succ d ih =>
  intro i h1 h2
  have hi : i < l.length := by omega
  obtain ⟨K, hK⟩ := ih (i + 1) (by omega) (by omega)
  refine ⟨K + 2, fun n hn => ?_⟩
  obtain ⟨k, rfl⟩ : ∃ m, n = m + 2 := ⟨n - 2, by omega⟩
  have hgo := hK k (by omega)
  rw [vgo_at size l i hi]
  have hj : ∀ b : Bool, b = decide ((l[i]).f0 < 0 ∨ (l[i]).f1 < (l[i]).f0 ∨ (l[i]).f1 > size) →
    monikerref1_valid.j1 (k + 1) size l (i : Int) b (l[i]).f0 (l[i]).f1 (l[i]).f2 = some (if (l[i]).f0 < 0 ∨ (l[i]).f1 < (l[i]).f0 ∨ (l[i]).f1 > size then 10 else match prev l i with
  | none => vgo size (prev l (i + 1)) (l.drop (i + 1))
  | some q => if (l[i]).f0 ≤ q then 11 else vgo size (prev l (i + 1)) (l.drop (i + 1))) := by
   intro b hb
   simp only [monikerref1_valid.j1]
   by_cases hbad : (l[i]).f0 < 0 ∨ (l[i]).f1 < (l[i]).f0 ∨ (l[i]).f1 > size
   ·rw [if_pos (by rw [hb]; exact decide_eq_true hbad), if_pos hbad]
   ·rw [if_neg (by rw [hb]; simpa using hbad), if_neg hbad]
    have hw1 : wrap64 ((i : Int) + 1) = ((i + 1 : Nat) : Int) := by rw [w64] <;> omega
    rcases Nat.eq_zero_or_pos i with h0 | h0
    ·subst h0
     rw [if_neg (by omega), hw1]
     exact hgo
    ·have hp : prev l i = some (rd_T42 l ((i : Int) - 1)).f1 := by unfold prev; rw [if_neg (by omega)]
     rw [if_pos (by omega), w64 (by omega) (by omega), if_pos (by omega), if_pos (by omega), hp]
     by_cases hle : (l[i]).f0 ≤ (rd_T42 l ((i : Int) - 1)).f1
     ·rw [if_pos hle]; simp only [if_pos hle]
     ·rw [if_neg hle, hw1]; simp only [if_neg hle]
      exact hgo
  simp only [monikerref1_valid.l0]
  rw [rd_at l i hi, if_pos (by omega), if_pos (by omega)]
  by_cases c1 : (l[i]).f0 < 0
  ·rw [if_pos c1]; exact hj _ (by simp [c1])
  ·rw [if_neg c1]
   by_cases c2 : (l[i]).f1 < (l[i]).f0
   ·rw [if_pos c2]; exact hj _ (by simp [c2])
   ·rw [if_neg c2]; exact hj _ (by simp [c1, c2])
theorem rvalid_is (size : Int) (l : List S42) : Ev (fun k => monikerref1_valid.f k size l) (vspec size l) := by
 unfold monikerref1_valid.f vspec
 by_cases h : (l.length : Int) > 65536
 ·simp only [if_pos h]; exact Ev.now _
 ·simp only [if_neg h]
  have := rvalid_loop size l (by omega) l.length 0 (by omega) (by omega)
  simpa [prev_zero] using this
def Vspec (size : Int) (l : List S42) : Int := if size < 0 then 1 else if size > 4611686018427387904 then 1 else vspec size l
theorem Valid_is (size : Int) (l : List S42) : Ev (fun k => edits_Valid.f k size l) (Vspec size l) := by
 unfold edits_Valid.f Vspec
 by_cases h : size < 0
 ·simp only [if_pos h]; exact Ev.now _
 ·simp only [if_neg h]
  by_cases h' : size > 4611686018427387904
  ·simp only [if_pos h']; exact Ev.now _
  ·simp only [if_neg h']
   exact (valid_is size l).bind (Ev.now _)
theorem RValid_is (size : Int) (l : List S42) : Ev (fun k => monikerref1_Valid.f k size l) (Vspec size l) := by
 unfold monikerref1_Valid.f Vspec
 by_cases h : size < 0
 ·simp only [if_pos h]; exact Ev.now _
 ·simp only [if_neg h]
  by_cases h' : size > 4611686018427387904
  ·simp only [if_pos h']; exact Ev.now _
  ·simp only [if_neg h']
   exact (rvalid_is size l).bind (Ev.now _)
end Go.Proofs.YtaihajmdngoeiaaDoor.QE
namespace Go.Proofs.YtaihajmdngoeiaaDoor.QE
open Go.RowKit Go.Proofs.YtaihajmdngoeiaaDoorW.PrintWords Go.Proofs.YtaihajmdngoeiaaDoorW.PrintLast Go.Proofs.YtaihajmdngoeiaaDoorW.PrintMore
open Go.Proofs.YtaihajmdngoeiaaDoor.F
def Chain (size : Int) : Option Int → List S42 → Prop
 | _, [] => True
 | p, e :: t => 0 ≤ e.f0 ∧ e.f0 ≤ e.f1 ∧ e.f1 ≤ size ∧ (∀ q, p = some q → q < e.f0) ∧ Chain size (some e.f1) t
theorem chain_of (size : Int) : ∀ (l : List S42) (p : Option Int), vgo size p l = 0 → Chain size p l
 | [], _, _ => trivial
 | e :: t, none, h => by
  simp only [vgo] at h
  split at h
  ·simp at h
  ·rename_i hb
   exact ⟨by omega, by omega, by omega, (fun q hq => by cases hq), chain_of size t _ h⟩
 | e :: t, some q, h => by
  simp only [vgo] at h
  split at h
  ·simp at h
  ·rename_i hb
   split at h
   ·simp at h
   ·rename_i hq
    exact ⟨by omega, by omega, by omega, (fun q2 hq2 => by cases hq2; omega), chain_of size t _ h⟩
theorem vspec_zero {size : Int} {l : List S42} (h : vspec size l = 0) : l.length ≤ 65536 ∧ Chain size none l := by
 unfold vspec at h
 split at h
 ·simp at h
 ·exact ⟨by omega, chain_of size l none h⟩
def growsOf (e : S42) : Int := wrap64 ((e.f2.size : Int) - wrap64 (e.f1 - e.f0))
theorem grows_is (e : S42) : edits_grows.f e.f0 e.f1 e.f2 = some (growsOf e) := rfl
def shGo (at_ : Int) : Int → List S42 → Int × Bool
 | n, [] => (n, true)
 | n, e :: t => if e.f1 > at_ then (if e.f0 < at_ then (0, false) else (n, true)) else shGo at_ (wrap64 (n + growsOf e)) t
def rshGo (at_ : Int) : Int → List S42 → Int × Bool
 | n, [] => (n, true)
 | n, e :: t => if e.f0 < at_ ∧ at_ < e.f1 then (0, false) else if e.f1 ≤ at_ then rshGo at_ (wrap64 (n + growsOf e)) t else rshGo at_ n t
theorem rsh_past (at_ size : Int) : ∀ (l : List S42) (n q : Int), at_ < q → Chain size (some q) l → rshGo at_ n l = (n, true)
 | [], _, _, _, _ => rfl
 | e :: t, n, q, h, ⟨h1, h2, h3, h4, h5⟩ => by
  have := h4 q rfl
  simp only [rshGo]
  rw [if_neg (by omega), if_neg (by omega)]
  exact rsh_past at_ size t n e.f1 (by omega) h5
theorem sh_eq (at_ size : Int) : ∀ (l : List S42) (n : Int) (p : Option Int), Chain size p l → shGo at_ n l = rshGo at_ n l
 | [], _, _, _ => rfl
 | e :: t, n, p, ⟨h1, h2, h3, h4, h5⟩ => by
  simp only [shGo, rshGo]
  by_cases c : e.f1 > at_
  ·rw [if_pos c]
   by_cases c' : e.f0 < at_
   ·rw [if_pos c', if_pos (by omega)]
   ·rw [if_neg c', if_neg (by omega), if_neg (by omega), rsh_past at_ size t n e.f1 (by omega) h5]
  ·rw [if_neg c, if_neg (by omega), if_pos (by omega)]
   exact sh_eq at_ size t _ _ h5
def Shspec (l : List S42) (at_ : Int) : Int × Bool := if at_ < 0 then (0, false) else if at_ > 4611686018427387904 then (0, false) else if vspec 4611686018427387904 l ≠ 0 then (0, false) else shGo at_ at_ l
theorem sh_loop (at_ : Int) (l : List S42) (hl : l.length ≤ 65536) (d : Nat) : ∀ i n, i ≤ l.length → l.length - i = d →
  Ev (fun k => edits_Shift.l0 k at_ n l (l.length : Int) (i : Int)) (shGo at_ n (l.drop i)) := by
 induction d with
 | zero =>
  intro i n h1 h2
  refine ⟨1, fun m hm => ?_⟩
  obtain ⟨k, rfl⟩ : ∃ j, m = j + 1 := ⟨m - 1, by omega⟩
  simp only [edits_Shift.l0]
  rw [if_neg (by omega), List.drop_eq_nil_of_le (by omega)]
  rfl
 | succ d ih =>
  intro i n h1 h2
  have hi : i < l.length := by omega
  obtain ⟨K, hK⟩ := ih (i + 1) (wrap64 (n + growsOf l[i])) (by omega) (by omega)
  refine ⟨K + 1, fun m hm => ?_⟩
  obtain ⟨k, rfl⟩ : ∃ j, m = j + 1 := ⟨m - 1, by omega⟩
  have hgo := hK k (by omega)
  simp only [edits_Shift.l0]
  rw [rd_at l i hi, if_pos (by omega), if_pos (by omega), if_pos (by omega), List.drop_eq_getElem_cons hi]
  simp only [shGo, grows_is, Option.bind_some]
  by_cases c : (l[i]).f1 > at_
  ·rw [if_pos c, if_pos c]
   split <;> rfl
  ·rw [if_neg c, if_neg c, show wrap64 ((i : Int) + 1) = ((i + 1 : Nat) : Int) by rw [w64] <;> omega]
   exact hgo
theorem rsh_loop (at_ : Int) (l : List S42) (hl : l.length ≤ 65536) (d : Nat) : ∀ i n, i ≤ l.length → l.length - i = d →
  Ev (fun k => monikerref1_Shift.l0 k l at_ n (i : Int)) (rshGo at_ n (l.drop i)) := by
 induction d with
 | zero =>
  intro i n h1 h2
  refine ⟨1, fun m hm => ?_⟩
  obtain ⟨k, rfl⟩ : ∃ j, m = j + 1 := ⟨m - 1, by omega⟩
  simp only [monikerref1_Shift.l0]
  rw [if_neg (by omega), List.drop_eq_nil_of_le (by omega)]
  rfl
 | succ d ih =>
  intro i n h1 h2
  have hi : i < l.length := by omega
  obtain ⟨K, hK⟩ := ih (i + 1) (wrap64 (n + growsOf l[i])) (by omega) (by omega)
  obtain ⟨K', hK'⟩ := ih (i + 1) n (by omega) (by omega)
  refine ⟨K + K' + 2, fun m hm => ?_⟩
  obtain ⟨k, rfl⟩ : ∃ j, m = j + 2 := ⟨m - 2, by omega⟩
  have hgo := hK k (by omega)
  have hgo' := hK' k (by omega)
  have hw : wrap64 ((i : Int) + 1) = ((i + 1 : Nat) : Int) := by rw [w64] <;> omega
  have hj : ∀ b : Bool, b = decide ((l[i]).f0 < at_ ∧ at_ < (l[i]).f1) → monikerref1_Shift.j2 (k + 1) l at_ n (i : Int) b = some (rshGo at_ n (l.drop i)) := by
   intro b hb
   simp only [monikerref1_Shift.j2]
   rw [List.drop_eq_getElem_cons hi, rd_at l i hi, if_pos (show 0 ≤ (i : Int) by omega), if_pos (show (i : Int) < (l.length : Int) by omega), hw]
   simp only [rshGo]
   by_cases c : (l[i]).f0 < at_ ∧ at_ < (l[i]).f1
   ·rw [if_pos (by rw [hb]; exact decide_eq_true c), if_pos c]
   ·rw [if_neg (by rw [hb]; simpa using c), if_neg c]
    by_cases c' : (l[i]).f1 ≤ at_
    ·rw [if_pos c', if_pos c']; exact hgo
    ·rw [if_neg c', if_neg c']; exact hgo'
  simp only [monikerref1_Shift.l0]
  rw [rd_at l i hi, if_pos (by omega), if_pos (by omega)]
  by_cases c : (l[i]).f0 < at_
  ·rw [if_pos c]; exact hj _ (by simp [c])
  ·rw [if_neg c]; exact hj _ (by simp [c])
theorem Shift_is (l : List S42) (at_ : Int) : Ev (fun k => edits_Shift.f k l at_) (Shspec l at_) := by
 unfold edits_Shift.f Shspec
 have hbad : Ev (fun k => edits_Shift.j0 k l at_ true) (0, false) := ⟨1, fun m hm => by
  obtain ⟨k, rfl⟩ : ∃ j, m = j + 1 := ⟨m - 1, by omega⟩
  simp only [edits_Shift.j0]; rfl⟩
 by_cases h : at_ < 0
 ·simp only [if_pos h]; exact hbad
 ·simp only [if_neg h]
  by_cases h' : at_ > 4611686018427387904
  ·simp only [if_pos h']; exact hbad
  ·simp only [if_neg h']
   refine (valid_is _ l).bind ?_
   by_cases hv : vspec 4611686018427387904 l = 0
   ·rw [if_neg (by simpa using hv)]
    have hl := (vspec_zero hv).1
    obtain ⟨K, hK⟩ := sh_loop at_ l hl l.length 0 at_ (by omega) (by omega)
    refine ⟨K + 1, fun m hm => ?_⟩
    obtain ⟨k, rfl⟩ : ∃ j, m = j + 1 := ⟨m - 1, by omega⟩
    simp only [edits_Shift.j0]
    rw [if_neg (by simp [hv])]
    exact hK k (by omega)
   ·rw [if_pos hv, show (vspec 4611686018427387904 l != 0) = true by simpa using hv]
    exact hbad
theorem RShift_is (l : List S42) (at_ : Int) : Ev (fun k => monikerref1_Shift.f k l at_) (Shspec l at_) := by
 unfold monikerref1_Shift.f Shspec
 have hbad : Ev (fun k => monikerref1_Shift.j0 k l at_ true) (0, false) := ⟨1, fun m hm => by
  obtain ⟨k, rfl⟩ : ∃ j, m = j + 1 := ⟨m - 1, by omega⟩
  simp only [monikerref1_Shift.j0]; rfl⟩
 by_cases h : at_ < 0
 ·simp only [if_pos h]; exact hbad
 ·simp only [if_neg h]
  by_cases h' : at_ > 4611686018427387904
  ·simp only [if_pos h']; exact hbad
  ·simp only [if_neg h']
   refine (rvalid_is _ l).bind ?_
   by_cases hv : vspec 4611686018427387904 l = 0
   ·rw [if_neg (by simpa using hv)]
    obtain ⟨hl, hc⟩ := vspec_zero hv
    rw [sh_eq at_ _ l at_ none hc]
    obtain ⟨K, hK⟩ := rsh_loop at_ l hl l.length 0 at_ (by omega) (by omega)
    refine ⟨K + 1, fun m hm => ?_⟩
    obtain ⟨k, rfl⟩ : ∃ j, m = j + 1 := ⟨m - 1, by omega⟩
    simp only [monikerref1_Shift.j0]
    rw [if_neg (by simp [hv])]
    exact hK k (by omega)
   ·rw [if_pos hv, show (vspec 4611686018427387904 l != 0) = true by simpa using hv]
    exact hbad
end Go.Proofs.YtaihajmdngoeiaaDoor.QE
namespace Go.Proofs.YtaihajmdngoeiaaDoor.F
open Go.RowKit Go.Proofs.YtaihajmdngoeiaaDoorW.PrintWords Go.Proofs.YtaihajmdngoeiaaDoorW.PrintLast Go.Proofs.YtaihajmdngoeiaaDoorW.PrintMore
set_option linter.unusedVariables false
set_option linter.unusedSimpArgs false
theorem info92 : (Tryd.prog.info? 92).map (fun i => (i.zero, i.size, i.bytes)) = some (some (.agg #[(.int .i64 0), (.int .i64 0), (.int .i64 0), (.string ⟨#[]⟩)]), 4, 40) := by kernel_rfl
theorem info5' : (Tryd.prog.info? 5).map (fun i => (i.zero, i.size, i.bytes)) = some (some (.int .u8 0), 1, 1) := by kernel_rfl
/-! #### struct type 67 -/
structure S92 where
 f0 : Int
 f1 : Int
 f2 : Int
 f3 : ByteArray
def z92 : S92 := ⟨(0 : Int), (0 : Int), (0 : Int), (⟨#[]⟩ : ByteArray)⟩
def k92 : Kd S92 := Kd.iso (Kd.pair (Kd.int .i64) (Kd.pair (Kd.int .i64) (Kd.pair (Kd.int .i64) Kd.string))) (fun x : S92 => (x.f0, x.f1, x.f2, x.f3))
theorem k92_open {w : World} {x : S92} {cs : List Value} (h : k92.K w x cs) : cs = [.int .i64 x.f0, .int .i64 x.f1, .int .i64 x.f2, .string x.f3] := by
 obtain ⟨_, _, rfl, rfl, ⟨_, _, rfl, rfl, ⟨_, _, rfl, rfl, rfl⟩⟩⟩ := h
 exact rfl
theorem k92_mkM (w : World) (base : Nat) (ok : Nat → Prop) (x : S92)  : k92.M w base ok x [.int .i64 x.f0, .int .i64 x.f1, .int .i64 x.f2, .string x.f3] := ⟨[.int .i64 x.f0], [.int .i64 x.f1, .int .i64 x.f2, .string x.f3], rfl, rfl, ⟨[.int .i64 x.f1], [.int .i64 x.f2, .string x.f3], rfl, rfl, ⟨[.int .i64 x.f2], [.string x.f3], rfl, rfl, rfl⟩⟩⟩
def rd_T92 (xs : List S92) (i : Int) : S92 := xs.getD i.toNat z92
theorem at_T92 {w : World} {A : Option Addr} {n : Nat} {xs : List S92} (h : Kd.C k92 w A n xs) (i : Int) (h0 : 0 ≤ i) (h1 : i < n) : ∃ ad , A = some ad ∧ w.cell? (ad.add (i.toNat * 4)) = some (.int .i64 (rd_T92 xs i).f0) ∧ w.cell? ⟨(ad.add (i.toNat * 4)).block, (ad.add (i.toNat * 4)).off + 1, none⟩ = some (.int .i64 (rd_T92 xs i).f1) ∧ w.cell? ⟨(ad.add (i.toNat * 4)).block, (ad.add (i.toNat * 4)).off + 2, none⟩ = some (.int .i64 (rd_T92 xs i).f2) ∧ w.cell? ⟨(ad.add (i.toNat * 4)).block, (ad.add (i.toNat * 4)).off + 3, none⟩ = some (.string (rd_T92 xs i).f3) := by
 obtain ⟨ad, c, e, _, hK, hc0⟩ := Kd.C_get h z92 i h0 h1
 have hc : ∀ j u, c[j]? = some u → w.cell? (ad.add (i.toNat * 4 + j)) = some u := hc0
 obtain rfl := k92_open hK
 exact ⟨ad, e, hc 0 _ rfl, by rw [← add_field _ _ 1 (by omega)]; exact hc 1 _ rfl, by rw [← add_field _ _ 2 (by omega)]; exact hc 2 _ rfl, by rw [← add_field _ _ 3 (by omega)]; exact hc 3 _ rfl⟩
theorem ints_reps5 {R : Int → List Value → Prop} (hR : ∀ x cs, R x cs ↔ cs = [.int .u8 x]) : ∀ (l : List Int), Reps R 1 l (l.map (Value.int .u8)) := by
 intro l
 induction l with
 | nil => exact Reps.none _ _
 | cons c l ih => exact Reps.one ((hR _ _).2 rfl) ih
section
variable {P : Program} (w : World)
theorem append_str_at (base : Nat) (t u ty e : TypeId) (i : TypeInfo) (ht : P.underlying t = some (.slice e)) (hu : P.underlying u = some .string) (hi : P.info? e = some i) (hz : i.zero = some (.int .u8 0))
  (hsize : i.size = 1) (hby : i.bytes = 1)
  (v : Value) (n : Nat) (xs : List Value) (hown : w.ownsRow base e 1 v n xs) (s : ByteArray)
  (h63 : n + s.size ≤ maxLen) (hbytes : n + s.size ≤ 140737488355328) (v' : Value) (w' : World) (hr : (Builtin.append_ #[t, u] ty #[v, .string s]).run P w = .ok v' w') :
  v'.ownBlock = v.ownBlock ∨ ∃ b, v'.ownBlock = some b ∧ w.heap.size ≤ b := by
 have hsmall : n + s.size ≤ 9223372036854775807 := by simp only [maxLen] at h63; omega
 have hxl : xs.length = n := by simpa using hown.1
 rcases hown.2 with ⟨rfl, rfl⟩ | ⟨g, cap, cur, rfl, hbg, hg, hnc, hcm, hcs, htake⟩
 ·have hx : xs = [] := List.eq_nil_of_length_eq_zero hxl
  subst hx
  by_cases hm : s.size = 0
  ·have hn : Lib.strCells s = [] := List.eq_nil_of_length_eq_zero (by rw [Lib.strCells_length]; exact hm)
   have hf := Lib.run_firstCells_string (P := P) w 1 s
   rw [hm] at hf
   simp [Builtin.append_, run_underlying ht, run_underlying hu, sizeOf, typeInfo, hi, hsize, Builtin.lenOf, hm, hf] at hr
   exact .inl (by rw [← hr.1])
  ·have hr2 := run_append_nil_string (P := P) w t u ty e i (.int .u8 0) ht hu hi hz s (by omega) (by omega) (by rw [hby]; omega)
   rw [hr2] at hr
   simp only [Result.ok.injEq] at hr
   exact .inr ⟨w.heap.size, by rw [← hr.1]; rfl, Nat.le_refl _⟩
 ·by_cases hroom : n + s.size ≤ cap
  ·have hcs' : cur.size = cap := by simpa using hcs
   have hr2 := Lib.run_append_room_string (P := P) w t u ty e i ht hu hi hsize g n cap cur hg s hroom (by omega)
   rw [hr2] at hr
   simp only [Result.ok.injEq] at hr
   exact .inl (by rw [← hr.1]; rfl)
  ·have holds : ∀ j u, xs[j]? = some u → w.cell? ((⟨g, 0, none⟩ : Addr).add j) = some u := hown.cells (g := g) rfl
   have hr2 := Lib.run_append_grow_string (P := P) w t u ty e i (.int .u8 0) ht hu hi hz ⟨g, 0, none⟩ n cap xs (by rw [hsize]; simpa using hxl) holds s (by omega) (by omega) (by rw [hby]; exact growslice_fits (by omega) (by omega))
   rw [hr2] at hr
   simp only [Result.ok.injEq] at hr
   exact .inr ⟨w.heap.size, by rw [← hr.1]; rfl, Nat.le_refl _⟩
end
section
variable {P : Program} {ops : Array Oper} {o : Oper} {a : Act} {Q : Exit → Act → World → Prop} {K : Act → World → Prop} {rest : List Oper}
theorem str_run {w0 W : World} (base : Nat) (t u e ty : TypeId)
  (ht : P.underlying t = some (.slice e)) (hu : P.underlying u = some .string) (hinfo : (P.info? e).map (fun i => (i.zero, i.size, i.bytes)) = some (some (.int .u8 0), 1, 1))
  (v : Value) (xs : List Int) (y : ByteArray) (ok : Nat → Prop) (hfresh : ∀ k, W.heap.size ≤ k → ok k)
  (HO : Kd.R (Kd.int .u8) e W base ok v xs) (HB : Below base w0 W) (hbase : base ≤ W.heap.size) (hl : xs.length + y.size ≤ 140737488355328) :
  ∃ v1 w1, (Builtin.append_ #[t, u] ty #[v, .string y]).run P W = .ok v1 w1 ∧ Kd.R (Kd.int .u8) e w1 base ok v1 (xs ++ bytesOf y) ∧ Below base w0 w1 ∧ W.grownBy w1 v.ownBlock ∧ (v1.ownBlock = v.ownBlock ∨ ∃ b, v1.ownBlock = some b ∧ W.heap.size ≤ b) := by
 obtain ⟨i0, hi, hzz⟩ := Option.map_eq_some_iff.1 hinfo
 simp only [Prod.mk.injEq] at hzz
 obtain ⟨hz0, hz1, hz2⟩ := hzz
 have HW := Kd.own_of_R HO
 obtain ⟨v', w', hr, h2, h3, h4⟩ := Lib.run_append_own_string (P := P) W base t u ty e i0 ht hu hi hz0 hz1 hz2 v xs.length (nums .u8 xs) HW y (by simp only [maxLen]; omega) hl hbase
 have hat := append_str_at (P := P) W base t u ty e i0 ht hu hi hz0 hz1 hz2 v xs.length (nums .u8 xs) HW y (by simp only [maxLen]; omega) hl v' w' hr
 have hl2 : (xs ++ bytesOf y).length = xs.length + y.size := by rw [List.length_append, bytesOf_length]
 have hc : nums .u8 (xs ++ bytesOf y) = nums .u8 xs ++ Lib.strCells y := by
  rw [nums_append]
  congr 1
  simp [nums, bytesOf, Lib.strCells]
 refine ⟨v', w', hr, ⟨fun k hk => ?_, _, by rw [hl2]; exact h2, ?_⟩, HB.grown h3 hbase (own_base HW), h3, hat⟩
 ·rcases hat with hat | ⟨b, hb, hle⟩
  ·exact HO.1 k (by rw [← hat]; exact hk)
  ·rw [hb] at hk
   injection hk with hk
   exact hfresh k (by omega)
 ·rw [← hc]
  exact ints_reps5 (fun x cs => Iff.rfl) _
theorem str_append {w0 W : World} (base : Nat) (hgd : o.guard = none) (s x : Operand) (t u e : TypeId)
  (ho : o.op = .call { callee := .builtin .append, args := #[s, x], argTypes := #[t, u] })
  (ht : P.underlying t = some (.slice e)) (hu : P.underlying u = some .string) (hinfo : (P.info? e).map (fun i => (i.zero, i.size, i.bytes)) = some (some (.int .u8 0), 1, 1))
  (v : Value) (xs : List Int) (y : ByteArray) (ok : Nat → Prop) (hfresh : ∀ k, W.heap.size ≤ k → ok k) (hs : a.eval s = v) (hx : a.eval x = .string y)
  (HO : Kd.R (Kd.int .u8) e W base ok v xs) (HB : Below base w0 W) (hbase : base ≤ W.heap.size) (hl : xs.length + y.size ≤ 140737488355328)
  (h : ∀ v1 w1, Kd.R (Kd.int .u8) e w1 base ok v1 (xs ++ bytesOf y) → Below base w0 w1 → W.grownBy w1 v.ownBlock → (v1.ownBlock = v.ownBlock ∨ ∃ b, v1.ownBlock = some b ∧ W.heap.size ≤ b) → wpList P ops Q rest (a.put o.dst v1) w1) :
  wpList P ops Q (o :: rest) a W := by
 obtain ⟨v1, w1, hr, h1, h2, h3, h4⟩ := str_run (P := P) (w0 := w0) base t u e o.type ht hu hinfo v xs y ok hfresh HO HB hbase hl
 have := h v1 w1 h1 h2 h3 h4
 refine wpList_plain hgd fun K hK => ?_
 unfold Oper.wp execOp
 simp only [ho, resolve, invoke, builtin, Sem.run_bind, Sem.run_pure, Result.andThen_ok, List.map_toArray, List.map_cons, List.map_nil, hs, hx, hr]
 exact hK _ _ this
theorem str_append_step {w0 W : World} (base : Nat) (hw : Region.wanted o (yielded ops a.tmps) = true) (s x : Operand) (t u e : TypeId)
  (ho : o.op = .call { callee := .builtin .append, args := #[s, x], argTypes := #[t, u] })
  (ht : P.underlying t = some (.slice e)) (hu : P.underlying u = some .string) (hinfo : (P.info? e).map (fun i => (i.zero, i.size, i.bytes)) = some (some (.int .u8 0), 1, 1))
  (v : Value) (xs : List Int) (y : ByteArray) (ok : Nat → Prop) (hfresh : ∀ k, W.heap.size ≤ k → ok k) (hs : a.eval s = v) (hx : a.eval x = .string y)
  (HO : Kd.R (Kd.int .u8) e W base ok v xs) (HB : Below base w0 W) (hbase : base ≤ W.heap.size) (hl : xs.length + y.size ≤ 140737488355328)
  (h : ∀ v1 w1, Kd.R (Kd.int .u8) e w1 base ok v1 (xs ++ bytesOf y) → Below base w0 w1 → W.grownBy w1 v.ownBlock → (v1.ownBlock = v.ownBlock ∨ ∃ b, v1.ownBlock = some b ∧ W.heap.size ≤ b) → K (a.put o.dst v1) w1) :
  if Region.wanted o (yielded ops a.tmps) = true then Oper.wp P o a W K Q else K (a.put o.dst undef) W := by
 rw [if_pos hw]
 obtain ⟨v1, w1, hr, h1, h2, h3, h4⟩ := str_run (P := P) (w0 := w0) base t u e o.type ht hu hinfo v xs y ok hfresh HO HB hbase hl
 unfold Oper.wp execOp
 simp only [ho, resolve, invoke, builtin, Sem.run_bind, Sem.run_pure, Result.andThen_ok, List.map_toArray, List.map_cons, List.map_nil, hs, hx, hr]
 exact h v1 w1 h1 h2 h3 h4
end
end Go.Proofs.YtaihajmdngoeiaaDoor.F
namespace Go.Proofs.YtaihajmdngoeiaaDoor.F
open Go.RowKit Go.Proofs.YtaihajmdngoeiaaDoorW.PrintWords Go.Proofs.YtaihajmdngoeiaaDoorW.PrintLast Go.Proofs.YtaihajmdngoeiaaDoorW.PrintMore
open Go.Proofs.YtaihajmdngoeiaaDoor.QE
attribute [local go_sem] max2_int min2_int max_two min_two
set_option linter.unusedVariables false
set_option linter.unusedSimpArgs false
def mxx (a b : Int) : Int := if a < b then b else a
def mnn (a b : Int) : Int := if b < a then b else a
def putOne (p : S92) (a b : Int) : ByteArray := if mxx a p.f0 < mnn b (p.f0 + p.f3.size) then p.f3.extract (mxx a p.f0 - p.f0).toNat (mnn b (p.f0 + p.f3.size) - p.f0).toNat else ⟨#[]⟩
def putG : List S92 → Int → Int → List Int
 | [], _, _ => []
 | p :: t, a, b => bytesOf (putOne p a b) ++ putG t a b
structure PW (w0 w wr : World) (gF gO : Nat) (v vr : Value) (out : List Int) : Prop where
 hb : wr.heap[gO]? = some (.cells #[vr] 59 (0, 0))
 hr : Kd.R (Kd.int .u8) 5 wr w0.heap.size (fun k => k ≠ gF ∧ k ≠ gO) vr out
 hat : vr.ownBlock = v.ownBlock ∨ ∃ b, vr.ownBlock = some b ∧ w.heap.size ≤ b
 fr : ∀ k, k < w.heap.size → k ≠ gO → some k ≠ v.ownBlock → wr.heap[k]? = w.heap[k]?
 sz : w.heap.size ≤ wr.heap.size
 be : Below w0.heap.size w0 wr
def put1.T5 : Bool × List (List Nat × List Nat) := (true, [([], []), ([], []), ([1], [1]), ([2], [2]), ([], []), ([], []), ([5], [5]), ([4, 6], [4, 6]), ([], []), ([], []), ([9], [9]), ([8, 10], [8, 10]), ([3, 7, 11], [3, 7, 11]), ([0, 12], [0, 12]), ([13, 13, 0, 1, 2, 3, 4, 5, 6, 7, 8, 9, 10, 11, 12, 13], [13])])
def put1.B5 : List Nat := [0, 0, 2, 6, 0, 0, 32, 112, 0, 0, 512, 1792, 4094, 8191, 16383]
theorem put1.tab5 : rtab .any (opsOf Tryd.f68 5) = put1.T5 := by kernel_rfl
theorem put1.bits5 : waitsOk put1.T5.2 put1.B5 = true := by kernel_rfl
set_option maxRecDepth 100000 in
set_option maxHeartbeats 20000000 in
theorem put1.calls (first : List S92) (A : Option Addr) (c : Nat) (a b : Int) (gF gO : Nat) (v : Value) (out : List Int) (w0 w : World)
  (hF : w.heap[gF]? = some (.cells #[.slice A first.length c] 90 (0, 0))) (hC : Kd.C k92 w0 A first.length first) (hO : w.heap[gO]? = some (.cells #[v] 59 (0, 0)))
  (hR : Kd.R (Kd.int .u8) 5 w w0.heap.size (fun k => k ≠ gF ∧ k ≠ gO) v out) (hW : Below w0.heap.size w0 w) (hgO : w0.heap.size ≤ gO) (hgF : w0.heap.size ≤ gF) (hne : gF ≠ gO)
  (hp : ∀ p ∈ first, 0 ≤ p.f0 ∧ p.f0 ≤ 5000000000000000000 ∧ p.f3.size ≤ 1048576) (ha : 0 ≤ a ∧ a ≤ 5000000000000000000) (hb : 0 ≤ b ∧ b ≤ 5000000000000000000)
  (hl : out.length + (putG first a b).length ≤ 140737488355328) (hfl : first.length ≤ 1000000000) :
  Calls Tryd.prog 68 #[.int .i64 a, .int .i64 b, .pointer (some ⟨gF, 0, none⟩), .pointer (some ⟨gO, 0, none⟩)] w fun e w' => (∃ x, e = .returned x) ∧ ∃ v', PW w0 w w' gF gO v v' (out ++ putG first a b) := by
 have hu90 := Tryd.underlying90
 have hu92 := Tryd.underlying92
 have hcF : w.cell? ⟨gF, 0, none⟩ = some (.slice A first.length c) := (blk_cell hF 0).trans rfl
 have P0 : PW w0 w w gF gO v v out := ⟨hO, hR, .inl rfl, fun _ _ _ _ => rfl, Nat.le_refl _, hW⟩
 have HF := Aside0.mk hF
 have HC := Aside0.mk hC
 have HP := Aside0.mk P0
 have HG := Aside0.mk hgO
 have HGF := Aside0.mk hgF
 have HN := Aside0.mk hne
 have HPP := Aside0.mk hp
 have HA := Aside0.mk ha
 have HB := Aside0.mk hb
 have HL := Aside0.mk hl
 have HFL := Aside0.mk hfl
 have HNF := Aside0.mk (show some gF ≠ v.ownBlock from fun e => (hR.1 _ e.symm).1 rfl)
 clear hF hC hO hR hW hgO hgF hne hp ha hb hl hfl P0
 go_enter Tryd.func68, Tryd.ntmps68
 go_wp2
 go_loopg [12] first.length (fun kq v12 w' => ∃ (i : Nat) (o : List Int) (vr : Value), v12 = .int .i64 (i : Int) ∧ Aside0 (i + kq = first.length) ∧ Aside0 (PW w0 w w' gF gO v vr o) ∧ Aside0 (o ++ putG (first.drop i) a b = out ++ putG first a b))
 case atStart => exact ⟨0, out, v, rfl, ⟨by omega⟩, HP, ⟨by simp⟩⟩
 case round =>
  clear HP hcF
  obtain ⟨i, o, vr, rfl, HI, HQ, HS⟩ := hrel
  by_cases hi : i < first.length
  ·have d1 : decide ((i : Int) < (first.length : Int)) = true := decide_eq_true (by omega)
   obtain ⟨ad, e9, hx0, hx1, hx2, hx3⟩ := at_T92 (Kd.C_below HC.out HQ.out.be) (i : Int) (by omega) (by omega)
   have HII := Aside0.mk hi
   have p9 : (0 ≤ (i : Int)) = True := eq_true (by omega)
   have q9 : ((i : Int) < (first.length : Int)) = True := eq_true (by omega)
   have q8 : (i < first.length) = True := eq_true hi
   clear hi
   subst e9
   obtain ⟨p, hpd⟩ : ∃ p, rd_T92 first (i : Int) = p := ⟨_, rfl⟩
   rw [hpd] at hx0 hx1 hx2 hx3
   simp only [Int.toNat_natCast] at hx0 hx1 hx2 hx3
   have HPD := Aside0.mk hpd
   clear hpd
   go_upto_region 3 with (fail)
   go_quiet (fail)
   go_upto_region 4 with (fail)
   have hmem : p ∈ first := by
    have e := HPD.out
    unfold rd_T92 at e
    rw [Int.toNat_natCast, List.getD_eq_getElem?_getD, List.getElem?_eq_getElem HII.out] at e
    rw [← e]
    exact List.getElem_mem _
   obtain ⟨hp0, hp1, hp2⟩ := HPP.out p hmem
   have hw : wrap64 (p.f0 + (p.f3.size : Int)) = p.f0 + (p.f3.size : Int) := by rw [w64] <;> omega
   rw [hw]
   have hdrop : putG (first.drop i) a b = bytesOf (putOne p a b) ++ putG (first.drop (i + 1)) a b := by
    rw [List.drop_eq_getElem_cons HII.out]
    have e := HPD.out
    unfold rd_T92 at e
    rw [Int.toNat_natCast, List.getD_eq_getElem?_getD, List.getElem?_eq_getElem HII.out] at e
    have e2 : first[i]'HII.out = p := e
    rw [e2]
    rfl
   have hS := HS.out
   rw [hdrop] at hS
   obtain ⟨x, hx⟩ : ∃ x, (if a < p.f0 then p.f0 else a) = x := ⟨_, rfl⟩
   obtain ⟨y, hy⟩ : ∃ y, (if p.f0 + (p.f3.size : Int) < b then p.f0 + (p.f3.size : Int) else b) = y := ⟨_, rfl⟩
   have hone : putOne p a b = if x < y then p.f3.extract (x - p.f0).toNat (y - p.f0).toNat else ⟨#[]⟩ := by rw [← hx, ← hy]; rfl
   have hxr : p.f0 ≤ x ∧ x ≤ 5000000000000000000 := by have := HA.out; rw [← hx]; split <;> omega
   have hyr : y ≤ p.f0 + p.f3.size := by rw [← hy]; split <;> omega
   rw [hx, hy]
   have HX := Aside0.mk hxr
   have HY := Aside0.mk hyr
   have HP3 := Aside0.mk (show 0 ≤ p.f0 ∧ p.f0 ≤ 5000000000000000000 ∧ p.f3.size ≤ 1048576 from ⟨hp0, hp1, hp2⟩)
   have HON := Aside0.mk hone
   have HSS := Aside0.mk hS
   clear hw hdrop hS hx hy hone hxr hyr hp0 hp1 hp2 hmem hx0 hx1 hx2 hx3 p9 q9 q8 d1
   obtain ⟨Av, cv, ev⟩ := Kd.R_slice HQ.out.hr
   subst ev
   have hgOl := blk_lt HQ.out.hb
   have hgFl : gF < wr.heap.size := Nat.lt_of_lt_of_le (blk_lt HF.out) HQ.out.sz
   obtain ⟨gE, hgE⟩ : ∃ g, wr.heap.size = g := ⟨_, rfl⟩
   generalize hW1 : (wr.alloc (Obj.cells #[Value.int IntKind.i64 p.f0, Value.int IntKind.i64 p.f1, Value.int IntKind.i64 p.f2, Value.string p.f3] 92)).drewN _ = W1
   have hBO : W1.heap[gO]? = some (.cells #[.slice Av o.length cv] 59 (0, 0)) := by rw [← hW1]; exact blk_drewN (blk_alloc HQ.out.hb _) _
   have hBE : W1.heap[gE]? = some (.cells #[Value.int IntKind.i64 p.f0, Value.int IntKind.i64 p.f1, Value.int IntKind.i64 p.f2, Value.string p.f3] 92 (0, 0)) := by rw [← hW1, ← hgE]; exact blk_drewN (blk_new _ _) _
   have hR1 : Kd.R (Kd.int .u8) 5 W1 w0.heap.size (fun k => k ≠ gF ∧ k ≠ gO) (.slice Av o.length cv) o := by rw [← hW1]; exact Kd.R_drewN (Kd.R_alloc HQ.out.hr _) _
   have hB1 : Below w0.heap.size w0 W1 := by rw [← hW1]; exact pw_below_drewN (below_alloc HQ.out.be _) _
   have hO1 : ∀ k, k < wr.heap.size → W1.heap[k]? = wr.heap[k]? := fun k hk => by rw [← hW1]; exact Below.heap_alloc _ _ _ hk
   have hsz : wr.heap.size ≤ W1.heap.size := by rw [← hW1]; exact Nat.le_trans (Nat.le_succ _) (by simp [World.drewN])
   rw [hgE]
   have m0 : W1.cell? ⟨gO, 0, none⟩ = some (.slice Av o.length cv) := (blk_cell hBO 0).trans rfl
   have m1 : W1.cell? ⟨gE, 0, none⟩ = some (.int .i64 p.f0) := (blk_cell hBE 0).trans rfl
   have m2 : W1.cell? ⟨gE, 3, none⟩ = some (.string p.f3) := (blk_cell hBE 3).trans rfl
   have BO := Aside0.mk hBO
   have HR1 := Aside0.mk hR1
   have HB1 := Aside0.mk hB1
   have HO1 := Aside0.mk hO1
   have HSZ := Aside0.mk hsz
   have HGE := Aside0.mk hgE
   have HLF := Aside0.mk (show gF < W1.heap.size from Nat.lt_of_lt_of_le hgFl hsz)
   have HLO := Aside0.mk (show gO < W1.heap.size from Nat.lt_of_lt_of_le hgOl hsz)
   clear hBO hBE hR1 hB1 hO1 hsz hgE hgOl hgFl hW1
   by_cases hxy : x < y
   ·have d1 : decide (x < y) = true := decide_eq_true hxy
    have HXY := Aside0.mk hxy
    obtain ⟨u, hu⟩ : ∃ u, x - p.f0 = u := ⟨_, rfl⟩
    obtain ⟨z, hz⟩ : ∃ z, y - p.f0 = z := ⟨_, rfl⟩
    have hw1 : wrap64 (x - p.f0) = u := by have := HX.out; have := HP3.out; rw [w64, hu] <;> omega
    have hw2 : wrap64 (y - p.f0) = z := by have := HX.out; have := HY.out; have := HP3.out; rw [w64, hz] <;> omega
    have s1 : (0 ≤ u) = True := eq_true (by have := HX.out; omega)
    have s2 : (u ≤ z) = True := eq_true (by omega)
    have s3 : (z ≤ (p.f3.size : Int)) = True := eq_true (by have := HY.out; omega)
    have s4 : (0 ≤ z) = True := eq_true (by have := HX.out; omega)
    have t1 : decide (0 ≤ u) = true := decide_eq_true (by have := HX.out; omega)
    have t2 : decide (u ≤ z) = true := decide_eq_true (by omega)
    have t3 : decide (z ≤ (p.f3.size : Int)) = true := decide_eq_true (by have := HY.out; omega)
    have ht : putOne p a b = p.f3.extract u.toNat z.toNat := by rw [HON.out, if_pos hxy, hu, hz]
    have hlx : o.length + (p.f3.extract u.toNat z.toNat).size ≤ 140737488355328 := by
     have h1 := congrArg List.length HSS.out
     have h2 := HL.out
     rw [ht] at h1
     simp only [List.length_append, bytesOf_length] at h1
     omega
    have HLX := Aside0.mk hlx
    have HT := Aside0.mk ht
    clear hxy hlx ht hu hz
    go_upto_region 5 with (fail)
    refine start_ (n := 15) (S := fun w' => Below W1.heap.size W1 w') (ds := [13, 14]) #[false, false, false, false, false, false, false, false, false, false, false, false, false, false, false] (by kernel_rfl) rfl rfl (below_drew1 (Below.refl _ _)) (fun hHeld => ?_)
    refine with_tabW put1.tab5 put1.bits5 (fun HT_ HW_ => ?_)
    generalize W1.drew = wa at hHeld ⊢
    refine pure_ (i := 1) (N := some 33) (v := ?_) (a' := ?_) #[false, true, false, false, false, false, false, false, false, false, false, false, false, false, false] rfl rfl (any_of HT_.out (by kernel_rfl)) (fun _ _ _ h => h) (Or.inl ⟨by rfl, ?_⟩) ?_ ?_
    rotate_left
    ·intro w'
     go_simp
     with_reducible rfl
    rotate_left
    ·simp only [Act.put, List.setIfInBounds_toArray, List.set_cons_zero, List.set_cons_succ, i64_w, i32_w]
     rfl
    refine pure_ (i := 2) (N := some 34) (v := ?_) (a' := ?_) #[false, true, true, false, false, false, false, false, false, false, false, false, false, false, false] rfl rfl (any_of HT_.out (by kernel_rfl)) (fun _ _ _ h => h) (Or.inl ⟨by rfl, ?_⟩) ?_ ?_
    rotate_left
    ·intro w'
     go_simp
     with_reducible rfl
    rotate_left
    ·simp only [Act.put, List.setIfInBounds_toArray, List.set_cons_zero, List.set_cons_succ, i64_w, i32_w]
     rfl
    refine pure_ (i := 4) (N := some 36) (v := ?_) (a' := ?_) #[false, true, true, false, true, false, false, false, false, false, false, false, false, false, false] rfl rfl (any_of HT_.out (by kernel_rfl)) (fun _ _ _ h => h) (Or.inl ⟨by rfl, ?_⟩) ?_ ?_
    rotate_left
    ·intro w'
     go_simp
     with_reducible rfl
    rotate_left
    ·simp only [Act.put, List.setIfInBounds_toArray, List.set_cons_zero, List.set_cons_succ, i64_w, i32_w]
     rfl
    refine pure_ (i := 5) (N := some 37) (v := ?_) (a' := ?_) #[false, true, true, false, true, true, false, false, false, false, false, false, false, false, false] rfl rfl (any_of HT_.out (by kernel_rfl)) (fun _ _ _ h => h) (Or.inl ⟨by rfl, ?_⟩) ?_ ?_
    rotate_left
    ·intro w'
     go_simp
     with_reducible rfl
    rotate_left
    ·simp only [Act.put, List.setIfInBounds_toArray, List.set_cons_zero, List.set_cons_succ, i64_w, i32_w]
     rfl
    refine pure_ (i := 8) (N := some 40) (v := ?_) (a' := ?_) #[false, true, true, false, true, true, false, false, true, false, false, false, false, false, false] rfl rfl (any_of HT_.out (by kernel_rfl)) (fun _ _ _ h => h) (Or.inl ⟨by rfl, ?_⟩) ?_ ?_
    rotate_left
    ·intro w'
     go_simp
     with_reducible rfl
    rotate_left
    ·simp only [Act.put, List.setIfInBounds_toArray, List.set_cons_zero, List.set_cons_succ, i64_w, i32_w]
     rfl
    refine pure_ (i := 9) (N := some 41) (v := ?_) (a' := ?_) #[false, true, true, false, true, true, false, false, true, true, false, false, false, false, false] rfl rfl (any_of HT_.out (by kernel_rfl)) (fun _ _ _ h => h) (Or.inl ⟨by rfl, ?_⟩) ?_ ?_
    rotate_left
    ·intro w'
     go_simp
     with_reducible rfl
    rotate_left
    ·simp only [Act.put, List.setIfInBounds_toArray, List.set_cons_zero, List.set_cons_succ, i64_w, i32_w]
     rfl
    refine take_ (i := 0) (N := some 32) (v := ?_) (a' := ?_) #[true, true, true, false, true, true, false, false, true, true, false, false, false, false, false] rfl rfl (take_ofW HT_.out HW_.out (by kernel_rfl)) (fun _ _ _ h => h) (Or.inl ⟨by rfl, ?_⟩) hHeld ?_ ?_
    rotate_left
    ·intro w' hS
     have h0 := (hS.cell (World.block_lt_of_cell? _ _ m0)).trans m0
     have h1 := (hS.cell (World.block_lt_of_cell? _ _ m1)).trans m1
     have h2 := (hS.cell (World.block_lt_of_cell? _ _ m2)).trans m2
     clear hS
     go_simp
     with_reducible rfl
    rotate_left
    ·simp only [Act.put, List.setIfInBounds_toArray, List.set_cons_zero, List.set_cons_succ, i64_w, i32_w]
     rfl
    refine take_ (i := 3) (N := some 35) (v := ?_) (a' := ?_) #[true, true, true, true, true, true, false, false, true, true, false, false, false, false, false] rfl rfl (take_ofW HT_.out HW_.out (by kernel_rfl)) (fun _ _ _ h => h) (Or.inl ⟨by rfl, ?_⟩) hHeld ?_ ?_
    rotate_left
    ·intro w' hS
     have h0 := (hS.cell (World.block_lt_of_cell? _ _ m0)).trans m0
     have h1 := (hS.cell (World.block_lt_of_cell? _ _ m1)).trans m1
     have h2 := (hS.cell (World.block_lt_of_cell? _ _ m2)).trans m2
     clear hS
     go_simp
     with_reducible rfl
    rotate_left
    ·simp only [Act.put, List.setIfInBounds_toArray, List.set_cons_zero, List.set_cons_succ, i64_w, i32_w]
     rfl
    refine take_ (i := 6) (N := some 38) (v := ?_) (a' := ?_) #[true, true, true, true, true, true, true, false, true, true, false, false, false, false, false] rfl rfl (take_ofW HT_.out HW_.out (by kernel_rfl)) (fun _ _ _ h => h) (Or.inl ⟨by rfl, ?_⟩) hHeld ?_ ?_
    rotate_left
    ·intro w' hS
     have h0 := (hS.cell (World.block_lt_of_cell? _ _ m0)).trans m0
     have h1 := (hS.cell (World.block_lt_of_cell? _ _ m1)).trans m1
     have h2 := (hS.cell (World.block_lt_of_cell? _ _ m2)).trans m2
     clear hS
     go_simp
     with_reducible rfl
    rotate_left
    ·simp only [Act.put, List.setIfInBounds_toArray, List.set_cons_zero, List.set_cons_succ, i64_w, i32_w]
     rfl
    refine pure_ (i := 7) (N := some 39) (v := ?_) (a' := ?_) #[true, true, true, true, true, true, true, true, true, true, false, false, false, false, false] rfl rfl (any_of HT_.out (by kernel_rfl)) (fun _ _ _ h => h) (Or.inl ⟨by rfl, ?_⟩) ?_ ?_
    rotate_left
    ·intro w'
     go_simp
     with_reducible rfl
    rotate_left
    ·simp only [Act.put, List.setIfInBounds_toArray, List.set_cons_zero, List.set_cons_succ, i64_w, i32_w]
     rfl
    refine take_ (i := 10) (N := some 42) (v := ?_) (a' := ?_) #[true, true, true, true, true, true, true, true, true, true, true, false, false, false, false] rfl rfl (take_ofW HT_.out HW_.out (by kernel_rfl)) (fun _ _ _ h => h) (Or.inl ⟨by rfl, ?_⟩) hHeld ?_ ?_
    rotate_left
    ·intro w' hS
     have h0 := (hS.cell (World.block_lt_of_cell? _ _ m0)).trans m0
     have h1 := (hS.cell (World.block_lt_of_cell? _ _ m1)).trans m1
     have h2 := (hS.cell (World.block_lt_of_cell? _ _ m2)).trans m2
     clear hS
     go_simp
     with_reducible rfl
    rotate_left
    ·simp only [Act.put, List.setIfInBounds_toArray, List.set_cons_zero, List.set_cons_succ, i64_w, i32_w]
     rfl
    refine pure_ (i := 11) (N := some 43) (v := ?_) (a' := ?_) #[true, true, true, true, true, true, true, true, true, true, true, true, false, false, false] rfl rfl (any_of HT_.out (by kernel_rfl)) (fun _ _ _ h => h) (Or.inl ⟨by rfl, ?_⟩) ?_ ?_
    rotate_left
    ·intro w'
     go_simp
     with_reducible rfl
    rotate_left
    ·simp only [Act.put, List.setIfInBounds_toArray, List.set_cons_zero, List.set_cons_succ, i64_w, i32_w]
     rfl
    refine pure_ (i := 12) (N := some 44) (v := ?_) (a' := ?_) #[true, true, true, true, true, true, true, true, true, true, true, true, true, false, false] rfl rfl (any_of HT_.out (by kernel_rfl)) (fun _ _ _ h => h) (Or.inl ⟨by rfl, ?_⟩) ?_ ?_
    rotate_left
    ·intro w'
     go_simp
     with_reducible rfl
    rotate_left
    ·simp only [Act.put, List.setIfInBounds_toArray, List.set_cons_zero, List.set_cons_succ, i64_w, i32_w]
     rfl
    refine last_ (i := 13) (N := some 45) #[true, true, true, true, true, true, true, true, true, true, true, true, true, true, false] rfl rfl (one_of HT_.out (by kernel_rfl)) (by decide) (fun K hK => ?_)
    refine str_append_step (w0 := w0) w0.heap.size (by rfl) (.tmp 32) (.tmp 44) 59 9 5 rfl Tryd.underlying59 Tryd.underlying9 info5' (.slice Av o.length cv) o (p.f3.extract u.toNat z.toNat) (fun k => k ≠ gF ∧ k ≠ gO) ?aF rfl rfl (Kd.R_below HR1.out hHeld) (below_step HB1.out hHeld) (Nat.le_trans HB1.out.size hHeld.size) ?aL ?_
    case aF => exact fun k hk => ⟨by have := HLF.out; have := hHeld.size; omega, by have := HLO.out; have := hHeld.size; omega⟩
    case aL => have := HLX.out; omega
    intro v1 w7 ho hb1 hg1 hat1
    obtain ⟨A1, c1, e1⟩ := Kd.R_slice ho
    subst e1
    have HBO := Aside0.mk (blk_grown (blk_below BO.out hHeld) hg1 (fun e => (HR1.out.1 _ e.symm).2 rfl))
    refine hK.out _ _ ?_
    clear hK K
    refine norm_ (a' := ?_) ?_ ?_
    rotate_left
    ·show Act.put _ (some 45) _ = _
     simp only [Act.put, List.setIfInBounds_toArray, List.set_cons_zero, List.set_cons_succ, i64_w, i32_w]
     rfl
    refine last_ (i := 14) (N := none) #[true, true, true, true, true, true, true, true, true, true, true, true, true, true, true] rfl rfl (one_of HT_.out (by kernel_rfl)) (by decide) (fun K hK => ?_)
    have h0 : w7.cell? ⟨gO, 0, none⟩ = some (.slice Av o.length cv) := (blk_cell HBO.out 0).trans rfl
    have hf0 := blk_frozen HBO.out 0
    refine skip_ (w1 := ?_) (by rfl) rfl ?_ ?_
    rotate_left
    ·go_simp
     rfl
    refine hK.out _ _ ?_
    clear hK K
    refine done_ (done_of HT_.out (by kernel_rfl)) ?_
    go_wp2
    go_roundg (first.length - i - 1)
    case measure => have := HI.out; have := HII.out; omega
    case rel =>
     have hss := HSS.out
     rw [HT.out, ← List.append_assoc] at hss
     simp only [List.length_append] at hat1
     refine ⟨i + 1, o ++ bytesOf (p.f3.extract u.toNat z.toNat), .slice A1 (o.length + (bytesOf (p.f3.extract u.toNat z.toNat)).length) c1, ?_, ⟨by have := HI.out; have := HII.out; omega⟩, ⟨?_⟩, ⟨hss⟩⟩
     ·show Value.int .i64 (wrap64 ((i : Int) + 1)) = _
      rw [w64 (by omega) (by have := HII.out; have := HFL.out; omega)]
      rfl
     ·have hbl : ∀ k, k < w.heap.size → k ≠ gO → some k ≠ v.ownBlock → some k ≠ (Value.slice Av o.length cv).ownBlock := by
       intro k hk hk1 hk2
       rcases HQ.out.hat with e | ⟨q, e, hq⟩
       ·rw [e]; exact hk2
       ·rw [e]; intro e2; injection e2 with e2; omega
      refine ⟨blk_put HBO.out 0 _ rfl, ?_, ?_, fun k hk hk1 hk2 => ?_, ?_, ?_⟩
      ·have e := Kd.R_far (p := ⟨gO, 0, none⟩) ho (fun k hk => hk.2) (.slice A1 (o ++ bytesOf (p.f3.extract u.toNat z.toNat)).length c1)
       simpa only [List.length_append] using e
      ·rcases hat1 with e | ⟨q, e, hq⟩
       ·rcases HQ.out.hat with e2 | ⟨q, e2, hq⟩
        ·exact .inl (e.trans e2)
        ·exact .inr ⟨q, e.trans e2, hq⟩
       ·exact .inr ⟨q, e, by have := HQ.out.sz; have := HSZ.out; have := hHeld.size; omega⟩
      ·have k1 : k < wr.heap.size := Nat.lt_of_lt_of_le hk HQ.out.sz
       have k2 : k < W1.heap.size := Nat.lt_of_lt_of_le k1 HSZ.out
       have k3 : k < wa.heap.size := Nat.lt_of_lt_of_le k2 hHeld.size
       exact (Below.heap_setCell _ _ _ _ hk1).trans ((hg1.block k k3 (hbl k hk hk1 hk2)).trans ((hHeld.block k k2).trans ((HO1.out k k1).trans (HQ.out.fr k hk hk1 hk2))))
      ·have := hg1.size
       have h2 := HQ.out.sz
       have h3 := HSZ.out
       have h4 := hHeld.size
       show w.heap.size ≤ (w7.setCell ⟨gO, 0, none⟩ _).heap.size
       simp only [World.setCell]
       simp
       omega
      ·exact below_set hb1 HG.out
   ·have d1 : decide (x < y) = false := decide_eq_false hxy
    have ht : putOne p a b = ⟨#[]⟩ := by rw [HON.out, if_neg hxy]
    have hs := HSS.out
    rw [ht] at hs
    have HSS := Aside0.mk hs
    clear hs ht hxy HS HON
    go_wp2
    go_roundg (first.length - i - 1)
    case measure => have := HI.out; have := HII.out; omega
    case rel =>
     refine ⟨i + 1, o, .slice Av o.length cv, ?_, ⟨by have := HI.out; have := HII.out; omega⟩, ⟨?_⟩, HSS⟩
     ·show Value.int .i64 (wrap64 ((i : Int) + 1)) = _
      rw [w64 (by omega) (by have := HII.out; have := HFL.out; omega)]
      rfl
     ·exact ⟨BO.out, HR1.out, HQ.out.hat, fun k hk hk1 hk2 => (HO1.out k (Nat.lt_of_lt_of_le hk HQ.out.sz)).trans (HQ.out.fr k hk hk1 hk2), Nat.le_trans HQ.out.sz HSZ.out, HB1.out⟩
  ·have d1 : decide ((i : Int) < (first.length : Int)) = false := decide_eq_false (by omega)
   have d2 : decide (i < first.length) = false := decide_eq_false hi
   have HNI := Aside0.mk hi
   clear hi
   go_wp2
   (try simp only [Exit.inBlock, Exit.then])
   refine Go.Great.bodyPost_end0 (fn := Tryd.f68) ?_ ?_ ?_
   ·rfl
   ·rfl
   have hs := HS.out
   rw [List.drop_eq_nil_of_le (by have := HNI.out; omega)] at hs
   simp only [putG, List.append_nil] at hs
   exact ⟨⟨_, rfl⟩, vr, by rw [← hs]; exact HQ.out⟩
end Go.Proofs.YtaihajmdngoeiaaDoor.F
namespace Go.Proofs.YtaihajmdngoeiaaDoor.F
open Go.RowKit Go.Proofs.YtaihajmdngoeiaaDoorW.PrintWords Go.Proofs.YtaihajmdngoeiaaDoorW.PrintLast Go.Proofs.YtaihajmdngoeiaaDoorW.PrintMore
open Go.Proofs.YtaihajmdngoeiaaDoor.QE
set_option linter.unusedVariables false
set_option linter.unusedSimpArgs false
def writG (fs : List S92) (hi : Int) : List S42 → Int → List Int
 | [], x => putG fs x hi
 | e :: t, x => putG fs x e.f0 ++ bytesOf e.f2 ++ writG fs hi t e.f1
structure WW (w wr : World) (gF gO : Nat) (A : Option Addr) (n c : Nat) (vr : Value) (out : List Int) : Prop where
 hf : wr.heap[gF]? = some (.cells #[.slice A n c] 90 (0, 0))
 hb : wr.heap[gO]? = some (.cells #[vr] 59 (0, 0))
 hr : Kd.R (Kd.int .u8) 5 wr w.heap.size (fun k => k ≠ gF ∧ k ≠ gO) vr out
 be : Below w.heap.size w wr
set_option maxRecDepth 100000 in
set_option maxHeartbeats 20000000 in
theorem written.calls (first : List S92) (second : List S42) (A1 : Option Addr) (c1 : Nat) (A2 : Option Addr) (c2 : Nat) (lo hi : Int) (w : World)
  (hr1 : Kd.C k92 w A1 first.length first) (hr2 : Kd.C k42 w A2 second.length second)
  (hp : ∀ p ∈ first, 0 ≤ p.f0 ∧ p.f0 ≤ 5000000000000000000 ∧ p.f3.size ≤ 1048576) (hq : ∀ e ∈ second, (0 ≤ e.f0 ∧ e.f0 ≤ 5000000000000000000) ∧ 0 ≤ e.f1 ∧ e.f1 ≤ 5000000000000000000)
  (hlo : 0 ≤ lo ∧ lo ≤ 5000000000000000000) (hhi : 0 ≤ hi ∧ hi ≤ 5000000000000000000) (hl1 : first.length ≤ 1000000000) (hl2 : second.length ≤ 1000000000)
  (hl : (writG first hi second lo).length ≤ 140737488355328) :
  Calls Tryd.prog 56 #[.slice A1 first.length c1, .slice A2 second.length c2, .int .i64 lo, .int .i64 hi] w fun e w' => e = .returned (.string (strOfNums (writG first hi second lo))) ∧ Below w.heap.size w w' := by
 have hu90 := Tryd.underlying90
 have hu22 := Tryd.underlying22
 have HR1 := Aside0.mk hr1
 have HR2 := Aside0.mk hr2
 have HP := Aside0.mk hp
 have HQ := Aside0.mk hq
 have HLO := Aside0.mk hlo
 have HHI := Aside0.mk hhi
 have HL1 := Aside0.mk hl1
 have HL2 := Aside0.mk hl2
 have HL := Aside0.mk hl
 clear hr1 hr2 hp hq hlo hhi hl1 hl2 hl
 have HB := Aside0.mk (Below.refl w.heap.size w)
 go_enter Tryd.func56, Tryd.ntmps56
 go_upto_region 1 with (first | ((with_reducible refine gate_dst (N := 4) rfl ?_); refine box_event ?hg4 (N := 4) ?hd4 (cs := #[.slice A1 first.length c1]) (t := 90) ?hr4 ?_; (case hd4 => rfl); (case hg4 => rfl); (case hr4 => first | (go_simp; done) | (go_simp; rfl)); intro gF hg wF hbox hb; have n0_ := Aside0.mk (below_step HB.out hb); have n1_ := Aside0.mk hbox; have GE4 := Aside0.mk (show w.heap.size ≤ gF by rw [hg]; exact Nat.le_refl _); clear HB; have HB := n0_; have BK4 := n1_; clear n0_ n1_ hb hbox hg))
 go_upto_region 2 with (fail)
 obtain ⟨gO, hgO⟩ : ∃ g, wF.heap.size = g := ⟨_, rfl⟩
 obtain ⟨W1, hW1⟩ : ∃ W, W = wF.alloc (Obj.cells #[Value.slice none 0 0] 59) := ⟨_, rfl⟩
 rw [← hW1, hgO]
 have hne : gF ≠ gO := by have := blk_lt BK4.out; omega
 have hWW : WW w W1 gF gO A1 first.length c1 (.slice none 0 0) [] := by
  rw [hW1]
  exact ⟨blk_alloc BK4.out _, by rw [← hgO]; exact blk_new _ _, Kd.R_nil _ _ _ _ _, below_alloc HB.out _⟩
 have HWW := Aside0.mk hWW
 have HNE := Aside0.mk hne
 have GEO := Aside0.mk (show w.heap.size ≤ gO by have := GE4.out; have := blk_lt BK4.out; omega)
 clear hWW hne hW1 hgO BK4 HB
 have EG : ∀ args W, (callFunc 68 args).run Tryd.prog W = .ok (.enter 68 args) W := fun args W => enters_ Tryd.func68 (by kernel_rfl) rfl args W
 have EG' := Aside0.mk EG
 clear EG
 go_wp2
 go_loopg [11, 18] second.length (fun kq v11 v18 w' => ∃ (i : Nat) (x : Int) (o : List Int) (vr : Value), v11 = .int .i64 x ∧ v18 = .int .i64 (i : Int) ∧ Aside0 (i + kq = second.length) ∧ Aside0 (0 ≤ x ∧ x ≤ 5000000000000000000) ∧ Aside0 (WW w w' gF gO A1 first.length c1 vr o) ∧ Aside0 (o ++ writG first hi (second.drop i) x = writG first hi second lo))
 case atStart => exact ⟨0, lo, [], _, rfl, rfl, ⟨by omega⟩, HLO, HWW, ⟨by simp⟩⟩
 case round =>
  clear HWW HLO
  obtain ⟨i, x, o, vr, rfl, rfl, HI, HX, HQW, HS⟩ := hrel
  obtain ⟨Av, cv, ev⟩ := Kd.R_slice HQW.out.hr
  subst ev
  by_cases hi0 : i < second.length
  ·have d1 : decide ((i : Int) < (second.length : Int)) = true := decide_eq_true (by omega)
   have d2 : decide (i < second.length) = true := decide_eq_true hi0
   obtain ⟨ad, e9, hx0, hx1, hx2⟩ := at_T42 (Kd.C_below HR2.out HQW.out.be) (i : Int) (by omega) (by omega)
   have HII := Aside0.mk hi0
   have p9 : (0 ≤ (i : Int)) = True := eq_true (by omega)
   have q9 : ((i : Int) < (second.length : Int)) = True := eq_true (by omega)
   have q8 : (i < second.length) = True := eq_true hi0
   clear hi0
   subst e9
   obtain ⟨e, hpd⟩ : ∃ p, rd_T42 second (i : Int) = p := ⟨_, rfl⟩
   rw [hpd] at hx0 hx1 hx2
   simp only [Int.toNat_natCast] at hx0 hx1 hx2
   rw [rd_T42, Int.toNat_natCast, List.getD_eq_getElem?_getD, List.getElem?_eq_getElem HII.out] at hpd
   have hgetE : second[i]'HII.out = e := hpd
   have hdrop : writG first hi (second.drop i) x = putG first x e.f0 ++ bytesOf e.f2 ++ writG first hi (second.drop (i + 1)) e.f1 := by
    rw [List.drop_eq_getElem_cons HII.out, hgetE]
    rfl
   have hmem : e ∈ second := by rw [← hgetE]; exact List.getElem_mem _
   have HE := Aside0.mk (HQ.out e hmem)
   have hss := HS.out
   rw [hdrop] at hss
   have hll := congrArg List.length hss
   simp only [List.length_append] at hll
   have HSS := Aside0.mk hss
   have HLL := Aside0.mk hll
   clear hpd hgetE hdrop hmem hss hll HS
   go_upto_region 7 with (fail)
   obtain ⟨gE, hgE⟩ : ∃ g, wr.heap.size = g := ⟨_, rfl⟩
   obtain ⟨W2, hW2⟩ : ∃ W, W = wr.alloc (Obj.cells #[Value.int IntKind.i64 e.f0, Value.int IntKind.i64 e.f1, Value.string e.f2] 42) := ⟨_, rfl⟩
   rw [← hW2, hgE]
   have hBE : W2.heap[gE]? = some (.cells #[.int .i64 e.f0, .int .i64 e.f1, .string e.f2] 42 (0, 0)) := by rw [hW2, ← hgE]; exact blk_new _ _
   have hWW : WW w W2 gF gO A1 first.length c1 (.slice Av o.length cv) o := by
    rw [hW2]
    exact ⟨blk_alloc HQW.out.hf _, blk_alloc HQW.out.hb _, Kd.R_alloc HQW.out.hr _, below_alloc HQW.out.be _⟩
   have hlt : ∀ k, (Value.slice Av o.length cv).ownBlock = some k → k < gE := by
    intro k hk
    rw [← hgE]
    exact Kd.R_lt HQW.out.hr k hk
   have hgOE : gO < gE := by rw [← hgE]; exact blk_lt HQW.out.hb
   have hgFE : gF < gE := by rw [← hgE]; exact blk_lt HQW.out.hf
   have m0 : W2.cell? ⟨gE, 0, none⟩ = some (.int .i64 e.f0) := (blk_cell hBE 0).trans rfl
   have BE := Aside0.mk hBE
   have HWW := Aside0.mk hWW
   have HLT := Aside0.mk hlt
   have HOE := Aside0.mk hgOE
   have HFE := Aside0.mk hgFE
   clear hBE hWW hlt hgOE hgFE hW2 hgE hx0 hx1 hx2 p9 q9 q8 d1 d2 HQW
   have EG := EG'.out
   go_wp2_with (fail)
   refine (put1.calls first A1 c1 x e.f0 gF gO (.slice Av o.length cv) o w W2 HWW.out.hf HR1.out HWW.out.hb HWW.out.hr HWW.out.be GEO.out GE4.out HNE.out HP.out HX.out HE.out.1 ?hl HL1.out).mono ?_
   case hl => have h1 := HLL.out; have h2 := HL.out; omega
   rintro e' w3 ⟨⟨xv, rfl⟩, vr3, hPW⟩
   obtain ⟨o3, ho3⟩ : ∃ z, o ++ putG first x e.f0 = z := ⟨_, rfl⟩
   rw [ho3] at hPW
   have hss0 := HSS.out
   rw [← List.append_assoc, ← List.append_assoc, ho3] at hss0
   have HS3 := Aside0.mk hss0
   have HO3 := Aside0.mk (show o3.length = o.length + (putG first x e.f0).length by rw [← ho3, List.length_append])
   clear ho3 hss0 HSS
   obtain ⟨A3, c3, e3⟩ := Kd.R_slice hPW.hr
   subst e3
   have hgE3 : w3.heap[gE]? = some (.cells #[.int .i64 e.f0, .int .i64 e.f1, .string e.f2] 42 (0, 0)) := (hPW.fr gE (blk_lt BE.out) (by have := HOE.out; omega) (fun eq => by have := HLT.out gE eq.symm; omega)).trans BE.out
   have hgF3 : w3.heap[gF]? = some (.cells #[.slice A1 first.length c1] 90 (0, 0)) := (hPW.fr gF (blk_lt HWW.out.hf) HNE.out (fun eq => (HWW.out.hr.1 _ eq.symm).1 rfl)).trans HWW.out.hf
   have hne3 : some gE ≠ (Value.slice A3 o3.length c3).ownBlock := by
    rcases hPW.hat with q | ⟨b, q, hq⟩
    ·rw [q]; intro eq; have := HLT.out gE eq.symm; omega
    ·rw [q]; intro eq; injection eq with eq; have := blk_lt BE.out; omega
   have HP3 := Aside0.mk hPW
   have HE3 := Aside0.mk hgE3
   have HF3 := Aside0.mk hgF3
   have HN3 := Aside0.mk hne3
   clear hPW hgE3 hgF3 hne3 EG m0
   have m3 : w3.cell? ⟨gO, 0, none⟩ = some (.slice A3 o3.length c3) := (blk_cell HP3.out.hb 0).trans rfl
   have m4 : w3.cell? ⟨gE, 2, none⟩ = some (.string e.f2) := (blk_cell HE3.out 2).trans rfl
   go_wp2_with (first | ((at_builtin); refine str_append (w0 := w) w.heap.size rfl (.tmp 27) (.tmp 29) 59 9 5 rfl Tryd.underlying59 Tryd.underlying9 info5' (.slice A3 o3.length c3) o3 e.f2 (fun k => k ≠ gF ∧ k ≠ gO) ?aF rfl rfl ?aO ?aB ?aS ?aL ?_; (case aF => exact (fun k hk => ⟨by have := blk_lt HF3.out; omega, by have := blk_lt HP3.out.hb; omega⟩)); (case aO => exact HP3.out.hr); (case aB => exact HP3.out.be); (case aS => exact HP3.out.be.size); (case aL => have h1 := HLL.out; have h2 := HL.out; have h3 := HO3.out; rw [bytesOf_length] at h1; omega); intro v1 w7 ho hb1 hg1 hat1; obtain ⟨A4, c4, e4⟩ := Kd.R_slice ho; subst e4; have HO4 := Aside0.mk ho; have HB4 := Aside0.mk hb1; have BO4 := Aside0.mk (blk_grown HP3.out.hb hg1 (fun q => (HP3.out.hr.1 _ q.symm).2 rfl)); have BF4 := Aside0.mk (blk_grown HF3.out hg1 (fun q => (HP3.out.hr.1 _ q.symm).1 rfl)); have BE4 := Aside0.mk (blk_grown HE3.out hg1 HN3.out); clear ho hb1 hg1 hat1 m3 m4; have m3 : w7.cell? ⟨gO, 0, none⟩ = some (.slice A3 o3.length c3) := (blk_cell BO4.out 0).trans rfl; have m3f := blk_frozen BO4.out 0; have m4 : ∀ u, (w7.setCell ⟨gO, 0, none⟩ u).cell? ⟨gE, 1, none⟩ = some (.int .i64 e.f1) := fun u => (blk_cell ((Below.heap_setCell _ _ _ _ (show gE ≠ gO by have := HOE.out; omega)).trans BE4.out) 1).trans rfl))
   go_roundg (second.length - i - 1)
   case measure => have := HI.out; have := HII.out; omega
   case rel =>
    refine ⟨i + 1, e.f1, o3 ++ bytesOf e.f2, (.slice A4 (o3.length + (bytesOf e.f2).length) c4), ?_, ?_, ⟨by have := HI.out; have := HII.out; omega⟩, ⟨HE.out.2⟩, ⟨?_⟩, HS3⟩
    ·rfl
    ·show Value.int .i64 (wrap64 ((i : Int) + 1)) = _
     rw [w64 (by omega) (by have := HII.out; have := HL2.out; omega)]
     rfl
    ·refine ⟨?_, ?_, ?_, ?_⟩
     ·exact (Below.heap_setCell _ _ _ _ HNE.out).trans BF4.out
     ·exact blk_put BO4.out 0 _ rfl
     ·have q := Kd.R_far (p := ⟨gO, 0, none⟩) HO4.out (fun k hk => hk.2) (.slice A4 (o3 ++ bytesOf e.f2).length c4)
      simpa only [List.length_append] using q
     ·exact below_set HB4.out GEO.out
  ·have d1 : decide ((i : Int) < (second.length : Int)) = false := decide_eq_false (by omega)
   have d2 : decide (i < second.length) = false := decide_eq_false hi0
   have HNI := Aside0.mk hi0
   clear hi0
   have EG := EG'.out
   have hend : writG first hi (second.drop i) x = putG first x hi := by
    rw [List.drop_eq_nil_of_le (by have := HNI.out; omega)]
    rfl
   have hss := HS.out
   rw [hend] at hss
   have hll := congrArg List.length hss
   simp only [List.length_append] at hll
   go_wp2_with (fail)
   refine (put1.calls first A1 c1 x hi gF gO (.slice Av o.length cv) o w wr HQW.out.hf HR1.out HQW.out.hb HQW.out.hr HQW.out.be GEO.out GE4.out HNE.out HP.out HX.out HHI.out ?hl HL1.out).mono ?_
   case hl => have h2 := HL.out; omega
   rintro e' w3 ⟨⟨xv, rfl⟩, vr3, hPW⟩
   rw [hss] at hPW
   have HP3 := Aside0.mk hPW
   clear hPW hss hll hend EG
   have hcv := own_string (P := Tryd.prog) Tryd.underlying59 Tryd.underlying5 Tryd.underlying9 (Kd.own_of_R HP3.out.hr)
   obtain ⟨A3, c3, e3⟩ := Kd.R_slice HP3.out.hr
   subst e3
   have m3 : w3.cell? ⟨gO, 0, none⟩ = some (.slice A3 (writG first hi second lo).length c3) := (blk_cell HP3.out.hb 0).trans rfl
   go_wp2
   go_ret
   exact ⟨rfl, HP3.out.be⟩
end Go.Proofs.YtaihajmdngoeiaaDoor.F
namespace Go.Proofs.YtaihajmdngoeiaaDoor.QE
set_option linter.unusedVariables false
set_option linter.unusedSimpArgs false
inductive By where
 | old (k : Int)
 | new (c : UInt8)
 deriving DecidableEq
abbrev Cl := Bool × By
abbrev Rw := List Cl × Bool
inductive At where
 | by (b : By)
 | mark
def cells : Bool → List At → Rw
 | f, [] => ([], f)
 | _, .mark :: r => cells true r
 | f, .by b :: r => ((f, b) :: (cells false r).1, (cells false r).2)
theorem cells_append (a b : List At) : ∀ f, cells f (a ++ b) = ((cells f a).1 ++ (cells (cells f a).2 b).1, (cells (cells f a).2 b).2) := by
 induction a with
 | nil => intro f; simp [cells]
 | cons x a ih =>
  intro f
  cases x with
  | mark => simp only [List.cons_append, cells]; exact ih true
  | «by» y =>
   simp only [List.cons_append, cells]
   rw [ih false]
structure Ed where
 a : Int
 b : Int
 t : List UInt8
 deriving DecidableEq
def cAt (c : Cl) : List At := if c.1 then [.mark, .by c.2] else [.by c.2]
def cAts (l : List Cl) : List At := l.flatMap cAt
def fAt (f : Bool) : List At := if f then [.mark] else []
def news (t : List UInt8) : List At := t.map fun c => .by (.new c)
def newc (f : Bool) : List UInt8 → List Cl
 | [] => []
 | c :: t => (f, .new c) :: newc false t
theorem cells_news (t : List UInt8) (r : List At) : ∀ f, cells f (news t ++ r) = (newc f t ++ (cells (f && t.isEmpty) r).1, (cells (f && t.isEmpty) r).2) := by
 induction t with
 | nil => intro f; simp [news, newc]
 | cons c t ih =>
  intro f
  simp only [news, List.map_cons, List.cons_append, cells, newc, List.isEmpty_cons, Bool.and_false] at ih ⊢
  rw [ih false]
  simp
def cmp : Int → Rw → List Ed → List At
 | _, R, [] => cAts R.1 ++ fAt R.2
 | p, R, e :: t => cAts (R.1.take (e.a - p).toNat) ++ .mark :: (news e.t ++ cmp e.b (R.1.drop (e.b - p).toNat, R.2) t)
def idr (p n : Int) : Rw := ((List.range (n - p).toNat).map fun (i : Nat) => (false, By.old (p + (i : Int))), false)
def rowE (n : Int) (es : List Ed) : Rw := cells false (cmp 0 (idr 0 n) es)
def sub1 (R : Rw) (c : Cl) : Cl := match c.2 with
 | .new x => (c.1, .new x)
 | .old j => match R.1[j.toNat]? with
  | none => (c.1, .new 0)
  | some d => (c.1 || d.1, d.2)
def sub (R S : Rw) : Rw := (S.1.map (sub1 R), S.2 || R.2)
theorem cells_cAts (l : List Cl) (r : List At) : ∀ f, cells f (cAts l ++ r) = (match l with | [] => cells f r | c :: t => ((f || c.1, c.2) :: t ++ (cells false r).1, (cells false r).2)) := by
 induction l with
 | nil => intro f; simp [cAts]
 | cons c t ih =>
  intro f
  have e : cAts (c :: t) = cAt c ++ cAts t := by simp [cAts]
  rw [e]
  obtain ⟨g, b⟩ := c
  have h2 := ih false
  cases g with
  | false =>
   simp only [cAt, Bool.false_eq_true, if_false, List.cons_append, List.nil_append, cells]
   rw [h2]
   cases t with
   | nil => simp
   | cons d t => simp
  | true =>
   simp only [cAt, if_true, List.cons_append, List.nil_append, cells]
   rw [h2]
   cases t with
   | nil => simp
   | cons d t => simp
theorem cells_fAt (f g : Bool) : cells f (fAt g) = ([], f || g) := by
 cases g <;> simp [fAt, cells]
theorem cmp_sub (R : Rw) : ∀ (es : List Ed) (p : Nat) (f : Bool), p ≤ R.1.length → (∀ e ∈ es, 0 ≤ e.a ∧ e.a ≤ e.b ∧ e.b ≤ R.1.length) → (∀ e t, es = e :: t → (p : Int) ≤ e.a) → List.Pairwise (fun x y => x.b ≤ y.a) es →
  cells f (cmp p (R.1.drop p, R.2) es) = sub R (cells f (cmp p (idr p R.1.length) es)) := by
 intro es
 have hid : ∀ p : Nat, p ≤ R.1.length → ∀ n, ((R.1.drop p).take n) = ((idr p R.1.length).1.take n).map (sub1 R) := by
  intro p hp n
  apply List.ext_getElem
  ·simp [idr]
  ·intro i h1 h2
   simp [idr] at h1 h2 ⊢
   have hi : ((p : Int) + (i : Int)).toNat = p + i := by omega
   simp only [sub1, hi]
   rw [List.getElem?_eq_getElem (by omega)]
   simp
 have hdrop : ∀ (p q : Nat), p ≤ q → q ≤ R.1.length → (idr p R.1.length).1.drop (q - p) = (idr q R.1.length).1 := by
  intro p q h1 h2
  apply List.ext_getElem
  ·simp [idr]; omega
  ·intro i h3 h4
   simp [idr] at h3 h4 ⊢
   omega
 induction es with
 | nil =>
  intro p f hp _ _ _
  simp only [cmp]
  have h := hid p hp (R.1.length - p)
  rw [List.take_of_length_le (by simp), List.take_of_length_le (by simp [idr])] at h
  rw [cells_cAts, cells_cAts]
  simp only [h]
  cases hc : (idr (p : Int) R.1.length).1 with
  | nil =>
   simp only [List.map_nil, cells_fAt]
   simp [sub, idr]
  | cons c t =>
   simp only [List.map_cons, cells_fAt, sub, List.append_nil, Bool.false_or, Prod.mk.injEq]
   refine ⟨?_, by simp [idr]⟩
   congr 1
   have hcm : c ∈ (idr (p : Int) R.1.length).1 := by rw [hc]; exact List.mem_cons_self
   simp only [idr, List.mem_map, List.mem_range] at hcm
   obtain ⟨i, hi, rfl⟩ := hcm
   simp only [sub1]
   have : ((p : Int) + (i : Int)).toNat = p + i := by omega
   rw [this, List.getElem?_eq_getElem (by omega)]
   simp
 | cons e es ih =>
  intro p f hp hes hh hpw
  have he := hes e List.mem_cons_self
  have hpe := hh e es rfl
  obtain ⟨ea, hea⟩ : ∃ n : Nat, e.a = n := ⟨e.a.toNat, by omega⟩
  obtain ⟨eb, heb⟩ : ∃ n : Nat, e.b = n := ⟨e.b.toNat, by omega⟩
  have hpw' := List.pairwise_cons.1 hpw
  have ih' := fun f => ih eb f (by omega) (fun x hx => hes x (List.mem_cons_of_mem _ hx)) (fun x t hx => by have := hpw'.1 x (by rw [hx]; exact List.mem_cons_self); omega) hpw'.2
  simp only [cmp]
  rw [hea, heb]
  have e1 : ((ea : Int) - (p : Int)).toNat = ea - p := by omega
  have e2 : ((eb : Int) - (p : Int)).toNat = eb - p := by omega
  rw [e1, e2, List.drop_drop, show p + (eb - p) = eb by omega]
  have e3 : ((idr (p : Int) R.1.length).1.drop (eb - p), (idr (p : Int) R.1.length).2) = idr (eb : Int) R.1.length := by
   rw [hdrop p eb (by omega) (by omega)]
   rfl
  rw [e3]
  have tail : ∀ g, cells g (At.mark :: (news e.t ++ cmp (eb : Int) (R.1.drop eb, R.2) es)) = sub R (cells g (At.mark :: (news e.t ++ cmp (eb : Int) (idr (eb : Int) R.1.length) es))) := by
   intro g
   simp only [cells]
   rw [cells_news, cells_news, ih']
   simp only [sub, List.map_append, Prod.mk.injEq, and_true]
   congr 1
   have : ∀ (l : List UInt8) (g : Bool), newc g l = (newc g l).map (sub1 R) := by
    intro l
    induction l with
    | nil => intro g; rfl
    | cons c l ih =>
     intro g
     simp only [newc, List.map_cons]
     rw [← ih]
     rfl
   exact this _ _
  rw [cells_cAts, cells_cAts, hid p hp (ea - p)]
  cases hc : (idr (p : Int) R.1.length).1.take (ea - p) with
  | nil =>
   simp only [List.map_nil]
   exact tail f
  | cons c t =>
   simp only [List.map_cons]
   rw [tail false]
   simp only [sub, List.map_append, List.map_cons, Prod.mk.injEq, and_true]
   congr 2
   have hcm : c ∈ (idr (p : Int) R.1.length).1.take (ea - p) := by rw [hc]; exact List.mem_cons_self
   have hcm := List.mem_of_mem_take hcm
   simp only [idr, List.mem_map, List.mem_range] at hcm
   obtain ⟨i, hi, rfl⟩ := hcm
   simp only [sub1]
   have : ((p : Int) + (i : Int)).toNat = p + i := by omega
   rw [this, List.getElem?_eq_getElem (by omega)]
   simp
end Go.Proofs.YtaihajmdngoeiaaDoor.QE
namespace Go.Proofs.YtaihajmdngoeiaaDoor.QE
set_option linter.unusedVariables false
set_option linter.unusedSimpArgs false
def lstC (n : Int) : Int → Bool → List UInt8 → List Cl → Bool → List Ed
 | last, op, tx, [], fin => if op = true ∨ fin = true ∨ last < n then [⟨last, n, tx⟩] else []
 | last, op, tx, (f, .new c) :: r, fin => lstC n last true (tx ++ [c]) r fin
 | last, op, tx, (f, .old k) :: r, fin => if op = true ∨ f = true ∨ last < k then ⟨last, k, tx⟩ :: lstC n (k + 1) false [] r fin else lstC n (k + 1) false [] r fin
def lst (n : Int) (R : Rw) : List Ed := lstC n 0 false [] R.1 R.2
def Ch (n : Int) : Int → List Ed → Prop
 | p, [] => True
 | p, e :: t => p < e.a ∧ e.a ≤ e.b ∧ e.b ≤ n ∧ Ch n e.b t
theorem idr_cons (p n : Int) (h : p < n) : (idr p n).1 = (false, .old p) :: (idr (p + 1) n).1 := by
 unfold idr
 obtain ⟨d, hd⟩ : ∃ d : Nat, (n - p).toNat = d + 1 := ⟨(n - p).toNat - 1, by omega⟩
 have hd2 : (n - (p + 1)).toNat = d := by omega
 simp only [hd, hd2, List.range_succ_eq_map, List.map_cons, List.map_map]
 congr 1
 ·simp
 ·apply List.map_congr_left
  intro i _
  simp only [Function.comp_apply, Prod.mk.injEq, By.old.injEq, true_and]
  omega
theorem idr_nil (p n : Int) (h : n ≤ p) : (idr p n).1 = [] := by
 unfold idr
 rw [show (n - p).toNat = 0 by omega]
 rfl
theorem idr_drop (p q n : Int) (h : p ≤ q) : (idr p n).1.drop (q - p).toNat = (idr q n).1 := by
 apply List.ext_getElem
 ·simp [idr]; omega
 ·intro i h3 h4
  simp [idr] at h3 h4 ⊢
  omega
theorem cmp_cons (p n : Int) (e : Ed) (t : List Ed) (hp : p ≤ e.b) : cmp p (idr p n) (e :: t) = cAts ((idr p n).1.take (e.a - p).toNat) ++ .mark :: (news e.t ++ cmp e.b (idr e.b n) t) := by
 simp only [cmp]
 rw [idr_drop p e.b n hp]
 rfl
theorem cmp_nil (p n : Int) : cmp p (idr p n) [] = cAts (idr p n).1 := by
 simp only [cmp, idr, fAt]
 simp
theorem lst_olds (n : Int) (X : List At) (d : Nat) : ∀ (p q : Int), (q - p).toNat = d → p < q → q ≤ n → ∀ (last : Int) (op : Bool) (tx : List UInt8) (g : Bool), last ≤ p →
  lstC n last op tx (cells g (cAts ((idr p n).1.take (q - p).toNat) ++ X)).1 (cells g (cAts ((idr p n).1.take (q - p).toNat) ++ X)).2 = (if op = true ∨ g = true ∨ last < p then [⟨last, p, tx⟩] else []) ++ lstC n q false [] (cells false X).1 (cells false X).2 := by
 induction d with
 | zero => intro p q h1 h2; omega
 | succ d ih =>
  intro p q h1 h2 h3 last op tx g hl
  rw [idr_cons p n (by omega), show (q - p).toNat = (q - (p + 1)).toNat + 1 by omega, List.take_succ_cons]
  have e : cAts ((false, By.old p) :: ((idr (p + 1) n).1.take (q - (p + 1)).toNat)) ++ X = .by (.old p) :: (cAts ((idr (p + 1) n).1.take (q - (p + 1)).toNat) ++ X) := by simp [cAts, cAt]
  rw [e]
  simp only [cells, lstC]
  have hrest : lstC n (p + 1) false [] (cells false (cAts ((idr (p + 1) n).1.take (q - (p + 1)).toNat) ++ X)).1 (cells false (cAts ((idr (p + 1) n).1.take (q - (p + 1)).toNat) ++ X)).2 = lstC n q false [] (cells false X).1 (cells false X).2 := by
   by_cases hq : p + 1 < q
   ·rw [ih (p + 1) q (by omega) hq h3 (p + 1) false [] false (Int.le_refl _), if_neg (by simp)]
    rfl
   ·rw [show (q - (p + 1)).toNat = 0 by omega, show p + 1 = q by omega]
    rfl
  split
  ·rw [hrest]; rfl
  ·rw [hrest]; rfl
theorem lst_news (n : Int) (t : List UInt8) : ∀ (last : Int) (op : Bool) (tx : List UInt8) (g : Bool) (Y : List Cl) (fin : Bool), lstC n last op tx (newc g t ++ Y) fin = lstC n last (op || !t.isEmpty) (tx ++ t) Y fin := by
 induction t with
 | nil => intro last op tx g Y fin; simp [newc]
 | cons c t ih =>
  intro last op tx g Y fin
  simp only [newc, List.cons_append, lstC]
  rw [ih]
  simp
theorem lst_back (n : Int) : ∀ (es : List Ed) (last b : Int) (op g : Bool) (tx t : List UInt8), (op = true ∨ g = true) → Ch n b es → last ≤ b → b ≤ n →
  lstC n last op tx (cells g (news t ++ cmp b (idr b n) es)).1 (cells g (news t ++ cmp b (idr b n) es)).2 = ⟨last, b, tx ++ t⟩ :: es := by
 intro es
 induction es with
 | nil =>
  intro last b op g tx t hog _ hl hb
  rw [cells_news, cmp_nil]
  simp only []
  rw [lst_news]
  have hor : (op || !t.isEmpty) = true ∨ (g && t.isEmpty) = true := by
   cases t <;> simp_all
  by_cases hbn : b < n
  ·have h := lst_olds n [] _ b n rfl hbn (Int.le_refl _) last (op || !t.isEmpty) (tx ++ t) (g && t.isEmpty) hl
   rw [List.take_of_length_le (by simp [idr])] at h
   simp only [List.append_nil] at h
   rw [h, if_pos (hor.elim Or.inl (fun h => Or.inr (Or.inl h)))]
   simp [cells, lstC]
  ·rw [idr_nil b n (by omega)]
   simp only [cAts, List.flatMap_nil, cells, lstC]
   rw [if_pos (hor.elim Or.inl (fun h => Or.inr (Or.inl h))), show n = b by omega]
 | cons e es ih =>
  intro last b op g tx t hog hch hl hb
  obtain ⟨c1, c2, c3, c4⟩ := hch
  rw [cells_news, cmp_cons b n e es (by omega)]
  simp only []
  rw [lst_news]
  have hor : (op || !t.isEmpty) = true ∨ (g && t.isEmpty) = true := by
   cases t <;> simp_all
  rw [lst_olds n _ _ b e.a rfl c1 (by omega) last (op || !t.isEmpty) (tx ++ t) (g && t.isEmpty) hl, if_pos (hor.elim Or.inl (fun h => Or.inr (Or.inl h)))]
  simp only [cells]
  rw [ih e.a e.b false true [] e.t (Or.inr rfl) c4 c2 c3]
  simp
def Ok (n : Int) : List Ed → Prop
 | [] => True
 | e :: t => 0 ≤ e.a ∧ e.a ≤ e.b ∧ e.b ≤ n ∧ Ch n e.b t
theorem lst_rowE (n : Int) (h0 : 0 ≤ n) (es : List Ed) (h : Ok n es) : lst n (rowE n es) = es := by
 unfold lst rowE
 cases es with
 | nil =>
  rw [cmp_nil]
  by_cases hn : 0 < n
  ·have h := lst_olds n [] _ 0 n rfl hn (Int.le_refl _) 0 false [] false (Int.le_refl _)
   rw [List.take_of_length_le (by simp [idr])] at h
   simp only [List.append_nil] at h
   rw [h]
   simp [cells, lstC]
  ·rw [idr_nil 0 n (by omega)]
   simp [cAts, cells, lstC]
   omega
 | cons e es =>
  obtain ⟨c1, c2, c3, c4⟩ := h
  rw [cmp_cons 0 n e es (by omega)]
  by_cases ha : 0 < e.a
  ·rw [lst_olds n _ _ 0 e.a rfl ha (by omega) 0 false [] false (Int.le_refl _)]
   simp only [cells]
   rw [lst_back n es e.a e.b false true [] e.t (Or.inr rfl) c4 c2 c3]
   simp
  ·have hz : e.a = 0 := by omega
   rw [hz]
   simp only [Int.sub_self, Int.toNat_zero, List.take_zero, cAts, List.flatMap_nil, List.nil_append, cells]
   rw [lst_back n es 0 e.b false true [] e.t (Or.inr rfl) c4 (by omega) c3]
   cases e
   simp_all
def Mono (n : Int) : Int → List Cl → Prop
 | p, [] => p ≤ n
 | p, (_, .new _) :: r => Mono n p r
 | p, (_, .old k) :: r => p ≤ k ∧ k < n ∧ Mono n (k + 1) r
theorem Mono.le {n : Int} : ∀ {l : List Cl} {p : Int}, Mono n p l → p ≤ n
 | [], _, h => h
 | (_, .new _) :: r, p, h => Mono.le (l := r) h
 | (_, .old k) :: r, p, h => by have := h.1; have := h.2.1; omega
end Go.Proofs.YtaihajmdngoeiaaDoor.QE
namespace Go.Proofs.YtaihajmdngoeiaaDoor.QE
set_option linter.unusedVariables false
set_option linter.unusedSimpArgs false
def stF (nx : Option Int) (l : List Cl) (j : Nat) : Option Int := match j with
 | 0 => nx
 | i + 1 => match l[i]? with
  | some (_, .old k) => some (k + 1)
  | _ => none
def rel (R : Rw) (nx ny : Option Int) : Prop := match nx with
 | none => ny = none
 | some j => 0 ≤ j ∧ ny = stF (some 0) R.1 j.toNat
end Go.Proofs.YtaihajmdngoeiaaDoor.QE
namespace Go.Proofs.YtaihajmdngoeiaaDoor.QE
set_option linter.unusedVariables false
set_option linter.unusedSimpArgs false
def cmpE (n : Int) (a b : List Ed) : List Ed := lst n (sub (rowE n a) (rowE (rowE n a).1.length b))
end Go.Proofs.YtaihajmdngoeiaaDoor.QE
namespace Go.Proofs.YtaihajmdngoeiaaDoor.QE
set_option linter.unusedVariables false
set_option linter.unusedSimpArgs false
def grw (e : Ed) : Int := (e.t.length : Int) - (e.b - e.a)
def fsOf : Int → List Ed → List (Int × List UInt8)
 | _, [] => []
 | sh, e :: r => (e.a + sh, e.t) :: fsOf (sh + grw e) r
def shOf : Int → List Ed → Int
 | sh, [] => sh
 | sh, e :: r => shOf (sh + grw e) r
def putS : List (Int × List UInt8) → Int → Int → List UInt8
 | [], _, _ => []
 | (f, t) :: r, x, y => (if max x f < min y (f + t.length) then (t.drop (max x f - f).toNat).take (min y (f + t.length) - max x f).toNat else []) ++ putS r x y
def Cov (fs : List (Int × List UInt8)) (z : Int) : Prop := ∃ f t, (f, t) ∈ fs ∧ f ≤ z ∧ z < f + t.length
theorem cmp_split (p h : Int) (R : Rw) (b : List Ed) (hp : p ≤ h) (hb : ∀ e t, b = e :: t → h ≤ e.a ∧ e.a ≤ e.b) : cmp p R b = cAts (R.1.take (h - p).toNat) ++ cmp h (R.1.drop (h - p).toNat, R.2) b := by
 cases b with
 | nil =>
  simp only [cmp]
  rw [← List.append_assoc]
  congr 1
  unfold cAts
  rw [← List.flatMap_append, List.take_append_drop]
 | cons e t =>
  obtain ⟨h1, h2⟩ := hb e t rfl
  simp only [cmp]
  rw [← List.append_assoc, List.drop_drop, show (h - p).toNat + (e.b - h).toNat = (e.b - p).toNat by omega]
  congr 1
  unfold cAts
  rw [← List.flatMap_append]
  congr 1
  rw [show (e.a - p).toNat = (h - p).toNat + (e.a - h).toNat by omega, List.take_add]
theorem row_cons (n q : Int) (e : Ed) (t : List Ed) (g : Bool) (hq : q ≤ e.a) (hb : e.a ≤ e.b) (hn : e.b ≤ n) :
  ∃ (O : List Cl) (g1 g2 : Bool), cells g (cmp q (idr q n) (e :: t)) = (O ++ newc g1 e.t ++ (cells g2 (cmp e.b (idr e.b n) t)).1, (cells g2 (cmp e.b (idr e.b n) t)).2) ∧ (O.length : Int) = e.a - q ∧ (e.t = [] → g2 = true) := by
 rw [cmp_cons q n e t (by omega), cells_cAts]
 have hlen : (((idr q n).1.take (e.a - q).toNat).length : Int) = e.a - q := by
  rw [List.length_take]
  simp only [idr, List.length_map, List.length_range]
  omega
 have hm : ∀ g, cells g (At.mark :: (news e.t ++ cmp e.b (idr e.b n) t)) = (newc true e.t ++ (cells (true && e.t.isEmpty) (cmp e.b (idr e.b n) t)).1, (cells (true && e.t.isEmpty) (cmp e.b (idr e.b n) t)).2) := by
  intro g
  simp only [cells]
  rw [cells_news]
 cases hO : (idr q n).1.take (e.a - q).toNat with
 | nil =>
  rw [hO] at hlen
  simp only [hm]
  exact ⟨[], true, (true && e.t.isEmpty), by simp, by simpa using hlen, fun h => by rw [h]; rfl⟩
 | cons c r =>
  rw [hO] at hlen
  simp only [hm]
  exact ⟨(g || c.1, c.2) :: r, true, (true && e.t.isEmpty), by simp, by simpa using hlen, fun h => by rw [h]; rfl⟩
theorem newc_len (t : List UInt8) : ∀ g, (newc g t).length = t.length := by
 induction t with
 | nil => intro g; rfl
 | cons c t ih => intro g; simp [newc, ih]
theorem newc_by (t : List UInt8) : ∀ g, (newc g t).map (·.2) = t.map By.new := by
 induction t with
 | nil => intro g; rfl
 | cons c t ih => intro g; simp [newc, ih]
def Cz (n : Int) : Int → List Ed → Prop
 | p, [] => p ≤ n
 | p, e :: t => p ≤ e.a ∧ e.a ≤ e.b ∧ e.b ≤ n ∧ Ch n e.b t
theorem Ch.cz {n p : Int} {l : List Ed} (h : Ch n p l) (hp : p ≤ n) : Cz n p l := by
 cases l with
 | nil => exact hp
 | cons e t => exact ⟨by have := h.1; omega, h.2.1, h.2.2.1, h.2.2.2⟩
theorem row_drop (n : Int) : ∀ (a1 a' : List Ed) (q sh h : Int) (g : Bool), Cz n q (a1 ++ a') → (∀ f t, (f, t) ∈ fsOf sh a1 → f + t.length ≤ h) → q + sh ≤ h → h - shOf sh a1 ≤ n → (∀ e t, a' = e :: t → h - shOf sh a1 ≤ e.a) →
  ∃ g3, ((cells g (cmp q (idr q n) (a1 ++ a'))).1.drop (h - (q + sh)).toNat, (cells g (cmp q (idr q n) (a1 ++ a'))).2) = cells g3 (cmp (h - shOf sh a1) (idr (h - shOf sh a1) n) a') ∧ (h = q + sh → (g = true ∨ a1 ≠ []) → g3 = true) ∧ (a1 = [] → q + sh < h → g3 = false)
 | [], a', q, sh, h, g, hc, _, hp, hn, ha => by
  simp only [List.nil_append, shOf] at hc hn ha ⊢
  have hab : ∀ e t, a' = e :: t → h - sh ≤ e.a ∧ e.a ≤ e.b := fun e t he => ⟨ha e t he, by subst he; exact hc.2.1⟩
  rw [cmp_split q (h - sh) (idr q n) a' (by omega) hab]
  have hd : ((idr q n).1.drop (h - sh - q).toNat, (idr q n).2) = idr (h - sh) n := by
   rw [idr_drop q (h - sh) n (by omega)]
   rfl
  rw [hd, cells_cAts, show h - (q + sh) = h - sh - q by omega]
  have hlen : (((idr q n).1.take (h - sh - q).toNat).length) = (h - sh - q).toNat := by
   rw [List.length_take]
   simp only [idr, List.length_map, List.length_range]
   omega
  cases hO : (idr q n).1.take (h - sh - q).toNat with
  | nil =>
   rw [hO] at hlen
   simp only [List.length_nil] at hlen
   refine ⟨g, by rw [← hlen]; rfl, fun _ hg => hg.elim id (fun x => absurd rfl x), fun _ hlt => by omega⟩
  | cons c r =>
   rw [hO] at hlen
   refine ⟨false, ?_, fun he _ => by simp at hlen; omega, fun _ _ => rfl⟩
   simp only
   rw [← hlen]
   have : ((g || c.1, c.2) :: r ++ (cells false (cmp (h - sh) (idr (h - sh) n) a')).1).drop (c :: r).length = (cells false (cmp (h - sh) (idr (h - sh) n) a')).1 := by
    rw [List.drop_append]
    simp
   rw [this]
 | e :: a1, a', q, sh, h, g, hc, hf, hp, hn, ha => by
  obtain ⟨c1, c2, c3, c4⟩ := hc
  obtain ⟨O, g1, g2, e1, e2, e3⟩ := row_cons n q e (a1 ++ a') g c1 c2 c3
  have hf0 := hf (e.a + sh) e.t List.mem_cons_self
  have hsh : e.b + (sh + grw e) = e.a + sh + e.t.length := by unfold grw; omega
  obtain ⟨g3, i1, i2, _⟩ := row_drop n a1 a' e.b (sh + grw e) h g2 (Ch.cz c4 c3) (fun f t hm => hf f t (List.mem_cons_of_mem _ hm)) (by omega) hn ha
  refine ⟨g3, ?_, fun hh _ => ?_, fun hh => by cases hh⟩
  ·rw [List.cons_append, e1]
   simp only [shOf]
   rw [← i1]
   simp only [Prod.mk.injEq, and_true]
   have hl : (O ++ newc g1 e.t).length = (e.a - q).toNat + e.t.length := by rw [List.length_append, newc_len]; omega
   rw [show (h - (q + sh)).toNat = (O ++ newc g1 e.t).length + (h - (e.b + (sh + grw e))).toNat by rw [hl]; omega, List.drop_append]
   rw [List.drop_eq_nil_of_le (by omega), List.nil_append]
   congr 1
   omega
  ·refine i2 (by omega) ?_
   by_cases hz : a1 = []
   ·exact Or.inl (e3 (List.eq_nil_of_length_eq_zero (by omega)))
   ·exact Or.inr hz
theorem putS_out : ∀ (fs : List (Int × List UInt8)) (x y : Int), (∀ f t, (f, t) ∈ fs → y ≤ f ∨ f + t.length ≤ x) → putS fs x y = []
 | [], x, y, _ => rfl
 | (f, t) :: r, x, y, h => by
  have h0 := h f t List.mem_cons_self
  simp only [putS]
  rw [if_neg (by omega), putS_out r x y (fun f t hm => h f t (List.mem_cons_of_mem _ hm))]
  rfl
theorem putS_eq : ∀ (fs : List (Int × List UInt8)) (x : Int), putS fs x x = []
 | [], x => rfl
 | (f, t) :: r, x => by
  simp only [putS]
  rw [if_neg (by omega), putS_eq r x]
  rfl
theorem putS_left : ∀ (fs : List (Int × List UInt8)) (x z y : Int), (∀ f t, (f, t) ∈ fs → z ≤ f) → x ≤ z → putS fs x y = putS fs z y
 | [], x, z, y, _, _ => rfl
 | (f, t) :: r, x, z, y, h, hx => by
  have h0 := h f t List.mem_cons_self
  simp only [putS]
  rw [putS_left r x z y (fun f t hm => h f t (List.mem_cons_of_mem _ hm)) hx, show max x f = max z f by omega]
theorem fs_ge (n : Int) : ∀ (a1 : List Ed) (q sh : Int), Cz n q a1 → ∀ f t, (f, t) ∈ fsOf sh a1 → q + sh ≤ f
 | e :: r, q, sh, hc, f, t, hm => by
  obtain ⟨c1, c2, c3, c4⟩ := hc
  simp only [fsOf, List.mem_cons, Prod.mk.injEq] at hm
  rcases hm with ⟨rfl, rfl⟩ | hm
  ·omega
  ·have := fs_ge n r e.b (sh + grw e) (Ch.cz c4 c3) f t hm
   unfold grw at this
   omega
theorem Cz.left {n q : Int} {a1 a' : List Ed} (h : Cz n q (a1 ++ a')) (hq : q ≤ n) : Cz n q a1 := by
 induction a1 generalizing q with
 | nil => exact hq
 | cons e r ih =>
  obtain ⟨c1, c2, c3, c4⟩ := h
  refine ⟨c1, c2, c3, ?_⟩
  have chl : ∀ (r : List Ed) (p : Int), Ch n p (r ++ a') → Ch n p r := by
   intro r
   induction r with
   | nil => intro p _; trivial
   | cons x r ih => intro p hx; exact ⟨hx.1, hx.2.1, hx.2.2.1, ih _ hx.2.2.2⟩
  exact chl r e.b c4
theorem row_seg (n : Int) : ∀ (a1 a' : List Ed) (q sh x y : Int) (g : Bool), Cz n q (a1 ++ a') → q ≤ n → q + sh ≤ x → x ≤ y → (∀ z, x ≤ z → z < y → Cov (fsOf sh a1) z) →
  (((cells g (cmp q (idr q n) (a1 ++ a'))).1.drop (x - (q + sh)).toNat).take (y - x).toNat).map (·.2) = (putS (fsOf sh a1) x y).map By.new
 | [], a', q, sh, x, y, g, hc, hq, hx, hy, hcov => by
  have e : y = x := by
   rcases Int.lt_or_le x y with h | h
   ·obtain ⟨f, t, hm, _⟩ := hcov x (Int.le_refl _) h
    simp [fsOf] at hm
   ·omega
  subst e
  simp [fsOf, putS]
 | e :: a1, a', q, sh, x, y, g, hc, hq, hx, hy, hcov => by
  have hc0 := hc
  obtain ⟨c1, c2, c3, c4⟩ := hc
  obtain ⟨O, g1, g2, e1, e2, e3⟩ := row_cons n q e (a1 ++ a') g c1 c2 c3
  have hsh : e.b + (sh + grw e) = e.a + sh + e.t.length := by unfold grw; omega
  have hge := fs_ge n a1 e.b (sh + grw e) (Cz.left (Ch.cz c4 c3) c3)
  have IH := fun x y => row_seg n a1 a' e.b (sh + grw e) x y g2 (Ch.cz c4 c3) c3
  rw [List.cons_append, e1]
  simp only [fsOf, putS]
  by_cases hxy : x = y
  ·subst hxy
   rw [if_neg (by omega), putS_eq]
   simp
  have hx0 : e.a + sh ≤ x := by
   obtain ⟨f, t, hm, h1, h2⟩ := hcov x (Int.le_refl _) (by omega)
   simp only [fsOf, List.mem_cons, Prod.mk.injEq] at hm
   rcases hm with ⟨rfl, rfl⟩ | hm
   ·exact h1
   ·have := hge f t hm
    omega
  have hl : (O.length : Int) = e.a - q := e2
  have hdO : ∀ (X : List Cl) (i : Nat), O.length ≤ i → (O ++ X).drop i = X.drop (i - O.length) := by
   intro X i hi
   rw [List.drop_append, List.drop_eq_nil_of_le hi, List.nil_append]
  rw [List.append_assoc, hdO _ _ (by omega), show (x - (q + sh)).toNat - O.length = (x - (e.a + sh)).toNat by omega]
  by_cases hx1 : e.a + sh + e.t.length ≤ x
  ·-- all of it lies behind the first text
   rw [if_neg (by omega), List.nil_append, List.drop_append, List.drop_eq_nil_of_le (by rw [newc_len]; omega), List.nil_append, newc_len, show (x - (e.a + sh)).toNat - e.t.length = (x - (e.b + (sh + grw e))).toNat by omega]
   refine IH x y (by omega) hy (fun z hz1 hz2 => ?_)
   obtain ⟨f, t, hm, h1, h2⟩ := hcov z hz1 hz2
   simp only [fsOf, List.mem_cons, Prod.mk.injEq] at hm
   rcases hm with ⟨rfl, rfl⟩ | hm
   ·omega
   ·exact ⟨f, t, hm, h1, h2⟩
  ·by_cases hy1 : y ≤ e.a + sh + e.t.length
   ·-- within the first text
    rw [if_pos (by omega), putS_out (fsOf (sh + grw e) a1) x y (fun f t hm => by have := hge f t hm; omega), List.append_nil]
    rw [List.drop_append_of_le_length (by rw [newc_len]; omega), List.take_append_of_le_length (by rw [List.length_drop, newc_len]; omega), List.map_take, List.map_drop, newc_by, ← List.map_drop, ← List.map_take]
    congr 2
    ·omega
    ·congr 1
     omega
   ·-- the first text's end, and more behind it
    rw [if_pos (by omega)]
    rw [List.drop_append_of_le_length (by rw [newc_len]; omega)]
    have hz : (y - x).toNat = ((newc g1 e.t).drop (x - (e.a + sh)).toNat).length + (y - (e.a + sh + e.t.length)).toNat := by rw [List.length_drop, newc_len]; omega
    rw [hz, List.take_length_add_append, List.map_append, List.map_append]
    congr 1
    ·rw [List.map_drop, newc_by, ← List.map_drop]
     congr 1
     rw [List.take_of_length_le (by rw [List.length_drop]; omega)]
     congr 1
     omega
    ·have := IH (e.a + sh + e.t.length) y (by omega) (by omega) (fun z hz1 hz2 => by
      obtain ⟨f, t, hm, h1, h2⟩ := hcov z (by omega) hz2
      simp only [fsOf, List.mem_cons, Prod.mk.injEq] at hm
      rcases hm with ⟨rfl, rfl⟩ | hm
      ·omega
      ·exact ⟨f, t, hm, h1, h2⟩)
     rw [show (e.a + sh + e.t.length - (e.b + (sh + grw e))).toNat = 0 by omega, List.drop_zero] at this
     rw [this, ← putS_left (fsOf (sh + grw e) a1) x (e.a + sh + e.t.length) y (fun f t hm => by have := hge f t hm; omega) (by omega)]
end Go.Proofs.YtaihajmdngoeiaaDoor.QE
namespace Go.Proofs.YtaihajmdngoeiaaDoor.QE
set_option linter.unusedVariables false
set_option linter.unusedSimpArgs false
def wat : Int → List Cl → List Ed → Int → List At
 | x, R, [], hi => cAts (R.take (hi - x).toNat)
 | x, R, e :: t, hi => cAts (R.take (e.a - x).toNat) ++ .mark :: (news e.t ++ wat e.b (R.drop (e.b - x).toNat) t hi)
def Sx : Int → List Ed → Int → Prop
 | x, [], hi => x ≤ hi
 | x, e :: t, hi => x ≤ e.a ∧ e.a ≤ e.b ∧ Sx e.b t hi
theorem Sx.le : ∀ {ss : List Ed} {x hi : Int}, Sx x ss hi → x ≤ hi
 | [], x, hi, h => h
 | e :: t, x, hi, h => by have := Sx.le h.2.2; have := h.1; have := h.2.1; omega
theorem cmp_wat (b' : List Ed) (fin : Bool) (hi : Int) (hb : ∀ e t, b' = e :: t → hi ≤ e.a ∧ e.a ≤ e.b) : ∀ (ss : List Ed) (x : Int) (R : List Cl), Sx x ss hi → cmp x (R, fin) (ss ++ b') = wat x R ss hi ++ cmp hi (R.drop (hi - x).toNat, fin) b'
 | [], x, R, h => cmp_split x hi (R, fin) b' h hb
 | e :: t, x, R, h => by
  obtain ⟨h1, h2, h3⟩ := h
  have hle := Sx.le h3
  simp only [List.cons_append, cmp, wat]
  rw [cmp_wat b' fin hi hb t e.b _ h3, List.drop_drop, show (e.b - x).toNat + (hi - e.b).toNat = (hi - x).toNat by omega]
  simp
def NoOld (Z : List At) : Prop := ∀ k, At.by (.old k) ∉ Z
def newAt : List At → List UInt8
 | [] => []
 | .by (.new c) :: r => c :: newAt r
 | _ :: r => newAt r
theorem newAt_append : ∀ (a b : List At), newAt (a ++ b) = newAt a ++ newAt b
 | [], b => rfl
 | .mark :: a, b => by simp [newAt, newAt_append a b]
 | .by (.new c) :: a, b => by simp [newAt, newAt_append a b]
 | .by (.old k) :: a, b => by simp [newAt, newAt_append a b]
theorem newAt_news (t : List UInt8) : newAt (news t) = t := by
 induction t with
 | nil => rfl
 | cons c t ih =>
  simp only [news, List.map_cons, newAt] at ih ⊢
  rw [ih]
theorem noOld_append {a b : List At} (ha : NoOld a) (hb : NoOld b) : NoOld (a ++ b) := by
 intro k h
 rcases List.mem_append.1 h with h | h
 ·exact ha k h
 ·exact hb k h
theorem noOld_news (t : List UInt8) : NoOld (news t) := by
 intro k h
 simp [news] at h
theorem seg_at : ∀ (C : List Cl) (t : List UInt8), C.map (·.2) = t.map By.new → NoOld (cAts C) ∧ newAt (cAts C) = t
 | [], [], _ => ⟨fun k h => by simp [cAts] at h, rfl⟩
 | [], c :: t, h => by simp at h
 | c :: C, [], h => by simp at h
 | (f, b) :: C, x :: t, h => by
  simp only [List.map_cons, List.cons.injEq] at h
  obtain ⟨h1, h2⟩ := h
  obtain ⟨i1, i2⟩ := seg_at C t h2
  have e : cAts ((f, b) :: C) = cAt (f, b) ++ cAts C := by simp [cAts]
  rw [e]
  subst h1
  constructor
  ·refine noOld_append ?_ i1
   intro k hk
   cases f <;> simp [cAt] at hk
  ·rw [newAt_append, i2]
   cases f <;> rfl
theorem lst_new (n L : Int) : ∀ (Z : List At) (op : Bool) (tx : List UInt8) (g : Bool) (Y : List At), NoOld Z →
  ∃ op' g', lstC n L op tx (cells g (Z ++ Y)).1 (cells g (Z ++ Y)).2 = lstC n L op' (tx ++ newAt Z) (cells g' Y).1 (cells g' Y).2 ∧ ((op = true ∨ g = true ∨ Z ≠ []) → op' = true ∨ g' = true)
 | [], op, tx, g, Y, h => ⟨op, g, by simp [newAt], fun h => by rcases h with h | h | h; exact Or.inl h; exact Or.inr h; exact absurd rfl h⟩
 | .mark :: Z, op, tx, g, Y, h => by
  obtain ⟨op', g', h1, h2⟩ := lst_new n L Z op tx true Y (fun k hk => h k (List.mem_cons_of_mem _ hk))
  refine ⟨op', g', ?_, fun _ => h2 (Or.inr (Or.inl rfl))⟩
  simp only [List.cons_append, cells, newAt]
  exact h1
 | .by (.new c) :: Z, op, tx, g, Y, h => by
  obtain ⟨op', g', h1, h2⟩ := lst_new n L Z true (tx ++ [c]) false Y (fun k hk => h k (List.mem_cons_of_mem _ hk))
  refine ⟨op', g', ?_, fun _ => h2 (Or.inl rfl)⟩
  simp only [List.cons_append, cells, newAt, lstC]
  rw [h1]
  simp
 | .by (.old k) :: Z, op, tx, g, Y, h => absurd List.mem_cons_self (h k)
def writS : Int → List Ed → List (Int × List UInt8) → Int → List UInt8
 | x, [], fs, hi => putS fs x hi
 | x, e :: t, fs, hi => putS fs x e.a ++ (e.t ++ writS e.b t fs hi)
theorem wat_new (n : Int) (a1 a' : List Ed) (q sh : Int) (g : Bool) (hc : Cz n q (a1 ++ a')) (hq : q ≤ n) (hi : Int) : ∀ (ss : List Ed) (x : Int), q + sh ≤ x → Sx x ss hi → (∀ z, x ≤ z → z < hi → Cov (fsOf sh a1) z ∨ ∃ e ∈ ss, e.a ≤ z ∧ z < e.b) →
  NoOld (wat x ((cells g (cmp q (idr q n) (a1 ++ a'))).1.drop (x - (q + sh)).toNat) ss hi) ∧ newAt (wat x ((cells g (cmp q (idr q n) (a1 ++ a'))).1.drop (x - (q + sh)).toNat) ss hi) = writS x ss (fsOf sh a1) hi
 | [], x, hx, hS, hcov => by
  have hS' : x ≤ hi := hS
  exact seg_at _ _ (row_seg n a1 a' q sh x hi g hc hq hx hS' (fun z h1 h2 => (hcov z h1 h2).elim id (fun ⟨e, he, _⟩ => absurd he List.not_mem_nil)))
 | e :: t, x, hx, hS, hcov => by
  obtain ⟨h1, h2, h3⟩ := hS
  have hle := Sx.le h3
  have hall : ∀ (t : List Ed) (y : Int), Sx y t hi → ∀ e' ∈ t, y ≤ e'.a := by
   intro t
   induction t with
   | nil => intro y _ e' he; cases he
   | cons z t ih =>
    intro y hy e' he
    rcases List.mem_cons.1 he with rfl | he
    ·exact hy.1
    ·have := ih z.b hy.2.2 e' he
     have := hy.1
     have := hy.2.1
     omega
  obtain ⟨s1, s2⟩ := seg_at _ _ (row_seg n a1 a' q sh x e.a g hc hq hx h1 (fun z z1 z2 => (hcov z z1 (by omega)).elim id (fun ⟨e', he', k1, k2⟩ => by
   rcases List.mem_cons.1 he' with rfl | he'
   ·omega
   ·have := hall t e.b h3 e' he'
    omega)))
  obtain ⟨i1, i2⟩ := wat_new n a1 a' q sh g hc hq hi t e.b (by omega) h3 (fun z z1 z2 => by
   rcases hcov z (by omega) z2 with h | ⟨e', he', k1, k2⟩
   ·exact Or.inl h
   ·rcases List.mem_cons.1 he' with rfl | he'
    ·omega
    ·exact Or.inr ⟨e', he', k1, k2⟩)
  have hd : (((cells g (cmp q (idr q n) (a1 ++ a'))).1.drop (x - (q + sh)).toNat).drop (e.b - x).toNat) = (cells g (cmp q (idr q n) (a1 ++ a'))).1.drop (e.b - (q + sh)).toNat := by
   rw [List.drop_drop, show (x - (q + sh)).toNat + (e.b - x).toNat = (e.b - (q + sh)).toNat by omega]
  simp only [wat]
  rw [hd]
  constructor
  ·refine noOld_append s1 ?_
   intro k hk
   rcases List.mem_cons.1 hk with hk | hk
   ·cases hk
   ·exact noOld_append (noOld_news e.t) i1 k hk
  ·rw [newAt_append, s2]
   simp only [newAt]
   rw [newAt_append, newAt_news, i2]
   rfl
def gatL : Nat → Int → List Ed → List Ed → List Ed → List Ed → Int → Int × List Ed × List Ed × List Ed × List Ed
 | 0, hi, a1, ss, a, b, sh => (hi, a1, ss, a, b)
 | k + 1, hi, a1, ss, e :: r, b, sh => if e.a + sh ≤ hi then gatL k (max hi (e.a + sh + e.t.length)) (a1 ++ [e]) ss r b (sh + grw e) else
  (match b with
  | [] => (hi, a1, ss, e :: r, b)
  | f :: s => if f.a ≤ hi then gatL k (max hi f.b) a1 (ss ++ [f]) (e :: r) s sh else (hi, a1, ss, e :: r, b))
 | k + 1, hi, a1, ss, [], b, sh =>
  (match b with
  | [] => (hi, a1, ss, [], b)
  | f :: s => if f.a ≤ hi then gatL k (max hi f.b) a1 (ss ++ [f]) [] s sh else (hi, a1, ss, [], b))
structure Gat (sh lo hi : Int) (a1 ss a' b' : List Ed) : Prop where
 le_ : lo ≤ hi
 fs_ : ∀ f t, (f, t) ∈ fsOf sh a1 → lo ≤ f ∧ f + t.length ≤ hi
 ss_ : Sx lo ss hi
 cov_ : ∀ z, lo ≤ z → z < hi → Cov (fsOf sh a1) z ∨ ∃ e ∈ ss, e.a ≤ z ∧ z < e.b
def lastB : Int → List Ed → Int
 | x, [] => x
 | x, e :: t => lastB e.b t
theorem fsOf_snoc : ∀ (a1 : List Ed) (sh : Int) (e : Ed), fsOf sh (a1 ++ [e]) = fsOf sh a1 ++ [(e.a + shOf sh a1, e.t)]
 | [], sh, e => rfl
 | x :: a1, sh, e => by simp only [List.cons_append, fsOf, shOf]; rw [fsOf_snoc a1]
theorem shOf_snoc : ∀ (a1 : List Ed) (sh : Int) (e : Ed), shOf sh (a1 ++ [e]) = shOf sh a1 + grw e
 | [], sh, e => rfl
 | x :: a1, sh, e => by simp only [List.cons_append, shOf]; rw [shOf_snoc a1]
theorem Sx_snoc : ∀ (ss : List Ed) (x hi hi' : Int) (e : Ed), Sx x ss hi → lastB x ss ≤ e.a → e.a ≤ e.b → e.b ≤ hi' → Sx x (ss ++ [e]) hi'
 | [], x, hi, hi', e, h, h1, h2, h3 => ⟨h1, h2, h3⟩
 | y :: ss, x, hi, hi', e, h, h1, h2, h3 => ⟨h.1, h.2.1, Sx_snoc ss y.b hi hi' e h.2.2 h1 h2 h3⟩
theorem Sx_up : ∀ (ss : List Ed) (x hi hi' : Int), Sx x ss hi → hi ≤ hi' → Sx x ss hi'
 | [], x, hi, hi', h, h1 => by have : x ≤ hi := h; show x ≤ hi'; omega
 | y :: ss, x, hi, hi', h, h1 => ⟨h.1, h.2.1, Sx_up ss y.b hi hi' h.2.2 h1⟩
theorem Gat.addA {sh lo hi : Int} {a1 ss r b : List Ed} {e : Ed} (h : Gat sh lo hi a1 ss (e :: r) b) (h1 : e.a + shOf sh a1 ≤ hi) (h0 : lo ≤ e.a + shOf sh a1) : Gat sh lo (max hi (e.a + shOf sh a1 + e.t.length)) (a1 ++ [e]) ss r b where
 le_ := by have := h.le_; omega
 fs_ := by
  intro f t hm
  rw [fsOf_snoc] at hm
  rcases List.mem_append.1 hm with hm | hm
  ·have := h.fs_ f t hm; omega
  ·simp only [List.mem_singleton, Prod.mk.injEq] at hm
   obtain ⟨rfl, rfl⟩ := hm
   omega
 ss_ := Sx_up _ _ _ _ h.ss_ (by omega)
 cov_ := by
  intro z z1 z2
  rw [fsOf_snoc]
  by_cases hz : z < hi
  ·rcases h.cov_ z z1 hz with ⟨f, t, hm, k⟩ | k
   ·exact Or.inl ⟨f, t, List.mem_append_left _ hm, k⟩
   ·exact Or.inr k
  ·exact Or.inl ⟨e.a + shOf sh a1, e.t, List.mem_append_right _ (by simp), by omega, by omega⟩
theorem Gat.addB {sh lo hi : Int} {a1 ss a s : List Ed} {f : Ed} (h : Gat sh lo hi a1 ss a (f :: s)) (h1 : f.a ≤ hi) (h0 : lastB lo ss ≤ f.a) (h2 : f.a ≤ f.b) : Gat sh lo (max hi f.b) a1 (ss ++ [f]) a s where
 le_ := by have := h.le_; omega
 fs_ := fun g t hm => by have := h.fs_ g t hm; omega
 ss_ := Sx_snoc _ _ _ _ _ h.ss_ h0 h2 (by omega)
 cov_ := by
  intro z z1 z2
  by_cases hz : z < hi
  ·rcases h.cov_ z z1 hz with k | ⟨e, he, k⟩
   ·exact Or.inl k
   ·exact Or.inr ⟨e, List.mem_append_left _ he, k⟩
  ·exact Or.inr ⟨f, List.mem_append_right _ (by simp), by omega, by omega⟩
end Go.Proofs.YtaihajmdngoeiaaDoor.QE
namespace Go.Proofs.YtaihajmdngoeiaaDoor.QE
set_option linter.unusedVariables false
set_option linter.unusedSimpArgs false
theorem cz_next (n : Int) : ∀ (a1 : List Ed) (q sh : Int) (e : Ed) (t : List Ed), Cz n q (a1 ++ e :: t) → q + sh ≤ e.a + shOf sh a1 ∧ e.a ≤ e.b ∧ e.b ≤ n
 | [], q, sh, e, t, h => ⟨by have := h.1; simp only [shOf]; omega, h.2.1, h.2.2.1⟩
 | x :: a1, q, sh, e, t, h => by
  obtain ⟨c1, c2, c3, c4⟩ := h
  have := cz_next n a1 x.b (sh + grw x) e t (Ch.cz c4 c3)
  simp only [shOf]
  unfold grw at this ⊢
  exact ⟨by omega, this.2⟩
theorem cz_last (m : Int) : ∀ (ss : List Ed) (x : Int) (f : Ed) (s : List Ed), Cz m x (ss ++ f :: s) → lastB x ss ≤ f.a ∧ f.a ≤ f.b ∧ f.b ≤ m
 | [], x, f, s, h => ⟨h.1, h.2.1, h.2.2.1⟩
 | y :: ss, x, f, s, h => by
  obtain ⟨c1, c2, c3, c4⟩ := h
  exact cz_last m ss y.b f s (Ch.cz c4 c3)
theorem cz_end (n : Int) : ∀ (a : List Ed) (q sh : Int), Cz n q a → q + sh ≤ n + shOf sh a
 | [], q, sh, h => by have : q ≤ n := h; simp only [shOf]; omega
 | e :: r, q, sh, h => by
  obtain ⟨c1, c2, c3, c4⟩ := h
  have := cz_end n r e.b (sh + grw e) (Ch.cz c4 c3)
  simp only [shOf]
  unfold grw at this ⊢
  omega
theorem shOf_append : ∀ (a b : List Ed) (sh : Int), shOf sh (a ++ b) = shOf (shOf sh a) b
 | [], b, sh => rfl
 | e :: a, b, sh => by simp only [List.cons_append, shOf]; exact shOf_append a b _
theorem cz_text (n : Int) (a1 : List Ed) (q sh : Int) (e : Ed) (t : List Ed) (h : Cz n q (a1 ++ e :: t)) : e.a + shOf sh a1 + e.t.length ≤ n + shOf sh (a1 ++ e :: t) := by
 have key : ∀ (a1 : List Ed) (q sh : Int), Cz n q (a1 ++ e :: t) → e.a + shOf sh a1 + e.t.length ≤ n + shOf sh (a1 ++ e :: t) := by
  intro a1
  induction a1 with
  | nil =>
   intro q sh h
   obtain ⟨c1, c2, c3, c4⟩ := h
   have := cz_end n t e.b (sh + grw e) (Ch.cz c4 c3)
   simp only [List.nil_append, shOf]
   unfold grw at this ⊢
   omega
  | cons x a1 ih =>
   intro q sh h
   obtain ⟨c1, c2, c3, c4⟩ := h
   simp only [List.cons_append, shOf]
   exact ih x.b (sh + grw x) (Ch.cz c4 c3)
 exact key a1 q sh h
structure Done_ (n m q sh lo : Int) (a b : List Ed) (R : Int × List Ed × List Ed × List Ed × List Ed) : Prop where
 ha : R.2.1 ++ R.2.2.2.1 = a
 hb : R.2.2.1 ++ R.2.2.2.2 = b
 gat : Gat sh lo R.1 R.2.1 R.2.2.1 R.2.2.2.1 R.2.2.2.2
 hm : R.1 ≤ m
 stopA : ∀ e t, R.2.2.2.1 = e :: t → R.1 < e.a + shOf sh R.2.1
 stopB : ∀ f s, R.2.2.2.2 = f :: s → R.1 < f.a
theorem gatL_spec (n m q sh lo : Int) (hq : lo = q + sh) (a b : List Ed) (hA : Cz n q a) (hB : Cz m lo b) (hm0 : m = n + shOf sh a) : ∀ (k : Nat) (hi : Int) (a1 ss a' b' : List Ed) (shc : Int), a'.length + b'.length < k → a1 ++ a' = a → ss ++ b' = b → Gat sh lo hi a1 ss a' b' → hi ≤ m → shc = shOf sh a1 →
  Done_ n m q sh lo a b (gatL k hi a1 ss a' b' shc) ∧ a1.length + ss.length ≤ (gatL k hi a1 ss a' b' shc).2.1.length + (gatL k hi a1 ss a' b' shc).2.2.1.length := by
 intro k
 induction k with
 | zero => intro hi a1 ss a' b' shc h; omega
 | succ k ih =>
  intro hi a1 ss a' b' shc hk ha hb hG hm hs
  subst hs
  have turnB : ∀ (a'' : List Ed), a'' = a' → (∀ e t, a'' = e :: t → hi < e.a + shOf sh a1) →
    (let R := (match b' with | [] => (hi, a1, ss, a'', b') | f :: s => if f.a ≤ hi then gatL k (max hi f.b) a1 (ss ++ [f]) a'' s (shOf sh a1) else (hi, a1, ss, a'', b'))
    Done_ n m q sh lo a b R ∧ a1.length + ss.length ≤ R.2.1.length + R.2.2.1.length) := by
   intro a'' haa hstop
   subst haa
   cases b' with
   | nil => exact ⟨⟨ha, hb, hG, hm, hstop, fun f s h => by cases h⟩, Nat.le_refl _⟩
   | cons f s =>
    simp only []
    by_cases hf : f.a ≤ hi
    ·rw [if_pos hf]
     have hcz := cz_last m ss lo f s (by rw [hb]; exact hB)
     obtain ⟨r1, r2⟩ := ih (max hi f.b) a1 (ss ++ [f]) a'' s (shOf sh a1) (by simp only [List.length_cons] at hk; omega) ha (by simp [hb]) (hG.addB hf hcz.1 hcz.2.1) (by omega) rfl
     refine ⟨r1, ?_⟩
     simp only [List.length_append, List.length_cons, List.length_nil] at r2
     omega
    ·rw [if_neg hf]
     refine ⟨⟨ha, hb, hG, hm, hstop, fun g u h => ?_⟩, Nat.le_refl _⟩
     injection h with h1 _
     subst h1
     simp only
     omega
  cases a' with
  | nil =>
   have := turnB [] rfl (fun e t h => by cases h)
   cases b' with
   | nil => exact this
   | cons f s => exact this
  | cons e r =>
   by_cases he : e.a + shOf sh a1 ≤ hi
   ·have hcz := cz_next n a1 q sh e r (by rw [ha]; exact hA)
    have htx := cz_text n a1 q sh e r (by rw [ha]; exact hA)
    rw [ha] at htx
    obtain ⟨r1, r2⟩ := ih (max hi (e.a + shOf sh a1 + e.t.length)) (a1 ++ [e]) ss r b' (shOf sh a1 + grw e) (by simp only [List.length_cons] at hk; omega) (by simp [ha]) hb (hG.addA he (by omega)) (by omega) (shOf_snoc a1 sh e).symm
    have hstep : gatL (k + 1) hi a1 ss (e :: r) b' (shOf sh a1) = gatL k (max hi (e.a + shOf sh a1 + e.t.length)) (a1 ++ [e]) ss r b' (shOf sh a1 + grw e) := by
     cases b' <;> simp only [gatL] <;> rw [if_pos he]
    rw [hstep]
    refine ⟨r1, ?_⟩
    simp only [List.length_append, List.length_cons, List.length_nil] at r2
    omega
   ·have := turnB (e :: r) rfl (fun x t h => by injection h with h1 _; subst h1; omega)
    cases b' with
    | nil =>
     simp only [gatL]
     rw [if_neg he]
     exact this
    | cons f s =>
     simp only [gatL]
     rw [if_neg he]
     exact this
def gat0 (sh : Int) : List Ed → List Ed → Int × (Int × List Ed × List Ed × List Ed × List Ed)
 | [], [] => (0, (0, [], [], [], []))
 | e :: r, [] => (e.a + sh, gatL (r.length + 1) (max 0 (e.a + sh + e.t.length)) [e] [] r [] (sh + grw e))
 | [], f :: s => (f.a, gatL (s.length + 1) (max 0 f.b) [] [f] [] s sh)
 | e :: r, f :: s => if e.a + sh ≤ f.a then (e.a + sh, gatL (r.length + (s.length + 1) + 1) (max 0 (e.a + sh + e.t.length)) [e] [] r (f :: s) (sh + grw e)) else (f.a, gatL ((r.length + 1) + s.length + 1) (max 0 f.b) [] [f] (e :: r) s sh)
theorem gat0_spec (n m q sh lo : Int) (h0 : 0 ≤ lo) (hq : lo = q + sh) (a b : List Ed) (hA : Cz n q a) (hB : Cz m lo b) (hm0 : m = n + shOf sh a)
  (hlo : (∃ e t, a = e :: t ∧ e.a + sh = lo) ∨ (∃ f s, b = f :: s ∧ f.a = lo ∧ ∀ e t, a = e :: t → lo < e.a + sh)) :
  (gat0 sh a b).1 = lo ∧ Done_ n m q sh lo a b (gat0 sh a b).2 ∧ 1 ≤ (gat0 sh a b).2.2.1.length + (gat0 sh a b).2.2.2.1.length := by
 have byA : ∀ e r, a = e :: r → e.a + sh = lo → ∀ k, r.length + b.length < k → Done_ n m q sh lo a b (gatL k (max 0 (e.a + sh + e.t.length)) [e] [] r b (sh + grw e)) ∧ 1 ≤ (gatL k (max 0 (e.a + sh + e.t.length)) [e] [] r b (sh + grw e)).2.1.length + (gatL k (max 0 (e.a + sh + e.t.length)) [e] [] r b (sh + grw e)).2.2.1.length := by
  intro e r ha he k hk
  have htx := cz_text n [] q sh e r (by rw [List.nil_append, ← ha]; exact hA)
  simp only [List.nil_append, shOf] at htx
  have hG : Gat sh lo (max 0 (e.a + sh + e.t.length)) [e] [] r b := by
   refine ⟨by omega, fun f t hm => ?_, ?_, fun z z1 z2 => ?_⟩
   ·simp only [fsOf, List.mem_singleton, Prod.mk.injEq] at hm
    obtain ⟨rfl, rfl⟩ := hm
    omega
   ·show lo ≤ _
    omega
   ·exact Or.inl ⟨e.a + sh, e.t, by simp [fsOf], by omega, by omega⟩
  have := gatL_spec n m q sh lo hq a b hA hB hm0 k (max 0 (e.a + sh + e.t.length)) [e] [] r b (sh + grw e) hk (by simp [ha]) (by simp) hG (by rw [hm0, ha]; simp only [shOf]; omega) rfl
  simpa using this
 have byB : ∀ f s, b = f :: s → f.a = lo → ∀ k, a.length + s.length < k → Done_ n m q sh lo a b (gatL k (max 0 f.b) [] [f] a s sh) ∧ 1 ≤ (gatL k (max 0 f.b) [] [f] a s sh).2.1.length + (gatL k (max 0 f.b) [] [f] a s sh).2.2.1.length := by
  intro f s hb hf k hk
  have hB' := hB
  rw [hb] at hB'
  obtain ⟨c1, c2, c3, c4⟩ := hB'
  have hG : Gat sh lo (max 0 f.b) [] [f] a s := by
   refine ⟨by omega, fun g t hm => by simp [fsOf] at hm, ⟨by omega, c2, by show f.b ≤ _; omega⟩, fun z z1 z2 => ?_⟩
   exact Or.inr ⟨f, by simp, by omega, by omega⟩
  have := gatL_spec n m q sh lo hq a b hA hB hm0 k (max 0 f.b) [] [f] a s sh hk (by simp) (by simp [hb]) hG (by omega) rfl
  simpa using this
 cases a with
 | nil =>
  cases b with
  | nil => rcases hlo with ⟨e, t, h, _⟩ | ⟨f, s, h, _⟩ <;> cases h
  | cons f s =>
   have hf : f.a = lo := by
    rcases hlo with ⟨e, t, h, _⟩ | ⟨g, u, h, h2, _⟩
    ·cases h
    ·injection h with h1 _; rw [h1]; exact h2
   simp only [gat0]
   exact ⟨hf, byB f s rfl hf _ (by simp)⟩
 | cons e r =>
  cases b with
  | nil =>
   have he : e.a + sh = lo := by
    rcases hlo with ⟨x, t, h, h2⟩ | ⟨g, u, h, _⟩
    ·injection h with h1 _; rw [h1]; exact h2
    ·cases h
   simp only [gat0]
   exact ⟨he, byA e r rfl he _ (by simp)⟩
  | cons f s =>
   have hAe : q ≤ e.a := hA.1
   have hBf : lo ≤ f.a := hB.1
   simp only [gat0]
   rcases hlo with ⟨x, t, h, h2⟩ | ⟨g, u, h, h2, h3⟩
   ·injection h with h1 _
    subst h1
    rw [if_pos (by omega)]
    exact ⟨h2, byA e r rfl h2 _ (by simp)⟩
   ·injection h with h1 _
    subst h1
    have := h3 e r rfl
    rw [if_neg (by omega)]
    exact ⟨h2, byB f s rfl h2 _ (by simp)⟩
def groups : Nat → List Ed → List Ed → Int → List Ed
 | 0, _, _, _ => []
 | k + 1, a, b, sh => if a = [] ∧ b = [] then [] else
  ⟨(gat0 sh a b).1 - sh, (gat0 sh a b).2.1 - shOf sh (gat0 sh a b).2.2.1, writS (gat0 sh a b).1 (gat0 sh a b).2.2.2.1 (fsOf sh (gat0 sh a b).2.2.1) (gat0 sh a b).2.1⟩ :: groups k (gat0 sh a b).2.2.2.2.1 (gat0 sh a b).2.2.2.2.2 (shOf sh (gat0 sh a b).2.2.1)
theorem ch_right (n : Int) : ∀ (a1 a' : List Ed) (q : Int), Ch n q (a1 ++ a') → ∃ q', Ch n q' a' ∧ q ≤ q'
 | [], a', q, h => ⟨q, h, Int.le_refl _⟩
 | e :: a1, a', q, h => by
  obtain ⟨q', h1, h2⟩ := ch_right n a1 a' e.b h.2.2.2
  exact ⟨q', h1, by have := h.1; have := h.2.1; omega⟩
theorem cz_right (n : Int) (a1 a' : List Ed) (q : Int) (h : Cz n q (a1 ++ a')) : Cz n q a' ∨ ∃ q', Ch n q' a' := by
 cases a1 with
 | nil => exact Or.inl h
 | cons e a1 =>
  obtain ⟨q', h1, _⟩ := ch_right n a1 a' e.b h.2.2.2
  exact Or.inr ⟨q', h1⟩
theorem ch_from (n : Int) (a' : List Ed) (q x : Int) (h : Cz n q a' ∨ ∃ q', Ch n q' a') (hx : ∀ e t, a' = e :: t → x < e.a) : Ch n x a' := by
 cases a' with
 | nil => trivial
 | cons e t =>
  rcases h with h | ⟨q', h⟩
  ·exact ⟨hx e t rfl, h.2⟩
  ·exact ⟨hx e t rfl, h.2⟩
end Go.Proofs.YtaihajmdngoeiaaDoor.QE
namespace Go.Proofs.YtaihajmdngoeiaaDoor.QE
set_option linter.unusedVariables false
set_option linter.unusedSimpArgs false
theorem cells_again : ∀ (X : List At) (g g' : Bool), cells g (cAts (cells g' X).1 ++ fAt (cells g' X).2) = cells (g || g') X
 | [], g, g' => by cases g' <;> simp [cells, cAts, fAt]
 | .mark :: X, g, g' => by
  simp only [cells]
  rw [cells_again X g true]
  simp
 | .by b :: X, g, g' => by
  have ih := cells_again X false false
  simp only [cells]
  have e : cAts ((g', b) :: (cells false X).1) = cAt (g', b) ++ cAts (cells false X).1 := by simp [cAts]
  rw [e, List.append_assoc]
  cases g' with
  | false =>
   simp only [cAt, Bool.false_eq_true, if_false, List.cons_append, List.nil_append, cells]
   rw [ih]
   simp
  | true =>
   simp only [cAt, if_true, List.cons_append, List.nil_append, cells]
   rw [ih]
   simp
theorem row_len (n : Int) : ∀ (a : List Ed) (q sh : Int) (g : Bool), Cz n q a → ((cells g (cmp q (idr q n) a)).1.length : Int) = n + shOf sh a - (q + sh)
 | [], q, sh, g, h => by
  have hq : q ≤ n := h
  rw [cmp_nil]
  have := cells_cAts (idr q n).1 [] g
  rw [List.append_nil] at this
  rw [this]
  have hl : (((idr q n).1).length : Int) = n - q := by simp [idr]; omega
  cases hO : (idr q n).1 with
  | nil =>
   rw [hO] at hl
   simp only [List.length_nil] at hl
   simp only [cells, List.length_nil, shOf]
   omega
  | cons c r =>
   rw [hO] at hl
   simp only [List.length_cons] at hl
   simp only [List.length_append, List.length_cons, cells, List.length_nil, shOf]
   omega
 | e :: a, q, sh, g, h => by
  obtain ⟨c1, c2, c3, c4⟩ := h
  obtain ⟨O, g1, g2, e1, e2, _⟩ := row_cons n q e a g c1 c2 c3
  have ih := row_len n a e.b (sh + grw e) g2 (Ch.cz c4 c3)
  rw [e1]
  simp only [List.length_append, newc_len, shOf]
  unfold grw at ih ⊢
  omega
theorem q_le (n : Int) : ∀ (a1 : List Ed) (q sh hi : Int), Cz n q a1 → (∀ f t, (f, t) ∈ fsOf sh a1 → f + t.length ≤ hi) → q + sh ≤ hi → q ≤ hi - shOf sh a1
 | [], q, sh, hi, _, _, h => by simp only [shOf]; omega
 | e :: r, q, sh, hi, hc, hf, h => by
  obtain ⟨c1, c2, c3, c4⟩ := hc
  have h0 := hf (e.a + sh) e.t (by simp [fsOf])
  have := q_le n r e.b (sh + grw e) hi (Ch.cz c4 c3) (fun f t hm => hf f t (by simp only [fsOf]; exact List.mem_cons_of_mem _ hm)) (by unfold grw; omega)
  simp only [shOf]
  omega
def GG (n m : Int) (k : Nat) : Prop := ∀ (a b : List Ed) (q sh : Int) (g g' : Bool) (L : Int) (op : Bool) (tx : List UInt8), a.length + b.length < k → Ch n q a → q ≤ n → Ch m (q + sh) b → m = n + shOf sh a → 0 ≤ q + sh → q + sh ≤ m → L ≤ q → (op = true ∨ g = true ∨ g' = true) →
 lstC n L op tx (cells g (cmp (q + sh) (cells g' (cmp q (idr q n) a)) b)).1 (cells g (cmp (q + sh) (cells g' (cmp q (idr q n) a)) b)).2 = ⟨L, q, tx⟩ :: groups k a b sh
theorem cAts_nil {C : List Cl} (h : cAts C = []) : C = [] := by
 cases C with
 | nil => rfl
 | cons c C =>
  obtain ⟨f, b⟩ := c
  cases f <;> simp [cAts, cAt] at h
theorem group_one (n m : Int) (k : Nat) (IH : GG n m k) (a b : List Ed) (q sh lo : Int) (hk : a.length + b.length < k + 1) (h0 : 0 ≤ lo) (hq : lo = q + sh) (hA : Cz n q a) (hqn : q ≤ n) (hB : Cz m lo b) (hm0 : m = n + shOf sh a)
  (hlo : (∃ e t, a = e :: t ∧ e.a + sh = lo) ∨ (∃ f s, b = f :: s ∧ f.a = lo ∧ ∀ e t, a = e :: t → lo < e.a + sh)) :
  lstC n q false [] (cells false (cmp lo (cells false (cmp q (idr q n) a)) b)).1 (cells false (cmp lo (cells false (cmp q (idr q n) a)) b)).2 = groups (k + 1) a b sh := by
 obtain ⟨s1, s2, s3⟩ := gat0_spec n m q sh lo h0 hq a b hA hB hm0 hlo
 have hne : ¬ (a = [] ∧ b = []) := by
  rintro ⟨ha, hb⟩
  rcases hlo with ⟨e, t, h, _⟩ | ⟨f, s, h, _⟩
  ·rw [ha] at h; cases h
  ·rw [hb] at h; cases h
 simp only [groups]
 rw [if_neg hne, s1]
 obtain ⟨⟨hi, a1, ss, a', b'⟩, hR⟩ : ∃ R, (gat0 sh a b).2 = R := ⟨_, rfl⟩
 rw [hR] at s2 s3 ⊢
 obtain ⟨e1, e2, gt, hm, st1, st2⟩ := s2
 simp only at e1 e2 gt hm st1 st2 s3 ⊢
 subst e1
 subst e2
 have hle := gt.le_
 have hA1 := Cz.left hA hqn
 have hfs := fun f t hm => (gt.fs_ f t hm).2
 have hq' : q ≤ hi - shOf sh a1 := q_le n a1 q sh hi hA1 hfs (by omega)
 have hb'f := cz_right m ss b' lo hB
 have hb'o : ∀ e t, b' = e :: t → hi ≤ e.a ∧ e.a ≤ e.b := by
  intro e t he
  have h1 := st2 e t he
  rw [he] at hB
  exact ⟨by omega, (cz_last m ss lo e t hB).2.1⟩
 have hm1 : m = n + shOf (shOf sh a1) a' := by rw [hm0, shOf_append]
 have hq'n : hi - shOf sh a1 ≤ n := by
  cases ha' : a' with
  | nil =>
   rw [ha'] at hm1
   simp only [shOf] at hm1
   omega
  | cons e t =>
   have h1 := st1 e t ha'
   rw [ha'] at hA
   have := (cz_next n a1 q sh e t hA).2
   omega
 have hlenR := row_len n (a1 ++ a') q sh false hA
 rw [cmp_wat b' (cells false (cmp q (idr q n) (a1 ++ a'))).2 hi hb'o ss lo (cells false (cmp q (idr q n) (a1 ++ a'))).1 gt.ss_]
 obtain ⟨w1, w2⟩ := wat_new n a1 a' q sh false hA hqn hi ss lo (by omega) gt.ss_ gt.cov_
 rw [show (lo - (q + sh)).toNat = 0 by omega, List.drop_zero] at w1 w2
 obtain ⟨g3, d1, d2, _⟩ := row_drop n a1 a' q sh hi false hA hfs (by omega) hq'n (fun e t he => by have := st1 e t he; omega)
 rw [← hq] at d1 d2
 rw [d1]
 obtain ⟨op', g', z1, z2⟩ := lst_new n q (wat lo (cells false (cmp q (idr q n) (a1 ++ a'))).1 ss hi) false [] false (cmp hi (cells g3 (cmp (hi - shOf sh a1) (idr (hi - shOf sh a1) n) a')) b') w1
 rw [z1, w2, List.nil_append]
 have hflag : op' = true ∨ g' = true ∨ g3 = true := by
  by_cases hZ : wat lo (cells false (cmp q (idr q n) (a1 ++ a'))).1 ss hi = []
  ·right; right
   cases ss with
   | cons e t =>
    simp only [wat] at hZ
    have := (List.append_eq_nil_iff.1 hZ).2
    cases this
   | nil =>
    have hC := cAts_nil hZ
    have hz : hi = lo := by
     have h2 := congrArg List.length hC
     rw [List.length_take] at h2
     simp only [List.length_nil] at h2
     omega
    refine d2 hz (Or.inr ?_)
    intro hz1
    rw [hz1] at s3
    simp at s3
  ·rcases z2 (Or.inr (Or.inr hZ)) with h | h
   ·exact Or.inl h
   ·exact Or.inr (Or.inl h)
 have hlen : a'.length + b'.length < k := by
  simp only [List.length_append] at hk
  omega
 have := IH a' b' (hi - shOf sh a1) (shOf sh a1) g' g3 q op' (writS lo ss (fsOf sh a1) hi) hlen (ch_from n a' q _ (cz_right n a1 a' q hA) (fun e t he => by have := st1 e t he; omega)) hq'n (by
  rw [show hi - shOf sh a1 + shOf sh a1 = hi by omega]
  exact ch_from m b' lo hi hb'f st2) hm1 (by omega) (by omega) hq' hflag
 rw [show hi - shOf sh a1 + shOf sh a1 = hi by omega] at this
 rw [this, show lo - sh = q by omega]
theorem next_lo (a b : List Ed) (sh : Int) (h : ¬ (a = [] ∧ b = [])) : ∃ lo, ((∃ e t, a = e :: t ∧ e.a + sh = lo) ∨ (∃ f s, b = f :: s ∧ f.a = lo ∧ ∀ e t, a = e :: t → lo < e.a + sh)) ∧ (∀ e t, a = e :: t → lo ≤ e.a + sh) ∧ (∀ f s, b = f :: s → lo ≤ f.a) := by
 cases a with
 | nil =>
  cases b with
  | nil => exact absurd ⟨rfl, rfl⟩ h
  | cons f s => exact ⟨f.a, Or.inr ⟨f, s, rfl, rfl, fun e t h => by cases h⟩, (fun e t h => by cases h), fun g u h => by injection h with h _; rw [h]; exact Int.le_refl _⟩
 | cons e r =>
  cases b with
  | nil => exact ⟨e.a + sh, Or.inl ⟨e, r, rfl, rfl⟩, (fun x t h => by injection h with h _; rw [h]; exact Int.le_refl _), fun g u h => by cases h⟩
  | cons f s =>
   by_cases hc : e.a + sh ≤ f.a
   ·exact ⟨e.a + sh, Or.inl ⟨e, r, rfl, rfl⟩, (fun x t h => by injection h with h _; rw [h]; exact Int.le_refl _), fun g u h => by injection h with h _; rw [← h]; exact hc⟩
   ·exact ⟨f.a, Or.inr ⟨f, s, rfl, rfl, fun x t h => by injection h with h _; rw [← h]; omega⟩, (fun x t h => by injection h with h _; rw [← h]; omega), fun g u h => by injection h with h _; rw [h]; exact Int.le_refl _⟩
theorem group_next (n m : Int) (k : Nat) (IH : GG n m k) (a b : List Ed) (q sh lo : Int) (g g' : Bool) (L : Int) (op : Bool) (tx : List UInt8) (hk : a.length + b.length < k + 1) (h0 : 0 ≤ q + sh) (hlt : q + sh < lo) (hA : Cz n q a) (hqn : q ≤ n) (hB : Cz m (q + sh) b) (hm0 : m = n + shOf sh a) (hL : L ≤ q)
  (hlo : (∃ e t, a = e :: t ∧ e.a + sh = lo) ∨ (∃ f s, b = f :: s ∧ f.a = lo ∧ ∀ e t, a = e :: t → lo < e.a + sh)) (hla : ∀ e t, a = e :: t → lo ≤ e.a + sh) (hlb : ∀ f s, b = f :: s → lo ≤ f.a) :
  lstC n L op tx (cells g (cmp (q + sh) (cells g' (cmp q (idr q n) a)) b)).1 (cells g (cmp (q + sh) (cells g' (cmp q (idr q n) a)) b)).2 = (if op = true ∨ (g || g') = true ∨ L < q then [⟨L, q, tx⟩] else []) ++ groups (k + 1) a b sh := by
 have hln : lo - sh ≤ n := by
  rcases hlo with ⟨e, t, h, h2⟩ | ⟨f, s, h, h2, h3⟩
  ·rw [h] at hA
   have := hA.2.1
   have := hA.2.2.1
   omega
  ·rw [h] at hB
   have b1 := hB.2.1
   have b2 := hB.2.2.1
   cases a with
   | nil =>
    simp only [shOf] at hm0
    omega
   | cons e t =>
    have := h3 e t rfl
    have := hA.2.1
    have := hA.2.2.1
    omega
 have hA2 : Cz n (lo - sh) a := by
  cases a with
  | nil => exact hln
  | cons e t => exact ⟨by have := hla e t rfl; omega, hA.2⟩
 have hB2 : Cz m lo b := by
  cases b with
  | nil =>
   rcases hlo with ⟨e, t, h, h2⟩ | ⟨f, s, h, _⟩
   ·have := cz_end n a (lo - sh) sh hA2
    show lo ≤ m
    omega
   ·cases h
  | cons f s => exact ⟨hlb f s rfl, hB.2⟩
 have hbo : ∀ e t, b = e :: t → lo ≤ e.a ∧ e.a ≤ e.b := fun e t he => by
  have h1 := hlb e t he
  rw [he] at hB
  exact ⟨h1, hB.2.1⟩
 have hao : ∀ e t, a = e :: t → lo - sh ≤ e.a ∧ e.a ≤ e.b := fun e t he => by
  have h1 := hla e t he
  rw [he] at hA
  exact ⟨by omega, hA.2.1⟩
 obtain ⟨g3, d1, _, d3⟩ := row_drop n [] a q sh lo g' (by simpa using hA) (fun f t hm => by simp [fsOf] at hm) (by omega) (by simpa [shOf] using hln) (fun e t he => by have := hla e t he; simp only [shOf]; omega)
 simp only [List.nil_append, shOf] at d1
 have hg3 := d3 rfl hlt
 subst hg3
 rw [cmp_split (q + sh) lo (cells g' (cmp q (idr q n) a)) b (by omega) hbo, d1]
 have htake : (cells g' (cmp q (idr q n) a)).1.take (lo - (q + sh)).toNat = (match (idr q n).1.take (lo - sh - q).toNat with | [] => [] | c :: r => (g' || c.1, c.2) :: r) ∧ (idr q n).1.take (lo - sh - q).toNat ≠ [] := by
  have hlen : (((idr q n).1.take (lo - sh - q).toNat).length) = (lo - (q + sh)).toNat := by
   rw [List.length_take]
   simp only [idr, List.length_map, List.length_range]
   omega
  rw [cmp_split q (lo - sh) (idr q n) a (by omega) hao, cells_cAts]
  cases hO : (idr q n).1.take (lo - sh - q).toNat with
  | nil =>
   rw [hO] at hlen
   simp only [List.length_nil] at hlen
   omega
  | cons c r =>
   rw [hO] at hlen
   refine ⟨?_, by simp⟩
   simp only
   rw [← hlen]
   have e1 : (c :: r).length = ((g' || c.1, c.2) :: r).length := by simp
   rw [e1, List.take_left]
 obtain ⟨t1, t2⟩ := htake
 have hcell : ∀ X, cells g (cAts ((cells g' (cmp q (idr q n) a)).1.take (lo - (q + sh)).toNat) ++ X) = cells (g || g') (cAts ((idr q n).1.take (lo - sh - q).toNat) ++ X) := by
  intro X
  rw [t1, cells_cAts, cells_cAts]
  cases hO : (idr q n).1.take (lo - sh - q).toNat with
  | nil => exact absurd hO t2
  | cons c r => simp [Bool.or_assoc]
 rw [hcell, lst_olds n _ _ q (lo - sh) rfl (by omega) hln L op tx (g || g') hL]
 congr 1
 exact group_one n m k IH a b (lo - sh) sh lo hk (by omega) (by omega) hA2 hln hB2 hm0 hlo
theorem groups_all (n m : Int) : ∀ k, GG n m k := by
 intro k
 induction k with
 | zero => intro a b q sh g g' L op tx h; omega
 | succ k IH =>
  intro a b q sh g g' L op tx hk hA hqn hB hm0 h0 hqm hL hf
  by_cases hne : a = [] ∧ b = []
  ·obtain ⟨rfl, rfl⟩ := hne
   simp only [groups, and_self, if_true]
   have e : cmp (q + sh) (cells g' (cmp q (idr q n) [])) [] = cAts (cells g' (cmp q (idr q n) [])).1 ++ fAt (cells g' (cmp q (idr q n) [])).2 := rfl
   rw [e, cells_again]
   have := lst_back n [] L q op (g || g') tx [] (by rcases hf with h | h | h <;> simp [h]) trivial hL hqn
   simpa [news] using this
  ·obtain ⟨lo, h1, h2, h3⟩ := next_lo a b sh hne
   have hlt : q + sh < lo := by
    rcases h1 with ⟨e, t, h, h4⟩ | ⟨f, s, h, h4, _⟩
    ·rw [h] at hA
     have := hA.1
     omega
    ·rw [h] at hB
     have := hB.1
     omega
   rw [group_next n m k IH a b q sh lo g g' L op tx hk h0 hlt (Ch.cz hA hqn) hqn (Ch.cz hB hqm) hm0 hL h1 h2 h3, if_pos]
   ·rfl
   ·rcases hf with h | h | h <;> simp [h]
theorem Ok.cz {n : Int} {l : List Ed} (h : Ok n l) (h0 : 0 ≤ n) : Cz n 0 l := by
 cases l with
 | nil => exact h0
 | cons e t => exact h
theorem ok_pair {m : Int} : ∀ (b : List Ed) (p : Int), Ch m p b → (∀ e ∈ b, p < e.a ∧ e.a ≤ e.b ∧ e.b ≤ m) ∧ List.Pairwise (fun x y => x.b ≤ y.a) b
 | [], p, _ => ⟨(fun e he => by cases he), List.Pairwise.nil⟩
 | e :: t, p, h => by
  obtain ⟨c1, c2, c3, c4⟩ := h
  obtain ⟨i1, i2⟩ := ok_pair t e.b c4
  refine ⟨fun x hx => ?_, List.pairwise_cons.2 ⟨fun x hx => by have := (i1 x hx).1; omega, i2⟩⟩
  rcases List.mem_cons.1 hx with rfl | hx
  ·exact ⟨c1, c2, c3⟩
  ·have := i1 x hx
   exact ⟨by omega, this.2⟩
theorem cmpE_groups (n : Int) (h0 : 0 ≤ n) (a b : List Ed) (ha : Ok n a) (hb : Ok (rowE n a).1.length b) (k : Nat) (hk : a.length + b.length < k + 1) : cmpE n a b = groups (k + 1) a b 0 := by
 have hA := Ok.cz ha h0
 have hm : ((rowE n a).1.length : Int) = n + shOf 0 a := by
  have := row_len n a 0 0 false hA
  unfold rowE
  omega
 have hB := Ok.cz hb (by omega)
 have hsub : sub (rowE n a) (rowE (rowE n a).1.length b) = cells false (cmp 0 (cells false (cmp 0 (idr 0 n) a)) b) := by
  have hall : (∀ e ∈ b, 0 ≤ e.a ∧ e.a ≤ e.b ∧ e.b ≤ ((rowE n a).1.length : Int)) ∧ List.Pairwise (fun x y => x.b ≤ y.a) b := by
   cases b with
   | nil => exact ⟨(fun e he => by cases he), List.Pairwise.nil⟩
   | cons e t =>
    obtain ⟨c1, c2, c3, c4⟩ := hb
    obtain ⟨i1, i2⟩ := ok_pair t e.b c4
    refine ⟨fun x hx => ?_, List.pairwise_cons.2 ⟨fun x hx => by have := (i1 x hx).1; omega, i2⟩⟩
    rcases List.mem_cons.1 hx with rfl | hx
    ·exact ⟨c1, c2, c3⟩
    ·have := i1 x hx
     exact ⟨by omega, this.2⟩
  have := cmp_sub (rowE n a) b 0 false (Nat.zero_le _) hall.1 (fun e t he => by have := (hall.1 e (by rw [he]; exact List.mem_cons_self)).1; simpa using this) hall.2
  simp only [List.drop_zero, Int.ofNat_zero] at this
  exact this.symm
 unfold cmpE lst
 rw [hsub]
 by_cases hne : a = [] ∧ b = []
 ·obtain ⟨rfl, rfl⟩ := hne
  simp only [groups, and_self, if_true]
  have e : cmp 0 (cells false (cmp 0 (idr 0 n) [])) [] = cAts (cells false (cmp 0 (idr 0 n) [])).1 ++ fAt (cells false (cmp 0 (idr 0 n) [])).2 := rfl
  rw [e, cells_again]
  exact lst_rowE n h0 [] trivial
 ·obtain ⟨lo, h1, h2, h3⟩ := next_lo a b 0 hne
  have hlo : 0 ≤ lo := by
   rcases h1 with ⟨e, t, h, h4⟩ | ⟨f, s, h, h4, _⟩
   ·rw [h] at hA
    have := hA.1
    omega
   ·rw [h] at hB
    have := hB.1
    omega
  by_cases hz : lo = 0
  ·subst hz
   exact group_one n _ k (groups_all n _ k) a b 0 0 0 hk (Int.le_refl _) rfl hA h0 hB hm h1
  ·have := group_next n _ k (groups_all n _ k) a b 0 0 lo false false 0 false [] hk (by omega) (by omega) hA h0 hB hm (Int.le_refl _) h1 h2 h3
   simpa using this
end Go.Proofs.YtaihajmdngoeiaaDoor.QE
namespace Go.Proofs.YtaihajmdngoeiaaDoor.QE
open Go.RowKit Go.Proofs.YtaihajmdngoeiaaDoorW.PrintWords Go.Proofs.YtaihajmdngoeiaaDoorW.PrintLast Go.Proofs.YtaihajmdngoeiaaDoorW.PrintMore
open Go.Proofs.YtaihajmdngoeiaaDoor.F
theorem rd86_at (l : List S86) (i : Nat) (h : i < l.length) : rd_T86 l (i : Int) = l[i] := by
 simp [rd_T86, List.getD_eq_getElem?_getD, h]
theorem mx_0 {x : Int} (h : 0 ≤ x) : mx x 0 = x := by unfold mx; omega
theorem mn_le {x y : Int} (h : x ≤ y) : mn x y = x := by unfold mn; omega
def whole (F : Int) : List S86 := if F = 0 then [] else [⟨true, 0, F, ⟨#[]⟩⟩]
theorem Whole_is (F : Int) : monikerref1_Whole.f F = some (whole F) := by
 unfold monikerref1_Whole.f whole
 split <;> rfl
def kp (a b : Int) : List S86 := if a < b then [⟨true, a, b, ⟨#[]⟩⟩] else []
def segs (F : Int) : Int → List S42 → List S86
 | a, [] => kp a F
 | a, e :: t => kp a e.f0 ++ ⟨false, 0, 0, e.f2⟩ :: segs F e.f1 t
theorem kept_one (F x y : Int) (hF : 0 ≤ F) (hF2 : F ≤ 4611686018427387904) (hx : 0 ≤ x) (hxF : x ≤ F) (hy : 0 ≤ y) (hyF : y ≤ F) : Ev (fun k => monikerref1_kept.f k (whole F) 0 x y) (kp x y) := by
 unfold monikerref1_kept.f whole
 by_cases h0 : F = 0
 ·rw [if_pos h0]
  refine ⟨2, fun n hn => ?_⟩
  obtain ⟨k, rfl⟩ : ∃ m, n = m + 2 := ⟨n - 2, by omega⟩
  simp only [monikerref1_kept.l0]
  rw [if_neg (by simp)]
  simp only [monikerref1_kept.j1, kp]
  rw [if_neg (by simp), if_neg (by omega)]
 ·rw [if_neg h0]
  refine ⟨6, fun n hn => ?_⟩
  obtain ⟨k, rfl⟩ : ∃ m, n = m + 6 := ⟨n - 6, by omega⟩
  have hend : ∀ (j : Nat) (a : Int) (o : List S86), monikerref1_kept.l0 (j + 2) [⟨true, 0, F, ⟨#[]⟩⟩] a x y o 1 = some o := by
   intro j a o
   simp only [monikerref1_kept.l0]
   rw [if_neg (by simp)]
   simp only [monikerref1_kept.j1]
   rw [if_neg (by simp)]
  have hr : rd_T86 [⟨true, 0, F, ⟨#[]⟩⟩] 0 = ⟨true, 0, F, ⟨#[]⟩⟩ := rfl
  have hw : wrap64 (F - 0) = F := by rw [w64] <;> omega
  have hw1 : wrap64 (x - 0) = x := by rw [w64] <;> omega
  have hw2 : wrap64 (y - 0) = y := by rw [w64] <;> omega
  have hw3 : wrap64 (0 + 1) = 1 := by rw [w64] <;> omega
  have hw4 : wrap64 (0 + x) = x := by rw [w64] <;> omega
  have hw5 : wrap64 (0 + y) = y := by rw [w64] <;> omega
  simp only [monikerref1_kept.l0]
  rw [if_pos (by simp)]
  simp only [monikerref1_kept.j1]
  rw [if_pos (by simp; omega), if_pos (by omega), if_pos (by simp), hr]
  simp only [monikerref1_Run_size.f, if_true, Option.bind_some, hw]
  rw [if_neg h0]
  simp only [monikerref1_kept.j2]
  rw [if_neg (by simp), hr]
  simp only [hw1, hw2, hw3]
  rw [mx_0 hx, mn_le hyF]
  unfold kp
  by_cases hxy : x < y
  ·rw [if_pos hxy, if_pos hxy, if_pos (by omega), if_pos (by simp)]
   simp only [monikerref1_Run_part.f, if_true, Option.bind_some, hw4, hw5]
   rw [if_pos (by simp)]
   exact hend _ _ _
  ·rw [if_neg hxy, if_neg hxy]
   exact hend _ _ _
theorem done_loop (F : Int) (hF : 0 ≤ F) (hF2 : F ≤ 4611686018427387904) (es : List S42) (hlen : es.length ≤ 65536) (d : Nat) : ∀ (i : Nat) (at_ : Int) (out : List S86) (p : Option Int), i ≤ es.length → es.length - i = d → 0 ≤ at_ → at_ ≤ F → Chain F p (es.drop i) → out.length + 2 * d ≤ 200000 →
  Ev (fun k => monikerref1_Done.l0 k (whole F) es out at_ F 0 (i : Int)) (out ++ segs F at_ (es.drop i)) := by
 induction d with
 | zero =>
  intro i at_ out p h1 h2 ha1 ha2 hc ho
  obtain ⟨K, hK⟩ := kept_one F at_ F hF hF2 ha1 ha2 hF (Int.le_refl _)
  refine ⟨K + 1, fun n hn => ?_⟩
  obtain ⟨k, rfl⟩ : ∃ m, n = m + 1 := ⟨n - 1, by omega⟩
  have := hK k (by omega)
  simp only at this
  simp only [monikerref1_Done.l0]
  rw [if_neg (by omega), this, List.drop_eq_nil_of_le (by omega)]
  simp only [Option.bind_some, segs]
  have hk : (kp at_ F).length ≤ 1 := by unfold kp; split <;> simp
  rw [if_pos (by omega)]
 | succ d ih =>
  intro i at_ out p h1 h2 ha1 ha2 hc ho
  have hi : i < es.length := by omega
  have hw : wrap64 ((i : Int) + 1) = ((i + 1 : Nat) : Int) := by rw [w64] <;> omega
  have hci : (i : Int) < (es.length : Int) := by omega
  have hc0 : (0 : Int) ≤ (i : Int) := by omega
  have hnl : ¬ wrap64 (0 + wrap64 (F - 0)) < at_ := by rw [w64 (x := F - 0) (by omega) (by omega), w64] <;> omega
  rw [List.drop_eq_getElem_cons hi] at hc ⊢
  obtain ⟨c1, c2, c3, c4, c5⟩ := hc
  obtain ⟨K, hK⟩ := kept_one F at_ (es[i]).f0 hF hF2 ha1 ha2 c1 (by omega)
  have hk : (kp at_ (es[i]).f0).length ≤ 1 := by unfold kp; split <;> simp
  have hb1 : out.length + (kp at_ (es[i]).f0).length < 3518437208883 := by omega
  have hb2 : (out ++ kp at_ (es[i]).f0).length < 3518437208883 := by rw [List.length_append]; omega
  obtain ⟨K', hK'⟩ := ih (i + 1) (es[i]).f1 (out ++ kp at_ (es[i]).f0 ++ [⟨false, 0, 0, (es[i]).f2⟩]) (some (es[i]).f1) (by omega) (by omega) (by omega) c3 c5 (by simp; omega)
  refine ⟨K + K' + 2, fun n hn => ?_⟩
  obtain ⟨k, rfl⟩ : ∃ m, n = m + 2 := ⟨n - 2, by omega⟩
  have g1 := hK k (by omega)
  have g2 := hK' k (by omega)
  simp only at g1 g2
  have htail : ((monikerref1_kept.f k (whole F) 0 at_ (es[i]).f0).bind fun t180 => (if out.length + t180.length < 3518437208883 then ((some (out ++ t180 : List S86)).bind fun y183 => (if y183.length < 3518437208883 then (monikerref1_Done.l0 k (whole F) es (y183 ++ [(⟨false, 0, 0, (es[i]).f2⟩ : S86)]) ((es[i]).f1) F 0 (wrap64 ((i : Int) + 1))) else (none))) else (none))) = some (out ++ segs F at_ (es[i] :: es.drop (i + 1))) := by
   rw [g1]
   simp only [Option.bind_some]
   rw [if_pos hb1, if_pos hb2, hw, g2]
   simp [segs]
  simp only [monikerref1_Done.l0]
  rw [if_pos hci]
  simp only [monikerref1_Done.l1, rd_at es i hi]
  by_cases h0 : F = 0
  ·have hw0 : whole F = [] := by unfold whole; rw [if_pos h0]
   rw [hw0] at htail ⊢
   rw [if_neg (by simp), if_pos hc0, if_pos hci]
   exact htail
  ·have hw0 : whole F = [⟨true, 0, F, ⟨#[]⟩⟩] := by unfold whole; rw [if_neg h0]
   rw [hw0] at htail ⊢
   have hr : rd_T86 [⟨true, 0, F, ⟨#[]⟩⟩] 0 = ⟨true, 0, F, ⟨#[]⟩⟩ := rfl
   rw [if_pos (by simp), if_pos (by simp), hr]
   simp only [monikerref1_Run_size.f, if_true, Option.bind_some]
   rw [if_neg hnl, if_pos hc0, if_pos hci]
   exact htail
theorem Size_whole (F : Int) (hF : 0 ≤ F) (hF2 : F ≤ 4611686018427387904) : Ev (fun k => monikerref1_Size.f k (whole F)) F := by
 unfold monikerref1_Size.f whole
 by_cases h0 : F = 0
 ·rw [if_pos h0]
  refine ⟨1, fun n hn => ?_⟩
  obtain ⟨k, rfl⟩ : ∃ m, n = m + 1 := ⟨n - 1, by omega⟩
  simp only [monikerref1_Size.l0]
  rw [if_neg (by simp), h0]
 ·rw [if_neg h0]
  refine ⟨2, fun n hn => ?_⟩
  obtain ⟨k, rfl⟩ : ∃ m, n = m + 2 := ⟨n - 2, by omega⟩
  have hr : rd_T86 [⟨true, 0, F, ⟨#[]⟩⟩] 0 = ⟨true, 0, F, ⟨#[]⟩⟩ := rfl
  simp only [monikerref1_Size.l0]
  rw [if_pos (by simp), if_pos (by omega), hr]
  simp only [monikerref1_Run_size.f, if_true, Option.bind_some]
  rw [w64 (x := F - 0) (by omega) (by omega), w64 (x := 0 + 1) (by omega) (by omega), if_neg (by simp), w64 (by omega) (by omega)]
  simp
theorem Done_is (F : Int) (hF : 0 ≤ F) (hF2 : F ≤ 4611686018427387904) (es : List S42) (hlen : es.length ≤ 65536) (hc : Chain F none es) : Ev (fun k => monikerref1_Done.f k (whole F) es) (segs F 0 es) := by
 unfold monikerref1_Done.f
 refine (Size_whole F hF hF2).bind ?_
 have := done_loop F hF hF2 es hlen es.length 0 0 [] none (by omega) (by omega) (by omega) hF hc (by simp; omega)
 simpa using this
def piece (text : ByteArray) (r : S86) : ByteArray := if r.f0 = true then text.extract r.f1.toNat r.f2.toNat else r.f3
def saidB (text : ByteArray) : List S86 → ByteArray
 | [] => ⟨#[]⟩
 | r :: t => piece text r ++ saidB text t
theorem said_loop (text : ByteArray) (rs : List S86) (hlen : rs.length ≤ 1000000) (hr : ∀ r ∈ rs, r.f0 = true → 0 ≤ r.f1 ∧ r.f1 ≤ r.f2 ∧ r.f2 ≤ text.size) (d : Nat) : ∀ (i : Nat) (acc : ByteArray), i ≤ rs.length → rs.length - i = d → acc.size + (saidB text (rs.drop i)).size ≤ 9223372036854775807 →
  Ev (fun k => monikerref1_said.l0 k text rs acc (i : Int)) (acc ++ saidB text (rs.drop i)) := by
 induction d with
 | zero =>
  intro i acc h1 h2 hs
  refine ⟨1, fun n hn => ?_⟩
  obtain ⟨k, rfl⟩ : ∃ m, n = m + 1 := ⟨n - 1, by omega⟩
  simp only [monikerref1_said.l0]
  rw [if_neg (by omega), List.drop_eq_nil_of_le (by omega)]
  simp only [saidB]
  congr 1
  exact (ByteArray.append_empty).symm
 | succ d ih =>
  intro i acc h1 h2 hs
  have hi : i < rs.length := by omega
  rw [List.drop_eq_getElem_cons hi] at hs ⊢
  simp only [saidB] at hs ⊢
  rw [ByteArray.size_append] at hs
  obtain ⟨K, hK⟩ := ih (i + 1) (acc ++ piece text rs[i]) (by omega) (by omega) (by rw [ByteArray.size_append]; omega)
  refine ⟨K + 1, fun n hn => ?_⟩
  obtain ⟨k, rfl⟩ : ∃ m, n = m + 1 := ⟨n - 1, by omega⟩
  have g := hK k (by omega)
  have hw : wrap64 ((i : Int) + 1) = ((i + 1 : Nat) : Int) := by rw [w64] <;> omega
  simp only at g
  simp only [monikerref1_said.l0]
  rw [rd86_at rs i hi, if_pos (by omega), if_pos (by omega), hw, ← ByteArray.append_assoc]
  by_cases h : (rs[i]).f0 = true
  ·obtain ⟨e1, e2, e3⟩ := hr _ (List.getElem_mem hi) h
   have hp : piece text rs[i] = text.extract (rs[i]).f1.toNat (rs[i]).f2.toNat := by unfold piece; rw [if_pos h]
   rw [hp] at g hs ⊢
   rw [if_pos h, if_pos e1, if_pos e2, if_pos e3, if_pos (by omega)]
   exact g
  ·have hp : piece text rs[i] = (rs[i]).f3 := by unfold piece; rw [if_neg h]
   rw [hp] at g hs ⊢
   rw [if_neg h, if_pos (by omega)]
   exact g
theorem said_is (text : ByteArray) (rs : List S86) (hlen : rs.length ≤ 1000000) (hr : ∀ r ∈ rs, r.f0 = true → 0 ≤ r.f1 ∧ r.f1 ≤ r.f2 ∧ r.f2 ≤ text.size) (hs : (saidB text rs).size ≤ 9223372036854775807) : Ev (fun k => monikerref1_said.f k text rs) (saidB text rs) := by
 unfold monikerref1_said.f
 have := said_loop text rs hlen hr rs.length 0 ⟨#[]⟩ (by omega) (by omega) (by rw [List.drop_zero, show (⟨#[]⟩ : ByteArray).size = 0 from rfl]; omega)
 have e : (⟨#[]⟩ : ByteArray) ++ saidB text (rs.drop 0) = saidB text rs := by rw [List.drop_zero]; exact ByteArray.empty_append
 rw [e] at this
 exact this
def grow (e : S42) : Int := (e.f2.size : Int) - (e.f1 - e.f0)
def sumG : List S42 → Int
 | [] => 0
 | e :: t => grow e + sumG t
theorem sumG_append : ∀ (l m : List S42), sumG (l ++ m) = sumG l + sumG m
 | [], m => by simp [sumG]
 | e :: t, m => by simp only [List.cons_append, sumG]; rw [sumG_append t m]; omega
theorem saidB_append (text : ByteArray) : ∀ (l m : List S86), saidB text (l ++ m) = saidB text l ++ saidB text m
 | [], m => by simp only [List.nil_append, saidB]; exact ByteArray.empty_append.symm
 | r :: t, m => by simp only [List.cons_append, saidB]; rw [saidB_append text t m, ByteArray.append_assoc]
theorem saidB_kp (text : ByteArray) (a b : Int) (ha : 0 ≤ a) (hb : b ≤ text.size) : ((saidB text (kp a b)).size : Int) = if a < b then b - a else 0 := by
 unfold kp
 split
 ·simp only [saidB, piece]
  rw [if_pos trivial, ByteArray.size_append, ByteArray.size_extract]
  simp only [ByteArray.size, List.size_toArray, List.length_nil]
  simp only [ByteArray.size] at hb
  omega
 ·simp [saidB, ByteArray.size]
theorem saidB_size (text : ByteArray) (F : Int) (hF : F = text.size) : ∀ (es : List S42) (a : Int) (p : Option Int), Chain F p es → 0 ≤ a → a ≤ F → (∀ e t, es = e :: t → a ≤ e.f0) → ((saidB text (segs F a es)).size : Int) = F - a + sumG es
 | [], a, p, _, h0, h1, _ => by
  simp only [segs, sumG]
  rw [saidB_kp text a F h0 (by omega)]
  split <;> omega
 | e :: t, a, p, ⟨c1, c2, c3, c4, c5⟩, h0, h1, h2 => by
  have ha := h2 e t rfl
  have ih := saidB_size text F hF t e.f1 (some e.f1) c5 (by omega) c3 (fun e' t' ht => by subst ht; have := c5.2.2.2.1 _ rfl; omega)
  simp only [segs, sumG]
  rw [saidB_append, ByteArray.size_append]
  simp only [saidB, piece]
  rw [ByteArray.size_append]
  simp only [Bool.false_eq_true, if_false]
  have hk := saidB_kp text a e.f0 h0 (by omega)
  unfold grow
  split at hk <;> omega
theorem segs_old (F : Int) (hF : 0 ≤ F) : ∀ (es : List S42) (a : Int) (p : Option Int), Chain F p es → 0 ≤ a → ∀ r ∈ segs F a es, r.f0 = true → 0 ≤ r.f1 ∧ r.f1 ≤ r.f2 ∧ r.f2 ≤ F
 | [], a, p, _, h0, r, hr, _ => by
  simp only [segs, kp] at hr
  split at hr
  ·simp only [List.mem_singleton] at hr
   subst hr
   exact ⟨h0, by show a ≤ F; omega, Int.le_refl _⟩
  ·cases hr
 | e :: t, a, p, ⟨c1, c2, c3, c4, c5⟩, h0, r, hr, hf => by
  simp only [segs, List.mem_append, List.mem_cons] at hr
  rcases hr with hr | rfl | hr
  ·unfold kp at hr
   split at hr
   ·simp only [List.mem_singleton] at hr
    subst hr
    exact ⟨h0, by show a ≤ e.f0; omega, by show e.f0 ≤ F; omega⟩
   ·cases hr
  ·cases hf
  ·exact segs_old F hF t e.f1 _ c5 (by omega) r hr hf
theorem segs_len (F : Int) : ∀ (es : List S42) (a : Int), (segs F a es).length ≤ 2 * es.length + 1
 | [], a => by simp only [segs, kp]; split <;> simp
 | e :: t, a => by
  have := segs_len F t e.f1
  simp only [segs, List.length_append, List.length_cons]
  have : (kp a e.f0).length ≤ 1 := by unfold kp; split <;> simp
  omega
end Go.Proofs.YtaihajmdngoeiaaDoor.QE
namespace Go.Proofs.YtaihajmdngoeiaaDoor.QE
open Go.RowKit Go.Proofs.YtaihajmdngoeiaaDoorW.PrintWords Go.Proofs.YtaihajmdngoeiaaDoorW.PrintLast Go.Proofs.YtaihajmdngoeiaaDoorW.PrintMore
open Go.Proofs.YtaihajmdngoeiaaDoor.F
set_option linter.unusedVariables false
set_option linter.unusedSimpArgs false
def oAt (x y : Int) : List At := (List.range (y - x).toNat).map fun (i : Nat) => .by (.old (x + (i : Int)))
def oCs (x y : Int) : List Cl := (List.range (y - x).toNat).map fun (i : Nat) => (false, By.old (x + (i : Int)))
def rsz (r : S86) : Int := if r.f0 = true then r.f2 - r.f1 else (r.f3.size : Int)
def rAt (r : S86) : List At := if r.f0 = true then oAt r.f1 r.f2 else .mark :: news r.f3.data.toList
def rAts (l : List S86) : List At := l.flatMap rAt
def Rn (r : S86) : Prop := if r.f0 = true then r.f1 < r.f2 ∧ r.f3 = ⟨#[]⟩ else r.f1 = 0 ∧ r.f2 = 0
def sum_ : List S86 → Int
 | [] => 0
 | r :: l => rsz r + sum_ l
def stp (l : List Cl) : List Cl := l.map fun c => match c.2 with | .new x => (false, .new x) | .old k => (c.1, .old k)
def sC (R : Rw) : Rw := (stp R.1, R.2)
theorem oAt_cAts (x y : Int) : oAt x y = cAts (oCs x y) := by
 unfold oAt oCs cAts
 rw [List.flatMap_map]
 induction (List.range (y - x).toNat) with
 | nil => rfl
 | cons i l ih => simp [ih, cAt]
theorem oCs_len (x y : Int) (h : x ≤ y) : ((oCs x y).length : Int) = y - x := by
 unfold oCs
 simp
 omega
theorem oCs_drop (x y z : Int) (h : x ≤ z) (h2 : z ≤ y) : (oCs x y).drop (z - x).toNat = oCs z y := by
 apply List.ext_getElem
 ·simp [oCs]; omega
 ·intro i h3 h4
  simp [oCs] at h3 h4 ⊢
  omega
theorem oCs_take (x y z : Int) (h : x ≤ z) (h2 : z ≤ y) : (oCs x y).take (z - x).toNat = oCs x z := by
 apply List.ext_getElem
 ·simp [oCs]; omega
 ·intro i h3 h4
  simp [oCs] at h3 h4 ⊢
theorem sC_snd {R R' : Rw} (h : sC R = sC R') : R.2 = R'.2 := (show (sC R).2 = (sC R').2 from congrArg (fun z : Rw => z.2) h)
theorem sC_append (A B : List At) (f f' : Bool) (B' : List At) (A' : List At) (h1 : sC (cells f A) = sC (cells f' A')) (h2 : sC (cells (cells f A).2 B) = sC (cells (cells f A).2 B')) : sC (cells f (A ++ B)) = sC (cells f' (A' ++ B')) := by
 rw [cells_append, cells_append]
 have e1 : stp (cells f A).1 = stp (cells f' A').1 := congrArg Prod.fst h1
 have e2 : (cells f A).2 = (cells f' A').2 := sC_snd h1
 rw [← e2]
 have e3 : stp (cells (cells f A).2 B).1 = stp (cells (cells f A).2 B').1 := congrArg Prod.fst h2
 have e4 : (cells (cells f A).2 B).2 = (cells (cells f A).2 B').2 := sC_snd h2
 unfold sC
 simp only [Prod.mk.injEq]
 refine ⟨?_, e4⟩
 unfold stp at e1 e3 ⊢
 rw [List.map_append, List.map_append, e1, e3]
theorem sC_right (A B B' : List At) (f : Bool) (h : ∀ g, sC (cells g B) = sC (cells g B')) : sC (cells f (A ++ B)) = sC (cells f (A ++ B')) := sC_append A B f f B' A rfl (h _)
theorem stp_lst (n : Int) : ∀ (Q : List Cl) (last : Int) (op : Bool) (tx : List UInt8) (fin : Bool), lstC n last op tx (stp Q) fin = lstC n last op tx Q fin
 | [], last, op, tx, fin => rfl
 | (f, .new c) :: r, last, op, tx, fin => by
  show lstC n last true (tx ++ [c]) (stp r) fin = lstC n last true (tx ++ [c]) r fin
  exact stp_lst n r last true _ fin
 | (f, .old k) :: r, last, op, tx, fin => by
  show (if op = true ∨ f = true ∨ last < k then ⟨last, k, tx⟩ :: lstC n (k + 1) false [] (stp r) fin else lstC n (k + 1) false [] (stp r) fin) = _
  rw [stp_lst n r]
  rfl
theorem lst_sC (n last : Int) (op : Bool) (tx : List UInt8) (R R' : Rw) (h : sC R = sC R') : lstC n last op tx R.1 R.2 = lstC n last op tx R'.1 R'.2 := by
 have e1 : stp R.1 = stp R'.1 := congrArg Prod.fst h
 have e2 : R.2 = R'.2 := sC_snd h
 rw [← stp_lst n R.1, ← stp_lst n R'.1, e1, e2]
def partS (r : S86) (a b : Int) : S86 := if r.f0 = true then ⟨true, r.f1 + a, r.f1 + b, ⟨#[]⟩⟩ else ⟨false, 0, 0, r.f3.extract a.toNat b.toNat⟩
def keptS : Int → Int → Int → List S86 → List S86
 | _, _, _, [] => []
 | p, x, y, r :: l => if p ≤ y then ((if rsz r = 0 ∧ x ≤ p then [r] else []) ++ (if max (x - p) 0 < min (y - p) (rsz r) then [partS r (max (x - p) 0) (min (y - p) (rsz r))] else [])) ++ keptS (p + rsz r) x y l else []
theorem rsz_pos {r : S86} (h : Rn r) : 0 ≤ rsz r := by
 unfold Rn at h
 unfold rsz
 split
 ·next e => rw [if_pos e] at h; omega
 ·omega
theorem keptS_past (x y : Int) : ∀ (l : List S86) (p : Int), y < p → keptS p x y l = []
 | [], p, h => rfl
 | r :: l, p, h => by
  simp only [keptS]
  rw [if_neg (by omega)]
theorem part_all {r : S86} (h : Rn r) (h0 : 0 < rsz r) : partS r 0 (rsz r) = r := by
 obtain ⟨f0, f1, f2, f3⟩ := r
 unfold Rn at h
 unfold partS rsz at *
 cases f0 with
 | true =>
  simp only [if_true] at h h0 ⊢
  obtain ⟨h1, h2⟩ := h
  subst h2
  congr 1 <;> omega
 | false =>
  simp only [Bool.false_eq_true, if_false] at h h0 ⊢
  obtain ⟨rfl, rfl⟩ := h
  congr 1
  apply ByteArray.ext
  simp
theorem kept_all (x y : Int) : ∀ (l : List S86) (p : Int), (∀ r ∈ l, Rn r) → x ≤ p → p + sum_ l ≤ y → keptS p x y l = l
 | [], p, _, _, _ => rfl
 | r :: l, p, hR, hx, hy => by
  have h0 := rsz_pos (hR r List.mem_cons_self)
  have hsum : ∀ l : List S86, (∀ r ∈ l, Rn r) → 0 ≤ sum_ l := by
   intro l
   induction l with
   | nil => intro _; exact Int.le_refl _
   | cons r l ih =>
    intro h
    have := rsz_pos (h r List.mem_cons_self)
    have := ih (fun x hx => h x (List.mem_cons_of_mem _ hx))
    simp only [sum_]
    omega
  have hl := hsum l (fun x hx => hR x (List.mem_cons_of_mem _ hx))
  simp only [sum_] at hy
  simp only [keptS]
  rw [if_pos (by omega), kept_all x y l (p + rsz r) (fun z hz => hR z (List.mem_cons_of_mem _ hz)) (by omega) (by omega)]
  by_cases hz : rsz r = 0
  ·rw [if_pos ⟨hz, hx⟩, if_neg (by omega)]
   rfl
  ·rw [if_neg (fun h => hz h.1), if_pos (by omega), show max (x - p) 0 = 0 by omega, show min (y - p) (rsz r) = rsz r by omega, part_all (hR r List.mem_cons_self) (by omega)]
   rfl
theorem kept_skip (x y : Int) (r : S86) (l : List S86) (p : Int) (hr : Rn r) (h : p + rsz r < x) (hxy : x ≤ y) : keptS p x y (r :: l) = keptS (p + rsz r) x y l := by
 have h0 := rsz_pos hr
 simp only [keptS]
 rw [if_pos (by omega), if_neg (by omega), if_neg (by omega)]
 rfl
end Go.Proofs.YtaihajmdngoeiaaDoor.QE
namespace Go.Proofs.YtaihajmdngoeiaaDoor.QE
open Go.RowKit Go.Proofs.YtaihajmdngoeiaaDoorW.PrintWords Go.Proofs.YtaihajmdngoeiaaDoorW.PrintLast Go.Proofs.YtaihajmdngoeiaaDoorW.PrintMore
open Go.Proofs.YtaihajmdngoeiaaDoor.F
set_option linter.unusedVariables false
set_option linter.unusedSimpArgs false
def flg (g : Bool) : List Cl → List Cl
 | [] => []
 | c :: t => (g || c.1, c.2) :: t
def crow (g : Bool) (r : S86) : List Cl := if r.f0 = true then flg g (oCs r.f1 r.f2) else newc true r.f3.data.toList
theorem oCs_cons (x y : Int) (h : x < y) : oCs x y = (false, .old x) :: oCs (x + 1) y := by
 unfold oCs
 obtain ⟨d, hd⟩ : ∃ d : Nat, (y - x).toNat = d + 1 := ⟨(y - x).toNat - 1, by omega⟩
 rw [hd, show (y - (x + 1)).toNat = d by omega, List.range_succ_eq_map]
 simp only [List.map_cons, List.map_map]
 congr 1
 ·simp
 ·apply List.map_congr_left
  intro i _
  simp only [Function.comp_apply, Prod.mk.injEq, By.old.injEq, true_and]
  omega
theorem cells_flg (g : Bool) (C : List Cl) (X : List At) (h : C ≠ []) : cells g (cAts C ++ X) = (flg g C ++ (cells false X).1, (cells false X).2) := by
 rw [cells_cAts]
 cases C with
 | nil => exact absurd rfl h
 | cons c t => rfl
theorem cells_run (g : Bool) (r : S86) (X : List At) (hr : Rn r) (h : 0 < rsz r) : cells g (rAt r ++ X) = (crow g r ++ (cells false X).1, (cells false X).2) := by
 unfold rAt crow
 unfold Rn at hr
 unfold rsz at h
 by_cases e : r.f0 = true
 ·rw [if_pos e] at hr h ⊢
  rw [if_pos e, oAt_cAts]
  refine cells_flg g _ X ?_
  rw [oCs_cons _ _ hr.1]
  simp
 ·rw [if_neg e] at h ⊢
  rw [if_neg e]
  simp only [List.cons_append, cells]
  rw [cells_news]
  have : (true && r.f3.data.toList.isEmpty) = false := by
   cases ht : r.f3.data.toList with
   | nil =>
    have := data_length r.f3
    rw [ht] at this
    simp at this
    omega
   | cons a b => rfl
  rw [this]
theorem crow_len (g : Bool) (r : S86) (hr : Rn r) : ((crow g r).length : Int) = rsz r := by
 unfold crow rsz
 unfold Rn at hr
 by_cases e : r.f0 = true
 ·rw [if_pos e] at hr ⊢
  rw [if_pos e]
  have := oCs_len r.f1 r.f2 (by omega)
  have hf : (flg g (oCs r.f1 r.f2)).length = (oCs r.f1 r.f2).length := by cases oCs r.f1 r.f2 <;> rfl
  rw [hf]
  exact this
 ·rw [if_neg e, if_neg e, newc_len, data_length]
theorem stp_new : ∀ (L : List Cl) (T : List UInt8), L.map (·.2) = T.map By.new → stp L = T.map fun c => (false, By.new c)
 | [], [], _ => rfl
 | [], _ :: _, h => by simp at h
 | _ :: _, [], h => by simp at h
 | (f, b) :: L, c :: T, h => by
  simp only [List.map_cons, List.cons.injEq] at h
  obtain ⟨rfl, h2⟩ := h
  have := stp_new L T h2
  unfold stp at this ⊢
  simp only [List.map_cons]
  rw [this]
theorem flg_snd (g : Bool) (L : List Cl) : (flg g L).map (·.2) = L.map (·.2) := by cases L <;> rfl
theorem flg_flg (f g : Bool) (L : List Cl) : flg f (flg g L) = flg (f || g) L := by cases L <;> simp [flg, Bool.or_assoc]
theorem flg_drop (g : Bool) (L : List Cl) (i : Nat) : (flg g L).drop i = if i = 0 then flg g L else L.drop i := by
 cases i with
 | zero => rfl
 | succ i => cases L <;> rfl
theorem flg_take (g : Bool) (L : List Cl) (i : Nat) : (flg g L).take i = flg g (L.take i) := by
 cases i with
 | zero => simp [flg]
 | succ i => cases L <;> rfl
theorem sC_mk {A A' : List Cl} {R R' : Rw} (h : stp A = stp A') (h2 : sC R = sC R') : sC (A ++ R.1, R.2) = sC (A' ++ R'.1, R'.2) := by
 have e1 : stp R.1 = stp R'.1 := congrArg Prod.fst h2
 have e2 := sC_snd h2
 unfold sC
 simp only [Prod.mk.injEq]
 refine ⟨?_, e2⟩
 unfold stp at h e1 ⊢
 rw [List.map_append, List.map_append, h, e1]
theorem piece_cells (r : S86) (hr : Rn r) (a b : Int) (ha : 0 ≤ a) (hab : a < b) (hb : b ≤ rsz r) (f g : Bool) (W W' : List At) (hW : sC (cells false W) = sC (cells false W')) :
  sC (cells (if a = 0 then f || g else f) (rAt (partS r a b) ++ W)) = sC (cells f (cAts (((crow g r).drop a.toNat).take (b - a).toNat) ++ W')) := by
 have hlen := crow_len g r hr
 have hne : ((crow g r).drop a.toNat).take (b - a).toNat ≠ [] := by
  intro e
  have := congrArg List.length e
  rw [List.length_take, List.length_drop] at this
  simp only [List.length_nil] at this
  omega
 rw [cells_flg f _ W' hne]
 by_cases e : r.f0 = true
 ·have hp : Rn (partS r a b) ∧ 0 < rsz (partS r a b) := by
   unfold partS Rn rsz
   rw [if_pos e]
   simp only [if_true]
   exact ⟨⟨by omega, trivial⟩, by omega⟩
  rw [cells_run _ _ W hp.1 hp.2]
  refine sC_mk ?_ hW
  congr 1
  have hc : ∀ g, crow g r = flg g (oCs r.f1 r.f2) := fun g => by unfold crow; rw [if_pos e]
  have hc2 : ∀ g, crow g (partS r a b) = flg g (oCs (r.f1 + a) (r.f1 + b)) := fun g => by unfold crow partS; rw [if_pos e]; rfl
  have hs : rsz r = r.f2 - r.f1 := by unfold rsz; rw [if_pos e]
  rw [hc, hc2, flg_drop]
  have hd := oCs_drop r.f1 r.f2 (r.f1 + a) (by omega) (by omega)
  have ht := oCs_take (r.f1 + a) r.f2 (r.f1 + b) (by omega) (by omega)
  rw [show (r.f1 + a - r.f1).toNat = a.toNat by omega] at hd
  rw [show (r.f1 + b - (r.f1 + a)).toNat = (b - a).toNat by omega] at ht
  by_cases hz : a = 0
  ·subst hz
   simp only [Int.toNat_zero, if_true, List.drop_zero] at hd ⊢
   rw [flg_take, flg_flg]
   congr 1
   rw [← ht, show r.f1 + 0 = r.f1 by omega]
  ·first | rw [if_neg (show ¬ a.toNat = 0 by omega), if_neg hz, hd, ht] | rw [if_neg (show ¬ a.toNat = 0 by omega), hd, ht]
 ·have hs : rsz r = (r.f3.size : Int) := by unfold rsz; rw [if_neg e]
  have hc : crow g r = newc true r.f3.data.toList := by unfold crow; rw [if_neg e]
  have hp : partS r a b = ⟨false, 0, 0, r.f3.extract a.toNat b.toNat⟩ := by unfold partS; rw [if_neg e]
  have hps : Rn (partS r a b) ∧ 0 < rsz (partS r a b) := by
   have hz : (r.f3.extract a.toNat b.toNat).size = b.toNat - a.toNat := by rw [ByteArray.size_extract]; omega
   rw [hp]
   refine ⟨?_, ?_⟩
   ·show (if false = true then _ else (0 : Int) = 0 ∧ (0 : Int) = 0)
    simp
   ·show (0 : Int) < (if false = true then (0 : Int) - 0 else ((r.f3.extract a.toNat b.toNat).size : Int))
    rw [hz]
    simp
    omega
  rw [cells_run _ _ W hps.1 hps.2]
  refine sC_mk ?_ hW
  have hT : (r.f3.extract a.toNat b.toNat).data.toList = (r.f3.data.toList.drop a.toNat).take (b - a).toNat := by
   rw [ByteArray.data_extract, Array.toList_extract, show (b - a).toNat = b.toNat - a.toNat by omega]
  have e1 : (crow (if a = 0 then f || g else f) (partS r a b)).map (·.2) = ((r.f3.data.toList.drop a.toNat).take (b - a).toNat).map By.new := by
   rw [hp]
   unfold crow
   simp only [Bool.false_eq_true, if_false]
   rw [newc_by, hT]
  have e2 : (flg f (((crow g r).drop a.toNat).take (b - a).toNat)).map (·.2) = ((r.f3.data.toList.drop a.toNat).take (b - a).toNat).map By.new := by
   rw [flg_snd, List.map_take, List.map_drop, hc, newc_by, ← List.map_drop, ← List.map_take]
  rw [stp_new _ _ e1, stp_new _ _ e2]
theorem rn_zero {r : S86} (hr : Rn r) (h : rsz r = 0) : rAt r = [.mark] := by
 unfold Rn at hr
 unfold rsz at h
 unfold rAt
 by_cases e : r.f0 = true
 ·rw [if_pos e] at hr h
  omega
 ·rw [if_neg e] at h ⊢
  have : r.f3.data.toList = [] := List.eq_nil_of_length_eq_zero (by rw [data_length]; omega)
  rw [this]
  rfl
theorem rAts_cons (r : S86) (l : List S86) : rAts (r :: l) = rAt r ++ rAts l := by simp [rAts]
theorem rAts_append (a b : List S86) : rAts (a ++ b) = rAts a ++ rAts b := by simp [rAts]
theorem kept_one_ (x y : Int) (Z : List At) : ∀ (l : List S86) (p : Int) (f g : Bool), (∀ r ∈ l, Rn r) → x ≤ p →
  sC (cells (f || g) (rAts (keptS p x y l) ++ .mark :: Z)) = sC (cells f (cAts ((cells g (rAts l)).1.take (y - p).toNat) ++ .mark :: Z))
 | [], p, f, g, _, _ => by simp [keptS, rAts, cells, cAts]
 | r :: l, p, f, g, hR, hx => by
  have hr := hR r List.mem_cons_self
  have h0 := rsz_pos hr
  have IH := fun p f g => kept_one_ x y Z l p f g (fun z hz => hR z (List.mem_cons_of_mem _ hz))
  rw [rAts_cons]
  by_cases hp : p ≤ y
  ·simp only [keptS]
   rw [if_pos hp]
   by_cases hz : rsz r = 0
   ·rw [if_pos ⟨hz, hx⟩, if_neg (by omega), rn_zero hr hz]
    simp only [List.append_nil, List.cons_append, List.nil_append]
    rw [rAts_cons, rn_zero hr hz]
    simp only [List.cons_append, List.nil_append, cells]
    have := IH (p + rsz r) f true (by omega)
    rw [show (y - (p + rsz r)).toNat = (y - p).toNat by omega] at this
    simpa using this
   ·rw [if_neg (fun h => hz h.1), List.nil_append, cells_run g r _ hr (by omega), show max (x - p) 0 = 0 by omega]
    have hlen := crow_len g r hr
    by_cases hy : rsz r ≤ y - p
    ·rw [if_pos (by omega), show min (y - p) (rsz r) = rsz r by omega]
     have ih := IH (p + rsz r) false false (by omega)
     have := piece_cells r hr 0 (rsz r) (by omega) (by omega) (Int.le_refl _) f g _ _ ih
     rw [if_pos rfl] at this
     rw [rAts_append, rAts_cons]
     simp only [rAts, List.flatMap_nil, List.append_nil, List.append_assoc] at this ⊢
     rw [this]
     simp only [Int.toNat_zero, List.drop_zero]
     rw [List.take_of_length_le (l := crow g r) (i := (rsz r - 0).toNat) (by omega), List.take_append, List.take_of_length_le (l := crow g r) (i := (y - p).toNat) (by omega), show (y - p).toNat - (crow g r).length = (y - (p + rsz r)).toNat by omega]
     have e : cAts (crow g r ++ List.take (y - (p + rsz r)).toNat (cells false (List.flatMap rAt l)).1) = cAts (crow g r) ++ cAts (List.take (y - (p + rsz r)).toNat (cells false (List.flatMap rAt l)).1) := by simp [cAts]
     rw [e, List.append_assoc]
    ·rw [keptS_past x y l (p + rsz r) (by omega), List.append_nil, List.take_append_of_le_length (by omega)]
     by_cases hd : p < y
     ·rw [if_pos (by omega), show min (y - p) (rsz r) = y - p by omega]
      have := piece_cells r hr 0 (y - p) (by omega) (by omega) (by omega) f g (.mark :: Z) (.mark :: Z) rfl
      rw [if_pos rfl] at this
      simp only [rAts, List.flatMap_cons, List.flatMap_nil, List.append_nil]
      simpa using this
     ·rw [if_neg (by omega), show (y - p).toNat = 0 by omega]
      simp [rAts, cAts, cells]
  ·rw [keptS_past x y (r :: l) p (by omega), show (y - p).toNat = 0 by omega]
   simp [rAts, cAts, cells]
theorem kept_two (x y : Int) (hxy : x ≤ y) (Z : List At) : ∀ (l : List S86) (p : Int) (f g : Bool), (∀ r ∈ l, Rn r) → p < x →
  sC (cells f (rAts (keptS p x y l) ++ .mark :: Z)) = sC (cells f (cAts (((cells g (rAts l)).1.drop (x - p).toNat).take (y - x).toNat) ++ .mark :: Z))
 | [], p, f, g, _, _ => by simp [keptS, rAts, cells, cAts]
 | r :: l, p, f, g, hR, hx => by
  have hr := hR r List.mem_cons_self
  have hR' := fun z hz => hR z (List.mem_cons_of_mem r hz)
  have h0 := rsz_pos hr
  by_cases h1 : p + rsz r < x
  ·rw [kept_skip x y r l p hr h1 hxy, rAts_cons]
   by_cases hz : rsz r = 0
   ·rw [rn_zero hr hz]
    simp only [List.cons_append, List.nil_append, cells]
    have := kept_two x y hxy Z l (p + rsz r) f true hR' h1
    rw [show (x - (p + rsz r)).toNat = (x - p).toNat by omega] at this
    exact this
   ·rw [cells_run g r _ hr (by omega)]
    have hlen := crow_len g r hr
    have := kept_two x y hxy Z l (p + rsz r) f false hR' h1
    rw [this]
    simp only
    rw [List.drop_append, @List.drop_eq_nil_of_le _ (crow g r) _ (by omega), List.nil_append, show (x - p).toNat - (crow g r).length = (x - (p + rsz r)).toNat by omega]
  ·have hz : 0 < rsz r := by omega
   rw [rAts_cons, cells_run g r _ hr hz]
   have hlen := crow_len g r hr
   simp only [keptS]
   rw [if_pos (by omega), if_neg (fun h => by omega), List.nil_append, show max (x - p) 0 = x - p by omega]
   by_cases h2 : p + rsz r = x
   ·rw [if_neg (by omega), List.nil_append, List.drop_append, List.drop_eq_nil_of_le (by omega), List.nil_append, show (x - p).toNat - (crow g r).length = 0 by omega, List.drop_zero]
    have := kept_one_ x y Z l (p + rsz r) f false hR' (by omega)
    rw [Bool.or_false] at this
    rw [this, show (y - (p + rsz r)).toNat = (y - x).toNat by omega]
   ·rw [List.drop_append_of_le_length (by omega)]
    by_cases h3 : p + rsz r ≤ y
    ·rw [if_pos (by omega), show min (y - p) (rsz r) = rsz r by omega]
     have ih := kept_one_ x y Z l (p + rsz r) false false hR' (by omega)
     have := piece_cells r hr (x - p) (rsz r) (by omega) (by omega) (Int.le_refl _) f g _ _ ih
     rw [if_neg (by omega)] at this
     rw [rAts_append, rAts_cons]
     simp only [rAts, List.flatMap_nil, List.append_nil, List.append_assoc] at this ⊢
     rw [this]
     have hdl : ((crow g r).drop (x - p).toNat).length = (rsz r - (x - p)).toNat := by rw [List.length_drop]; omega
     rw [List.take_of_length_le (l := (crow g r).drop (x - p).toNat) (i := (rsz r - (x - p)).toNat) (by omega), List.take_append, List.take_of_length_le (l := (crow g r).drop (x - p).toNat) (i := (y - x).toNat) (by omega), show (y - x).toNat - ((crow g r).drop (x - p).toNat).length = (y - (p + rsz r)).toNat by omega]
     have e : ∀ (A B : List Cl), cAts (A ++ B) = cAts A ++ cAts B := fun A B => by simp [cAts]
     rw [e, List.append_assoc]
    ·rw [keptS_past x y l (p + rsz r) (by omega), List.append_nil, List.take_append_of_le_length (by rw [List.length_drop]; omega)]
     by_cases hd : x < y
     ·rw [if_pos (by omega), show min (y - p) (rsz r) = y - p by omega]
      have := piece_cells r hr (x - p) (y - p) (by omega) (by omega) (by omega) f g (.mark :: Z) (.mark :: Z) rfl
      rw [if_neg (by omega), show (y - p - (x - p)).toNat = (y - x).toNat by omega] at this
      simp only [rAts, List.flatMap_cons, List.flatMap_nil, List.append_nil]
      exact this
     ·rw [if_neg (by omega), show (y - x).toNat = 0 by omega]
      simp [rAts, cAts, cells]
end Go.Proofs.YtaihajmdngoeiaaDoor.QE
