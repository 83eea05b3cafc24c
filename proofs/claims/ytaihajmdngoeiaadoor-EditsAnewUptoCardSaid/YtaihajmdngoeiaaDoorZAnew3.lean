/- The law EditsAnew of package monikerlaw holds of the given program: called with any arguments that can be read as data, together of bulk at most 1048576, it returns true, and its arguments read behind the call as before. Conditions: those of the given row '..Upto', no others. -/
import Derived.Test.YtaihajmdngoeiaaDoorZAnew2
import Derived.Sort.Walk0
import Derived.Test.YtaihajmdngoeiaaDoorWMore
import Derived.SizedLaws
import Derived.ChangeSlices
import Derived.Deep.Slices
import Derived.Test.YtaihajmdngoeiaaDoorRows
import Derived.JoinedCond
import Derived.ChangeArms
import Derived.ProofKit
import Derived.LaidMore
import Derived.LaidLaws
import Derived.OpenShut
import Derived.Stop.Joined
import Derived.Stop.LaidErr
import Derived.Lib.LaidTab
import Derived.Test.YtaihajmdngoeiaaDoorCards
import Derived.Test.YtaihajmdngoeiaaDoorTie
import Derived.WalkKit
import Derived.ShutString
import Derived.ChangeOld
import Derived.Below
import Derived.SevenTiedAt
import Derived.Deep.DeepHandedRow
namespace Go.Proofs.YtaihajmdngoeiaaDoor.F
open Go.RowKit Go.Proofs.YtaihajmdngoeiaaDoorW.PrintWords Go.Proofs.YtaihajmdngoeiaaDoorW.PrintLast Go.Proofs.YtaihajmdngoeiaaDoorW.PrintMore
set_option linter.unusedVariables false
set_option linter.unusedSimpArgs false
section
variable {P : Program} {ops : Array Oper} {o : Oper} {a : Act} {Q : Exit → Act → World → Prop} {K : Act → World → Prop}
theorem step_append_str {w0 W : World} (base : Nat) (hw : Region.wanted o (yielded ops a.tmps) = true) (s x : Operand) (t u e : TypeId)
  (ho : o.op = .call { callee := .builtin .append, args := #[s, x], argTypes := #[t, u] })
  (ht : P.underlying t = some (.slice e)) (hu : P.underlying u = some .string) (hinfo : (P.info? e).map (fun i => (i.zero, i.size, i.bytes)) = some (some (.int .u8 0), 1, 1))
  (v : Value) (xs : List Int) (y : ByteArray) (hs : a.eval s = v) (hx : a.eval x = .string y)
  (HO : W.ownsRow base e 1 v xs.length (nums .u8 xs)) (HB : Below base w0 W) (hbase : base ≤ W.heap.size) (hl : xs.length + y.size ≤ 140737488355328)
  (h : ∀ v1 w1, w1.ownsRow base e 1 v1 (xs ++ bytesOf y).length (nums .u8 (xs ++ bytesOf y)) → Below base w0 w1 → K (a.put o.dst v1) w1) :
  if Region.wanted o (yielded ops a.tmps) = true then Oper.wp P o a W K Q else K (a.put o.dst undef) W := by
 rw [if_pos hw]
 obtain ⟨i0, hi, hzz⟩ := Option.map_eq_some_iff.1 hinfo
 simp only [Prod.mk.injEq] at hzz
 obtain ⟨hz0, hz1, hz2⟩ := hzz
 obtain ⟨v', w', hr, h2, h3, h4⟩ := Lib.run_append_own_string (P := P) W base t u o.type e i0 ht hu hi hz0 hz1 hz2 v xs.length (nums .u8 xs) HO y (by simp only [maxLen]; omega) hl hbase
 have hl2 : (xs ++ bytesOf y).length = xs.length + y.size := by rw [List.length_append, bytesOf_length]
 have hc : nums .u8 (xs ++ bytesOf y) = nums .u8 xs ++ Lib.strCells y := by
  rw [nums_append]
  congr 1
  simp [nums, bytesOf, Lib.strCells]
 unfold Oper.wp execOp
 simp only [ho, resolve, invoke, builtin, Sem.run_bind, Sem.run_pure, Result.andThen_ok, List.map_toArray, List.map_cons, List.map_nil, hs, hx, hr]
 exact h v' w' (by rw [hl2, hc]; exact h2) (HB.grown h3 hbase (own_base HO))
end
def lineS (s0 s1 q : ByteArray) : ByteArray := ((((s0 ++ ⟨#[44]⟩) ++ s1) ++ ⟨#[32]⟩) ++ q) ++ ⟨#[10]⟩
def monikerref1_Print.l0 : Nat → List S42 → List Int → Int → Option ByteArray
 | 0, _, _, _ => none
 | k + 1, x0, x3, x4 => if x4 < (x0.length : Int) then (if 0 ≤ x4 then ((strconv_Itoa_28.f k ((rd_T42 x0 x4).f0)).bind fun s0 => ((strconv_Itoa_28.f k ((rd_T42 x0 x4).f1)).bind fun s1 => ((monikerref1_quoted.f k ((rd_T42 x0 x4).f2)).bind fun q => (if x3.length + (lineS s0 s1 q).size ≤ 140737488355328 then monikerref1_Print.l0 k x0 (x3 ++ bytesOf (lineS s0 s1 q)) (wrap64 (x4 + 1)) else none)))) else none) else some (strOfNums x3)
def monikerref1_Print.f (k : Nat) (l0 : List S42) : Option ByteArray := if (l0.length : Int) > 65536 then some ⟨#[]⟩ else monikerref1_Print.l0 k l0 [] 0
def ref_print.T7 : Bool × List (List Nat × List Nat) := (true, [([], []), ([], []), ([], []), ([1, 2], [1, 2]), ([3], [3]), ([4], [4]), ([5], [5]), ([6], [6]), ([], []), ([], []), ([8, 9], [8, 9]), ([10], [10]), ([11], [11]), ([12, 6], [12]), ([7, 13], [7, 13]), ([14], [14]), ([], []), ([], []), ([16, 17], [16, 17]), ([18], [18]), ([19], [19]), ([20, 13], [20]), ([15, 21], [15, 21]), ([22], [22]), ([0, 23, 21], [0, 23]), ([24, 24, 0, 1, 2, 3, 4, 5, 6, 7, 8, 9, 10, 11, 12, 13, 14, 15, 16, 17, 18, 19, 20, 21, 22, 23, 24], [0, 24])])
def ref_print.B7 : List Nat := [0, 0, 0, 6, 14, 30, 62, 126, 0, 0, 768, 1792, 3840, 8062, 16382, 32766, 0, 0, 196608, 458752, 983040, 2047870, 4194302, 8388606, 16777215, 33554431]
theorem ref_print.tab7 : rtab .any (opsOf Tryd.f10 7) = ref_print.T7 := by kernel_rfl
theorem ref_print.bits7 : waitsOk ref_print.T7.2 ref_print.B7 = true := by kernel_rfl
set_option maxHeartbeats 8000000 in
set_option maxRecDepth 100000 in
theorem monikerref1_Print.calls (k : Nat) (A0 : Option Addr) (c0 : Nat) (l0 : List (S42)) (r : ByteArray) (w : World) (hr0 : Kd.C k42 w A0 l0.length l0) (hc0 : l0.length ≤ c0) (h : monikerref1_Print.f k l0 = some r) (hs_ : SG w) :
  Calls Tryd.prog 10 #[.slice A0 l0.length c0] w fun e w' => e = .returned (.string r) ∧ Below w.heap.size w w' := by
 have hu42 := Tryd.underlying42
 have HR0 := Aside0.mk hr0
 have HC0 := Aside0.mk hc0
 have HSG := Aside0.mk hs_
 clear hr0 hc0 hs_
 have HB := Aside0.mk (Below.refl w.heap.size w)
 have H : (if (l0.length : Int) > 65536 then (some (⟨#[]⟩ : ByteArray)) else (monikerref1_Print.l0 k l0 [] 0)) = some r := h
 clear h
 by_cases c2 : (l0.length : Int) > 65536
 ·rw [if_pos c2] at H
  have c2b0 : decide (65536 < (l0.length : Int)) = true := decide_eq_true c2
  have c2b1 : decide (65536 < l0.length) = true := decide_eq_true (by omega)
  clear c2
  obtain rfl := Option.some.inj H
  go_enter Tryd.func10, Tryd.ntmps10
  go_wp2
  go_ret
  exact ⟨by first | rfl | (simp; done), HB.out⟩
 ·rw [if_neg c2] at H
  have c2b0 : decide (65536 < (l0.length : Int)) = false := decide_eq_false c2
  have c2b1 : decide (65536 < l0.length) = false := decide_eq_false (by omega)
  clear c2
  have H' := Aside0.mk H
  clear H
  go_enter Tryd.func10, Tryd.ntmps10
  go_wp2
  go_loopg [3, 4] k (fun kq v3 v4 w' => ∃ (x3_1 : List Int) (x4_1 : Int), v4 = .int .i64 x4_1 ∧ Aside0 (monikerref1_Print.l0 kq l0 x3_1 x4_1 = some r) ∧ Aside0 (kq ≤ k) ∧ Aside0 (Kd.R (Kd.int .u8) 5 w' w.heap.size (fun _ => True) v3 x3_1) ∧ Aside0 (Below w.heap.size w w'))
  case atStart => exact ⟨[], 0, (by first | rfl | (simp; done) | (simp [*]; done)), H', ⟨Nat.le_refl _⟩, ⟨Kd.R_nil _ _ _ _ _⟩, ⟨by repeat (first | (with_reducible first | exact HB.out | apply below_alloc | apply pw_below_drewN | apply below_drew1) | exact HB.out)⟩⟩
  case round =>
   clear H'
   try clear c2b0
   try clear c2b1
   obtain ⟨x3_1, x4_1, rfl, HA, HK1, HO, HB⟩ := hrel
   cases gk with
   | zero => exact absurd HA.out (by simp [monikerref1_Print.l0])
   | succ k1 =>
    have H := HA.out
    clear HA
    simp only [monikerref1_Print.l0] at H
    by_cases c3 : x4_1 < (l0.length : Int)
    ·rw [if_pos c3] at H
     have c3b0 : decide (x4_1 < (l0.length : Int)) = true := decide_eq_true c3
     by_cases c4 : 0 ≤ x4_1
     ·rw [if_pos c4] at H
      replace H := Option.bind_eq_some_iff.mp H
      obtain ⟨s0, A0_, H⟩ := H
      have A0 := Aside0.mk A0_
      clear A0_
      replace H := Option.bind_eq_some_iff.mp H
      obtain ⟨s1, A1_, H⟩ := H
      have A1 := Aside0.mk A1_
      clear A1_
      replace H := Option.bind_eq_some_iff.mp H
      obtain ⟨q, A2_, H⟩ := H
      have A2 := Aside0.mk A2_
      clear A2_
      by_cases c7 : x3_1.length + (lineS s0 s1 q).size ≤ 140737488355328
      rotate_left
      ·rw [if_neg c7] at H
       cases H
      rw [if_pos c7] at H
      have HL := Aside0.mk c7
      have zz : s0.size + 1 + s1.size + 1 + q.size + 1 ≤ 140737488355328 := by
       have h := c7
       unfold lineS at h
       rw [ByteArray.size_append, ByteArray.size_append, ByteArray.size_append, ByteArray.size_append, ByteArray.size_append] at h
       have e1 : (⟨#[44]⟩ : ByteArray).size = 1 := rfl
       have e2 : (⟨#[32]⟩ : ByteArray).size = 1 := rfl
       have e3 : (⟨#[10]⟩ : ByteArray).size = 1 := rfl
       omega
      have g1 : (9223372036854775807 < s0.size + 1) = False := eq_false (by omega)
      have g2 : (9223372036854775807 < s0.size + 1 + s1.size) = False := eq_false (by omega)
      have g3 : (9223372036854775807 < s0.size + 1 + s1.size + 1) = False := eq_false (by omega)
      have g4 : (9223372036854775807 < s0.size + 1 + s1.size + 1 + q.size) = False := eq_false (by omega)
      have g5 : (9223372036854775807 < s0.size + 1 + s1.size + 1 + q.size + 1) = False := eq_false (by omega)
      clear c7 zz
      have H' := Aside0.mk H
      clear H
      obtain ⟨ad, e9, hx_0, hx_1, hx_2⟩ := at_T42 HR0.out x4_1 c4 c3
      cases e9
      replace hx_0 := (HB.out.cell (World.block_lt_of_cell? w _ hx_0)).trans hx_0
      replace hx_1 := (HB.out.cell (World.block_lt_of_cell? w _ hx_1)).trans hx_1
      replace hx_2 := (HB.out.cell (World.block_lt_of_cell? w _ hx_2)).trans hx_2
      have HSC := Aside0.mk (SG.below HSG.out HB.out)
      have p9 := eq_true c4
      have q9 := eq_true c3
      clear c3 c4
      go_upto_region 7 with (fail)
      refine start_ (n := 26) (S := fun w' => Below wr.heap.size wr w') (ds := [24]) #[false, false, false, false, false, false, false, false, false, false, false, false, false, false, false, false, false, false, false, false, false, false, false, false, false, false] (by kernel_rfl) rfl rfl (below_drew1 (Below.refl _ _)) (fun hHeld => ?_)
      refine with_tabW ref_print.tab7 ref_print.bits7 (fun HT_ HW_ => ?_)
      generalize wr.drew = wa at hHeld ⊢
      refine pure_ (i := 0) (N := some 14) (v := ?_) (a' := ?_) #[true, false, false, false, false, false, false, false, false, false, false, false, false, false, false, false, false, false, false, false, false, false, false, false, false, false] rfl rfl (any_of HT_.out (by kernel_rfl)) (fun _ _ _ h => h) (Or.inl ⟨by rfl, ?_⟩) ?_ ?_
      rotate_left
      ·intro w'
       go_simp
       with_reducible rfl
      rotate_left
      ·simp only [Act.put, List.setIfInBounds_toArray, List.set_cons_zero, List.set_cons_succ, i64_w, i32_w]
       rfl
      refine pure_ (i := 1) (N := some 15) (v := ?_) (a' := ?_) #[true, true, false, false, false, false, false, false, false, false, false, false, false, false, false, false, false, false, false, false, false, false, false, false, false, false] rfl rfl (any_of HT_.out (by kernel_rfl)) (fun _ _ _ h => h) (Or.inl ⟨by rfl, ?_⟩) ?_ ?_
      rotate_left
      ·intro w'
       go_simp
       with_reducible rfl
      rotate_left
      ·simp only [Act.put, List.setIfInBounds_toArray, List.set_cons_zero, List.set_cons_succ, i64_w, i32_w]
       rfl
      refine pure_ (i := 2) (N := some 16) (v := ?_) (a' := ?_) #[true, true, true, false, false, false, false, false, false, false, false, false, false, false, false, false, false, false, false, false, false, false, false, false, false, false] rfl rfl (any_of HT_.out (by kernel_rfl)) (fun _ _ _ h => h) (Or.inl ⟨by rfl, ?_⟩) ?_ ?_
      rotate_left
      ·intro w'
       go_simp
       with_reducible rfl
      rotate_left
      ·simp only [Act.put, List.setIfInBounds_toArray, List.set_cons_zero, List.set_cons_succ, i64_w, i32_w]
       rfl
      refine pure_ (i := 3) (N := some 17) (v := ?_) (a' := ?_) #[true, true, true, true, false, false, false, false, false, false, false, false, false, false, false, false, false, false, false, false, false, false, false, false, false, false] rfl rfl (any_of HT_.out (by kernel_rfl)) (fun _ _ _ h => h) (Or.inl ⟨by rfl, ?_⟩) ?_ ?_
      rotate_left
      ·intro w'
       go_simp
       with_reducible rfl
      rotate_left
      ·simp only [Act.put, List.setIfInBounds_toArray, List.set_cons_zero, List.set_cons_succ, i64_w, i32_w]
       rfl
      refine pure_ (i := 4) (N := some 18) (v := ?_) (a' := ?_) #[true, true, true, true, true, false, false, false, false, false, false, false, false, false, false, false, false, false, false, false, false, false, false, false, false, false] rfl rfl (any_of HT_.out (by kernel_rfl)) (fun _ _ _ h => h) (Or.inl ⟨by rfl, ?_⟩) ?_ ?_
      rotate_left
      ·intro w'
       go_simp
       with_reducible rfl
      rotate_left
      ·simp only [Act.put, List.setIfInBounds_toArray, List.set_cons_zero, List.set_cons_succ, i64_w, i32_w]
       rfl
      refine pure_ (i := 8) (N := some 22) (v := ?_) (a' := ?_) #[true, true, true, true, true, false, false, false, true, false, false, false, false, false, false, false, false, false, false, false, false, false, false, false, false, false] rfl rfl (any_of HT_.out (by kernel_rfl)) (fun _ _ _ h => h) (Or.inl ⟨by rfl, ?_⟩) ?_ ?_
      rotate_left
      ·intro w'
       go_simp
       with_reducible rfl
      rotate_left
      ·simp only [Act.put, List.setIfInBounds_toArray, List.set_cons_zero, List.set_cons_succ, i64_w, i32_w]
       rfl
      refine pure_ (i := 9) (N := some 23) (v := ?_) (a' := ?_) #[true, true, true, true, true, false, false, false, true, true, false, false, false, false, false, false, false, false, false, false, false, false, false, false, false, false] rfl rfl (any_of HT_.out (by kernel_rfl)) (fun _ _ _ h => h) (Or.inl ⟨by rfl, ?_⟩) ?_ ?_
      rotate_left
      ·intro w'
       go_simp
       with_reducible rfl
      rotate_left
      ·simp only [Act.put, List.setIfInBounds_toArray, List.set_cons_zero, List.set_cons_succ, i64_w, i32_w]
       rfl
      refine pure_ (i := 10) (N := some 24) (v := ?_) (a' := ?_) #[true, true, true, true, true, false, false, false, true, true, true, false, false, false, false, false, false, false, false, false, false, false, false, false, false, false] rfl rfl (any_of HT_.out (by kernel_rfl)) (fun _ _ _ h => h) (Or.inl ⟨by rfl, ?_⟩) ?_ ?_
      rotate_left
      ·intro w'
       go_simp
       with_reducible rfl
      rotate_left
      ·simp only [Act.put, List.setIfInBounds_toArray, List.set_cons_zero, List.set_cons_succ, i64_w, i32_w]
       rfl
      refine pure_ (i := 11) (N := some 25) (v := ?_) (a' := ?_) #[true, true, true, true, true, false, false, false, true, true, true, true, false, false, false, false, false, false, false, false, false, false, false, false, false, false] rfl rfl (any_of HT_.out (by kernel_rfl)) (fun _ _ _ h => h) (Or.inl ⟨by rfl, ?_⟩) ?_ ?_
      rotate_left
      ·intro w'
       go_simp
       with_reducible rfl
      rotate_left
      ·simp only [Act.put, List.setIfInBounds_toArray, List.set_cons_zero, List.set_cons_succ, i64_w, i32_w]
       rfl
      refine pure_ (i := 16) (N := some 30) (v := ?_) (a' := ?_) #[true, true, true, true, true, false, false, false, true, true, true, true, false, false, false, false, true, false, false, false, false, false, false, false, false, false] rfl rfl (any_of HT_.out (by kernel_rfl)) (fun _ _ _ h => h) (Or.inl ⟨by rfl, ?_⟩) ?_ ?_
      rotate_left
      ·intro w'
       go_simp
       with_reducible rfl
      rotate_left
      ·simp only [Act.put, List.setIfInBounds_toArray, List.set_cons_zero, List.set_cons_succ, i64_w, i32_w]
       rfl
      refine pure_ (i := 17) (N := some 31) (v := ?_) (a' := ?_) #[true, true, true, true, true, false, false, false, true, true, true, true, false, false, false, false, true, true, false, false, false, false, false, false, false, false] rfl rfl (any_of HT_.out (by kernel_rfl)) (fun _ _ _ h => h) (Or.inl ⟨by rfl, ?_⟩) ?_ ?_
      rotate_left
      ·intro w'
       go_simp
       with_reducible rfl
      rotate_left
      ·simp only [Act.put, List.setIfInBounds_toArray, List.set_cons_zero, List.set_cons_succ, i64_w, i32_w]
       rfl
      refine pure_ (i := 18) (N := some 32) (v := ?_) (a' := ?_) #[true, true, true, true, true, false, false, false, true, true, true, true, false, false, false, false, true, true, true, false, false, false, false, false, false, false] rfl rfl (any_of HT_.out (by kernel_rfl)) (fun _ _ _ h => h) (Or.inl ⟨by rfl, ?_⟩) ?_ ?_
      rotate_left
      ·intro w'
       go_simp
       with_reducible rfl
      rotate_left
      ·simp only [Act.put, List.setIfInBounds_toArray, List.set_cons_zero, List.set_cons_succ, i64_w, i32_w]
       rfl
      refine pure_ (i := 19) (N := some 33) (v := ?_) (a' := ?_) #[true, true, true, true, true, false, false, false, true, true, true, true, false, false, false, false, true, true, true, true, false, false, false, false, false, false] rfl rfl (any_of HT_.out (by kernel_rfl)) (fun _ _ _ h => h) (Or.inl ⟨by rfl, ?_⟩) ?_ ?_
      rotate_left
      ·intro w'
       go_simp
       with_reducible rfl
      rotate_left
      ·simp only [Act.put, List.setIfInBounds_toArray, List.set_cons_zero, List.set_cons_succ, i64_w, i32_w]
       rfl
      refine take_ (i := 5) (N := some 19) (v := ?_) (a' := ?_) #[true, true, true, true, true, true, false, false, true, true, true, true, false, false, false, false, true, true, true, true, false, false, false, false, false, false] rfl rfl (take_ofW HT_.out HW_.out (by kernel_rfl)) (fun _ _ _ h => h) (Or.inl ⟨by rfl, ?_⟩) hHeld ?_ ?_
      rotate_left
      ·intro w' hS
       have h0 := (hS.cell (World.block_lt_of_cell? _ _ hx_0)).trans hx_0
       have h1 := (hS.cell (World.block_lt_of_cell? _ _ hx_1)).trans hx_1
       have h2 := (hS.cell (World.block_lt_of_cell? _ _ hx_2)).trans hx_2
       clear hS
       go_simp
       with_reducible rfl
      rotate_left
      ·simp only [Act.put, List.setIfInBounds_toArray, List.set_cons_zero, List.set_cons_succ, i64_w, i32_w]
       rfl
      refine take_ (i := 12) (N := some 26) (v := ?_) (a' := ?_) #[true, true, true, true, true, true, false, false, true, true, true, true, true, false, false, false, true, true, true, true, false, false, false, false, false, false] rfl rfl (take_ofW HT_.out HW_.out (by kernel_rfl)) (fun _ _ _ h => h) (Or.inl ⟨by rfl, ?_⟩) hHeld ?_ ?_
      rotate_left
      ·intro w' hS
       have h0 := (hS.cell (World.block_lt_of_cell? _ _ hx_0)).trans hx_0
       have h1 := (hS.cell (World.block_lt_of_cell? _ _ hx_1)).trans hx_1
       have h2 := (hS.cell (World.block_lt_of_cell? _ _ hx_2)).trans hx_2
       clear hS
       go_simp
       with_reducible rfl
      rotate_left
      ·simp only [Act.put, List.setIfInBounds_toArray, List.set_cons_zero, List.set_cons_succ, i64_w, i32_w]
       rfl
      refine take_ (i := 20) (N := some 34) (v := ?_) (a' := ?_) #[true, true, true, true, true, true, false, false, true, true, true, true, true, false, false, false, true, true, true, true, true, false, false, false, false, false] rfl rfl (take_ofW HT_.out HW_.out (by kernel_rfl)) (fun _ _ _ h => h) (Or.inl ⟨by rfl, ?_⟩) hHeld ?_ ?_
      rotate_left
      ·intro w' hS
       have h0 := (hS.cell (World.block_lt_of_cell? _ _ hx_0)).trans hx_0
       have h1 := (hS.cell (World.block_lt_of_cell? _ _ hx_1)).trans hx_1
       have h2 := (hS.cell (World.block_lt_of_cell? _ _ hx_2)).trans hx_2
       clear hS
       go_simp
       with_reducible rfl
      rotate_left
      ·simp only [Act.put, List.setIfInBounds_toArray, List.set_cons_zero, List.set_cons_succ, i64_w, i32_w]
       rfl
      refine one_ (i := 6) (N := some 20) #[true, true, true, true, true, true, true, false, true, true, true, true, true, false, false, false, true, true, true, true, true, false, false, false, false, false] rfl rfl (one_of HT_.out (by kernel_rfl)) (by decide) (fun K hK => ?_)
      refine goes_ Tryd.func28 (by kernel_rfl) rfl #[.int .i64 ((rd_T42 l0 x4_1).f0)] (by rfl) rfl rfl (by (try simp only [List.map_toArray, List.map_cons, List.map_nil]); first | done | rfl) ?_
      refine (strconv_Itoa_28.calls k1 ((rd_T42 l0 x4_1).f0) s0 _ A0.out (SG.below HSC.out hHeld)).mono ?_
      rintro e wq ⟨rfl, hb⟩
      refine ⟨_, rfl, ?_⟩
      have hS_ : Below wr.heap.size wr wq := below_step hHeld hb
      refine hK.out _ _ hS_ (fun hHeld => ?_)
      clear hb hS_
      clear hK K
      refine norm_ (a' := ?_) ?_ ?_
      rotate_left
      ·show Act.put _ (some 20) _ = _
       simp only [Act.put, List.setIfInBounds_toArray, List.set_cons_zero, List.set_cons_succ, i64_w, i32_w]
       rfl
      refine pure_ (i := 7) (N := some 21) (v := ?_) (a' := ?_) #[true, true, true, true, true, true, true, true, true, true, true, true, true, false, false, false, true, true, true, true, true, false, false, false, false, false] rfl rfl (any_of HT_.out (by kernel_rfl)) (fun _ _ _ h => h) (Or.inl ⟨by rfl, ?_⟩) ?_ ?_
      rotate_left
      ·intro w'
       go_simp
       with_reducible rfl
      rotate_left
      ·simp only [Act.put, List.setIfInBounds_toArray, List.set_cons_zero, List.set_cons_succ, i64_w, i32_w]
       rfl
      refine one_ (i := 13) (N := some 27) #[true, true, true, true, true, true, true, true, true, true, true, true, true, true, false, false, true, true, true, true, true, false, false, false, false, false] rfl rfl (one_of HT_.out (by kernel_rfl)) (by decide) (fun K hK => ?_)
      refine goes_ Tryd.func28 (by kernel_rfl) rfl #[.int .i64 ((rd_T42 l0 x4_1).f1)] (by rfl) rfl rfl (by (try simp only [List.map_toArray, List.map_cons, List.map_nil]); first | done | rfl) ?_
      refine (strconv_Itoa_28.calls k1 ((rd_T42 l0 x4_1).f1) s1 _ A1.out (SG.below HSC.out hHeld)).mono ?_
      rintro e wq ⟨rfl, hb⟩
      refine ⟨_, rfl, ?_⟩
      have hS_ : Below wr.heap.size wr wq := below_step hHeld hb
      refine hK.out _ _ hS_ (fun hHeld => ?_)
      clear hb hS_
      clear hK K
      refine norm_ (a' := ?_) ?_ ?_
      rotate_left
      ·show Act.put _ (some 27) _ = _
       simp only [Act.put, List.setIfInBounds_toArray, List.set_cons_zero, List.set_cons_succ, i64_w, i32_w]
       rfl
      refine pure_ (i := 14) (N := some 28) (v := ?_) (a' := ?_) #[true, true, true, true, true, true, true, true, true, true, true, true, true, true, true, false, true, true, true, true, true, false, false, false, false, false] rfl rfl (any_of HT_.out (by kernel_rfl)) (fun _ _ _ h => h) (Or.inl ⟨by rfl, ?_⟩) ?_ ?_
      rotate_left
      ·intro w'
       go_simp
       with_reducible rfl
      rotate_left
      ·simp only [Act.put, List.setIfInBounds_toArray, List.set_cons_zero, List.set_cons_succ, i64_w, i32_w]
       rfl
      refine pure_ (i := 15) (N := some 29) (v := ?_) (a' := ?_) #[true, true, true, true, true, true, true, true, true, true, true, true, true, true, true, true, true, true, true, true, true, false, false, false, false, false] rfl rfl (any_of HT_.out (by kernel_rfl)) (fun _ _ _ h => h) (Or.inl ⟨by rfl, ?_⟩) ?_ ?_
      rotate_left
      ·intro w'
       go_simp
       with_reducible rfl
      rotate_left
      ·simp only [Act.put, List.setIfInBounds_toArray, List.set_cons_zero, List.set_cons_succ, i64_w, i32_w]
       rfl
      refine one_ (i := 21) (N := some 35) #[true, true, true, true, true, true, true, true, true, true, true, true, true, true, true, true, true, true, true, true, true, true, false, false, false, false] rfl rfl (one_of HT_.out (by kernel_rfl)) (by decide) (fun K hK => ?_)
      refine goes_ Tryd.func29 (by kernel_rfl) rfl #[.string ((rd_T42 l0 x4_1).f2)] (by rfl) rfl rfl (by (try simp only [List.map_toArray, List.map_cons, List.map_nil]); first | done | rfl) ?_
      refine (monikerref1_quoted.calls k1 ((rd_T42 l0 x4_1).f2) q _ A2.out).mono ?_
      rintro e wq ⟨rfl, hb⟩
      refine ⟨_, rfl, ?_⟩
      have hS_ : Below wr.heap.size wr wq := below_step hHeld hb
      refine hK.out _ _ hS_ (fun hHeld => ?_)
      clear hb hS_
      clear hK K
      refine norm_ (a' := ?_) ?_ ?_
      rotate_left
      ·show Act.put _ (some 35) _ = _
       simp only [Act.put, List.setIfInBounds_toArray, List.set_cons_zero, List.set_cons_succ, i64_w, i32_w]
       rfl
      refine pure_ (i := 22) (N := some 36) (v := ?_) (a' := ?_) #[true, true, true, true, true, true, true, true, true, true, true, true, true, true, true, true, true, true, true, true, true, true, true, false, false, false] rfl rfl (any_of HT_.out (by kernel_rfl)) (fun _ _ _ h => h) (Or.inl ⟨by rfl, ?_⟩) ?_ ?_
      rotate_left
      ·intro w'
       go_simp
       with_reducible rfl
      rotate_left
      ·simp only [Act.put, List.setIfInBounds_toArray, List.set_cons_zero, List.set_cons_succ, i64_w, i32_w]
       rfl
      refine pure_ (i := 23) (N := some 37) (v := ?_) (a' := ?_) #[true, true, true, true, true, true, true, true, true, true, true, true, true, true, true, true, true, true, true, true, true, true, true, true, false, false] rfl rfl (any_of HT_.out (by kernel_rfl)) (fun _ _ _ h => h) (Or.inl ⟨by rfl, ?_⟩) ?_ ?_
      rotate_left
      ·intro w'
       go_simp
       with_reducible rfl
      rotate_left
      ·simp only [Act.put, List.setIfInBounds_toArray, List.set_cons_zero, List.set_cons_succ, i64_w, i32_w]
       rfl
      refine last_ (i := 24) (N := some 38) #[true, true, true, true, true, true, true, true, true, true, true, true, true, true, true, true, true, true, true, true, true, true, true, true, true, false] rfl rfl (one_of HT_.out (by kernel_rfl)) (by decide) (fun K hK => ?_)
      refine step_append_str (w0 := w) w.heap.size (by rfl) (.tmp 14) (.tmp 37) 59 9 5 rfl Tryd.underlying59 Tryd.underlying9 info5 u3 x3_1 (lineS s0 s1 q) rfl rfl (Kd.own_of_R (Kd.R_below HO.out hHeld)) (below_step HB.out hHeld) (Nat.le_trans HB.out.size hHeld.size) HL.out ?_
      intro v1 w7 ho hb1
      refine hK.out _ _ ?_
      clear hK K
      refine norm_ (a' := ?_) ?_ ?_
      rotate_left
      ·show Act.put _ (some 38) _ = _
       simp only [Act.put, List.setIfInBounds_toArray, List.set_cons_zero, List.set_cons_succ, i64_w, i32_w]
       rfl
      refine pure_ (i := 25) (N := some 3) (v := ?_) (a' := ?_) #[true, true, true, true, true, true, true, true, true, true, true, true, true, true, true, true, true, true, true, true, true, true, true, true, true, true] rfl rfl (any_of HT_.out (by kernel_rfl)) (fun _ _ _ h => h) (Or.inl ⟨by rfl, ?_⟩) ?_ ?_
      rotate_left
      ·intro w'
       go_simp
       with_reducible rfl
      rotate_left
      ·simp only [Act.put, List.setIfInBounds_toArray, List.set_cons_zero, List.set_cons_succ, i64_w, i32_w]
       rfl
      refine done_ (done_of HT_.out (by kernel_rfl)) ?_
      go_wp2
      go_roundg k1
      case measure => have := HK1.out; omega
      case rel => exact ⟨_, _, rfl, H', ⟨by have := HK1.out; omega⟩, ⟨⟨fun _ _ => trivial, _, ho, ints_reps (fun x cs => Iff.rfl) _⟩⟩, ⟨hb1⟩⟩
     ·rw [if_neg c4] at H
      cases H
    ·rw [if_neg c3] at H
     have c3b0 : decide (x4_1 < (l0.length : Int)) = false := decide_eq_false c3
     clear c3
     obtain rfl := Option.some.inj H
     have hcv := own_string (P := Tryd.prog) Tryd.underlying59 Tryd.underlying5 Tryd.underlying9 (Kd.own_of_R HO.out)
     go_wp2
     go_ret
     exact ⟨by first | rfl | (simp; done), HB.out⟩
end Go.Proofs.YtaihajmdngoeiaaDoor.F
namespace Go.Proofs.YtaihajmdngoeiaaDoor.F
open Go.RowKit Go.Proofs.YtaihajmdngoeiaaDoorW.PrintWords Go.Proofs.YtaihajmdngoeiaaDoorW.PrintLast Go.Proofs.YtaihajmdngoeiaaDoorW.PrintMore
attribute [local go_sem] max2_int min2_int max_two min_two max_three min_three max_four min_four   -- for this text's walks alone
set_option linter.unusedVariables false
set_option linter.unusedSimpArgs false
/-! ### monikerlaw1_EditsAnew: function 5 -/
mutual
def monikerlaw1_EditsAnew.l0 : Nat → ByteArray → List (S42) → List (S42) → Int → Option (Bool)
 | 0, _, _, _, _ => none
 | k + 1, x0, x2, x7, x8 => if x8 < 2 then ((edits_Apply.f k x0 x7).bind fun bt383 => ((monikerref1_Apply.f k x0 x7).bind fun bt385 => ((edits_Compose.f k (x0.size : Int) x7 x2).bind fun bt387 => ((monikerref1_Compose.f k (x0.size : Int) x7 x2).bind fun bt391 => ((edits_Shift.f k x7 (wrap64 ((x0.size : Int) / 2))).bind fun bt395 => ((monikerref1_Shift.f k x7 (wrap64 ((x0.size : Int) / 2))).bind fun bt397 => (if bt383.1.toList = bt385.1.toList then (if bt383.2 = bt385.2 then ((monikerplain_SameEdits.f k bt387.1 bt391.1).bind fun t399 => (if t399 = true then (if bt387.2 = bt391.2 then (if bt395.1 = bt397.1 then (if (bt395.2 != bt397.2) = true then (monikerlaw1_EditsAnew.j1 k x0 x2 x7 x8 true) else ((edits_Print.f k x7).bind fun t400 => ((monikerref1_Print.f k x7).bind fun t401 => (monikerlaw1_EditsAnew.j1 k x0 x2 x7 x8 (t400.toList != t401.toList))))) else (monikerlaw1_EditsAnew.j1 k x0 x2 x7 x8 true)) else (monikerlaw1_EditsAnew.j1 k x0 x2 x7 x8 true)) else (monikerlaw1_EditsAnew.j1 k x0 x2 x7 x8 true))) else (monikerlaw1_EditsAnew.j1 k x0 x2 x7 x8 true)) else (monikerlaw1_EditsAnew.j1 k x0 x2 x7 x8 true)))))))) else (some true)
def monikerlaw1_EditsAnew.j1 : Nat → ByteArray → List (S42) → List (S42) → Int → Bool → Option (Bool)
 | 0, _, _, _, _, _ => none
 | k + 1, x0, x2, x7, x8, x108 => if x108 = true then (some false) else (monikerlaw1_EditsAnew.l1 k x0 x2 x7 x8 (x7.length : Int) 0)
def monikerlaw1_EditsAnew.l1 : Nat → ByteArray → List (S42) → List (S42) → Int → Int → Int → Option (Bool)
 | 0, _, _, _, _, _, _ => none
 | k + 1, x0, x2, x7, x8, x110, x111 => if x111 < x110 then (if x111 < (x2.length : Int) then (if 0 ≤ x111 then (if x111 < (x7.length : Int) then (monikerlaw1_EditsAnew.l1 k x0 x2 (x7.set (x111 : Int).toNat (⟨(rd_T42 x2 x111).f0, (rd_T42 x2 x111).f1, (rd_T42 x2 x111).f2⟩ : S42)) x8 x110 (wrap64 (x111 + 1))) else (none)) else (none)) else (if 0 ≤ x111 then (if x111 < (x7.length : Int) then (if ((rd_T42 x7 x111).f2).size + 1 ≤ 9223372036854775807 then (monikerlaw1_EditsAnew.l1 k x0 x2 (x7.set (x111 : Int).toNat (⟨(rd_T42 x7 x111).f0, (rd_T42 x7 x111).f1, ((rd_T42 x7 x111).f2) ++ (⟨#[33]⟩ : ByteArray)⟩ : S42)) x8 x110 (wrap64 (x111 + 1))) else (none)) else (none)) else (none))) else (monikerlaw1_EditsAnew.l0 k x0 x2 x7 (wrap64 (x8 + 1)))
end
def monikerlaw1_EditsAnew.f (k : Nat) (a0 : ByteArray) (l1 : List (S42)) (l2 : List (S42)) : Option (Bool) := (some (([] : List (S42)) : List (S42))).bind fun y377 => (if y377.length + l1.length < 4398046511104 then (monikerlaw1_EditsAnew.l0 k a0 l2 (y377 ++ l1) 0) else (none))
set_option maxHeartbeats 8000000 in
set_option maxRecDepth 100000 in
theorem monikerlaw1_EditsAnew.calls (k : Nat) (a0 : ByteArray) (A1 : Option Addr) (c1 : Nat) (l1 : List (S42)) (A2 : Option Addr) (c2 : Nat) (l2 : List (S42)) (r : Bool) (w : World) (hr1 : Kd.C k42 w A1 l1.length l1) (hc1 : l1.length ≤ c1) (hr2 : Kd.C k42 w A2 l2.length l2) (hc2 : l2.length ≤ c2) (h : monikerlaw1_EditsAnew.f k a0 l1 l2 = some r) (hs_ : SG w) :
  Calls Tryd.prog 5 #[.string a0, .slice A1 l1.length c1, .slice A2 l2.length c2] w fun e w' => e = .returned (.bool r) ∧ Below w.heap.size w w' := by
 have hu42 := Tryd.underlying42
 have HR1 := Aside0.mk hr1
 have HC1 := Aside0.mk hc1
 clear hr1 hc1
 have HR2 := Aside0.mk hr2
 have HC2 := Aside0.mk hc2
 clear hr2 hc2
 have HSG := Aside0.mk hs_
 clear hs_
 have HB := Aside0.mk (Below.refl w.heap.size w)
 have H : ((some (([] : List (S42)) : List (S42))).bind fun y377 => (if y377.length + l1.length < 4398046511104 then (monikerlaw1_EditsAnew.l0 k a0 l2 (y377 ++ l1) 0) else (none))) = some r := h
 clear h
 obtain ⟨y377, hy377⟩ : ∃ y_ : List (S42), y_ = (([] : List (S42))) := ⟨_, rfl⟩
 replace H : (if y377.length + l1.length < 4398046511104 then (monikerlaw1_EditsAnew.l0 k a0 l2 (y377 ++ l1) 0) else (none)) = some r := by first | (rw [hy377]; with_reducible exact H) | (have H2_ := (Option.bind_some _ _).symm.trans H; rw [hy377]; with_reducible exact H2_) | (have H2_ := (Option.bind_some _ _).symm.trans H; with_reducible exact H2_) | with_reducible exact H | (rw [hy377]; exact H) | exact H
 have Ny377 := Aside0.mk hy377
 clear hy377
 by_cases c4 : y377.length + l1.length < 4398046511104
 ·rw [if_pos c4] at H
  have LMc4 := Aside0.mk c4
  clear c4
  obtain ⟨y380, hy380⟩ : ∃ y_ : List (S42), y_ = (y377 ++ l1) := ⟨_, rfl⟩
  replace H : (monikerlaw1_EditsAnew.l0 k a0 l2 y380 0) = some r := by first | (rw [hy380]; with_reducible exact H) | (have H2_ := (Option.bind_some _ _).symm.trans H; rw [hy380]; with_reducible exact H2_) | (have H2_ := (Option.bind_some _ _).symm.trans H; with_reducible exact H2_) | with_reducible exact H | (rw [hy380]; exact H) | exact H
  have Ny380 := Aside0.mk hy380
  clear hy380
  have H' := Aside0.mk H
  clear H
  go_enter Tryd.func5, Tryd.ntmps5
  go_wp2_with (first | ((with_reducible refine gate_dst (N := 22) rfl ?_); refine Kd.R_lit k42 _ 42 ?hg (N := 22) ?hd (xs := ([] : List (S42))) (inner := []) (ok := fun _ => True) (okp := fun _ => True) ?hr ?hp (fun _ hk => hk) trivial (Below.refl _ _) (Nat.le_refl _) (by simp) ?_; (case hd => rfl); (case hg => rfl); (case hr => first | (go_simp; done) | (go_simp; rfl)); (case hp => exact (Reps.none _ _)); intro v378 w5 ho6 hb hg_ hnew_; clear hg_ hnew_; (first | rw [← Ny377.out] at ho6 | (simp only [Int.reduceToNat] at ho6; rw [← Ny377.out] at ho6)); have n0_ := Aside0.mk (Kd.R_lower ho6 (below_size (by repeat (first | (with_reducible first | exact HB.out | apply below_alloc | apply pw_below_drewN | apply below_drew1) | exact HB.out)))); have n1_ := Aside0.mk (below_step (by repeat (first | (with_reducible first | exact HB.out | apply below_alloc | apply pw_below_drewN | apply below_drew1) | exact HB.out)) hb); clear HB; have HO379 := n0_; have HB := n1_; clear n0_ n1_; clear hb ho6) | ((with_reducible refine gate_builtin (b := .append) (xs := #[.tmp 22, .tmp 23]) rfl ?_); at_builtin; refine Kd.R_append_rows k42 (w0 := w) w.heap.size rfl (.tmp 22) (.tmp 23) 22 42 (.agg #[(.int .i64 0), (.int .i64 0), (.string ⟨#[]⟩)]) 32 rfl Tryd.underlying22 info42 rfl (by decide) (by omega) v378 y377 l1 _ _ _ (fun _ => True) (fun _ => False) rfl rfl ?aO ?aR (fun _ _ h => h) (fun _ h => h.elim) ?aF ?aB ?aS ?aL ?_; (case aR => repeat (first | exact (Kd.C_below HR1.out HB.out) | (with_reducible refine Kd.C_alloc ?_ _) | (with_reducible refine Kd.C_drewN ?_ _) | (with_reducible refine Kd.C_drew ?_))); (case aB => exact (by repeat (first | (with_reducible first | exact HB.out | apply below_alloc | apply pw_below_drewN | apply below_drew1) | exact HB.out))); (case aF => exact (fun _ _ => trivial)); (case aO => exact (by (with_reducible repeat (first | apply Kd.R_alloc | apply Kd.R_drewN | apply Kd.R_drew)); exact HO379.out)); (case aS => exact (below_size (by repeat (first | (with_reducible first | exact HB.out | apply below_alloc | apply pw_below_drewN | apply below_drew1) | exact HB.out)))); (case aL => have := LMc4.out; omega); intro v381 w7 ho hb hg hat; rw [← Ny380.out] at ho; have n0_ := Aside0.mk (hb); have n1_ := Aside0.mk (ho); clear HB; clear HO379; have HB := n0_; have HO382 := n1_; clear n0_ n1_; clear ho hb hg hat))
  go_loopg [8] k (fun kq v8 w' => ∃ (x7_1 : List (S42)) (x8_1 : Int), v8 = .int .i64 x8_1 ∧ Aside0 (monikerlaw1_EditsAnew.l0 kq a0 l2 x7_1 x8_1 = some r) ∧ Aside0 (kq ≤ k) ∧ Aside0 (Kd.R k42 42 w' w.heap.size (fun _ => True) v381 x7_1) ∧ Aside0 (Below w.heap.size w w'))
  case atStart => exact ⟨(y380), (0), (by first | rfl | (simp; done) | (simp [*]; done)), H', ⟨Nat.le_refl _⟩, ⟨by (with_reducible repeat (first | apply Kd.R_alloc | apply Kd.R_drewN | apply Kd.R_drew)); exact HO382.out⟩, ⟨by repeat (first | (with_reducible first | exact HB.out | apply below_alloc | apply pw_below_drewN | apply below_drew1) | exact HB.out)⟩⟩
  case round =>
   clear H'
   try clear c1
   try clear c2
   try clear p2
   try clear c4
   try clear c5
   obtain ⟨x7_1, x8_1, rfl, HA, HK1, HO_7, HB⟩ := hrel
   cases gk with
   | zero => exact absurd HA.out (by simp [monikerlaw1_EditsAnew.l0])
   | succ k1 =>
    have H := HA.out
    clear HA
    simp only [monikerlaw1_EditsAnew.l0] at H
    by_cases c8 : x8_1 < 2
    ·rw [if_pos c8] at H
     have c8b0 : decide (x8_1 < 2) = true := decide_eq_true c8
     clear c8
     replace H := Option.bind_eq_some_iff.mp H
     obtain ⟨⟨t383, t384⟩, A90, H⟩ := H
     replace H : ((monikerref1_Apply.f k1 a0 x7_1).bind fun bt385 => ((edits_Compose.f k1 (a0.size : Int) x7_1 l2).bind fun bt387 => ((monikerref1_Compose.f k1 (a0.size : Int) x7_1 l2).bind fun bt391 => ((edits_Shift.f k1 x7_1 (wrap64 ((a0.size : Int) / 2))).bind fun bt395 => ((monikerref1_Shift.f k1 x7_1 (wrap64 ((a0.size : Int) / 2))).bind fun bt397 => (if t383.toList = bt385.1.toList then (if t384 = bt385.2 then ((monikerplain_SameEdits.f k1 bt387.1 bt391.1).bind fun t399 => (if t399 = true then (if bt387.2 = bt391.2 then (if bt395.1 = bt397.1 then (if (bt395.2 != bt397.2) = true then (monikerlaw1_EditsAnew.j1 k1 a0 l2 x7_1 x8_1 true) else ((edits_Print.f k1 x7_1).bind fun t400 => ((monikerref1_Print.f k1 x7_1).bind fun t401 => (monikerlaw1_EditsAnew.j1 k1 a0 l2 x7_1 x8_1 (t400.toList != t401.toList))))) else (monikerlaw1_EditsAnew.j1 k1 a0 l2 x7_1 x8_1 true)) else (monikerlaw1_EditsAnew.j1 k1 a0 l2 x7_1 x8_1 true)) else (monikerlaw1_EditsAnew.j1 k1 a0 l2 x7_1 x8_1 true))) else (monikerlaw1_EditsAnew.j1 k1 a0 l2 x7_1 x8_1 true)) else (monikerlaw1_EditsAnew.j1 k1 a0 l2 x7_1 x8_1 true))))))) = some r := H
     have A9 := Aside0.mk A90
     clear A90
     replace H := Option.bind_eq_some_iff.mp H
     obtain ⟨⟨t385, t386⟩, A100, H⟩ := H
     replace H : ((edits_Compose.f k1 (a0.size : Int) x7_1 l2).bind fun bt387 => ((monikerref1_Compose.f k1 (a0.size : Int) x7_1 l2).bind fun bt391 => ((edits_Shift.f k1 x7_1 (wrap64 ((a0.size : Int) / 2))).bind fun bt395 => ((monikerref1_Shift.f k1 x7_1 (wrap64 ((a0.size : Int) / 2))).bind fun bt397 => (if t383.toList = t385.toList then (if t384 = t386 then ((monikerplain_SameEdits.f k1 bt387.1 bt391.1).bind fun t399 => (if t399 = true then (if bt387.2 = bt391.2 then (if bt395.1 = bt397.1 then (if (bt395.2 != bt397.2) = true then (monikerlaw1_EditsAnew.j1 k1 a0 l2 x7_1 x8_1 true) else ((edits_Print.f k1 x7_1).bind fun t400 => ((monikerref1_Print.f k1 x7_1).bind fun t401 => (monikerlaw1_EditsAnew.j1 k1 a0 l2 x7_1 x8_1 (t400.toList != t401.toList))))) else (monikerlaw1_EditsAnew.j1 k1 a0 l2 x7_1 x8_1 true)) else (monikerlaw1_EditsAnew.j1 k1 a0 l2 x7_1 x8_1 true)) else (monikerlaw1_EditsAnew.j1 k1 a0 l2 x7_1 x8_1 true))) else (monikerlaw1_EditsAnew.j1 k1 a0 l2 x7_1 x8_1 true)) else (monikerlaw1_EditsAnew.j1 k1 a0 l2 x7_1 x8_1 true)))))) = some r := H
     have A10 := Aside0.mk A100
     clear A100
     replace H := Option.bind_eq_some_iff.mp H
     obtain ⟨⟨t387, t388⟩, A110, H⟩ := H
     replace H : ((monikerref1_Compose.f k1 (a0.size : Int) x7_1 l2).bind fun bt391 => ((edits_Shift.f k1 x7_1 (wrap64 ((a0.size : Int) / 2))).bind fun bt395 => ((monikerref1_Shift.f k1 x7_1 (wrap64 ((a0.size : Int) / 2))).bind fun bt397 => (if t383.toList = t385.toList then (if t384 = t386 then ((monikerplain_SameEdits.f k1 t387 bt391.1).bind fun t399 => (if t399 = true then (if t388 = bt391.2 then (if bt395.1 = bt397.1 then (if (bt395.2 != bt397.2) = true then (monikerlaw1_EditsAnew.j1 k1 a0 l2 x7_1 x8_1 true) else ((edits_Print.f k1 x7_1).bind fun t400 => ((monikerref1_Print.f k1 x7_1).bind fun t401 => (monikerlaw1_EditsAnew.j1 k1 a0 l2 x7_1 x8_1 (t400.toList != t401.toList))))) else (monikerlaw1_EditsAnew.j1 k1 a0 l2 x7_1 x8_1 true)) else (monikerlaw1_EditsAnew.j1 k1 a0 l2 x7_1 x8_1 true)) else (monikerlaw1_EditsAnew.j1 k1 a0 l2 x7_1 x8_1 true))) else (monikerlaw1_EditsAnew.j1 k1 a0 l2 x7_1 x8_1 true)) else (monikerlaw1_EditsAnew.j1 k1 a0 l2 x7_1 x8_1 true))))) = some r := H
     have A11 := Aside0.mk A110
     clear A110
     replace H := Option.bind_eq_some_iff.mp H
     obtain ⟨⟨t391, t392⟩, A120, H⟩ := H
     replace H : ((edits_Shift.f k1 x7_1 (wrap64 ((a0.size : Int) / 2))).bind fun bt395 => ((monikerref1_Shift.f k1 x7_1 (wrap64 ((a0.size : Int) / 2))).bind fun bt397 => (if t383.toList = t385.toList then (if t384 = t386 then ((monikerplain_SameEdits.f k1 t387 t391).bind fun t399 => (if t399 = true then (if t388 = t392 then (if bt395.1 = bt397.1 then (if (bt395.2 != bt397.2) = true then (monikerlaw1_EditsAnew.j1 k1 a0 l2 x7_1 x8_1 true) else ((edits_Print.f k1 x7_1).bind fun t400 => ((monikerref1_Print.f k1 x7_1).bind fun t401 => (monikerlaw1_EditsAnew.j1 k1 a0 l2 x7_1 x8_1 (t400.toList != t401.toList))))) else (monikerlaw1_EditsAnew.j1 k1 a0 l2 x7_1 x8_1 true)) else (monikerlaw1_EditsAnew.j1 k1 a0 l2 x7_1 x8_1 true)) else (monikerlaw1_EditsAnew.j1 k1 a0 l2 x7_1 x8_1 true))) else (monikerlaw1_EditsAnew.j1 k1 a0 l2 x7_1 x8_1 true)) else (monikerlaw1_EditsAnew.j1 k1 a0 l2 x7_1 x8_1 true)))) = some r := H
     have A12 := Aside0.mk A120
     clear A120
     replace H := Option.bind_eq_some_iff.mp H
     obtain ⟨⟨t395, t396⟩, A130, H⟩ := H
     replace H : ((monikerref1_Shift.f k1 x7_1 (wrap64 ((a0.size : Int) / 2))).bind fun bt397 => (if t383.toList = t385.toList then (if t384 = t386 then ((monikerplain_SameEdits.f k1 t387 t391).bind fun t399 => (if t399 = true then (if t388 = t392 then (if t395 = bt397.1 then (if (t396 != bt397.2) = true then (monikerlaw1_EditsAnew.j1 k1 a0 l2 x7_1 x8_1 true) else ((edits_Print.f k1 x7_1).bind fun t400 => ((monikerref1_Print.f k1 x7_1).bind fun t401 => (monikerlaw1_EditsAnew.j1 k1 a0 l2 x7_1 x8_1 (t400.toList != t401.toList))))) else (monikerlaw1_EditsAnew.j1 k1 a0 l2 x7_1 x8_1 true)) else (monikerlaw1_EditsAnew.j1 k1 a0 l2 x7_1 x8_1 true)) else (monikerlaw1_EditsAnew.j1 k1 a0 l2 x7_1 x8_1 true))) else (monikerlaw1_EditsAnew.j1 k1 a0 l2 x7_1 x8_1 true)) else (monikerlaw1_EditsAnew.j1 k1 a0 l2 x7_1 x8_1 true))) = some r := H
     have A13 := Aside0.mk A130
     clear A130
     replace H := Option.bind_eq_some_iff.mp H
     obtain ⟨⟨t397, t398⟩, A140, H⟩ := H
     replace H : (if t383.toList = t385.toList then (if t384 = t386 then ((monikerplain_SameEdits.f k1 t387 t391).bind fun t399 => (if t399 = true then (if t388 = t392 then (if t395 = t397 then (if (t396 != t398) = true then (monikerlaw1_EditsAnew.j1 k1 a0 l2 x7_1 x8_1 true) else ((edits_Print.f k1 x7_1).bind fun t400 => ((monikerref1_Print.f k1 x7_1).bind fun t401 => (monikerlaw1_EditsAnew.j1 k1 a0 l2 x7_1 x8_1 (t400.toList != t401.toList))))) else (monikerlaw1_EditsAnew.j1 k1 a0 l2 x7_1 x8_1 true)) else (monikerlaw1_EditsAnew.j1 k1 a0 l2 x7_1 x8_1 true)) else (monikerlaw1_EditsAnew.j1 k1 a0 l2 x7_1 x8_1 true))) else (monikerlaw1_EditsAnew.j1 k1 a0 l2 x7_1 x8_1 true)) else (monikerlaw1_EditsAnew.j1 k1 a0 l2 x7_1 x8_1 true)) = some r := H
     have A14 := Aside0.mk A140
     clear A140
     have HC15 := Aside0.mk H
     clear H
     obtain ⟨Ao16, co16, eo16⟩ := Kd.R_slice HO_7.out
     subst eo16
     go_upto_region 11 with (first | ((with_reducible refine gate_callee (f := 14) rfl ?_); refine goesL_ (some 32) rfl rfl Tryd.func14 (by kernel_rfl) rfl #[.string a0, .slice Ao16 x7_1.length co16] rfl (by (try simp only [List.map_toArray, List.map_cons, List.map_nil]); first | done | rfl | (simp only [List.length_drop, List.length_take]; rfl)) ?_; (with_reducible refine (edits_Apply.calls k1 a0 _ _ x7_1 t383 t384 _ ?side1 ?side2 A9.out).mono ?_); (case side1 => repeat (first | exact (Kd.R_reads' HO_7.out).2.2 | (with_reducible refine Kd.C_alloc ?_ _) | (with_reducible refine Kd.C_drewN ?_ _) | (with_reducible refine Kd.C_drew ?_))); (case side2 => exact (Kd.R_reads' HO_7.out).2.1); rintro e w17 ⟨rfl, hb⟩; refine ⟨_, rfl, ?_⟩; have n0_ := Aside0.mk (Kd.R_below (by (with_reducible repeat (first | apply Kd.R_alloc | apply Kd.R_drewN | apply Kd.R_drew)); exact HO_7.out) hb); have n1_ := Aside0.mk (below_step (by repeat (first | (with_reducible first | exact HB.out | apply below_alloc | apply pw_below_drewN | apply below_drew1) | exact HB.out)) hb); clear HO_7; clear HB; have HO_7 := n0_; have HB := n1_; clear n0_ n1_; (try clear hb); (try clear hb2); (try clear hk); (try clear hi)) | ((with_reducible refine gate_callee (f := 15) rfl ?_); refine goesL_ (some 38) rfl rfl Tryd.func15 (by kernel_rfl) rfl #[.string a0, .slice Ao16 x7_1.length co16] rfl (by (try simp only [List.map_toArray, List.map_cons, List.map_nil]); first | done | rfl | (simp only [List.length_drop, List.length_take]; rfl)) ?_; (with_reducible refine (monikerref1_Apply.calls k1 a0 _ _ x7_1 t385 t386 _ ?side1 ?side2 A10.out).mono ?_); (case side1 => repeat (first | exact (Kd.R_reads' HO_7.out).2.2 | (with_reducible refine Kd.C_alloc ?_ _) | (with_reducible refine Kd.C_drewN ?_ _) | (with_reducible refine Kd.C_drew ?_))); (case side2 => exact (Kd.R_reads' HO_7.out).2.1); rintro e w18 ⟨rfl, hb⟩; refine ⟨_, rfl, ?_⟩; have n0_ := Aside0.mk (Kd.R_below (by (with_reducible repeat (first | apply Kd.R_alloc | apply Kd.R_drewN | apply Kd.R_drew)); exact HO_7.out) hb); have n1_ := Aside0.mk (below_step (by repeat (first | (with_reducible first | exact HB.out | apply below_alloc | apply pw_below_drewN | apply below_drew1) | exact HB.out)) hb); clear HO_7; clear HB; have HO_7 := n0_; have HB := n1_; clear n0_ n1_; (try clear hb); (try clear hb2); (try clear hk); (try clear hi)) | ((with_reducible refine gate_callee (f := 16) rfl ?_); refine goesL_ (some 46) rfl rfl Tryd.func16 (by kernel_rfl) rfl #[.int .i64 (a0.size : Int), .slice Ao16 x7_1.length co16, .slice A2 l2.length c2] rfl (by (try simp only [List.map_toArray, List.map_cons, List.map_nil]); first | done | rfl | (simp only [List.length_drop, List.length_take]; rfl)) ?_; (with_reducible refine (edits_Compose.calls k1 (a0.size : Int) _ _ x7_1 _ _ l2 t387 t388 _ ?side1 ?side2 ?side3 ?side4 A11.out).mono ?_); (case side1 => repeat (first | exact (Kd.R_reads' HO_7.out).2.2 | (with_reducible refine Kd.C_alloc ?_ _) | (with_reducible refine Kd.C_drewN ?_ _) | (with_reducible refine Kd.C_drew ?_))); (case side2 => exact (Kd.R_reads' HO_7.out).2.1); (case side3 => repeat (first | exact (Kd.C_below HR2.out HB.out) | (with_reducible refine Kd.C_alloc ?_ _) | (with_reducible refine Kd.C_drewN ?_ _) | (with_reducible refine Kd.C_drew ?_))); (case side4 => exact HC2.out); rintro e w19 ⟨v389, rfl, ho0, hb⟩; refine ⟨_, rfl, ?_⟩; have n0_ := Aside0.mk (Kd.R_elder' (by (with_reducible repeat (first | apply Kd.R_alloc | apply Kd.R_drewN | apply Kd.R_drew)); exact HO_7.out) (Kd.R_base ho0) hb); have n1_ := Aside0.mk (Kd.R_lower (Kd.R_new' ho0 (Kd.R_lt (by (with_reducible repeat (first | apply Kd.R_alloc | apply Kd.R_drewN | apply Kd.R_drew)); exact HO_7.out))) (below_size (by repeat (first | (with_reducible first | exact HB.out | apply below_alloc | apply pw_below_drewN | apply below_drew1) | exact HB.out)))); have n2_ := Aside0.mk (below_step (by repeat (first | (with_reducible first | exact HB.out | apply below_alloc | apply pw_below_drewN | apply below_drew1) | exact HB.out)) hb); clear HO_7; clear HB; have HO_7 := n0_; have HO390 := n1_; have HB := n2_; clear n0_ n1_ n2_; (try clear hb); (try clear hb2); (try clear hk); (try clear hi); (try clear ho0)) | ((with_reducible refine gate_callee (f := 17) rfl ?_); refine goesL_ (some 54) rfl rfl Tryd.func17 (by kernel_rfl) rfl #[.int .i64 (a0.size : Int), .slice Ao16 x7_1.length co16, .slice A2 l2.length c2] rfl (by (try simp only [List.map_toArray, List.map_cons, List.map_nil]); first | done | rfl | (simp only [List.length_drop, List.length_take]; rfl)) ?_; (with_reducible refine (monikerref1_Compose.calls k1 (a0.size : Int) _ _ x7_1 _ _ l2 t391 t392 _ ?side1 ?side2 ?side3 ?side4 A12.out).mono ?_); (case side1 => repeat (first | exact (Kd.R_reads' HO_7.out).2.2 | (with_reducible refine Kd.C_alloc ?_ _) | (with_reducible refine Kd.C_drewN ?_ _) | (with_reducible refine Kd.C_drew ?_))); (case side2 => exact (Kd.R_reads' HO_7.out).2.1); (case side3 => repeat (first | exact (Kd.C_below HR2.out HB.out) | (with_reducible refine Kd.C_alloc ?_ _) | (with_reducible refine Kd.C_drewN ?_ _) | (with_reducible refine Kd.C_drew ?_))); (case side4 => exact HC2.out); rintro e w20 ⟨v393, rfl, ho0, hb⟩; refine ⟨_, rfl, ?_⟩; have n0_ := Aside0.mk (Kd.R_elder' (by (with_reducible repeat (first | apply Kd.R_alloc | apply Kd.R_drewN | apply Kd.R_drew)); exact HO_7.out) (Kd.R_base ho0) hb); have n1_ := Aside0.mk (Kd.R_elder' (by (with_reducible repeat (first | apply Kd.R_alloc | apply Kd.R_drewN | apply Kd.R_drew)); exact HO390.out) (Kd.R_base ho0) hb); have n2_ := Aside0.mk (Kd.R_lower (Kd.R_new' (Kd.R_new' ho0 (Kd.R_lt (by (with_reducible repeat (first | apply Kd.R_alloc | apply Kd.R_drewN | apply Kd.R_drew)); exact HO_7.out))) (Kd.R_lt (by (with_reducible repeat (first | apply Kd.R_alloc | apply Kd.R_drewN | apply Kd.R_drew)); exact HO390.out))) (below_size (by repeat (first | (with_reducible first | exact HB.out | apply below_alloc | apply pw_below_drewN | apply below_drew1) | exact HB.out)))); have n3_ := Aside0.mk (below_step (by repeat (first | (with_reducible first | exact HB.out | apply below_alloc | apply pw_below_drewN | apply below_drew1) | exact HB.out)) hb); clear HO_7; clear HO390; clear HB; have HO_7 := n0_; have HO390 := n1_; have HO394 := n2_; have HB := n3_; clear n0_ n1_ n2_ n3_; (try clear hb); (try clear hb2); (try clear hk); (try clear hi); (try clear ho0)) | ((with_reducible refine gate_callee (f := 18) rfl ?_); refine goesL_ (some 62) rfl rfl Tryd.func18 (by kernel_rfl) rfl #[.slice Ao16 x7_1.length co16, .int .i64 (wrap64 ((a0.size : Int) / 2))] rfl (by (try simp only [List.map_toArray, List.map_cons, List.map_nil]); first | done | rfl | (simp only [List.length_drop, List.length_take]; rfl)) ?_; (with_reducible refine (edits_Shift.calls k1 _ _ x7_1 (wrap64 ((a0.size : Int) / 2)) t395 t396 _ ?side1 ?side2 A13.out).mono ?_); (case side1 => repeat (first | exact (Kd.R_reads' HO_7.out).2.2 | (with_reducible refine Kd.C_alloc ?_ _) | (with_reducible refine Kd.C_drewN ?_ _) | (with_reducible refine Kd.C_drew ?_))); (case side2 => exact (Kd.R_reads' HO_7.out).2.1); rintro e w21 ⟨rfl, hb⟩; refine ⟨_, rfl, ?_⟩; have n0_ := Aside0.mk (Kd.R_below (by (with_reducible repeat (first | apply Kd.R_alloc | apply Kd.R_drewN | apply Kd.R_drew)); exact HO_7.out) hb); have n1_ := Aside0.mk (Kd.R_below (by (with_reducible repeat (first | apply Kd.R_alloc | apply Kd.R_drewN | apply Kd.R_drew)); exact HO390.out) hb); have n2_ := Aside0.mk (Kd.R_below (by (with_reducible repeat (first | apply Kd.R_alloc | apply Kd.R_drewN | apply Kd.R_drew)); exact HO394.out) hb); have n3_ := Aside0.mk (below_step (by repeat (first | (with_reducible first | exact HB.out | apply below_alloc | apply pw_below_drewN | apply below_drew1) | exact HB.out)) hb); clear HO_7; clear HO390; clear HO394; clear HB; have HO_7 := n0_; have HO390 := n1_; have HO394 := n2_; have HB := n3_; clear n0_ n1_ n2_ n3_; (try clear hb); (try clear hb2); (try clear hk); (try clear hi)) | ((with_reducible refine gate_callee (f := 19) rfl ?_); refine goesL_ (some 70) rfl rfl Tryd.func19 (by kernel_rfl) rfl #[.slice Ao16 x7_1.length co16, .int .i64 (wrap64 ((a0.size : Int) / 2))] rfl (by (try simp only [List.map_toArray, List.map_cons, List.map_nil]); first | done | rfl | (simp only [List.length_drop, List.length_take]; rfl)) ?_; (with_reducible refine (monikerref1_Shift.calls k1 _ _ x7_1 (wrap64 ((a0.size : Int) / 2)) t397 t398 _ ?side1 ?side2 A14.out).mono ?_); (case side1 => repeat (first | exact (Kd.R_reads' HO_7.out).2.2 | (with_reducible refine Kd.C_alloc ?_ _) | (with_reducible refine Kd.C_drewN ?_ _) | (with_reducible refine Kd.C_drew ?_))); (case side2 => exact (Kd.R_reads' HO_7.out).2.1); rintro e w22 ⟨rfl, hb⟩; refine ⟨_, rfl, ?_⟩; have n0_ := Aside0.mk (Kd.R_below (by (with_reducible repeat (first | apply Kd.R_alloc | apply Kd.R_drewN | apply Kd.R_drew)); exact HO_7.out) hb); have n1_ := Aside0.mk (Kd.R_below (by (with_reducible repeat (first | apply Kd.R_alloc | apply Kd.R_drewN | apply Kd.R_drew)); exact HO390.out) hb); have n2_ := Aside0.mk (Kd.R_below (by (with_reducible repeat (first | apply Kd.R_alloc | apply Kd.R_drewN | apply Kd.R_drew)); exact HO394.out) hb); have n3_ := Aside0.mk (below_step (by repeat (first | (with_reducible first | exact HB.out | apply below_alloc | apply pw_below_drewN | apply below_drew1) | exact HB.out)) hb); clear HO_7; clear HO390; clear HO394; clear HB; have HO_7 := n0_; have HO390 := n1_; have HO394 := n2_; have HB := n3_; clear n0_ n1_ n2_ n3_; (try clear hb); (try clear hb2); (try clear hk); (try clear hi)))
     (try simp only [Act.put, List.setIfInBounds_toArray, List.set_cons_zero, List.set_cons_succ])
     go_cut [108] (fun v108 wc => ∃ (kq : Nat) (x108_14 : Bool), v108 = .bool x108_14 ∧ Aside0 (monikerlaw1_EditsAnew.j1 kq a0 l2 x7_1 x8_1 x108_14 = some r) ∧ Aside0 (kq ≤ k1) ∧ Aside0 (Kd.R k42 42 wc w.heap.size (fun _ => True) (.slice Ao16 x7_1.length co16) x7_1) ∧ Aside0 (Below w.heap.size w wc))
     case first =>
      have H := HC15.out
      clear HC15
      by_cases c23 : t383.toList = t385.toList
      ·rw [if_pos c23] at H
       have c23b0 : (t383.toList == t385.toList) = true := beq_iff_eq.mpr c23
       have c23b1 : (t383.toList != t385.toList) = false := bne_eq_false_iff_eq.mpr c23
       clear c23
       (first | rw [c23b0] | (simp only [i64_w, i32_w]; rw [c23b0]) | skip)
       by_cases c24 : t384 = t386
       ·rw [if_pos c24] at H
        have c24b0 : (t384 == t386) = true := beq_iff_eq.mpr c24
        have c24b1 : (t384 != t386) = false := bne_eq_false_iff_eq.mpr c24
        clear c24
        replace H := Option.bind_eq_some_iff.mp H
        obtain ⟨t399, A250, H⟩ := H
        replace H : (if t399 = true then (if t388 = t392 then (if t395 = t397 then (if (t396 != t398) = true then (monikerlaw1_EditsAnew.j1 k1 a0 l2 x7_1 x8_1 true) else ((edits_Print.f k1 x7_1).bind fun t400 => ((monikerref1_Print.f k1 x7_1).bind fun t401 => (monikerlaw1_EditsAnew.j1 k1 a0 l2 x7_1 x8_1 (t400.toList != t401.toList))))) else (monikerlaw1_EditsAnew.j1 k1 a0 l2 x7_1 x8_1 true)) else (monikerlaw1_EditsAnew.j1 k1 a0 l2 x7_1 x8_1 true)) else (monikerlaw1_EditsAnew.j1 k1 a0 l2 x7_1 x8_1 true)) = some r := H
        have A25 := Aside0.mk A250
        clear A250
        by_cases c26 : t399 = true
        ·subst c26
         have H1 : (if t388 = t392 then (if t395 = t397 then (if (t396 != t398) = true then (monikerlaw1_EditsAnew.j1 k1 a0 l2 x7_1 x8_1 true) else ((edits_Print.f k1 x7_1).bind fun t400 => ((monikerref1_Print.f k1 x7_1).bind fun t401 => (monikerlaw1_EditsAnew.j1 k1 a0 l2 x7_1 x8_1 (t400.toList != t401.toList))))) else (monikerlaw1_EditsAnew.j1 k1 a0 l2 x7_1 x8_1 true)) else (monikerlaw1_EditsAnew.j1 k1 a0 l2 x7_1 x8_1 true)) = some r := by rw [if_pos rfl] at H; exact H
         clear H
         have H := H1
         clear H1
         by_cases c27 : t388 = t392
         ·rw [if_pos c27] at H
          have c27b0 : (t388 == t392) = true := beq_iff_eq.mpr c27
          have c27b1 : (t388 != t392) = false := bne_eq_false_iff_eq.mpr c27
          clear c27
          by_cases c28 : t395 = t397
          ·rw [if_pos c28] at H
           have c28b0 : (t395 == t397) = true := beq_iff_eq.mpr c28
           have c28b1 : (t395 != t397) = false := bne_eq_false_iff_eq.mpr c28
           clear c28
           by_cases c29 : (t396 != t398) = true
           ·rw [if_pos c29] at H
            have c29b0 : (t396 != t398) = true := c29
            (try (have c29b1 : decide (t396 = t398) = false := by simpa using c29))
            (try (have c29b2 : (t396 == t398) = false := by simpa using c29))
            (try (have c29b3 : ¬ (t396 = t398) := by simpa using c29))
            clear c29
            have H' := Aside0.mk H
            clear H
            obtain ⟨Ao30, co30, eo30⟩ := Kd.R_slice HO390.out
            subst eo30
            obtain ⟨Ao31, co31, eo31⟩ := Kd.R_slice HO394.out
            subst eo31
            go_wp2_with (first | (go_at_call 13; (with_reducible refine (monikerplain_SameEdits.calls k1 _ _ t387 _ _ t391 true _ ?side1 ?side2 ?side3 ?side4 A25.out).mono ?_); (case side1 => repeat (first | exact (Kd.R_reads' HO390.out).2.2 | (with_reducible refine Kd.C_alloc ?_ _) | (with_reducible refine Kd.C_drewN ?_ _) | (with_reducible refine Kd.C_drew ?_))); (case side2 => exact (Kd.R_reads' HO390.out).2.1); (case side3 => repeat (first | exact (Kd.R_reads' HO394.out).2.2 | (with_reducible refine Kd.C_alloc ?_ _) | (with_reducible refine Kd.C_drewN ?_ _) | (with_reducible refine Kd.C_drew ?_))); (case side4 => exact (Kd.R_reads' HO394.out).2.1); rintro e w' ⟨rfl, ⟨nd, rfl⟩⟩))
            go_meet
            case rel => exact ⟨_, (true), (by first | rfl | (simp; done) | (simp [*]; done)), H', ⟨by have := HK1.out; first | omega | exact Nat.le_refl _⟩, ⟨by (with_reducible repeat (first | apply Kd.R_alloc | apply Kd.R_drewN | apply Kd.R_drew)); exact Kd.R_mono HO_7.out (fun _ hk => trivial)⟩, ⟨by repeat (first | (with_reducible first | exact HB.out | apply below_alloc | apply pw_below_drewN | apply below_drew1) | exact HB.out)⟩⟩
           ·rw [if_neg c29] at H
            have c29b0 : (t396 != t398) = false := by simpa using c29
            (try (have c29b1 : decide (t396 = t398) = true := by simpa using c29))
            (try (have c29b2 : (t396 == t398) = true := by simpa using c29))
            clear c29
            replace H := Option.bind_eq_some_iff.mp H
            obtain ⟨t400, A320, H⟩ := H
            replace H : ((monikerref1_Print.f k1 x7_1).bind fun t401 => (monikerlaw1_EditsAnew.j1 k1 a0 l2 x7_1 x8_1 (t400.toList != t401.toList))) = some r := H
            have A32 := Aside0.mk A320
            clear A320
            replace H := Option.bind_eq_some_iff.mp H
            obtain ⟨t401, A330, H⟩ := H
            replace H : (monikerlaw1_EditsAnew.j1 k1 a0 l2 x7_1 x8_1 (t400.toList != t401.toList)) = some r := H
            have A33 := Aside0.mk A330
            clear A330
            have H' := Aside0.mk H
            clear H
            obtain ⟨Ao34, co34, eo34⟩ := Kd.R_slice HO390.out
            subst eo34
            obtain ⟨Ao35, co35, eo35⟩ := Kd.R_slice HO394.out
            subst eo35
            go_wp2_with (first | (go_at_call 13; (with_reducible refine (monikerplain_SameEdits.calls k1 _ _ t387 _ _ t391 true _ ?side1 ?side2 ?side3 ?side4 A25.out).mono ?_); (case side1 => repeat (first | exact (Kd.R_reads' HO390.out).2.2 | (with_reducible refine Kd.C_alloc ?_ _) | (with_reducible refine Kd.C_drewN ?_ _) | (with_reducible refine Kd.C_drew ?_))); (case side2 => exact (Kd.R_reads' HO390.out).2.1); (case side3 => repeat (first | exact (Kd.R_reads' HO394.out).2.2 | (with_reducible refine Kd.C_alloc ?_ _) | (with_reducible refine Kd.C_drewN ?_ _) | (with_reducible refine Kd.C_drew ?_))); (case side4 => exact (Kd.R_reads' HO394.out).2.1); rintro e w' ⟨rfl, ⟨nd, rfl⟩⟩) | (go_at_call 9; (with_reducible refine (edits_Print.calls k1 _ _ x7_1 t400 _ ?side1 ?side2 A32.out (SG.below HSG.out (by repeat (first | (with_reducible first | exact HB.out | apply below_alloc | apply pw_below_drewN | apply below_drew1) | exact HB.out)))).mono ?_); (case side1 => repeat (first | exact (Kd.R_reads' HO_7.out).2.2 | (with_reducible refine Kd.C_alloc ?_ _) | (with_reducible refine Kd.C_drewN ?_ _) | (with_reducible refine Kd.C_drew ?_))); (case side2 => exact (Kd.R_reads' HO_7.out).2.1); rintro e w36 ⟨rfl, hb⟩; have n0_ := Aside0.mk (Kd.R_below (by (with_reducible repeat (first | apply Kd.R_alloc | apply Kd.R_drewN | apply Kd.R_drew)); exact HO_7.out) hb); have n1_ := Aside0.mk (Kd.R_below (by (with_reducible repeat (first | apply Kd.R_alloc | apply Kd.R_drewN | apply Kd.R_drew)); exact HO390.out) hb); have n2_ := Aside0.mk (Kd.R_below (by (with_reducible repeat (first | apply Kd.R_alloc | apply Kd.R_drewN | apply Kd.R_drew)); exact HO394.out) hb); have n3_ := Aside0.mk (below_step (by repeat (first | (with_reducible first | exact HB.out | apply below_alloc | apply pw_below_drewN | apply below_drew1) | exact HB.out)) hb); clear HO_7; clear HO390; clear HO394; clear HB; have HO_7 := n0_; have HO390 := n1_; have HO394 := n2_; have HB := n3_; clear n0_ n1_ n2_ n3_; (try clear hb); (try clear hb2); (try clear hk); (try clear hi)) | (go_at_call 10; (with_reducible refine (monikerref1_Print.calls k1 _ _ x7_1 t401 _ ?side1 ?side2 A33.out (SG.below HSG.out (by repeat (first | (with_reducible first | exact HB.out | apply below_alloc | apply pw_below_drewN | apply below_drew1) | exact HB.out)))).mono ?_); (case side1 => repeat (first | exact (Kd.R_reads' HO_7.out).2.2 | (with_reducible refine Kd.C_alloc ?_ _) | (with_reducible refine Kd.C_drewN ?_ _) | (with_reducible refine Kd.C_drew ?_))); (case side2 => exact (Kd.R_reads' HO_7.out).2.1); rintro e w37 ⟨rfl, hb⟩; have n0_ := Aside0.mk (Kd.R_below (by (with_reducible repeat (first | apply Kd.R_alloc | apply Kd.R_drewN | apply Kd.R_drew)); exact HO_7.out) hb); have n1_ := Aside0.mk (Kd.R_below (by (with_reducible repeat (first | apply Kd.R_alloc | apply Kd.R_drewN | apply Kd.R_drew)); exact HO390.out) hb); have n2_ := Aside0.mk (Kd.R_below (by (with_reducible repeat (first | apply Kd.R_alloc | apply Kd.R_drewN | apply Kd.R_drew)); exact HO394.out) hb); have n3_ := Aside0.mk (below_step (by repeat (first | (with_reducible first | exact HB.out | apply below_alloc | apply pw_below_drewN | apply below_drew1) | exact HB.out)) hb); clear HO_7; clear HO390; clear HO394; clear HB; have HO_7 := n0_; have HO390 := n1_; have HO394 := n2_; have HB := n3_; clear n0_ n1_ n2_ n3_; (try clear hb); (try clear hb2); (try clear hk); (try clear hi)))
            go_meet
            case rel => exact ⟨_, ((t400.toList != t401.toList)), (by first | rfl | (simp; done) | (simp [*]; done)), H', ⟨by have := HK1.out; first | omega | exact Nat.le_refl _⟩, ⟨by (with_reducible repeat (first | apply Kd.R_alloc | apply Kd.R_drewN | apply Kd.R_drew)); exact Kd.R_mono HO_7.out (fun _ hk => trivial)⟩, ⟨by repeat (first | (with_reducible first | exact HB.out | apply below_alloc | apply pw_below_drewN | apply below_drew1) | exact HB.out)⟩⟩
          ·rw [if_neg c28] at H
           have c28b0 : (t395 == t397) = false := beq_eq_false_iff_ne.mpr c28
           have c28b1 : (t395 != t397) = true := bne_iff_ne.mpr c28
           have H' := Aside0.mk H
           clear H
           obtain ⟨Ao38, co38, eo38⟩ := Kd.R_slice HO390.out
           subst eo38
           obtain ⟨Ao39, co39, eo39⟩ := Kd.R_slice HO394.out
           subst eo39
           go_wp2_with (first | (go_at_call 13; (with_reducible refine (monikerplain_SameEdits.calls k1 _ _ t387 _ _ t391 true _ ?side1 ?side2 ?side3 ?side4 A25.out).mono ?_); (case side1 => repeat (first | exact (Kd.R_reads' HO390.out).2.2 | (with_reducible refine Kd.C_alloc ?_ _) | (with_reducible refine Kd.C_drewN ?_ _) | (with_reducible refine Kd.C_drew ?_))); (case side2 => exact (Kd.R_reads' HO390.out).2.1); (case side3 => repeat (first | exact (Kd.R_reads' HO394.out).2.2 | (with_reducible refine Kd.C_alloc ?_ _) | (with_reducible refine Kd.C_drewN ?_ _) | (with_reducible refine Kd.C_drew ?_))); (case side4 => exact (Kd.R_reads' HO394.out).2.1); rintro e w' ⟨rfl, ⟨nd, rfl⟩⟩))
           go_meet
           case rel => exact ⟨_, (true), (by first | rfl | (simp; done) | (simp [*]; done)), H', ⟨by have := HK1.out; first | omega | exact Nat.le_refl _⟩, ⟨by (with_reducible repeat (first | apply Kd.R_alloc | apply Kd.R_drewN | apply Kd.R_drew)); exact Kd.R_mono HO_7.out (fun _ hk => trivial)⟩, ⟨by repeat (first | (with_reducible first | exact HB.out | apply below_alloc | apply pw_below_drewN | apply below_drew1) | exact HB.out)⟩⟩
         ·rw [if_neg c27] at H
          have c27b0 : (t388 == t392) = false := beq_eq_false_iff_ne.mpr c27
          have c27b1 : (t388 != t392) = true := bne_iff_ne.mpr c27
          have H' := Aside0.mk H
          clear H
          obtain ⟨Ao40, co40, eo40⟩ := Kd.R_slice HO390.out
          subst eo40
          obtain ⟨Ao41, co41, eo41⟩ := Kd.R_slice HO394.out
          subst eo41
          go_wp2_with (first | (go_at_call 13; (with_reducible refine (monikerplain_SameEdits.calls k1 _ _ t387 _ _ t391 true _ ?side1 ?side2 ?side3 ?side4 A25.out).mono ?_); (case side1 => repeat (first | exact (Kd.R_reads' HO390.out).2.2 | (with_reducible refine Kd.C_alloc ?_ _) | (with_reducible refine Kd.C_drewN ?_ _) | (with_reducible refine Kd.C_drew ?_))); (case side2 => exact (Kd.R_reads' HO390.out).2.1); (case side3 => repeat (first | exact (Kd.R_reads' HO394.out).2.2 | (with_reducible refine Kd.C_alloc ?_ _) | (with_reducible refine Kd.C_drewN ?_ _) | (with_reducible refine Kd.C_drew ?_))); (case side4 => exact (Kd.R_reads' HO394.out).2.1); rintro e w' ⟨rfl, ⟨nd, rfl⟩⟩))
          go_meet
          case rel => exact ⟨_, (true), (by first | rfl | (simp; done) | (simp [*]; done)), H', ⟨by have := HK1.out; first | omega | exact Nat.le_refl _⟩, ⟨by (with_reducible repeat (first | apply Kd.R_alloc | apply Kd.R_drewN | apply Kd.R_drew)); exact Kd.R_mono HO_7.out (fun _ hk => trivial)⟩, ⟨by repeat (first | (with_reducible first | exact HB.out | apply below_alloc | apply pw_below_drewN | apply below_drew1) | exact HB.out)⟩⟩
        ·replace c26 := Bool.eq_false_iff.mpr c26
         subst c26
         have H1 : (monikerlaw1_EditsAnew.j1 k1 a0 l2 x7_1 x8_1 true) = some r := by rw [if_neg (show ¬ (false = true) by decide)] at H; exact H
         clear H
         have H := H1
         clear H1
         have H' := Aside0.mk H
         clear H
         obtain ⟨Ao42, co42, eo42⟩ := Kd.R_slice HO390.out
         subst eo42
         obtain ⟨Ao43, co43, eo43⟩ := Kd.R_slice HO394.out
         subst eo43
         go_wp2_with (first | (go_at_call 13; (with_reducible refine (monikerplain_SameEdits.calls k1 _ _ t387 _ _ t391 false _ ?side1 ?side2 ?side3 ?side4 A25.out).mono ?_); (case side1 => repeat (first | exact (Kd.R_reads' HO390.out).2.2 | (with_reducible refine Kd.C_alloc ?_ _) | (with_reducible refine Kd.C_drewN ?_ _) | (with_reducible refine Kd.C_drew ?_))); (case side2 => exact (Kd.R_reads' HO390.out).2.1); (case side3 => repeat (first | exact (Kd.R_reads' HO394.out).2.2 | (with_reducible refine Kd.C_alloc ?_ _) | (with_reducible refine Kd.C_drewN ?_ _) | (with_reducible refine Kd.C_drew ?_))); (case side4 => exact (Kd.R_reads' HO394.out).2.1); rintro e w' ⟨rfl, ⟨nd, rfl⟩⟩))
         go_meet
         case rel => exact ⟨_, (true), (by first | rfl | (simp; done) | (simp [*]; done)), H', ⟨by have := HK1.out; first | omega | exact Nat.le_refl _⟩, ⟨by (with_reducible repeat (first | apply Kd.R_alloc | apply Kd.R_drewN | apply Kd.R_drew)); exact Kd.R_mono HO_7.out (fun _ hk => trivial)⟩, ⟨by repeat (first | (with_reducible first | exact HB.out | apply below_alloc | apply pw_below_drewN | apply below_drew1) | exact HB.out)⟩⟩
       ·rw [if_neg c24] at H
        have c24b0 : (t384 == t386) = false := beq_eq_false_iff_ne.mpr c24
        have c24b1 : (t384 != t386) = true := bne_iff_ne.mpr c24
        have H' := Aside0.mk H
        clear H
        go_wp2
        go_meet
        case rel => exact ⟨_, (true), (by first | rfl | (simp; done) | (simp [*]; done)), H', ⟨by have := HK1.out; first | omega | exact Nat.le_refl _⟩, ⟨by (with_reducible repeat (first | apply Kd.R_alloc | apply Kd.R_drewN | apply Kd.R_drew)); exact Kd.R_mono HO_7.out (fun _ hk => trivial)⟩, ⟨by repeat (first | (with_reducible first | exact HB.out | apply below_alloc | apply pw_below_drewN | apply below_drew1) | exact HB.out)⟩⟩
      ·rw [if_neg c23] at H
       have c23b0 : (t383.toList == t385.toList) = false := beq_eq_false_iff_ne.mpr c23
       have c23b1 : (t383.toList != t385.toList) = true := bne_iff_ne.mpr c23
       (first | rw [c23b0] | (simp only [i64_w, i32_w]; rw [c23b0]) | skip)
       have H' := Aside0.mk H
       clear H
       go_wp2
       go_meet
       case rel => exact ⟨_, (true), (by first | rfl | (simp; done) | (simp [*]; done)), H', ⟨by have := HK1.out; first | omega | exact Nat.le_refl _⟩, ⟨by (with_reducible repeat (first | apply Kd.R_alloc | apply Kd.R_drewN | apply Kd.R_drew)); exact Kd.R_mono HO_7.out (fun _ hk => trivial)⟩, ⟨by repeat (first | (with_reducible first | exact HB.out | apply below_alloc | apply pw_below_drewN | apply below_drew1) | exact HB.out)⟩⟩
     case rest =>
      clear HC15
      try clear c1
      try clear c2
      try clear p2
      try clear c4
      try clear c5
      try clear p6
      try clear c8
      try clear c8b0
      try clear c14
      try clear c15
      try clear c16
      try clear c17
      try clear c18
      try clear c19
      try clear c23
      try clear c23b0
      try clear c23b1
      try clear c24
      try clear c24b0
      try clear c24b1
      try clear c26
      try clear c27
      try clear c27b0
      try clear c27b1
      try clear c28
      try clear c28b0
      try clear c28b1
      try clear c29
      try clear c29b0
      try clear c29b1
      try clear c29b2
      try clear p2
      obtain ⟨kq, x108_14, rfl, HA, HJ14, HO_7, HB⟩ := hcut
      cases kq with
      | zero => exact absurd HA.out (by simp [monikerlaw1_EditsAnew.j1])
      | succ kj14 =>
       have H := HA.out
       clear HA
       simp only [monikerlaw1_EditsAnew.j1] at H
       by_cases c44 : x108_14 = true
       ·subst c44
        have H1 : (some false) = some r := by rw [if_pos rfl] at H; exact H
        clear H
        have H := H1
        clear H1
        obtain rfl := Option.some.inj H
        go_wp2
        go_ret
        exact ⟨by first | rfl | (simp [errW_none, errW_some] <;> rfl) | (simp [*, errW_none, errW_some] <;> rfl), by repeat (first | (with_reducible first | exact HB.out | apply below_alloc | apply pw_below_drewN | apply below_drew1) | exact HB.out)⟩
       ·replace c44 := Bool.eq_false_iff.mpr c44
        subst c44
        have H1 : (monikerlaw1_EditsAnew.l1 kj14 a0 l2 x7_1 x8_1 (x7_1.length : Int) 0) = some r := by rw [if_neg (show ¬ (false = true) by decide)] at H; exact H
        clear H
        have H := H1
        clear H1
        have H' := Aside0.mk H
        clear H
        go_wp2
        go_loopg [111] kj14 (fun kq v111 w' => ∃ (x7_3 : List (S42)) (x111_3 : Int), v111 = .int .i64 x111_3 ∧ Aside0 (monikerlaw1_EditsAnew.l1 kq a0 l2 x7_3 x8_1 (x7_1.length : Int) x111_3 = some r) ∧ Aside0 (kq ≤ kj14) ∧ Aside0 (Kd.R k42 42 w' w.heap.size (fun _ => True) (.slice Ao16 x7_1.length co16) x7_3) ∧ Aside0 (Below w.heap.size w w'))
        case atStart => exact ⟨(x7_1), (0), (by first | rfl | (simp; done) | (simp [*]; done)), H', ⟨Nat.le_refl _⟩, ⟨by (with_reducible repeat (first | apply Kd.R_alloc | apply Kd.R_drewN | apply Kd.R_drew)); exact HO_7.out⟩, ⟨by repeat (first | (with_reducible first | exact HB.out | apply below_alloc | apply pw_below_drewN | apply below_drew1) | exact HB.out)⟩⟩
        case round =>
         clear H'
         try clear c1
         try clear c2
         try clear p2
         try clear c4
         try clear c5
         try clear p6
         try clear c8
         try clear c8b0
         try clear c14
         try clear c15
         try clear c16
         try clear c17
         try clear c18
         try clear c19
         try clear c23
         try clear c23b0
         try clear c23b1
         try clear c24
         try clear c24b0
         try clear c24b1
         try clear c26
         try clear c27
         try clear c27b0
         try clear c27b1
         try clear c28
         try clear c28b0
         try clear c28b1
         try clear c29
         try clear c29b0
         try clear c29b1
         try clear c29b2
         try clear c44
         try clear p2
         try clear p6
         obtain ⟨x7_3, x111_3, rfl, HA, HK3, HO_7, HB⟩ := hrel
         have hl7_3 := (Kd.R_reads' HO_7.out).1
         rw [hl7_3] at HO_7
         (try simp only [hl7_3])
         cases gk with
         | zero => exact absurd HA.out (by simp [monikerlaw1_EditsAnew.l1])
         | succ k3 =>
          have H := HA.out
          clear HA
          simp only [monikerlaw1_EditsAnew.l1] at H
          by_cases c45 : x111_3 < (x7_1.length : Int)
          ·rw [if_pos c45] at H
           have c45b0 : decide (x111_3 < (x7_1.length : Int)) = true := decide_eq_true c45
           clear c45
           by_cases c46 : x111_3 < (l2.length : Int)
           ·rw [if_pos c46] at H
            have c46b0 : decide (x111_3 < (l2.length : Int)) = true := decide_eq_true c46
            clear c46
            by_cases c47 : 0 ≤ x111_3
            ·rw [if_pos c47] at H
             have c47b0 : decide (0 ≤ x111_3) = true := decide_eq_true c47
             clear c47
             by_cases c48 : x111_3 < (x7_3.length : Int)
             ·rw [if_pos c48] at H
              have c48b0 : decide (x111_3 < (x7_3.length : Int)) = true := decide_eq_true c48
              clear c48
              obtain ⟨y403, hy403⟩ : ∃ y_ : List (S42), y_ = (x7_3.set (x111_3 : Int).toNat (⟨(rd_T42 l2 x111_3).f0, (rd_T42 l2 x111_3).f1, (rd_T42 l2 x111_3).f2⟩ : S42)) := ⟨_, rfl⟩
              replace H : (monikerlaw1_EditsAnew.l1 k3 a0 l2 y403 x8_1 (x7_1.length : Int) (wrap64 (x111_3 + 1))) = some r := by first | (rw [hy403]; with_reducible exact H) | (have H2_ := (Option.bind_some _ _).symm.trans H; rw [hy403]; with_reducible exact H2_) | (have H2_ := (Option.bind_some _ _).symm.trans H; with_reducible exact H2_) | with_reducible exact H | (rw [hy403]; exact H) | exact H
              have Ny403 := Aside0.mk hy403
              clear hy403
              have H' := Aside0.mk H
              clear H
              have p402 : 0 ≤ (x111_3 : Int) := of_decide_eq_true (by first | (with_reducible assumption) | assumption)
              have q402 : x111_3 < (l2.length : Int) := of_decide_eq_true (by first | (with_reducible assumption) | assumption)
              obtain ⟨ad402, e402, hx402_0, hx402_1, hx402_2⟩ := at_T42 HR2.out x111_3 p402 q402
              cases e402
              replace hx402_0 := (HB.out.cell (World.block_lt_of_cell? w _ hx402_0)).trans hx402_0
              replace hx402_1 := (HB.out.cell (World.block_lt_of_cell? w _ hx402_1)).trans hx402_1
              replace hx402_2 := (HB.out.cell (World.block_lt_of_cell? w _ hx402_2)).trans hx402_2
              replace p402 := eq_true p402
              replace q402 := eq_true q402
              have p49 : 0 ≤ (x111_3 : Int) := of_decide_eq_true (by first | (with_reducible assumption) | assumption)
              have q49 : (x111_3 : Int) < ((x7_3.length : Int) : Int) := of_decide_eq_true (by first | (with_reducible assumption) | assumption)
              obtain ⟨go49, co49, eo49, gb49, gl49, cl49, HG49⟩ := Kd.R_form HO_7.out (by omega)
              (first | cases eo49 | (injection eo49 with ea_ en_ ec_; (first | subst ea_ | (injection ea_ with ea_; subst ea_)); subst ec_; clear en_))
              have GB49 := Aside0.mk gb49
              have GG49 := Aside0.mk HG49
              clear gb49 gl49 HG49
              obtain ⟨ce49, hcl49, hM49, hcc49, hfr49⟩ := Kd.R_elem HO_7.out z42 (x111_3 : Int) p49 q49
              obtain rfl := k42_openM hM49
              have hx49_0 : wr.cell? ⟨go49, (x111_3 : Int).toNat * 3, none⟩ = some (.int .i64 ((rd_T42 x7_3 x111_3).f0)) := hcc49 0 _ rfl
              have hx49_1 : wr.cell? ⟨go49, (x111_3 : Int).toNat * 3 + 1, none⟩ = some (.int .i64 ((rd_T42 x7_3 x111_3).f1)) := hcc49 1 _ rfl
              have hx49_2 : wr.cell? ⟨go49, (x111_3 : Int).toNat * 3 + 2, none⟩ = some (.string ((rd_T42 x7_3 x111_3).f2)) := hcc49 2 _ rfl
              have hf49_0 : wr.frozen? ⟨go49, (x111_3 : Int).toNat * 3, none⟩ = false := hfr49 0
              have hf49_1 : wr.frozen? ⟨go49, (x111_3 : Int).toNat * 3 + 1, none⟩ = false := hfr49 1
              have hf49_2 : wr.frozen? ⟨go49, (x111_3 : Int).toNat * 3 + 2, none⟩ = false := hfr49 2
              clear hcl49 hcc49 hfr49 hM49
              replace p49 := eq_true p49
              replace q49 := eq_true q49
              have HX50 := Aside0.mk (show Kd.R k42 42 wr w.heap.size (fun _ => True) (.slice (some ⟨go49, 0, none⟩) x7_3.length co16) x7_3 from (by (with_reducible repeat (first | apply Kd.R_alloc | apply Kd.R_drewN | apply Kd.R_drew)); exact HO_7.out))
              obtain ⟨ce50, hcl50, hM50, hcc50, hfr50⟩ := Kd.R_elem HX50.out z42 (x111_3 : Int) (of_decide_eq_true (by first | (with_reducible assumption) | assumption)) (by have h_ : (x111_3 : Int) < ((x7_3.length : Int) : Int) := of_decide_eq_true (by first | (with_reducible assumption) | assumption); first | exact h_ | (have e_ := (Kd.R_reads' HO_7.out).1; omega) | simpa using h_)
              obtain rfl := k42_openM hM50
              have HP50 := Kd.R_seg HX50.out (x111_3 : Int) (of_decide_eq_true (by first | (with_reducible assumption) | assumption)) (by have h_ : (x111_3 : Int) < ((x7_3.length : Int) : Int) := of_decide_eq_true (by first | (with_reducible assumption) | assumption); first | exact h_ | (have e_ := (Kd.R_reads' HO_7.out).1; omega) | simpa using h_) (seg := [.int .i64 ((rd_T42 l2 x111_3).f0), .int .i64 ((rd_T42 l2 x111_3).f1), .string ((rd_T42 l2 x111_3).f2)]) (j := 0) hcl50 hcc50 (show 3 ≤ 3 from by decide) (x' := (⟨(rd_T42 l2 x111_3).f0, (rd_T42 l2 x111_3).f1, (rd_T42 l2 x111_3).f2⟩ : S42)) (k42_mkM _ _ _ (⟨(rd_T42 l2 x111_3).f0, (rd_T42 l2 x111_3).f1, (rd_T42 l2 x111_3).f2⟩ : S42) ) (fun _ hk => hk)
              have hx50_0 := hcc50 0 _ rfl
              (try simp only [show (k42).sz = 3 from rfl, Nat.mul_one, Nat.add_zero] at hx50_0)
              have hf50_0 := hfr50 0
              (try simp only [show (k42).sz = 3 from rfl, Nat.mul_one, Nat.add_zero] at hf50_0)
              have hx50_1 := hcc50 1 _ rfl
              (try simp only [show (k42).sz = 3 from rfl, Nat.mul_one, Nat.add_zero] at hx50_1)
              have hf50_1 := hfr50 1
              (try simp only [show (k42).sz = 3 from rfl, Nat.mul_one, Nat.add_zero] at hf50_1)
              have hx50_2 := hcc50 2 _ rfl
              (try simp only [show (k42).sz = 3 from rfl, Nat.mul_one, Nat.add_zero] at hx50_2)
              have hf50_2 := hfr50 2
              (try simp only [show (k42).sz = 3 from rfl, Nat.mul_one, Nat.add_zero] at hf50_2)
              clear hcl50 hcc50 hfr50 hM50
              go_wp2_with (first | ((with_reducible refine gate_store (t := 42) (p := 124) rfl ?_); refine store_event (t := 42) (p := 124) (v := ?vo_w51) (w1 := (((wr.setCell ⟨go49, (x111_3 : Int).toNat * 3, none⟩ (.int .i64 ((rd_T42 l2 x111_3).f0))).setCell ⟨go49, (x111_3 : Int).toNat * 3 + 1, none⟩ (.int .i64 ((rd_T42 l2 x111_3).f1))).setCell ⟨go49, (x111_3 : Int).toNat * 3 + 2, none⟩ (.string ((rd_T42 l2 x111_3).f2)))) ?hg ?ho ?hn ?hr ?_; (case ho => rfl); (case hg => rfl); (case hn => rfl); (case hr => first | (go_simp; done) | (go_simp; rfl)); intro w51 hw; have hg : wr.grownBy w51 (some go49) := (by rw [hw]; exact HP50.2); have hp_ : Kd.R k42 42 w51 w.heap.size (fun _ => True) (.slice (some ⟨go49, 0, none⟩) x7_3.length co16) y403 := (by rw [hw, Ny403.out]; exact HP50.1); clear HP50; have n0_ := Aside0.mk (hp_); have n1_ := Aside0.mk ((by rw [hw]; exact below_set (below_set (below_set (HB.out) GB49.out) GB49.out) GB49.out : Below w.heap.size w w51)); clear HO_7; clear HB; have HO_7 := n0_; have HB := n1_; clear n0_ n1_; clear hg hw hp_))
              (try simp only [← hl7_3])
              go_roundg k3
              case measure => have := HK1.out; have := HJ14.out; have := HK3.out; omega
              case rel => exact ⟨(y403), (wrap64 (x111_3 + 1)), (by first | rfl | (simp; done) | (simp [*]; done)), H', ⟨by have := HK1.out; have := HJ14.out; have := HK3.out; omega⟩, ⟨by (try simp only [hl7_3]); (with_reducible repeat (first | apply Kd.R_alloc | apply Kd.R_drewN | apply Kd.R_drew)); exact HO_7.out⟩, ⟨by repeat (first | (with_reducible first | exact HB.out | apply below_alloc | apply pw_below_drewN | apply below_drew1) | exact HB.out)⟩⟩
             ·rw [if_neg c48] at H
              exact absurd H (by simp)
            ·rw [if_neg c47] at H
             exact absurd H (by simp)
           ·rw [if_neg c46] at H
            have c46b0 : decide (x111_3 < (l2.length : Int)) = false := decide_eq_false c46
            clear c46
            by_cases c52 : 0 ≤ x111_3
            ·rw [if_pos c52] at H
             have c52b0 : decide (0 ≤ x111_3) = true := decide_eq_true c52
             clear c52
             by_cases c53 : x111_3 < (x7_3.length : Int)
             ·rw [if_pos c53] at H
              have c53b0 : decide (x111_3 < (x7_3.length : Int)) = true := decide_eq_true c53
              clear c53
              by_cases c54 : ((rd_T42 x7_3 x111_3).f2).size + 1 ≤ 9223372036854775807
              ·rw [if_pos c54] at H
               have c54b0 := eq_true c54
               have c54b1 : decide (((rd_T42 x7_3 x111_3).f2).size + 1 ≤ 9223372036854775807) = true := decide_eq_true c54
               try have c54b2 : (9223372036854775807 < ((rd_T42 x7_3 x111_3).f2).size + 1) = False := eq_false (Nat.not_lt.2 c54)
               obtain ⟨y405, hy405⟩ : ∃ y_ : List (S42), y_ = (x7_3.set (x111_3 : Int).toNat (⟨(rd_T42 x7_3 x111_3).f0, (rd_T42 x7_3 x111_3).f1, ((rd_T42 x7_3 x111_3).f2) ++ (⟨#[33]⟩ : ByteArray)⟩ : S42)) := ⟨_, rfl⟩
               replace H : (monikerlaw1_EditsAnew.l1 k3 a0 l2 y405 x8_1 (x7_1.length : Int) (wrap64 (x111_3 + 1))) = some r := by first | (rw [hy405]; with_reducible exact H) | (have H2_ := (Option.bind_some _ _).symm.trans H; rw [hy405]; with_reducible exact H2_) | (have H2_ := (Option.bind_some _ _).symm.trans H; with_reducible exact H2_) | with_reducible exact H | (rw [hy405]; exact H) | exact H
               have Ny405 := Aside0.mk hy405
               clear hy405
               have H' := Aside0.mk H
               clear H
               have p404 : 0 ≤ (x111_3 : Int) := of_decide_eq_true (by first | (with_reducible assumption) | assumption)
               have q404 : x111_3 < (x7_3.length : Int) := of_decide_eq_true (by first | (with_reducible assumption) | assumption)
               obtain ⟨ad404, e404, hx404_0, hx404_1, hx404_2⟩ := at_T42 (Kd.R_reads' HO_7.out).2.2 x111_3 p404 q404
               cases e404
               replace p404 := eq_true p404
               replace q404 := eq_true q404
               have p55 : 0 ≤ (x111_3 : Int) := of_decide_eq_true (by first | (with_reducible assumption) | assumption)
               have q55 : (x111_3 : Int) < ((x7_3.length : Int) : Int) := of_decide_eq_true (by first | (with_reducible assumption) | assumption)
               obtain ⟨go55, co55, eo55, gb55, gl55, cl55, HG55⟩ := Kd.R_form HO_7.out (by omega)
               (first | cases eo55 | (injection eo55 with ea_ en_ ec_; (first | subst ea_ | (injection ea_ with ea_; subst ea_)); subst ec_; clear en_))
               have GB55 := Aside0.mk gb55
               have GG55 := Aside0.mk HG55
               clear gb55 gl55 HG55
               (first | simp only [add_plain] at hx404_0 | skip)
               (first | simp only [add_plain] at hx404_1 | skip)
               (first | simp only [add_plain] at hx404_2 | skip)
               obtain ⟨ce55, hcl55, hM55, hcc55, hfr55⟩ := Kd.R_elem HO_7.out z42 (x111_3 : Int) p55 q55
               obtain rfl := k42_openM hM55
               have hx55_0 : wr.cell? ⟨go55, (x111_3 : Int).toNat * 3, none⟩ = some (.int .i64 ((rd_T42 x7_3 x111_3).f0)) := hcc55 0 _ rfl
               have hx55_1 : wr.cell? ⟨go55, (x111_3 : Int).toNat * 3 + 1, none⟩ = some (.int .i64 ((rd_T42 x7_3 x111_3).f1)) := hcc55 1 _ rfl
               have hx55_2 : wr.cell? ⟨go55, (x111_3 : Int).toNat * 3 + 2, none⟩ = some (.string ((rd_T42 x7_3 x111_3).f2)) := hcc55 2 _ rfl
               have hf55_0 : wr.frozen? ⟨go55, (x111_3 : Int).toNat * 3, none⟩ = false := hfr55 0
               have hf55_1 : wr.frozen? ⟨go55, (x111_3 : Int).toNat * 3 + 1, none⟩ = false := hfr55 1
               have hf55_2 : wr.frozen? ⟨go55, (x111_3 : Int).toNat * 3 + 2, none⟩ = false := hfr55 2
               clear hcl55 hcc55 hfr55 hM55
               replace p55 := eq_true p55
               replace q55 := eq_true q55
               have HX56 := Aside0.mk (show Kd.R k42 42 wr w.heap.size (fun _ => True) (.slice (some ⟨go55, 0, none⟩) x7_3.length co16) x7_3 from (by (with_reducible repeat (first | apply Kd.R_alloc | apply Kd.R_drewN | apply Kd.R_drew)); exact HO_7.out))
               obtain ⟨ce56, hcl56, hM56, hcc56, hfr56⟩ := Kd.R_elem HX56.out z42 (x111_3 : Int) (of_decide_eq_true (by first | (with_reducible assumption) | assumption)) (by have h_ : (x111_3 : Int) < ((x7_3.length : Int) : Int) := of_decide_eq_true (by first | (with_reducible assumption) | assumption); first | exact h_ | (have e_ := (Kd.R_reads' HO_7.out).1; omega) | simpa using h_)
               obtain rfl := k42_openM hM56
               have HP56 := Kd.R_seg HX56.out (x111_3 : Int) (of_decide_eq_true (by first | (with_reducible assumption) | assumption)) (by have h_ : (x111_3 : Int) < ((x7_3.length : Int) : Int) := of_decide_eq_true (by first | (with_reducible assumption) | assumption); first | exact h_ | (have e_ := (Kd.R_reads' HO_7.out).1; omega) | simpa using h_) (seg := [.string (((rd_T42 x7_3 x111_3).f2) ++ (⟨#[33]⟩ : ByteArray))]) (j := 2) hcl56 hcc56 (show 3 ≤ 3 from by decide) (x' := (⟨(rd_T42 x7_3 x111_3).f0, (rd_T42 x7_3 x111_3).f1, ((rd_T42 x7_3 x111_3).f2) ++ (⟨#[33]⟩ : ByteArray)⟩ : S42)) (k42_mkM _ _ _ (⟨(rd_T42 x7_3 x111_3).f0, (rd_T42 x7_3 x111_3).f1, ((rd_T42 x7_3 x111_3).f2) ++ (⟨#[33]⟩ : ByteArray)⟩ : S42) ) (fun _ hk => hk)
               have hx56_2 := hcc56 2 _ rfl
               (try simp only [show (k42).sz = 3 from rfl, Nat.mul_one, Nat.add_zero] at hx56_2)
               have hf56_2 := hfr56 2
               (try simp only [show (k42).sz = 3 from rfl, Nat.mul_one, Nat.add_zero] at hf56_2)
               clear hcl56 hcc56 hfr56 hM56
               go_wp2_with (first | ((with_reducible refine gate_store (t := 9) (p := 132) rfl ?_); refine store_event (t := 9) (p := 132) (v := ?vo_w57) (w1 := (wr.setCell ⟨go55, (x111_3 : Int).toNat * 3 + 2, none⟩ (.string (((rd_T42 x7_3 x111_3).f2) ++ (⟨#[33]⟩ : ByteArray))))) ?hg ?ho ?hn ?hr ?_; (case ho => rfl); (case hg => rfl); (case hn => rfl); (case hr => first | (go_simp; done) | (go_simp; rfl)); intro w57 hw; have hg : wr.grownBy w57 (some go55) := (by rw [hw]; exact HP56.2); have hp_ : Kd.R k42 42 w57 w.heap.size (fun _ => True) (.slice (some ⟨go55, 0, none⟩) x7_3.length co16) y405 := (by rw [hw, Ny405.out]; exact HP56.1); clear HP56; have n0_ := Aside0.mk (hp_); have n1_ := Aside0.mk ((by rw [hw]; exact below_set (HB.out) GB55.out : Below w.heap.size w w57)); clear HO_7; clear HB; have HO_7 := n0_; have HB := n1_; clear n0_ n1_; clear hg hw hp_))
               (try simp only [← hl7_3])
               go_roundg k3
               case measure => have := HK1.out; have := HJ14.out; have := HK3.out; omega
               case rel => exact ⟨(y405), (wrap64 (x111_3 + 1)), (by first | rfl | (simp; done) | (simp [*]; done)), H', ⟨by have := HK1.out; have := HJ14.out; have := HK3.out; omega⟩, ⟨by (try simp only [hl7_3]); (with_reducible repeat (first | apply Kd.R_alloc | apply Kd.R_drewN | apply Kd.R_drew)); exact HO_7.out⟩, ⟨by repeat (first | (with_reducible first | exact HB.out | apply below_alloc | apply pw_below_drewN | apply below_drew1) | exact HB.out)⟩⟩
              ·rw [if_neg c54] at H
               exact absurd H (by simp)
             ·rw [if_neg c53] at H
              exact absurd H (by simp)
            ·rw [if_neg c52] at H
             exact absurd H (by simp)
          ·rw [if_neg c45] at H
           have c45b0 : decide (x111_3 < (x7_1.length : Int)) = false := decide_eq_false c45
           clear c45
           have c45b9 : decide (x111_3 < (x7_3.length : Int)) = false := by first | (rw [hl7_3]; exact c45b0) | (rw [← hl7_3]; exact c45b0)
           have H' := Aside0.mk H
           clear H
           go_wp2
           (try simp only [← hl7_3])
           go_roundg k3
           case measure => have := HK1.out; have := HJ14.out; have := HK3.out; omega
           case rel => exact ⟨(x7_3), (wrap64 (x8_1 + 1)), (by first | rfl | (simp; done) | (simp [*]; done)), H', ⟨by have := HK1.out; have := HJ14.out; have := HK3.out; omega⟩, ⟨by (try simp only [hl7_3]); (with_reducible repeat (first | apply Kd.R_alloc | apply Kd.R_drewN | apply Kd.R_drew)); exact HO_7.out⟩, ⟨by repeat (first | (with_reducible first | exact HB.out | apply below_alloc | apply pw_below_drewN | apply below_drew1) | exact HB.out)⟩⟩
    ·rw [if_neg c8] at H
     have c8b0 : decide (x8_1 < 2) = false := decide_eq_false c8
     clear c8
     obtain rfl := Option.some.inj H
     go_wp2
     go_ret
     exact ⟨by first | rfl | (simp [errW_none, errW_some] <;> rfl) | (simp [*, errW_none, errW_some] <;> rfl), by repeat (first | (with_reducible first | exact HB.out | apply below_alloc | apply pw_below_drewN | apply below_drew1) | exact HB.out)⟩
 ·rw [if_neg c4] at H
  exact absurd H (by simp)
end Go.Proofs.YtaihajmdngoeiaaDoor.F
namespace Go.Proofs.YtaihajmdngoeiaaDoor.Q
set_option linter.unusedVariables false
set_option linter.unusedSimpArgs false
def Digs (l : List Int) : Prop := ∀ c ∈ l, 48 ≤ c ∧ c ≤ 57
instance decDigs (l : List Int) : Decidable (Digs l) := inferInstanceAs (Decidable (∀ c ∈ l, 48 ≤ c ∧ c ≤ 57))
theorem Digs.cons {c : Int} {l : List Int} : Digs (c :: l) ↔ (48 ≤ c ∧ c ≤ 57) ∧ Digs l := by simp [Digs]
end Go.Proofs.YtaihajmdngoeiaaDoor.Q
namespace Go.Proofs.YtaihajmdngoeiaaDoor.Q
set_option linter.unusedVariables false
set_option linter.unusedSimpArgs false
inductive Res (α : Type) where
 | ok (v : α) (r : List Int)
 | bad (r : List Int)
def Res.then {α β : Type} (x : Res α) (f : α → List Int → Res β) : Res β := match x with | .ok v r => f v r | .bad r => .bad r
def Good {α : Type} (P : List Int → Res α) : Prop :=
 ∀ l v r, P l = .ok v r → ∃ c, l = c ++ r ∧ (∀ r', P (c ++ r') = .ok v r') ∧ ∀ q d, c = q ++ d → d ≠ [] → P q = .bad []
theorem Good.then {α β : Type} {P : List Int → Res α} {Q : α → List Int → Res β} (hP : Good P) (hQ : ∀ v, Good (Q v)) : Good fun l => (P l).then Q := by
 intro l v r h
 replace h : (P l).then Q = .ok v r := h
 cases hp : P l with
 | bad x => rw [hp] at h; simp [Res.then] at h
 | ok u x =>
  rw [hp] at h
  simp only [Res.then] at h
  obtain ⟨c, rfl, h1, h2⟩ := hP l u x hp
  obtain ⟨d, rfl, h3, h4⟩ := hQ u x v r h
  refine ⟨c ++ d, by simp, fun r' => ?_, fun q e he hne => ?_⟩
  ·simp only [List.append_assoc]
   rw [h1]
   simp only [Res.then]
   exact h3 r'
  ·rcases List.append_eq_append_iff.1 he with ⟨a, rfl, ha⟩ | ⟨a, ha, hb⟩
   ·simp only []
    rw [h1]
    simp only [Res.then]
    exact h4 a e ha hne
   ·by_cases hz : a = []
    ·subst hz
     simp at ha hb
     subst ha
     have := h1 []
     simp at this
     simp only []
     rw [this]
     simp only [Res.then]
     exact h4 [] e (by simp [hb]) hne
    ·simp only []
     rw [h2 q a ha hz]
     rfl
def escB (c : Int) : List Int := if c = 34 ∨ c = 92 then [92, c] else if c = 10 then [92, 110] else [c]
def esc (l : List Int) : List Int := l.flatMap escB
theorem esc_cons (c : Int) (t : List Int) : esc (c :: t) = escB c ++ esc t := by simp [esc]
theorem esc_nil : esc [] = [] := rfl
def lineP (a b : Int) (t : List Int) : List Int := itoaI a ++ 44 :: (itoaI b ++ 32 :: 34 :: (esc t ++ 34 :: [10]))
end Go.Proofs.YtaihajmdngoeiaaDoor.Q
namespace Go.Proofs.YtaihajmdngoeiaaDoor.Q
open Go.RowKit Go.Proofs.YtaihajmdngoeiaaDoorW.PrintWords Go.Proofs.YtaihajmdngoeiaaDoorW.PrintLast Go.Proofs.YtaihajmdngoeiaaDoorW.PrintMore
open Go.Proofs.YtaihajmdngoeiaaDoor.F
set_option linter.unusedVariables false
set_option linter.unusedSimpArgs false
theorem w64 {x : Int} (h1 : -9223372036854775808 ≤ x) (h2 : x ≤ 9223372036854775807) : wrap64 x = x := by unfold wrap64; omega
theorem bt_get (s : ByteArray) (i : Nat) (h : i < s.size) : bt s (i : Int) = (bytesOf s)[i]'(by rw [bytesOf_length]; exact h) := by
 rw [← rd_bytesOf]
 simp [rd, bytesOf_length, h]
theorem dr_cons (s : ByteArray) (i : Nat) (h : i < s.size) : (bytesOf s).drop i = bt s (i : Int) :: (bytesOf s).drop (i + 1) := by
 rw [List.drop_eq_getElem_cons (by rw [bytesOf_length]; exact h), bt_get s i h]
end Go.Proofs.YtaihajmdngoeiaaDoor.Q
namespace Go.Proofs.YtaihajmdngoeiaaDoor.Q
set_option linter.unusedVariables false
set_option linter.unusedSimpArgs false
inductive PR where
 | ok (l : List (Int × Int × List Int))
 | many (r : List Int)
 | bad (r : List Int)
def PR.cons (e : Int × Int × List Int) : PR → PR
 | .ok l => .ok (e :: l)
 | .many r => .many r
 | .bad r => .bad r
def lineE (e : Int × Int × List Int) : List Int := lineP e.1 e.2.1 e.2.2
def linesP (es : List (Int × Int × List Int)) : List Int := es.flatMap lineE
theorem linesP_cons (e : Int × Int × List Int) (es : List (Int × Int × List Int)) : linesP (e :: es) = lineE e ++ linesP es := by simp [linesP]
def Short {α : Type} (P : List Int → Res α) : Prop := ∀ l, (∀ v r, P l = .ok v r → r.length ≤ l.length) ∧ ∀ r, P l = .bad r → r.length ≤ l.length
theorem Short.then {α β : Type} {P : List Int → Res α} {Q : α → List Int → Res β} (hP : Short P) (hQ : ∀ v, Short (Q v)) : Short fun l => (P l).then Q := by
 intro l
 obtain ⟨h1, h2⟩ := hP l
 cases hp : P l with
 | bad x =>
  refine ⟨fun v r h => ?_, fun r h => ?_⟩
  ·simp only [hp, Res.then] at h; cases h
  ·simp only [hp, Res.then] at h
   injection h with h
   subst h
   exact h2 _ hp
 | ok u x =>
  obtain ⟨h3, h4⟩ := hQ u x
  have := h1 u x hp
  refine ⟨fun v r h => ?_, fun r h => ?_⟩
  ·simp only [hp, Res.then] at h
   have := h3 v r h
   omega
  ·simp only [hp, Res.then] at h
   have := h4 r h
   omega
end Go.Proofs.YtaihajmdngoeiaaDoor.Q
namespace Go.Proofs.YtaihajmdngoeiaaDoor.Q
open Go.RowKit Go.Proofs.YtaihajmdngoeiaaDoorW.PrintWords Go.Proofs.YtaihajmdngoeiaaDoorW.PrintLast Go.Proofs.YtaihajmdngoeiaaDoorW.PrintMore
open Go.Proofs.YtaihajmdngoeiaaDoor.F
set_option linter.unusedVariables false
set_option linter.unusedSimpArgs false
theorem rd_at (l : List S42) (i : Nat) (h : i < l.length) : rd_T42 l (i : Int) = l[i] := by
 simp [rd_T42, List.getD_eq_getElem?_getD, h]
def ofS (e : S42) : Int × Int × List Int := (e.f0, e.f1, bytesOf e.f2)
def linesB (l : List S42) : List Int := linesP (l.map ofS)
theorem linesB_cons (e : S42) (l : List S42) : linesB (e :: l) = lineE (ofS e) ++ linesB l := by simp [linesB, linesP_cons]
theorem lineE_ofS (e : S42) : lineE (ofS e) = itoaI e.f0 ++ 44 :: (itoaI e.f1 ++ 32 :: 34 :: (esc (bytesOf e.f2) ++ 34 :: [10])) := rfl
theorem escB_range (c : Int) : 1 ≤ (escB c).length ∧ (escB c).length ≤ 2 := by
 unfold escB
 split
 ·simp
 ·split <;> simp
theorem esc_len : ∀ l : List Int, (esc l).length ≤ 2 * l.length
 | [] => by simp [esc_nil]
 | c :: l => by
  have := esc_len l
  have := (escB_range c).2
  rw [esc_cons, List.length_append, List.length_cons]
  omega
theorem print_text (l : List S42) (x12 x13 f0 f1 : Int) (X : ByteArray) (hX : X.size ≤ 140737488351232) (r : ByteArray) (d : Nat) : ∀ (i : Nat) (out : List Int), i ≤ X.size → X.size - i = d → out.length + (esc ((bytesOf X).drop i)).length + 2 < 140737488355328 →
  Ev (fun k => edits_Print.l0 k (out ++ esc ((bytesOf X).drop i) ++ [34, 10]) l x12 (wrap64 (x13 + 1))) r → Ev (fun k => edits_Print.l1 k out l x12 x13 (X.size : Int) (i : Int) f0 f1 X) r := by
 induction d with
 | zero =>
  intro i out h1 h2 h3 h4
  obtain ⟨K, hK⟩ := h4
  have A1 : ((i : Int) < (X.size : Int)) = False := eq_false (by omega)
  rw [List.drop_eq_nil_of_le (by rw [bytesOf_length]; omega), esc_nil] at h3 hK
  rw [List.append_nil] at hK
  have A2 : (out.length + ([34, 10] : List Int).length < 140737488355328) = True := eq_true (by simp at h3 ⊢; omega)
  refine ⟨K + 1, fun k hk => ?_⟩
  obtain ⟨k, rfl⟩ : ∃ m, k = m + 1 := ⟨k - 1, by omega⟩
  simp only [edits_Print.l1, A1, if_false, Option.bind_some, A2, if_true]
  exact hK k (by omega)
 | succ d ih =>
  intro i out h1 h2 h3 h4
  have hi : i < X.size := by omega
  have A1 : ((i : Int) < (X.size : Int)) = True := eq_true (by omega)
  have A2 : ((0 : Int) ≤ (i : Int)) = True := eq_true (by omega)
  have hw : wrap64 ((i : Int) + 1) = ((i + 1 : Nat) : Int) := by rw [w64] <;> omega
  rw [dr_cons X i hi, esc_cons] at h3 h4
  have IH := fun out' => ih (i + 1) out' (by omega) (by omega)
  clear ih
  have step : ∀ k, edits_Print.l1 (k + 2) out l x12 x13 (X.size : Int) (i : Int) f0 f1 X = (if bt X (i : Int) = 34 ∨ bt X (i : Int) = 92 then (if out.length + 2 < 140737488355328 then edits_Print.l1 k (out ++ [92, bt X (i : Int)]) l x12 x13 (X.size : Int) ((i + 1 : Nat) : Int) f0 f1 X else none) else if bt X (i : Int) = 10 then (if out.length + 2 < 140737488355328 then edits_Print.l1 k (out ++ [92, 110]) l x12 x13 (X.size : Int) ((i + 1 : Nat) : Int) f0 f1 X else none) else (if out.length < 140737488355328 then edits_Print.l1 k (out ++ [bt X (i : Int)]) l x12 x13 (X.size : Int) ((i + 1 : Nat) : Int) f0 f1 X else none)) := by
   intro k
   simp only [edits_Print.l1, edits_Print.j2, A1, A2, if_true, hw, Option.bind_some, List.length_cons, List.length_nil]
   generalize bt X (i : Int) = c
   by_cases h34 : c = 34
   ·subst h34
    simp
   ·by_cases h92 : c = 92
    ·subst h92
     simp
    ·simp [h34, h92]
  generalize bt X (i : Int) = c at step h3 h4
  generalize (bytesOf X).drop (i + 1) = R at IH h3 h4
  rw [List.length_append] at h3
  unfold escB at h3 h4
  by_cases c1 : c = 34 ∨ c = 92
  ·rw [if_pos c1] at h3 h4
   obtain ⟨K, hK⟩ := IH (out ++ [92, c]) (by simp at h3 ⊢; omega) (by simpa using h4)
   refine ⟨K + 2, fun k hk => ?_⟩
   obtain ⟨k, rfl⟩ : ∃ m, k = m + 2 := ⟨k - 2, by omega⟩
   refine (step k).trans ?_
   rw [if_pos c1, if_pos (by simp at h3; omega)]
   exact hK k (by omega)
  ·rw [if_neg c1] at h3 h4
   by_cases c2 : c = 10
   ·rw [if_pos c2] at h3 h4
    obtain ⟨K, hK⟩ := IH (out ++ [92, 110]) (by simp at h3 ⊢; omega) (by simpa using h4)
    refine ⟨K + 2, fun k hk => ?_⟩
    obtain ⟨k, rfl⟩ : ∃ m, k = m + 2 := ⟨k - 2, by omega⟩
    refine (step k).trans ?_
    rw [if_neg c1, if_pos c2, if_pos (by simp at h3; omega)]
    exact hK k (by omega)
   ·rw [if_neg c2] at h3 h4
    obtain ⟨K, hK⟩ := IH (out ++ [c]) (by simp at h3 ⊢; omega) (by simpa using h4)
    refine ⟨K + 2, fun k hk => ?_⟩
    obtain ⟨k, rfl⟩ : ∃ m, k = m + 2 := ⟨k - 2, by omega⟩
    refine (step k).trans ?_
    rw [if_neg c1, if_neg c2, if_pos (by simp at h3; omega)]
    exact hK k (by omega)
theorem print_loop (l : List S42) (hl : l.length ≤ 65536) (hB : ∀ x ∈ l, isI64 x.f0 ∧ isI64 x.f1) (hZ : ∀ x ∈ l, x.f2.size ≤ 140737488351232) (d : Nat) : ∀ (i : Nat) (out : List Int), i ≤ l.length → l.length - i = d → out.length + (linesB (l.drop i)).length + 100 ≤ 140737488355328 →
  Ev (fun k => edits_Print.l0 k out l (l.length : Int) (i : Int)) (strOfNums (out ++ linesB (l.drop i))) := by
 induction d with
 | zero =>
  intro i out h1 h2 h3
  have A1 : ((i : Int) < (l.length : Int)) = False := eq_false (by omega)
  rw [List.drop_eq_nil_of_le (by omega)]
  refine ⟨1, fun k hk => ?_⟩
  obtain ⟨k, rfl⟩ : ∃ m, k = m + 1 := ⟨k - 1, by omega⟩
  simp only [edits_Print.l0, A1, if_false]
  simp [linesB, linesP]
 | succ d ih =>
  intro i out h1 h2 h3
  have hi : i < l.length := by omega
  have A1 : ((i : Int) < (l.length : Int)) = True := eq_true (by omega)
  have A2 : ((0 : Int) ≤ (i : Int)) = True := eq_true (by omega)
  have hw : wrap64 ((i : Int) + 1) = ((i + 1 : Nat) : Int) := by rw [w64] <;> omega
  have hm : l[i] ∈ l := List.getElem_mem hi
  obtain ⟨b0, b1⟩ := hB _ hm
  have z0 := hZ _ hm
  rw [List.drop_eq_getElem_cons hi, linesB_cons, List.length_append] at h3
  rw [List.drop_eq_getElem_cons hi, linesB_cons]
  have hlen : (lineE (ofS l[i])).length = (itoaI l[i].f0).length + 1 + (itoaI l[i].f1).length + 2 + (esc (bytesOf l[i].f2)).length + 2 := by
   rw [lineE_ofS]
   simp only [List.length_append, List.length_cons, List.length_nil]
   omega
  have t1 := print_text l (l.length : Int) (i : Int) l[i].f0 l[i].f1 l[i].f2 z0 (strOfNums (out ++ (lineE (ofS l[i]) ++ linesB (l.drop (i + 1))))) _ 0 (out ++ itoaI l[i].f0 ++ [44] ++ itoaI l[i].f1 ++ [32, 34]) (by omega) rfl (by
   rw [List.drop_zero]
   simp only [List.length_append, List.length_cons, List.length_nil]
   omega) (by
   rw [List.drop_zero, hw]
   have e : out ++ itoaI l[i].f0 ++ [44] ++ itoaI l[i].f1 ++ [32, 34] ++ esc (bytesOf l[i].f2) ++ [34, 10] = out ++ lineE (ofS l[i]) := by rw [lineE_ofS]; simp
   rw [e]
   have := ih (i + 1) (out ++ lineE (ofS l[i])) (by omega) (by omega) (by rw [List.length_append]; omega)
   rw [List.append_assoc] at this
   exact this)
  obtain ⟨K, hK⟩ := t1
  refine ⟨K + 1, fun k hk => ?_⟩
  obtain ⟨k, rfl⟩ : ∃ m, k = m + 1 := ⟨k - 1, by omega⟩
  have g := hK k (by omega)
  simp only [edits_Print.l0, A1, A2, if_true]
  rw [rd_at l i hi]
  have a1 : strconv_AppendInt_27.f k out l[i].f0 10 = some (out ++ itoaI l[i].f0) := by
   unfold strconv_AppendInt_27.f
   rw [if_pos ⟨rfl, b0, by omega⟩]
  have a2 : strconv_AppendInt_27.f k (out ++ itoaI l[i].f0 ++ [44]) l[i].f1 10 = some (out ++ itoaI l[i].f0 ++ [44] ++ itoaI l[i].f1) := by
   unfold strconv_AppendInt_27.f
   rw [if_pos ⟨rfl, b1, by simp only [List.length_append, List.length_cons, List.length_nil]; omega⟩]
  rw [a1]
  simp only [Option.bind_some]
  rw [if_pos (by rw [List.length_append]; omega), a2]
  simp only [Option.bind_some]
  rw [if_pos (by simp only [List.length_append, List.length_cons, List.length_nil]; omega)]
  exact g
theorem Print_is (l : List S42) (hB : ∀ x ∈ l, isI64 x.f0 ∧ isI64 x.f1) (hZ : ∀ x ∈ l, x.f2.size ≤ 140737488351232) (hs : (linesB l).length + 100 ≤ 140737488355328) :
  Ev (fun k => edits_Print.f k l) (if l.length ≤ 65536 then strOfNums (linesB l) else ⟨#[]⟩) := by
 unfold edits_Print.f
 by_cases c : l.length ≤ 65536
 ·have A1 : ((l.length : Int) > 65536) = False := eq_false (by omega)
  simp only [A1, if_false, c, if_true]
  have := print_loop l c hB hZ l.length 0 [] (by omega) (by omega) (by simpa using hs)
  simpa using this
 ·have A1 : ((l.length : Int) > 65536) = True := eq_true (by omega)
  simp only [A1, if_true, c, if_false]
  exact Ev.now _
theorem quotR_loop (X : ByteArray) (hX : X.size ≤ 140737488351232) (d : Nat) : ∀ (i : Nat) (out : List Int), i ≤ X.size → X.size - i = d → out.length + (esc ((bytesOf X).drop i)).length + 1 < 140737488355328 →
  Ev (fun k => monikerref1_quoted.l0 k X out (i : Int)) (strOfNums (out ++ esc ((bytesOf X).drop i) ++ [34])) := by
 induction d with
 | zero =>
  intro i out h1 h2 h3
  have A1 : ((i : Int) < (X.size : Int)) = False := eq_false (by omega)
  rw [List.drop_eq_nil_of_le (by rw [bytesOf_length]; omega), esc_nil] at h3 ⊢
  have A2 : (out.length < 140737488355328) = True := eq_true (by simp at h3; omega)
  refine ⟨1, fun k hk => ?_⟩
  obtain ⟨k, rfl⟩ : ∃ m, k = m + 1 := ⟨k - 1, by omega⟩
  simp only [monikerref1_quoted.l0, A1, if_false, A2, if_true, List.append_nil]
 | succ d ih =>
  intro i out h1 h2 h3
  have hi : i < X.size := by omega
  have A1 : ((i : Int) < (X.size : Int)) = True := eq_true (by omega)
  have A2 : ((0 : Int) ≤ (i : Int)) = True := eq_true (by omega)
  have hw : wrap64 ((i : Int) + 1) = ((i + 1 : Nat) : Int) := by rw [w64] <;> omega
  rw [dr_cons X i hi, esc_cons] at h3 ⊢
  have IH := fun out' => ih (i + 1) out' (by omega) (by omega)
  clear ih
  have step : ∀ k, monikerref1_quoted.l0 (k + 2) X out (i : Int) = (if bt X (i : Int) = 34 ∨ bt X (i : Int) = 92 then (if out.length + 2 < 140737488355328 then monikerref1_quoted.l0 k X (out ++ [92, bt X (i : Int)]) ((i + 1 : Nat) : Int) else none) else if bt X (i : Int) = 10 then (if out.length + 2 < 140737488355328 then monikerref1_quoted.l0 k X (out ++ [92, 110]) ((i + 1 : Nat) : Int) else none) else (if out.length < 140737488355328 then monikerref1_quoted.l0 k X (out ++ [bt X (i : Int)]) ((i + 1 : Nat) : Int) else none)) := by
   intro k
   simp only [monikerref1_quoted.l0, monikerref1_quoted.j1, A1, A2, if_true, hw, Option.bind_some, List.length_cons, List.length_nil]
   generalize bt X (i : Int) = c
   by_cases h34 : c = 34
   ·subst h34
    simp
   ·by_cases h92 : c = 92
    ·subst h92
     simp
    ·simp [h34, h92]
  generalize bt X (i : Int) = c at step h3 ⊢
  generalize (bytesOf X).drop (i + 1) = R at IH h3 ⊢
  rw [List.length_append] at h3
  unfold escB at h3 ⊢
  by_cases c1 : c = 34 ∨ c = 92
  ·rw [if_pos c1] at h3 ⊢
   obtain ⟨K, hK⟩ := IH (out ++ [92, c]) (by simp at h3 ⊢; omega)
   refine ⟨K + 2, fun k hk => ?_⟩
   obtain ⟨k, rfl⟩ : ∃ m, k = m + 2 := ⟨k - 2, by omega⟩
   refine (step k).trans ?_
   rw [if_pos c1, if_pos (by simp at h3; omega)]
   have g := hK k (by omega)
   simpa using g
  ·rw [if_neg c1] at h3 ⊢
   by_cases c2 : c = 10
   ·rw [if_pos c2] at h3 ⊢
    obtain ⟨K, hK⟩ := IH (out ++ [92, 110]) (by simp at h3 ⊢; omega)
    refine ⟨K + 2, fun k hk => ?_⟩
    obtain ⟨k, rfl⟩ : ∃ m, k = m + 2 := ⟨k - 2, by omega⟩
    refine (step k).trans ?_
    rw [if_neg c1, if_pos c2, if_pos (by simp at h3; omega)]
    have g := hK k (by omega)
    simpa using g
   ·rw [if_neg c2] at h3 ⊢
    obtain ⟨K, hK⟩ := IH (out ++ [c]) (by simp at h3 ⊢; omega)
    refine ⟨K + 2, fun k hk => ?_⟩
    obtain ⟨k, rfl⟩ : ∃ m, k = m + 2 := ⟨k - 2, by omega⟩
    refine (step k).trans ?_
    rw [if_neg c1, if_neg c2, if_pos (by simp at h3; omega)]
    have g := hK k (by omega)
    simpa using g
theorem quotR_is (X : ByteArray) (hX : X.size ≤ 140737488351232) (hs : (esc (bytesOf X)).length + 100 ≤ 140737488355328) : Ev (fun k => monikerref1_quoted.f k X) (strOfNums (34 :: (esc (bytesOf X) ++ [34]))) := by
 have := quotR_loop X hX _ 0 [34] (by omega) rfl (by rw [List.drop_zero]; simp only [List.length_cons, List.length_nil]; omega)
 simpa [monikerref1_quoted.f] using this
end Go.Proofs.YtaihajmdngoeiaaDoor.Q
namespace Go.Proofs.YtaihajmdngoeiaaDoor.Q
open Go.RowKit Go.Proofs.YtaihajmdngoeiaaDoorW.PrintWords Go.Proofs.YtaihajmdngoeiaaDoorW.PrintLast Go.Proofs.YtaihajmdngoeiaaDoorW.PrintMore
open Go.Proofs.YtaihajmdngoeiaaDoor.F
set_option linter.unusedVariables false
set_option linter.unusedSimpArgs false
def IsB (l : List Int) : Prop := ∀ c ∈ l, 0 ≤ c ∧ c ≤ 255
theorem isB_bytes (s : ByteArray) : IsB (bytesOf s) := by
 intro c hc
 unfold bytesOf at hc
 obtain ⟨b, _, rfl⟩ := List.mem_map.1 hc
 have := b.toNat_lt
 omega
theorem isB_append {a b : List Int} (ha : IsB a) (hb : IsB b) : IsB (a ++ b) := by
 intro c hc
 rcases List.mem_append.1 hc with h | h
 ·exact ha c h
 ·exact hb c h
theorem isB_cons {c : Int} {a : List Int} (h0 : 0 ≤ c ∧ c ≤ 255) (ha : IsB a) : IsB (c :: a) := by
 intro x hx
 rcases List.mem_cons.1 hx with rfl | h
 ·exact h0
 ·exact ha x h
theorem isB_nil : IsB [] := by intro c hc; cases hc
theorem isB_esc : ∀ l : List Int, IsB l → IsB (esc l)
 | [], _ => by rw [esc_nil]; exact isB_nil
 | c :: l, h => by
  rw [esc_cons]
  refine isB_append ?_ (isB_esc l (fun x hx => h x (List.mem_cons_of_mem _ hx)))
  have hc := h c List.mem_cons_self
  unfold escB
  split
  ·exact isB_cons (by omega) (isB_cons hc isB_nil)
  ·split
   ·exact isB_cons (by omega) (isB_cons (by omega) isB_nil)
   ·exact isB_cons hc isB_nil
theorem bo_sn (l : List Int) (h : IsB l) : bytesOf (strOfNums l) = l := by
 unfold bytesOf strOfNums
 simp only [List.toList_toArray, List.map_map]
 conv => rhs; rw [← List.map_id l]
 apply List.map_congr_left
 intro c hc
 have := h c hc
 simp
 omega
theorem sn_bytes (s : ByteArray) : strOfNums (bytesOf s) = s := by
 unfold strOfNums bytesOf
 apply ByteArray.ext
 rw [List.map_map]
 apply Array.ext'
 simp only [List.toList_toArray]
 conv => rhs; rw [← List.map_id s.data.toList]
 apply List.map_congr_left
 intro b _
 simp
theorem bo_append (a b : ByteArray) : bytesOf (a ++ b) = bytesOf a ++ bytesOf b := by
 unfold bytesOf
 rw [ByteArray.data_append]
 simp
theorem bo_itoa (n : Int) : bytesOf ⟨(Lib.itoa n).toArray⟩ = itoaI n := by
 unfold bytesOf itoaI ints
 simp
theorem lineS_bytes (a b : Int) (X : ByteArray) : bytesOf (lineS ⟨(Lib.itoa a).toArray⟩ ⟨(Lib.itoa b).toArray⟩ (strOfNums (34 :: (esc (bytesOf X) ++ [34])))) = lineP a b (bytesOf X) := by
 unfold lineS lineP
 have hq : IsB (34 :: (esc (bytesOf X) ++ [34])) := isB_cons (by omega) (isB_append (isB_esc _ (isB_bytes X)) (isB_cons (by omega) isB_nil))
 simp only [bo_append, bo_itoa, bo_sn _ hq]
 have e1 : bytesOf ⟨#[44]⟩ = [44] := rfl
 have e2 : bytesOf ⟨#[32]⟩ = [32] := rfl
 have e3 : bytesOf ⟨#[10]⟩ = [10] := rfl
 rw [e1, e2, e3]
 simp
theorem rprint_loop (l : List S42) (hl : l.length ≤ 65536) (hB : ∀ x ∈ l, isI64 x.f0 ∧ isI64 x.f1) (hZ : ∀ x ∈ l, x.f2.size ≤ 140737488351232) (d : Nat) : ∀ (i : Nat) (out : List Int), i ≤ l.length → l.length - i = d → out.length + (linesB (l.drop i)).length + 200 ≤ 140737488355328 →
  Ev (fun k => monikerref1_Print.l0 k l out (i : Int)) (strOfNums (out ++ linesB (l.drop i))) := by
 induction d with
 | zero =>
  intro i out h1 h2 h3
  have A1 : ((i : Int) < (l.length : Int)) = False := eq_false (by omega)
  rw [List.drop_eq_nil_of_le (by omega)]
  refine ⟨1, fun k hk => ?_⟩
  obtain ⟨k, rfl⟩ : ∃ m, k = m + 1 := ⟨k - 1, by omega⟩
  simp only [monikerref1_Print.l0, A1, if_false]
  simp [linesB, linesP]
 | succ d ih =>
  intro i out h1 h2 h3
  have hi : i < l.length := by omega
  have A1 : ((i : Int) < (l.length : Int)) = True := eq_true (by omega)
  have A2 : ((0 : Int) ≤ (i : Int)) = True := eq_true (by omega)
  have hw : wrap64 ((i : Int) + 1) = ((i + 1 : Nat) : Int) := by rw [w64] <;> omega
  have hm : l[i] ∈ l := List.getElem_mem hi
  obtain ⟨b0, b1⟩ := hB _ hm
  have z0 := hZ _ hm
  rw [List.drop_eq_getElem_cons hi, linesB_cons, List.length_append] at h3
  rw [List.drop_eq_getElem_cons hi, linesB_cons]
  have hlen : (lineE (ofS l[i])).length = (itoaI l[i].f0).length + 1 + (itoaI l[i].f1).length + 2 + (esc (bytesOf l[i].f2)).length + 2 := by
   rw [lineE_ofS]
   simp only [List.length_append, List.length_cons, List.length_nil]
   omega
  obtain ⟨K1, hK1⟩ := quotR_is l[i].f2 z0 (by omega)
  obtain ⟨K2, hK2⟩ := ih (i + 1) (out ++ lineE (ofS l[i])) (by omega) (by omega) (by rw [List.length_append]; omega)
  rw [List.append_assoc] at hK2
  refine ⟨max K1 K2 + 1, fun k hk => ?_⟩
  obtain ⟨k, rfl⟩ : ∃ m, k = m + 1 := ⟨k - 1, by omega⟩
  have g1 := hK1 k (by omega)
  have g2 := hK2 k (by omega)
  simp only at g1 g2
  simp only [monikerref1_Print.l0, A1, A2, if_true]
  rw [rd_at l i hi]
  have a1 : strconv_Itoa_28.f k l[i].f0 = some ⟨(Lib.itoa l[i].f0).toArray⟩ := by exact if_pos b0
  have a2 : strconv_Itoa_28.f k l[i].f1 = some ⟨(Lib.itoa l[i].f1).toArray⟩ := by exact if_pos b1
  rw [a1]
  simp only [Option.bind_some]
  rw [a2]
  simp only [Option.bind_some]
  rw [g1]
  simp only [Option.bind_some]
  have hb := lineS_bytes l[i].f0 l[i].f1 l[i].f2
  have hsz : (lineS ⟨(Lib.itoa l[i].f0).toArray⟩ ⟨(Lib.itoa l[i].f1).toArray⟩ (strOfNums (34 :: (esc (bytesOf l[i].f2) ++ [34])))).size = (lineE (ofS l[i])).length := by
   rw [← bytesOf_length, hb]
   rfl
  rw [hb, hsz, if_pos (by omega), hw]
  exact g2
theorem RPrint_is (l : List S42) (hB : ∀ x ∈ l, isI64 x.f0 ∧ isI64 x.f1) (hZ : ∀ x ∈ l, x.f2.size ≤ 140737488351232) (hs : (linesB l).length + 200 ≤ 140737488355328) :
  Ev (fun k => monikerref1_Print.f k l) (if l.length ≤ 65536 then strOfNums (linesB l) else ⟨#[]⟩) := by
 unfold monikerref1_Print.f
 by_cases c : l.length ≤ 65536
 ·have A1 : ((l.length : Int) > 65536) = False := eq_false (by omega)
  simp only [A1, if_false, c, if_true]
  have := rprint_loop l c hB hZ l.length 0 [] (by omega) (by omega) (by simpa using hs)
  simpa using this
 ·have A1 : ((l.length : Int) > 65536) = True := eq_true (by omega)
  simp only [A1, if_true, c, if_false]
  exact Ev.now _
end Go.Proofs.YtaihajmdngoeiaaDoor.Q
namespace Go.Proofs.YtaihajmdngoeiaaDoor.Q
open Go.RowKit Go.Proofs.YtaihajmdngoeiaaDoorW.PrintWords Go.Proofs.YtaihajmdngoeiaaDoorW.PrintLast Go.Proofs.YtaihajmdngoeiaaDoorW.PrintMore
open Go.Proofs.YtaihajmdngoeiaaDoor.F
theorem same_loop (l : List S42) (hl : l.length ≤ 9223372036854775807) (d : Nat) : ∀ i, i ≤ l.length → l.length - i = d →
  Ev (fun k => monikerplain_SameEdits.l0 k l l (l.length : Int) (i : Int)) true := by
 induction d with
 | zero =>
  intro i h1 h2
  refine ⟨1, fun n hn => ?_⟩
  obtain ⟨k, rfl⟩ : ∃ m, n = m + 1 := ⟨n - 1, by omega⟩
  simp only [monikerplain_SameEdits.l0]
  rw [if_neg (by omega)]
 | succ d ih =>
  intro i h1 h2
  obtain ⟨K, hK⟩ := ih (i + 1) (by omega) (by omega)
  refine ⟨K + 1, fun n hn => ?_⟩
  obtain ⟨k, rfl⟩ : ∃ m, n = m + 1 := ⟨n - 1, by omega⟩
  simp only [monikerplain_SameEdits.l0]
  rw [if_pos (by omega), if_pos (by omega), if_pos (by omega), if_pos (by omega), if_neg (by simp), show wrap64 ((i : Int) + 1) = ((i + 1 : Nat) : Int) by unfold wrap64; omega]
  exact hK k (by omega)
theorem same_is (l : List S42) (hl : l.length ≤ 9223372036854775807) : Ev (fun k => monikerplain_SameEdits.f k l l) true := by
 unfold monikerplain_SameEdits.f
 simp only [↓reduceIte]
 exact same_loop l hl l.length 0 (by omega) (by omega)
end Go.Proofs.YtaihajmdngoeiaaDoor.Q
namespace Go.Proofs.YtaihajmdngoeiaaDoor.QA
open Go.RowKit Go.Proofs.YtaihajmdngoeiaaDoorW.PrintWords Go.Proofs.YtaihajmdngoeiaaDoorW.PrintLast Go.Proofs.YtaihajmdngoeiaaDoorW.PrintMore
open Go.Proofs.YtaihajmdngoeiaaDoor.F
set_option linter.unusedVariables false
set_option linter.unusedSimpArgs false
structure AL (text : ByteArray) (l : List S42) : Prop where
 t : text.size + QE.tot l ≤ 1048576
 n : l.length ≤ 1048576
 i : ∀ x ∈ l, Q.isI64 x.f0 ∧ Q.isI64 x.f1
 p : (Q.linesB l).length + 200 ≤ 140737488355328
theorem size_le {l : List S42} {x : S42} (h : x ∈ l) : x.f2.size ≤ QE.tot l := by
 induction l with
 | nil => cases h
 | cons y l ih =>
  simp only [QE.tot]
  rcases List.mem_cons.1 h with rfl | h
  ·omega
  ·have := ih h
   omega
theorem tot_set : ∀ (l : List S42) (i : Nat) (h : i < l.length) (y : S42), QE.tot (l.set i y) + (l[i]).f2.size = QE.tot l + y.f2.size
 | x :: l, 0, h, y => by simp only [List.set_cons_zero, QE.tot, List.getElem_cons_zero]; omega
 | x :: l, i + 1, h, y => by
  have := tot_set l i (by simpa using h) y
  simp only [List.set_cons_succ, QE.tot, List.getElem_cons_succ]
  omega
theorem comp_f (k : Nat) (n : Int) (a b : List S42) (h1 : QE.tot a ≤ 1048576) (h2 : QE.tot b ≤ 1048576) : edits_Compose.f k n a b = some (QE.compSpec n a b) := by
 unfold edits_Compose.f
 rw [if_pos ⟨h1, h2⟩]
theorem comp_len (n : Int) (a b : List S42) : (QE.compSpec n a b).1.length ≤ 65536 := by
 unfold QE.compSpec
 split
 ·split
  ·split
   ·simp
   ·simp only; omega
  ·simp
 ·simp
theorem anew_round (text : ByteArray) (b l : List S42) (x8 : Int) (hx : x8 < 2) (hl : AL text l) (hb : QE.tot b ≤ 1048576) (hn : Ev (fun k => monikerlaw1_EditsAnew.l1 k text b l x8 (l.length : Int) 0) true) : Ev (fun k => monikerlaw1_EditsAnew.l0 k text b l x8) true := by
 have ht := hl.t
 have hz : ∀ x ∈ l, x.f2.size ≤ 140737488351232 := fun x hx => by have := size_le hx; omega
 have e1 := QE.Apply_is text l (by omega)
 have e2 := QE.RApply_is text (by omega) l (by omega)
 have e3 : Ev (fun k => edits_Compose.f k text.size l b) (QE.compSpec text.size l b) := ⟨0, fun k _ => comp_f k text.size l b (by omega) hb⟩
 have e4 := QE.Compose_is text.size l b (by omega) hb
 have e5 := QE.Shift_is l (wrap64 ((text.size : Int) / 2))
 have e6 := QE.RShift_is l (wrap64 ((text.size : Int) / 2))
 have e7 := Q.Print_is l hl.i hz (Nat.le_trans (Nat.add_le_add_left (by decide) _) hl.p)
 have e8 := Q.RPrint_is l hl.i hz hl.p
 have hC := Nat.le_trans (comp_len text.size l b) (show 65536 ≤ 9223372036854775807 by decide)
 generalize QE.Apspec text l = A at e1 e2
 generalize QE.compSpec text.size l b = C at e3 e4 hC
 generalize QE.Shspec l (wrap64 ((text.size : Int) / 2)) = D at e5 e6
 generalize (if l.length ≤ 65536 then strOfNums (Q.linesB l) else ⟨#[]⟩) = E at e7 e8
 clear hz hl hb ht
 refine Ev.step (f := fun k => ((edits_Apply.f k text l).bind fun bt383 => ((monikerref1_Apply.f k text l).bind fun bt385 => ((edits_Compose.f k (text.size : Int) l b).bind fun bt387 => ((monikerref1_Compose.f k (text.size : Int) l b).bind fun bt391 => ((edits_Shift.f k l (wrap64 ((text.size : Int) / 2))).bind fun bt395 => ((monikerref1_Shift.f k l (wrap64 ((text.size : Int) / 2))).bind fun bt397 => (if bt383.1.toList = bt385.1.toList then (if bt383.2 = bt385.2 then ((monikerplain_SameEdits.f k bt387.1 bt391.1).bind fun t399 => (if t399 = true then (if bt387.2 = bt391.2 then (if bt395.1 = bt397.1 then (if (bt395.2 != bt397.2) = true then (monikerlaw1_EditsAnew.j1 k text b l x8 true) else ((edits_Print.f k l).bind fun t400 => ((monikerref1_Print.f k l).bind fun t401 => (monikerlaw1_EditsAnew.j1 k text b l x8 (t400.toList != t401.toList))))) else (monikerlaw1_EditsAnew.j1 k text b l x8 true)) else (monikerlaw1_EditsAnew.j1 k text b l x8 true)) else (monikerlaw1_EditsAnew.j1 k text b l x8 true))) else (monikerlaw1_EditsAnew.j1 k text b l x8 true)) else (monikerlaw1_EditsAnew.j1 k text b l x8 true))))))))) (fun k => by
  simp only [monikerlaw1_EditsAnew.l0]
  rw [if_pos hx]) ?_
 refine e1.bind ?_
 refine e2.bind ?_
 refine e3.bind ?_
 refine e4.bind ?_
 refine e5.bind ?_
 refine e6.bind ?_
 simp only [if_true]
 refine (Q.same_is C.1 hC).bind ?_
 simp only [if_true, bne_self_eq_false, Bool.false_eq_true, if_false]
 refine e7.bind ?_
 refine e8.bind ?_
 simp only [bne_self_eq_false]
 refine Ev.step (f := fun k => monikerlaw1_EditsAnew.l1 k text b l x8 (l.length : Int) 0) (fun k => by
  simp only [monikerlaw1_EditsAnew.j1]
  rw [if_neg (by simp)]) hn
theorem anew_over (text : ByteArray) (b : List S42) (hB : ∀ x ∈ b, Q.isI64 x.f0 ∧ Q.isI64 x.f1) (x8 : Int) (n : Nat) (hn : n ≤ 1048576) (d : Nat) : ∀ (i : Nat) (l : List S42), l.length = n → i ≤ n → n - i = d → (∀ x ∈ l, Q.isI64 x.f0 ∧ Q.isI64 x.f1) → QE.tot l + QE.tot (b.drop i) + d ≤ 4194304 →
  ∃ l', l'.length = n ∧ (∀ x ∈ l', Q.isI64 x.f0 ∧ Q.isI64 x.f1) ∧ QE.tot l' ≤ QE.tot l + QE.tot (b.drop i) + d ∧ (Ev (fun k => monikerlaw1_EditsAnew.l0 k text b l' (wrap64 (x8 + 1))) true → Ev (fun k => monikerlaw1_EditsAnew.l1 k text b l x8 (n : Int) (i : Int)) true) := by
 induction d with
 | zero =>
  intro i l h1 h2 h3 h4 h5
  refine ⟨l, h1, h4, by omega, fun h => Ev.step (fun k => ?_) h⟩
  simp only [monikerlaw1_EditsAnew.l1]
  rw [if_neg (by omega)]
 | succ d ih =>
  intro i l h1 h2 h3 h4 h5
  have hi : i < n := by omega
  have hil : i < l.length := by omega
  have hw : wrap64 ((i : Int) + 1) = ((i + 1 : Nat) : Int) := by rw [QE.w64] <;> omega
  have hm : l[i] ∈ l := List.getElem_mem hil
  by_cases c : i < b.length
  ·have hbm : b[i] ∈ b := List.getElem_mem c
   have hs := tot_set l i hil b[i]
   have hd : QE.tot (b.drop i) = (b[i]).f2.size + QE.tot (b.drop (i + 1)) := by rw [List.drop_eq_getElem_cons c]; rfl
   obtain ⟨l', j1, j2, j3, j4⟩ := ih (i + 1) (l.set i b[i]) (by rw [List.length_set]; exact h1) (by omega) (by omega) (fun x hx => by
    rcases List.mem_or_eq_of_mem_set hx with hx | rfl
    ·exact h4 x hx
    ·exact hB _ hbm) (by omega)
   refine ⟨l', j1, j2, by omega, fun h => Ev.step (fun k => ?_) (j4 h)⟩
   simp only [monikerlaw1_EditsAnew.l1]
   rw [if_pos (by omega), if_pos (by omega), if_pos (by omega), if_pos (by omega), hw, QE.rd_at b i c]
   simp only [Int.toNat_natCast]
  ·have hs := tot_set l i hil ⟨(l[i]).f0, (l[i]).f1, (l[i]).f2 ++ (⟨#[33]⟩ : ByteArray)⟩
   have hz : ((l[i]).f2 ++ (⟨#[33]⟩ : ByteArray)).size = (l[i]).f2.size + 1 := by rw [ByteArray.size_append]; rfl
   have hsz := size_le hm
   have hd : QE.tot (b.drop i) = 0 := by rw [List.drop_eq_nil_of_le (by omega)]; rfl
   have hd2 : QE.tot (b.drop (i + 1)) = 0 := by rw [List.drop_eq_nil_of_le (by omega)]; rfl
   simp only [hz] at hs
   obtain ⟨l', j1, j2, j3, j4⟩ := ih (i + 1) (l.set i ⟨(l[i]).f0, (l[i]).f1, (l[i]).f2 ++ (⟨#[33]⟩ : ByteArray)⟩) (by rw [List.length_set]; exact h1) (by omega) (by omega) (fun x hx => by
    rcases List.mem_or_eq_of_mem_set hx with hx | rfl
    ·exact h4 x hx
    ·show Q.isI64 (l[i]).f0 ∧ Q.isI64 (l[i]).f1
     exact h4 _ hm) (by omega)
   refine ⟨l', j1, j2, by omega, fun h => Ev.step (fun k => ?_) (j4 h)⟩
   simp only [monikerlaw1_EditsAnew.l1]
   rw [if_pos (by omega), if_neg (by omega), if_pos (by omega), if_pos (by omega), QE.rd_at l i hil, if_pos (by omega), hw]
   simp only [Int.toNat_natCast]
theorem EditsAnew_is (text : ByteArray) (a b : List S42) (h : text.size + (QE.tot a + QE.tot b + a.length) ≤ 1048576) (hA : ∀ x ∈ a, Q.isI64 x.f0 ∧ Q.isI64 x.f1) (hB : ∀ x ∈ b, Q.isI64 x.f0 ∧ Q.isI64 x.f1)
  (hp : ∀ l : List S42, l.length = a.length → (∀ x ∈ l, Q.isI64 x.f0 ∧ Q.isI64 x.f1) → QE.tot l ≤ 1048576 → (Q.linesB l).length + 200 ≤ 140737488355328) : Ev (fun k => monikerlaw1_EditsAnew.f k text a b) true := by
 unfold monikerlaw1_EditsAnew.f
 simp only [Option.bind_some, List.length_nil, List.nil_append]
 have hc : (0 + a.length < 4398046511104) = True := eq_true (by omega)
 simp only [hc, if_true]
 obtain ⟨l1, p1, p2, p3, p4⟩ := anew_over text b hB 0 a.length (by omega) a.length 0 a rfl (by omega) (by omega) hA (by rw [List.drop_zero]; omega)
 rw [List.drop_zero] at p3
 obtain ⟨l2, q1, q2, q3, q4⟩ := anew_over text b hB 1 a.length (by omega) a.length 0 l1 p1 (by omega) (by omega) p2 (by rw [List.drop_zero]; omega)
 have w1 : wrap64 ((0 : Int) + 1) = 1 := by unfold wrap64; omega
 have w2 : wrap64 ((1 : Int) + 1) = 2 := by unfold wrap64; omega
 rw [w1] at p4
 rw [w2] at q4
 refine anew_round text b a 0 (by omega) ⟨by omega, by omega, hA, hp a rfl hA (by omega)⟩ (by omega) (p4 ?_)
 refine anew_round text b l1 1 (by omega) ⟨by omega, by omega, p2, hp l1 p1 p2 (by omega)⟩ (by omega) ?_
 rw [p1]
 refine q4 (Ev.step (f := fun _ => some true) (fun k => ?_) (Ev.now _))
 simp only [monikerlaw1_EditsAnew.l0]
 rw [if_neg (by omega)]
end Go.Proofs.YtaihajmdngoeiaaDoor.QA
namespace Go.Proofs.YtaihajmdngoeiaaDoor.O
open Go.ChangeShapes Go.WideShapes Go.Deep Go.Proofs.YtaihajmdngoeiaaDoorW.PrintWords
theorem mem_weightsAll {H : Type} {P : Program} {e : TypeId} : ∀ {l : List (DataW H)} {y : DataW H}, y ∈ l → ∀ n ∈ y.weights P e, n ∈ DataW.weightsAll P e l
 | y0 :: l, y, h, n, hn => by
  simp only [DataW.weightsAll, List.mem_append]
  rcases List.mem_cons.1 h with rfl | h
  ·exact .inl hn
  ·exact .inr (mem_weightsAll h n hn)
end Go.Proofs.YtaihajmdngoeiaaDoor.O
namespace Go.Proofs.YtaihajmdngoeiaaDoor.O
open Go.ChangeShapes Go.WideShapes Go.Deep Go.Proofs.YtaihajmdngoeiaaDoorW.PrintWords Go.Proofs.YtaihajmdngoeiaaDoor
set_option linter.unusedVariables false
section
variable {H : Type} {enc : TypeId × Value → H}
end
def OpensU {α : Type} (P : Program) (t : TypeId) (d : Kd α) (B : α → Prop) (m : α → Nat) : Prop :=
 ∀ {H : Type} {enc : TypeId × Value → H} {w : World} {base : Nat} {spare : Nat → Bool} {held : Bool} {fuel : Nat} {cs : List Value} {x : DataW H × List MemPlace},
  DataW.trod enc P w base spare held fuel t cs = some x → (∀ n ∈ x.1.weights P t, n ≤ reachBytes) → ∃ a, d.K w a cs ∧ B a ∧ m a ≤ Rows.uptoBulk x.1
theorem opens_intU {P : Program} {t : TypeId} {k : IntKind} (hu : P.underlying t = some (.int k)) : OpensU P t (Kd.int k) (fun n => (Lit.int k n).wf = true) (fun _ => 1) := fun h _ => by
 obtain ⟨n, rfl, rfl, hw⟩ := DataW.trod_int hu h
 exact ⟨n, rfl, hw, by simp [Rows.uptoBulk]⟩
theorem opens_stringU {P : Program} {t : TypeId} (hu : P.underlying t = some .string) : OpensU P t Kd.string (fun s => s.size ≤ 140737488351232) (fun s => s.size + 1) := fun h hw => by
 obtain ⟨s, rfl, rfl, _⟩ := DataW.trod_string hu h
 have e : s.data.toList.length = s.size := by rw [Array.length_toList]; rfl
 refine ⟨s, rfl, ?_, by simp only [Rows.uptoBulk]; omega⟩
 have := hw s.data.toList.length (by simp [DataW.weights])
 rw [e] at this
 exact this
theorem bulkAll_snoc {H : Type} : ∀ (l : List (DataW H)) (d : DataW H), Rows.uptoBulkAll (l ++ [d]) = Rows.uptoBulkAll l + Rows.uptoBulk d
 | [], d => by simp [Rows.uptoBulkAll]
 | x :: l, d => by simp only [List.cons_append, Rows.uptoBulkAll, bulkAll_snoc l d]; omega
def sumM {α : Type} (m : α → Nat) : List α → Nat
 | [] => 0
 | a :: l => m a + sumM m l
theorem sumM_snoc {α : Type} (m : α → Nat) : ∀ (l : List α) (a : α), sumM m (l ++ [a]) = sumM m l + m a
 | [], a => by simp [sumM]
 | x :: l, a => by simp only [List.cons_append, sumM, sumM_snoc m l a]; omega
theorem open_rowU {α : Type} {P : Program} {t e : TypeId} {d : Kd α} {B : α → Prop} {M : α → Nat} (hu : P.underlying t = some (.slice e)) (he : OpensU P e d B M) (hc : P.cellsOf e = d.sz)
  {H : Type} {enc : TypeId × Value → H} {w : World} {base : Nat} {spare : Nat → Bool} {held : Bool} {fuel : Nat} {A : Option Addr} {n c : Nat} {x : DataW H × List MemPlace}
  (h : DataW.trod enc P w base spare held fuel t [.slice A n c] = some x) (hw : ∀ n ∈ x.1.weights P t, n ≤ reachBytes) :
  ∃ xs : List α, xs.length = n ∧ d.C w A n xs ∧ n ≤ c ∧ (A = none → c = 0) ∧ (∀ a ∈ xs, B a) ∧ n * P.bytesOf e ≤ 140737488351232 ∧ sumM M xs + 1 ≤ Rows.uptoBulk x.1 := by
 rcases open_slice hu h with ⟨hcs, rfl⟩ | ⟨a, len, cap, m, fu, D, Pl, hcs, hb, hl, hm, hmm, rfl, hel⟩
 ·simp only [List.cons.injEq, Value.slice.injEq, and_true] at hcs
  obtain ⟨rfl, rfl, rfl⟩ := hcs
  exact ⟨[], rfl, ⟨rfl, by omega, fun h0 => absurd h0 (by omega)⟩, by omega, fun _ => rfl, (fun a ha => by cases ha), by omega, by simp [sumM, Rows.uptoBulk]⟩
 ·simp only [List.cons.injEq, Value.slice.injEq, and_true] at hcs
  obtain ⟨rfl, rfl, rfl⟩ := hcs
  have hlm : n ≤ m := by rw [hmm]; split <;> omega
  have hex : ∀ i, i < n → ∃ v : α, (∃ cs, d.K w v cs ∧ ∀ j u, cs[j]? = some u → w.cell? (a.add (i * d.sz + j)) = some u) ∧ B v ∧ M v ≤ Rows.uptoBulk (D i) := by
   intro i hi
   obtain ⟨cs', hc1, hc2⟩ := hel i (by omega)
   have hmem : D i ∈ (List.range n).map D := List.mem_map.2 ⟨i, List.mem_range.2 hi, rfl⟩
   obtain ⟨v, hv, hB, hM⟩ := he hc2 (fun q hq => hw q (by
    simp only [DataW.weights, hu, List.mem_cons, List.mem_append]
    exact .inr (.inl (mem_weightsAll hmem q hq))))
   refine ⟨v, ⟨cs', hv, fun j u hj => ?_⟩, hB, hM⟩
   obtain ⟨_, hcl, hat⟩ := World.cells?_some hc1
   have hjl : j < cs'.length := (List.getElem?_eq_some_iff.1 hj).1
   have := hat j (by omega)
   rw [hc] at this
   rw [← Go.Deep.add_add, this, hj]
  have key : ∀ k, k ≤ n → ∃ xs : List α, xs.length = k ∧ (∀ j p, xs[j]? = some p → (∃ cs, cs.length = d.sz ∧ d.K w p cs ∧ ∀ i u, cs[i]? = some u → w.cell? (a.add (j * d.sz + i)) = some u) ∧ B p) ∧ sumM M xs ≤ Rows.uptoBulkAll ((List.range k).map D) := by
   intro k
   induction k with
   | zero => intro _; exact ⟨[], rfl, fun j p hj => by simp at hj, by simp [sumM]⟩
   | succ k ih =>
    intro hk
    obtain ⟨xs, hx, hxs, hsum⟩ := ih (by omega)
    obtain ⟨v, ⟨cs, hv, hcell⟩, hB, hM⟩ := hex k (by omega)
    refine ⟨xs ++ [v], by simp [hx], fun j p hj => ?_, ?_⟩
    ·rcases Nat.lt_or_ge j k with hjk | hjk
     ·rw [List.getElem?_append_left (by omega)] at hj
      exact hxs j p hj
     ·have hjl := (List.getElem?_eq_some_iff.1 hj).1
      rw [List.length_append, List.length_singleton] at hjl
      obtain rfl : j = k := by omega
      have hp : v = p := by simpa [List.getElem?_append_right, hx] using hj
      subst hp
      exact ⟨⟨cs, d.K_len hv, hv, hcell⟩, hB⟩
    ·rw [sumM_snoc, List.range_succ, List.map_append, List.map_cons, List.map_nil, bulkAll_snoc]
     omega
  obtain ⟨xs, hx, hxs, hsum⟩ := key n (Nat.le_refl _)
  refine ⟨xs, hx, ⟨hx, by have : maxLen = 9223372036854775807 := rfl; omega, fun _ => ⟨a, rfl, fun j p hj => (hxs j p hj).1⟩⟩, hl, (fun h => by cases h), fun v hv => ?_, ?_, ?_⟩
  ·obtain ⟨j, hj, rfl⟩ := List.mem_iff_getElem.1 hv
   exact (hxs j _ (List.getElem?_eq_getElem hj)).2
  ·have := hw ((((List.range n).map D).length + ((List.range (m - n)).map fun j => D (n + j)).length) * P.bytesOf e) (by
    simp only [DataW.weights, hu]
    exact List.mem_cons_self)
   simp only [List.length_map, List.length_range] at this
   have h2 : n * P.bytesOf e ≤ (n + (m - n)) * P.bytesOf e := Nat.mul_le_mul_right _ (by omega)
   have h3 : reachBytes = 140737488351232 := rfl
   omega
  ·simp only [Rows.uptoBulk]
   omega
end Go.Proofs.YtaihajmdngoeiaaDoor.O
namespace Go.Proofs.YtaihajmdngoeiaaDoor.H
open Go.ChangeShapes Go.WideShapes Go.Deep Go.Proofs.YtaihajmdngoeiaaDoorW.PrintWords Go.Proofs.YtaihajmdngoeiaaDoor.F
def B42 (x : S42) : Prop := (Lit.int .i64 x.f0).wf = true ∧ (Lit.int .i64 x.f1).wf = true ∧ x.f2.size ≤ 140737488351232
theorem three_ {α : Type} {l : List α} (h : l.length = 3) : ∃ a b c, l = [a, b, c] := by
 match l, h with
 | [a, b, c], _ => exact ⟨a, b, c, rfl⟩
theorem cells42 : Tryd.prog.cellsOf 42 = 3 := by kernel_rfl
theorem cells3 : Tryd.prog.cellsOf 3 = 1 := by kernel_rfl
theorem cells9 : Tryd.prog.cellsOf 9 = 1 := by kernel_rfl
theorem bytes42 : Tryd.prog.bytesOf 42 = 32 := by kernel_rfl
end Go.Proofs.YtaihajmdngoeiaaDoor.H
namespace Go.Proofs.YtaihajmdngoeiaaDoor.H
open Go.ChangeShapes Go.WideShapes Go.Deep Go.Proofs.YtaihajmdngoeiaaDoorW.PrintWords Go.Proofs.YtaihajmdngoeiaaDoor.F Go.Proofs.YtaihajmdngoeiaaDoor
theorem opens42U : O.OpensU Tryd.prog 42 k42 B42 (fun x => x.f2.size + 4) := by
 intro H enc w base spare held fuel cs x h hw
 obtain ⟨ys, n, rfl, rfl, hlen, hyl, hf⟩ := DataW.trod_struct Tryd.underlying42 h
 rw [cells42] at hlen
 obtain ⟨c0, c1, c2, rfl⟩ := three_ hlen
 obtain ⟨y0, y1, y2, rfl⟩ := three_ hyl
 have f0 := hf 0 { name := "From", type := 3, offset := 0, embedded := false, tag := "", pkgPath := "", byteOffset := 0 } rfl
 have f1 := hf 1 { name := "To", type := 3, offset := 1, embedded := false, tag := "", pkgPath := "", byteOffset := 8 } rfl
 have f2 := hf 2 { name := "Text", type := 9, offset := 2, embedded := false, tag := "", pkgPath := "", byteOffset := 16 } rfl
 simp only [cells3, cells9, List.drop_zero, List.drop_succ_cons, List.take_succ_cons, List.take_zero, List.getElem?_cons_zero, List.getElem?_cons_succ] at f0 f1 f2
 have hq : ∀ (j : Nat) (t : TypeId) (d : DataW H), [3, 3, 9][j]? = some t → [y0.1, y1.1, y2.1][j]? = some d → ∀ n ∈ d.weights Tryd.prog t, n ≤ reachBytes := by
  intro j t d h1 h2 q hq
  refine hw q ?_
  simp only [DataW.weights, Tryd.underlying42]
  exact DataW.weights_mem_each (j := j) h1 h2 q hq
 obtain ⟨a0, e0, w0, m0⟩ := O.opens_intU Tryd.underlying3 f0 (hq 0 _ _ rfl rfl)
 obtain rfl : c0 = .int .i64 a0 := (List.cons.inj e0).1
 obtain ⟨a1, e1, w1, m1⟩ := O.opens_intU Tryd.underlying3 f1 (hq 1 _ _ rfl rfl)
 obtain rfl : c1 = .int .i64 a1 := (List.cons.inj e1).1
 obtain ⟨a2, e2, w2, m2⟩ := O.opens_stringU Tryd.underlying9 f2 (hq 2 _ _ rfl rfl)
 obtain rfl : c2 = .string a2 := (List.cons.inj e2).1
 refine ⟨⟨a0, a1, a2⟩, k42_mk w _, ⟨w0, w1, w2⟩, ?_⟩
 show a2.size + 4 ≤ Rows.uptoBulk (DataW.agg [y0.1, y1.1, y2.1])
 simp only [Rows.uptoBulk, Rows.uptoBulkAll]
 simp only at m0 m1 m2
 generalize Rows.uptoBulk y0.1 = z0 at m0 ⊢
 generalize Rows.uptoBulk y1.1 = z1 at m1 ⊢
 generalize Rows.uptoBulk y2.1 = z2 at m2 ⊢
 omega
end Go.Proofs.YtaihajmdngoeiaaDoor.H
namespace Go.Proofs.YtaihajmdngoeiaaDoor.H
open Go.ChangeShapes Go.WideShapes Go.ChangeAt Go.RowKit Go.Proofs.YtaihajmdngoeiaaDoor.F
set_option linter.unusedVariables false
theorem pow_data : Rows.laid_internal_strconv_uint64pow10 = (Lib.tabData .u64 Lib.pow10Tab : DataW Unit) := by kernel_rfl
theorem sg_of_laid {W : World} (h : laidMetH Tryd.prog [("math/bits.deBruijn32tab", Rows.laid_math_bits_deBruijn32tab), ("math/bits.deBruijn64tab", Rows.laid_math_bits_deBruijn64tab), ("internal/strconv.uint64pow10", Rows.laid_internal_strconv_uint64pow10)] W) : SG W := by
 rw [MakeChecks.laidMetH_plain _ _ _ (by kernel_rfl)] at h
 have h2 := laidMet.tail (laidMet.tail h)
 rw [pow_data] at h2
 exact ⟨Lib.tabIs_of_head (P := Tryd.prog) (g := 0) (t := 137) (e := 119) (n := 20) (by kernel_rfl) (by kernel_rfl) Tryd.underlying137 Tryd.underlying119 (by kernel_rfl) (by kernel_rfl) h2⟩
end Go.Proofs.YtaihajmdngoeiaaDoor.H
namespace Go.Proofs.YtaihajmdngoeiaaDoor.L
open Go.RowKit Go.Proofs.YtaihajmdngoeiaaDoorW.PrintWords Go.Proofs.YtaihajmdngoeiaaDoorW.PrintLast Go.Proofs.YtaihajmdngoeiaaDoorW.PrintMore
open Go.Proofs.YtaihajmdngoeiaaDoor.F Go.Proofs.YtaihajmdngoeiaaDoor.H
set_option linter.unusedVariables false
set_option linter.unusedSimpArgs false
theorem itoa_len (n : Int) (h : Q.isI64 n) : (Q.itoaI n).length ≤ 21 := by
 rw [itoaI_length]
 exact Lib.itoa_length_le n h.1 h.2
theorem lines_len : ∀ (l : List S42), (∀ x ∈ l, Q.isI64 x.f0 ∧ Q.isI64 x.f1) → (Q.linesB l).length ≤ 12 * O.sumM (fun x => x.f2.size + 4) l
 | [], _ => by simp [Q.linesB, Q.linesP]
 | x :: l, h => by
  have ih := lines_len l (fun y hy => h y (List.mem_cons_of_mem _ hy))
  obtain ⟨h0, h1⟩ := h x List.mem_cons_self
  have i0 := itoa_len x.f0 h0
  have i1 := itoa_len x.f1 h1
  have i2 := Q.esc_len (bytesOf x.f2)
  rw [bytesOf_length] at i2
  rw [Q.linesB_cons, List.length_append, Q.lineE_ofS]
  simp only [O.sumM, List.length_append, List.length_cons, List.length_nil]
  omega
theorem wf_i64 {n : Int} (h : (Lit.int .i64 n).wf = true) : Q.isI64 n := by
 have h2 : (decide (IntKind.i64.min ≤ n) && decide (n ≤ IntKind.i64.max)) = true := h
 simp only [Bool.and_eq_true, decide_eq_true_iff] at h2
 have e1 : IntKind.i64.min = -9223372036854775808 := by rfl
 have e2 : IntKind.i64.max = 9223372036854775807 := by rfl
 rw [e1, e2] at h2
 exact h2
end Go.Proofs.YtaihajmdngoeiaaDoor.L
namespace Go.Proofs.YtaihajmdngoeiaaDoor.L
open Go.RowKit Go.Proofs.YtaihajmdngoeiaaDoorW.PrintWords Go.Proofs.YtaihajmdngoeiaaDoorW.PrintLast Go.Proofs.YtaihajmdngoeiaaDoorW.PrintMore
open Go.Proofs.YtaihajmdngoeiaaDoor.F Go.Proofs.YtaihajmdngoeiaaDoor.H
set_option linter.unusedVariables false
theorem tot_wtA : ∀ (l : List S42), QE.tot l + 4 * l.length = O.sumM (fun x => x.f2.size + 4) l
 | [] => rfl
 | x :: l => by
  have := tot_wtA l
  simp only [QE.tot, O.sumM, List.length_cons]
  omega
theorem anew_walk (a0 : ByteArray) (A1 : Option Addr) (c1 : Nat) (l1 : List S42) (A2 : Option Addr) (c2 : Nat) (l2 : List S42) (w : World) (hs : a0.size ≤ 140737488351232)
  (hr1 : Kd.C k42 w A1 l1.length l1) (hc1 : l1.length ≤ c1) (hn1 : A1 = none → c1 = 0) (hB1 : ∀ x ∈ l1, B42 x) (hb1 : l1.length * 32 ≤ 140737488351232)
  (hr2 : Kd.C k42 w A2 l2.length l2) (hc2 : l2.length ≤ c2) (hn2 : A2 = none → c2 = 0) (hB2 : ∀ x ∈ l2, B42 x) (hb2 : l2.length * 32 ≤ 140737488351232) (hsg : SG w)
  (hu : (a0.size + 1) + ((O.sumM (fun x => x.f2.size + 4) l1 + 1) + (O.sumM (fun x => x.f2.size + 4) l2 + 1)) ≤ 1048576) :
  Calls Tryd.prog 5 #[.string a0, .slice A1 l1.length c1, .slice A2 l2.length c2] w fun e w' => e = .returned (.bool true) ∧ Below w.heap.size w w' := by
 have hI : ∀ l : List S42, (∀ x ∈ l, B42 x) → ∀ x ∈ l, Q.isI64 x.f0 ∧ Q.isI64 x.f1 := fun l hB x hx => by
  obtain ⟨h0, h1, _⟩ := hB x hx
  exact ⟨wf_i64 h0, wf_i64 h1⟩
 have hp : ∀ l : List S42, l.length = l1.length → (∀ x ∈ l, Q.isI64 x.f0 ∧ Q.isI64 x.f1) → QE.tot l ≤ 1048576 → (Q.linesB l).length + 200 ≤ 140737488355328 := fun l hl hi ht => by
  have h1 := lines_len l hi
  have h2 := tot_wtA l
  have h3 := tot_wtA l1
  omega
 have t1 := tot_wtA l1
 have t2 := tot_wtA l2
 obtain ⟨k, hk⟩ := (QA.EditsAnew_is a0 l1 l2 (by omega) (hI l1 hB1) (hI l2 hB2) hp).rounds
 exact monikerlaw1_EditsAnew.calls k a0 A1 c1 l1 A2 c2 l2 true w hr1 hc1 hr2 hc2 hk hsg
end Go.Proofs.YtaihajmdngoeiaaDoor.L
namespace Go.Proofs.YtaihajmdngoeiaaDoor.editsAnew
open Go.ChangeShapes Go.WideShapes Go.ChangeAt Go.RowKit Go.Proofs.YtaihajmdngoeiaaDoor
open Go.ChangeMaps (open_string shut_string)
set_option linter.unusedVariables false
theorem own : ownKnob Tryd.prog.godebug = none := by kernel_rfl
theorem laidOut : laidOutB Tryd.prog = true := by kernel_rfl
theorem door_met (os : Os) : laidMetH Tryd.prog [("math/bits.deBruijn32tab", Rows.laid_math_bits_deBruijn32tab), ("math/bits.deBruijn64tab", Rows.laid_math_bits_deBruijn64tab), ("internal/strconv.uint64pow10", Rows.laid_internal_strconv_uint64pow10)] ((World.doorLaid Tryd.prog 62 os).forCall (fun _ _ => 0) ⟨#[], #[.string ByteArray.empty, .slice none 0 0, .slice none 0 0], []⟩).memory :=
 laidMetH_of_parts3 (fuel := 8) (laidMet_of_run' 8 (by kernel_rfl) (by kernel_rfl)) (by kernel_rfl) (by kernel_rfl)
set_option maxRecDepth 100000 in
theorem reads (os : Os) {H : Type} (enc : TypeId × Value → H) : (match DataW.whole enc Tryd.prog ((World.doorLaid Tryd.prog 62 os).forCall (fun _ _ => 0) ⟨#[], #[.string ByteArray.empty, .slice none 0 0, .slice none 0 0], []⟩).memory Tryd.f5.params.toList Rows.editsAnewSpec.vars false #[.string ByteArray.empty, .slice none 0 0, .slice none 0 0].toList 8 with | some x => Rows.uptoSmall H (x.1 ++ x.2.1) | none => false) = true ∧ (Rows.OpenSpec.upto Rows.editsAnewSpec).bare.sizedB enc Tryd.prog Tryd.f5 false ((World.doorLaid Tryd.prog 62 os).forCall (fun _ _ => 0) ⟨#[], #[.string ByteArray.empty, .slice none 0 0, .slice none 0 0], []⟩).memory #[.string ByteArray.empty, .slice none 0 0, .slice none 0 0] 8 = true :=
 ⟨by kernel_rfl, by kernel_rfl⟩
set_option maxRecDepth 100000 in
theorem lifted (os : Os) (started : os.Started) (H : Type) (enc : TypeId × Value → H) (F : Stop.Interp) :
  ReturnsInHanded {} Tryd.checked os 5 .any ((Rows.OpenSpec.upto Rows.editsAnewSpec).preRow enc Tryd.prog Tryd.f5 Rows.editsAnewUptoRow.domain false Rows.editsAnewUptoRow.laid) (((Rows.OpenSpec.upto Rows.editsAnewSpec).at F).post enc Tryd.prog Tryd.f5 false true false false) := by
 obtain ⟨hm, hxs⟩ := reads os enc
 obtain ⟨x, hx, hxk⟩ : ∃ x, DataW.whole enc Tryd.prog ((World.doorLaid Tryd.prog 62 os).forCall (fun _ _ => 0) ⟨#[], #[.string ByteArray.empty, .slice none 0 0, .slice none 0 0], []⟩).memory Tryd.f5.params.toList Rows.editsAnewSpec.vars false #[.string ByteArray.empty, .slice none 0 0, .slice none 0 0].toList 8 = some x ∧ Rows.uptoSmall H (x.1 ++ x.2.1) = true := by
  generalize DataW.whole enc Tryd.prog ((World.doorLaid Tryd.prog 62 os).forCall (fun _ _ => 0) ⟨#[], #[.string ByteArray.empty, .slice none 0 0, .slice none 0 0], []⟩).memory Tryd.f5.params.toList Rows.editsAnewSpec.vars false #[.string ByteArray.empty, .slice none 0 0, .slice none 0 0].toList 8 = y at hm
  cases y with
  | none => cases hm
  | some x => exact ⟨x, rfl, hm⟩
 refine returnsInHanded_of_row (C := Tryd.checked) (s := Rows.OpenSpec.upto Rows.editsAnewSpec) own started (by kernel_rfl) Tryd.func5
  (witness_row_at (enc := enc) (C := Tryd.checked) false (World.doorLaid Tryd.prog 62 os) #[.string ByteArray.empty, .slice none 0 0, .slice none 0 0] rfl (by kernel_rfl) (by kernel_rfl) (by kernel_rfl)
   (OpenSpec.preRow_of_cond 8 hx (by rfl) (fun k hk => by cases hk; exact hxk) hxs (door_met os))) ?_
 intro W base args ds gs before hval0 hW hcnd hk0 hsz0 hLaid _ _
 replace hk0 := hk0 _ rfl
 have hsz : (DataW.weightsEach Tryd.prog (Tryd.f5.params.toList ++ Rows.editsAnewSpec.plain.varTypes Tryd.prog) (ds ++ gs)).all (· ≤ reachBytes) = true := hsz0
 have hval : ∀ (j : Nat) t v, Tryd.f5.params[j]? = some t → args[j]? = some v → Value.okWide Tryd.prog W .any base t v := hval0
 have hW' := hW
 obtain ⟨p, q, hA0, hV, rfl, hfz, hnd⟩ := hW
 have hA : DataW.TrodAll enc Tryd.prog W 0 (fun _ => true) true Tryd.f5.params.toList args.toList ds p := hA0
 rw [Tryd.params5] at hA hval hsz
 obtain ⟨v0, vs0, d0, ds0, p0, q0, hargs, rfl, rfl, h0, r0⟩ := trodAll_cons hA
 obtain ⟨v1, vs1, d1, ds1, p1, q1, rfl, rfl, rfl, h1, r1⟩ := trodAll_cons r0
 obtain ⟨v2, vs2, d2, ds2, p2, q2, rfl, rfl, rfl, h2, r2⟩ := trodAll_cons r1
 obtain ⟨rfl, rfl, rfl⟩ := trodAll_nil r2
 obtain rfl : args = #[v0, v1, v2] := by cases args; simp_all
 obtain ⟨rfl, rfl⟩ := trodVars_none hV
 have hbulk : Rows.uptoBulkAll ([d0, d1, d2] ++ []) ≤ 1048576 := of_decide_eq_true hk0
 simp only [List.append_nil, Rows.uptoBulkAll, Nat.add_zero] at hbulk
 obtain ⟨a0, rfl, rfl, rfl, y0⟩ := open_string Tryd.underlying9 (hval 0 9 v0 rfl rfl) h0
 have w0 : a0.size ≤ 140737488351232 := by
  have z := sized_string hsz (j := 0) (t := 9) rfl rfl
  rw [Array.length_toList] at z
  exact z
 have hm0 : a0.size + 1 ≤ Rows.uptoBulk (DataW.lit (H := H) (.string a0.data.toList)) := by simp only [Rows.uptoBulk]; rw [Array.length_toList]; exact Nat.le_refl _
 obtain ⟨a1, len1, cap1, rfl⟩ := okWide_slice Tryd.underlying22 (hval 1 22 v1 rfl rfl)
 have k1 := h1
 have lt1 : ∀ x ∈ p1, x.block < W.heap.size := by obtain ⟨m, hm⟩ := k1; exact DataW.trod_lt m _ _ _ hm
 obtain ⟨fu1, hf1⟩ := h1
 have hg1 : DataW.trod enc Tryd.prog W 0 (fun _ => true) true fu1 22 [.slice a1 len1 cap1] = some (d1, p1) := by simpa [Value.cells] using hf1
 have hq1 : ∀ n ∈ DataW.weights Tryd.prog 22 d1, n ≤ reachBytes := fun n hn => of_decide_eq_true (List.all_eq_true.1 hsz n (DataW.weights_mem_each (j := 1) rfl rfl n hn))
 obtain ⟨l1, rfl, hC1, hc1, hn1, hB1, hb1, hm1⟩ := O.open_rowU Tryd.underlying22 Go.Proofs.YtaihajmdngoeiaaDoor.H.opens42U Go.Proofs.YtaihajmdngoeiaaDoor.H.cells42 hg1 hq1
 rw [Go.Proofs.YtaihajmdngoeiaaDoor.H.bytes42] at hb1
 obtain ⟨a2, len2, cap2, rfl⟩ := okWide_slice Tryd.underlying22 (hval 2 22 v2 rfl rfl)
 have k2 := h2
 have lt2 : ∀ x ∈ p2, x.block < W.heap.size := by obtain ⟨m, hm⟩ := k2; exact DataW.trod_lt m _ _ _ hm
 obtain ⟨fu2, hf2⟩ := h2
 have hg2 : DataW.trod enc Tryd.prog W 0 (fun _ => true) true fu2 22 [.slice a2 len2 cap2] = some (d2, p2) := by simpa [Value.cells] using hf2
 have hq2 : ∀ n ∈ DataW.weights Tryd.prog 22 d2, n ≤ reachBytes := fun n hn => of_decide_eq_true (List.all_eq_true.1 hsz n (DataW.weights_mem_each (j := 2) rfl rfl n hn))
 obtain ⟨l2, rfl, hC2, hc2, hn2, hB2, hb2, hm2⟩ := O.open_rowU Tryd.underlying22 Go.Proofs.YtaihajmdngoeiaaDoor.H.opens42U Go.Proofs.YtaihajmdngoeiaaDoor.H.cells42 hg2 hq2
 rw [Go.Proofs.YtaihajmdngoeiaaDoor.H.bytes42] at hb2
 clear hA0 hval0 hsz0 hsz
 refine (L.anew_walk a0 a1 cap1 l1 a2 cap2 l2 W w0 hC1 hc1 hn1 hB1 hb1 hC2 hc2 hn2 hB2 hb2 (Go.Proofs.YtaihajmdngoeiaaDoor.H.sg_of_laid hLaid) (Nat.le_trans (Nat.add_le_add hm0 (Nat.add_le_add hm1 hm2)) hbulk)).mono fun e W' ⟨he, bel⟩ => ?_
 subst he
 exact ⟨_, rfl, _, _, _, [], _, [], hW', trodAll_mk1 (shut_bool Tryd.underlying4 _), (trodAll_cons_mk (shut_string Tryd.underlying9 y0) (trodAll_cons_mk (Below.trod laidOut (by kernel_rfl) (of_decide_eq_true (by kernel_rfl)) k1 bel lt1) (trodAll_cons_mk (Below.trod laidOut (by kernel_rfl) (of_decide_eq_true (by kernel_rfl)) k2 bel lt2) trodAll_mk0))), rfl, bel.frame _, fun h => by cases h⟩
theorem over : Rows.editsAnewUptoRow.holds Tryd.pinned (Rows.OpenSpec.upto Rows.editsAnewSpec) :=
 OpenClaim.holds_of_cond 5 Tryd.f5 rfl rfl rfl rfl rfl rfl rfl ⟨rfl, rfl, rfl, rfl, rfl⟩ rfl rfl rfl rfl rfl (by kernel_rfl) Tryd.func5 (by kernel_rfl)
  (of_decide_eq_true (by kernel_rfl)) (by unfold Func.isWrapper; first | (rw [if_pos (by decide +kernel)]; kernel_rfl) | (rw [if_neg (by decide +kernel)]; exact ⟨rfl, rfl⟩))
  (fun os started H enc _ F => by rw [OpenClaim.pre_eq_preRow]; exact lifted os started H enc F)
theorem plain (f : FuncId) (fn : Func) (hf : Tryd.pinned.checked.prog.funcNamed "moniker/monikerlaw1.EditsAnew" = some f) (hfn : Tryd.pinned.checked.prog.funcs[f]? = some fn) :
  true = Tryd.pinned.checked.prog.looks [] ∧ ∀ (j : Nat) t, fn.params[j]? = some t → Tryd.pinned.checked.prog.wantsStandIn t = false := by
 obtain rfl : f = 5 := Option.some.inj ((show Tryd.prog.funcNamed "moniker/monikerlaw1.EditsAnew" = some 5 by kernel_rfl).symm.trans hf) |>.symm
 obtain rfl : fn = Tryd.f5 := (Option.some.inj (Tryd.func5.symm.trans hfn)).symm
 refine ⟨by kernel_rfl, fun j t ht => ?_⟩
 rw [Tryd.params5] at ht
 have hm : t ∈ [9, 22, 22] := by simpa using Array.mem_of_getElem? ht
 have hall : ([9, 22, 22].all fun u => !Tryd.prog.wantsStandIn u) = true := by kernel_rfl
 exact (show Tryd.prog.wantsStandIn t = false by simpa using List.all_eq_true.1 hall t hm)
set_option maxRecDepth 100000 in
theorem proved : Rows.EditsAnewUptoCardSaid :=
 Claim7.holds_tied_plain_at .later [] _ _ _ _ over (fun _ h => by cases h) (by kernel_rfl) (fun _ h => by cases h) editsAnewUpto_row_tie rfl ⟨rfl, rfl⟩ (by kernel_rfl) rfl plain (by kernel_rfl)
#print axioms proved
end Go.Proofs.YtaihajmdngoeiaaDoor.editsAnew
namespace Go.Proofs.YtaihajmdngoeiaaDoor
theorem editsAnew_holds : Rows.EditsAnewUptoCardSaid := editsAnew.proved
end Go.Proofs.YtaihajmdngoeiaaDoor
