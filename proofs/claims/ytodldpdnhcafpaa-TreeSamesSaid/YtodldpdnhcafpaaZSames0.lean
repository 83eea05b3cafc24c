/- Texts of the proof of one law (Sames), part 0: functions printed as Lean functions with their walks, and what is proved of them. Conditions: those of each theorem. -/
import Derived.Test.YtodldpdnhcafpaaProg
import Derived.Below
import Derived.Deep.Draws
import Derived.Deep.AppendLies
import Derived.Maps.AppendAt
import Derived.OwnWalk
import Derived.Laws.BytesArg
import Derived.Laws.MakeOwn
import Derived.Laws.OwnMore
import Derived.Deep.OwnRows
import Derived.Tactics
import Derived.Lib.ConvBytes
import Derived.Laws.Slices
import Derived.WalkKit
import Derived.KernelRfl
import Derived.RowKit3
import Derived.Deep.LoopGhost
import Derived.Deep.QuietTactic
import Derived.BigQuiet
import Derived.WideLaws
import Derived.Deep.DeepCutAuto
import Derived.Deep.CutBlock
import Derived.Deep.RegionHeld3
import Derived.Laws.Rows
import Derived.Lib.AppendStr
import Derived.ArgAppend
import Derived.Laws.IdiomCopy
import Derived.OrdersHeld
import Derived.Laws.BitsLemmas
import Derived.WalkMore
import Derived.RowKit
import Derived.Test.YtodldpdnhcafpaaWWords
import Derived.Test.YtodldpdnhcafpaaWLast
import Derived.Test.YtodldpdnhcafpaaWTab
import Derived.Test.YtodldpdnhcafpaaWFour
import Derived.Test.YtodldpdnhcafpaaWQPut
import Derived.Test.YtodldpdnhcafpaaWApart
import Derived.Test.YtodldpdnhcafpaaWArr
import Derived.Test.YtodldpdnhcafpaaWZeros
import Derived.Test.YtodldpdnhcafpaaWFoot
import Derived.Test.YtodldpdnhcafpaaWKept
import Derived.Test.YtodldpdnhcafpaaWShare
import Derived.Test.YtodldpdnhcafpaaWN
import Derived.Test.YtodldpdnhcafpaaWFootNe
import Derived.Test.YtodldpdnhcafpaaWAt
import Derived.Test.YtodldpdnhcafpaaWEqStruct
import Derived.Test.YtodldpdnhcafpaaWRepsOne
import Derived.Test.YtodldpdnhcafpaaWInv
import Derived.Test.YtodldpdnhcafpaaWInvWords
import Derived.Test.YtodldpdnhcafpaaWGuard
import Derived.Test.YtodldpdnhcafpaaWNEv
import Derived.Test.YtodldpdnhcafpaaWMore
import Derived.RangeFuncNested
import Derived.RangeFuncBound
import Derived.RangeFuncCalls
import Derived.RangeFuncLeaves
import Derived.RangeFuncBox
import Derived.Shelf.Abstract
import Derived.Shelf.RegionOpen
import Derived.OwnWalkIn
import Derived.TacticsInMore
import Derived.LoopNIn
import Derived.LoopIn
import Derived.OrdersIn
import Derived.StillTailTactics
import Derived.BigRegion
-- A text of this session's own program (wip/myprint.sh over a changed print tool): functions and their walks
namespace Go.Proofs.Ytodldpdnhcafpaa.F
open Go.RowKit Go.Proofs.YtodldpdnhcafpaaW.PrintWords Go.Proofs.YtodldpdnhcafpaaW.PrintLast Go.Proofs.YtodldpdnhcafpaaW.PrintMore
attribute [local go_sem] max2_int min2_int max_two min_two max_three min_three max_four min_four   -- for this text's walks alone
set_option linter.unusedVariables false
set_option linter.unusedSimpArgs false



def errW : Option Int → Value
  | none => .nilIface
  | some c => .iface 0 (.int .i64 c)
theorem errW_none : errW none = .nilIface := rfl
theorem errW_some (c : Int) : errW (some c) = .iface 0 (.int .i64 c) := rfl

theorem info3 : (Try.prog.info? 3).map (fun i => (i.zero, i.size, i.bytes)) = some (some (.int .i64 0), 1, 8) := by kernel_rfl
theorem info47 : (Try.prog.info? 47).map (fun i => (i.zero, i.size, i.bytes)) = some (some (.agg #[(.int .u8 0), (.int .i64 0), (.int .i64 0), (.int .i64 0)]), 4, 32) := by kernel_rfl
theorem info61 : (Try.prog.info? 61).map (fun i => (i.zero, i.size, i.bytes)) = some (some (.agg #[(.int .u8 0), (.int .i64 0), (.int .i64 0)]), 3, 24) := by kernel_rfl
-- the values' own types
/-! #### struct type 61 -/
structure S61 where
  f0 : Int
  f1 : Int
  f2 : Int
def z61 : S61 := ⟨(0 : Int), (0 : Int), (0 : Int)⟩
def k61 : Kd S61 := Kd.iso (Kd.pair (Kd.int .u8) (Kd.pair (Kd.int .i64) (Kd.int .i64))) (fun x : S61 => (x.f0, x.f1, x.f2))
theorem k61_open {w : World} {x : S61} {cs : List Value} (h : k61.K w x cs) : cs = [.int .u8 x.f0, .int .i64 x.f1, .int .i64 x.f2] := by
  obtain ⟨_, _, rfl, rfl, ⟨_, _, rfl, rfl, rfl⟩⟩ := h
  exact rfl
theorem k61_mk (w : World) (x : S61)  : k61.K w x [.int .u8 x.f0, .int .i64 x.f1, .int .i64 x.f2] := ⟨[.int .u8 x.f0], [.int .i64 x.f1, .int .i64 x.f2], rfl, rfl, ⟨[.int .i64 x.f1], [.int .i64 x.f2], rfl, rfl, rfl⟩⟩
def rd_T61 (xs : List S61) (i : Int) : S61 := xs.getD i.toNat z61
theorem at_T61 {w : World} {A : Option Addr} {n : Nat} {xs : List S61} (h : Kd.C k61 w A n xs) (i : Int) (h0 : 0 ≤ i) (h1 : i < n) : ∃ ad , A = some ad ∧ w.cell? (ad.add (i.toNat * 3)) = some (.int .u8 (rd_T61 xs i).f0) ∧ w.cell? ⟨(ad.add (i.toNat * 3)).block, (ad.add (i.toNat * 3)).off + 1, none⟩ = some (.int .i64 (rd_T61 xs i).f1) ∧ w.cell? ⟨(ad.add (i.toNat * 3)).block, (ad.add (i.toNat * 3)).off + 2, none⟩ = some (.int .i64 (rd_T61 xs i).f2) := by
  obtain ⟨ad, c, e, _, hK, hc0⟩ := Kd.C_get h z61 i h0 h1
  have hc : ∀ j u, c[j]? = some u → w.cell? (ad.add (i.toNat * 3 + j)) = some u := hc0
  obtain rfl := k61_open hK
  exact ⟨ad, e, hc 0 _ rfl, by rw [← add_field _ _ 1 (by omega)]; exact hc 1 _ rfl, by rw [← add_field _ _ 2 (by omega)]; exact hc 2 _ rfl⟩

/-! #### struct type 47 -/
structure S47 where
  f0 : Int
  f1 : Int
  f2 : Int
  f3 : Int
def z47 : S47 := ⟨(0 : Int), (0 : Int), (0 : Int), (0 : Int)⟩
def k47 : Kd S47 := Kd.iso (Kd.pair (Kd.int .u8) (Kd.pair (Kd.int .i64) (Kd.pair (Kd.int .i64) (Kd.int .i64)))) (fun x : S47 => (x.f0, x.f1, x.f2, x.f3))
theorem k47_open {w : World} {x : S47} {cs : List Value} (h : k47.K w x cs) : cs = [.int .u8 x.f0, .int .i64 x.f1, .int .i64 x.f2, .int .i64 x.f3] := by
  obtain ⟨_, _, rfl, rfl, ⟨_, _, rfl, rfl, ⟨_, _, rfl, rfl, rfl⟩⟩⟩ := h
  exact rfl
theorem k47_mk (w : World) (x : S47)  : k47.K w x [.int .u8 x.f0, .int .i64 x.f1, .int .i64 x.f2, .int .i64 x.f3] := ⟨[.int .u8 x.f0], [.int .i64 x.f1, .int .i64 x.f2, .int .i64 x.f3], rfl, rfl, ⟨[.int .i64 x.f1], [.int .i64 x.f2, .int .i64 x.f3], rfl, rfl, ⟨[.int .i64 x.f2], [.int .i64 x.f3], rfl, rfl, rfl⟩⟩⟩
def rd_T47 (xs : List S47) (i : Int) : S47 := xs.getD i.toNat z47
theorem at_T47 {w : World} {A : Option Addr} {n : Nat} {xs : List S47} (h : Kd.C k47 w A n xs) (i : Int) (h0 : 0 ≤ i) (h1 : i < n) : ∃ ad , A = some ad ∧ w.cell? (ad.add (i.toNat * 4)) = some (.int .u8 (rd_T47 xs i).f0) ∧ w.cell? ⟨(ad.add (i.toNat * 4)).block, (ad.add (i.toNat * 4)).off + 1, none⟩ = some (.int .i64 (rd_T47 xs i).f1) ∧ w.cell? ⟨(ad.add (i.toNat * 4)).block, (ad.add (i.toNat * 4)).off + 2, none⟩ = some (.int .i64 (rd_T47 xs i).f2) ∧ w.cell? ⟨(ad.add (i.toNat * 4)).block, (ad.add (i.toNat * 4)).off + 3, none⟩ = some (.int .i64 (rd_T47 xs i).f3) := by
  obtain ⟨ad, c, e, _, hK, hc0⟩ := Kd.C_get h z47 i h0 h1
  have hc : ∀ j u, c[j]? = some u → w.cell? (ad.add (i.toNat * 4 + j)) = some u := hc0
  obtain rfl := k47_open hK
  exact ⟨ad, e, hc 0 _ rfl, by rw [← add_field _ _ 1 (by omega)]; exact hc 1 _ rfl, by rw [← add_field _ _ 2 (by omega)]; exact hc 2 _ rfl, by rw [← add_field _ _ 3 (by omega)]; exact hc 3 _ rfl⟩

end Go.Proofs.Ytodldpdnhcafpaa.F

-- Plain walks of regions serve in a round of a loop over an iterator (the wide fence): operation for operation.
namespace Go.Proofs.Ytodldpdnhcafpaa.K
open Go.RowKit Go.Proofs.YtodldpdnhcafpaaW.PrintWords Go.Proofs.YtodldpdnhcafpaaW.PrintLast Go.Proofs.YtodldpdnhcafpaaW.PrintMore

def noDefer (o : Oper) : Bool := match o.op with | .defer _ => false | _ => true

section
variable {P : Program} {ops : Array Oper} {Q : Exit → Act → World → Prop} {n lp : Nat}

theorem rows_bridge {row : String} {args : Array Value} {w : World} {R : Value → World → Prop} (h : Rows P row args w R) : RowsIn (Fence.wide.inRound lp) n P row args w R :=
  fun c cs _ => let ⟨v, w', r, s⟩ := h c cs; ⟨v, w', r, by rw [fenced_inRound]; exact stepsIn_wide.2 s⟩

/-- No way out by growing. -/
def noOut (Q : Exit → Act → World → Prop) : Exit → Act → World → Prop
  | .outgrown, _, _ => False
  | e, a, w => Q e a w
theorem noOut_normal {a : Act} {w : World} : noOut Q .normal a w = Q .normal a w := rfl
theorem noOut_lets : ¬ LetsOut (noOut Q) := fun ⟨_, _, h⟩ => h

theorem oper_bridge {o : Oper} (hd : noDefer o = true) {a : Act} {w : World} {K : Act → World → Prop} (h : o.wp P a w K (noOut Q)) : o.wpIn (Fence.wide.inRound lp) n P a w K Q := by
  refine ⟨fun _ _ => trivial, ?_⟩
  have he : o.semAt (Fence.wide.inRound lp).round a.eval = execOp a.eval o :=
    Oper.semAt_some lp a.eval o (by intro c hc; simp [noDefer, hc] at hd)
  rw [he]
  unfold Oper.wp at h
  have hdep : (Fence.wide.inRound lp).depth.isSome = true → 1 ≤ n := fun h => by simp [Fence.wide] at h
  generalize (execOp a.eval o).run P w = r at *
  cases r with
  | ok x w' =>
    cases x <;> simp only [Oper.upon, Oper.uponIn] at h ⊢ <;>
      first
        | exact h
        | exact ⟨hdep, CallsIn.inRound _ (callsIn_wide.2 (Calls.mono h (fun e w' he => by cases e <;> first | exact he | exact absurd he noOut_lets)))⟩
        | exact ⟨hdep, rows_bridge h⟩
  | halt x w' => cases x <;> simp only [Oper.upon, Oper.uponIn] at h ⊢ <;> exact h

theorem op_bridge (hd : ∀ o ∈ ops, noDefer o = true) {i : Nat} {K : Act → World → Prop} {a : Act} {w : World} (h : wpOp P ops (noOut Q) i K a w) : wpOpIn (Fence.wide.inRound lp) n P ops Q i K a w := by
  unfold wpOp at h
  unfold wpOpIn
  split at h
  · rename_i ho
    simp only [ho]
    exact h
  · rename_i o ho
    simp only [ho]
    split at h
    · rename_i hw
      rw [if_pos hw]
      rcases h with h | h
      · exact oper_bridge (hd o (Array.mem_of_getElem? ho)) h
      · exact absurd h.2 noOut_lets
    · rename_i hw
      rw [if_neg hw]
      exact ⟨fun _ _ => trivial, h⟩

theorem any_bridge {md : Region.Mode} (hd : ∀ o ∈ ops, noDefer o = true) : ∀ (fuel : Nat) (listed : Array Bool) (a : Act) (w : World), wpAny P md ops (noOut Q) fuel listed a w → wpAnyIn (Fence.wide.inRound lp) n P md ops Q fuel listed a w
  | 0, _, _, _, h => h
  | fuel + 1, _, _, _, h => ⟨h.1, fun i hi => wpOpIn_mono (fun a w => any_bridge hd fuel _ a w) (op_bridge hd (h.2 i hi))⟩

/-- A region that draws its order and only reads. -/
theorem quiet_in {id : Nat} {a : Act} {w : World} {l : List Oper} (hd : l.all noDefer = true) (hm : P.follows .mixedOrders = true) (hB : Region.lexB .any l.toArray = true)
    (h : wpQuiet P l.toArray (fun w' => ∃ n, w' = w.drewN n) (fun a' => ∀ w', (∃ n, w' = w.drewN n) → Q .normal a' w') l a) : (Code.region id l.toArray true).wpIn (Fence.wide.inRound lp) n P Q a w := by
  have hB' := hB
  simp only [Region.lexB, Bool.and_eq_true] at hB'
  refine wpIn_region_any hm (any_bridge (fun o ho => List.all_eq_true.1 hd o (by simpa using ho)) _ _ _ _ ?_)
  refine wpAny_of_quiet (C := fun w' => ∃ n, w' = w.drewN n) (Q := fun a' => ∀ w', (∃ n, w' = w.drewN n) → Q .normal a' w') (show ∀ (a' : Act) (w' : World), (∃ n, w' = w.drewN n) → (∀ w', (∃ n, w' = w.drewN n) → Q .normal a' w') → noOut Q .normal a' w' from fun _ w' hw' h => h w' hw') _ _ _ _ ⟨1, rfl⟩ ?_
  have := wpAnyQ_lex (C := fun w' => ∃ n, w' = w.drewN n) (md := .any) hB'.1 l 0 (Array.replicate l.toArray.size false) a (by simp) (by simpa using hB'.2) h
  simpa using this
end

/-- A loop's code by a name; what is asked behind by a name. -/
theorem name_loop {P : Program} {c : Code} {Q : Exit → Act → World → Prop} {a : Act} {w : World} (h : ∀ L, c = L → (Code.loop L).wp P Q a w) : (Code.loop c).wp P Q a w := h c rfl
theorem name_post {P : Program} {c : Code} {Q : Exit → Act → World → Prop} {a : Act} {w : World} (h : ∀ Q', Q = Q' → c.wp P Q' a w) : c.wp P Q a w := h Q rfl

/-- What lies in blocks of cells abides the turn of a block that is none. -/
theorem R_own {α : Type} {d : Kd α} {e : Nat} {A B : World} {base : Nat} {ok : Nat → Prop} {v : Value} {xs : List α} {row : Option Nat} (h : d.R e A base ok v xs) (hg : A.grownBy B row)
    (hr : ∀ r, row = some r → ∃ o : Obj, A.heap[r]? = some o ∧ o.isCells = false) : d.R e B base ok v xs :=
  Kd.R_mono (Kd.R_step (Kd.R_bound h) (fun k ⟨_, _, hlt, q, _, cells, hk⟩ hlt' => hg.block k hlt' (fun e' => by
    obtain ⟨_, ho, hc⟩ := hr k e'.symm
    rw [hk] at ho
    cases ho
    cases hc))) (fun _ hk => hk.1)
theorem blk_own {A B : World} {row : Option Nat} {b t : Nat} {cs : Array Value} {d : Nat × Nat} (h : A.heap[b]? = some (.cells cs t d)) (hg : A.grownBy B row)
    (hr : ∀ r, row = some r → ∃ o : Obj, A.heap[r]? = some o ∧ o.isCells = false) : B.heap[b]? = some (.cells cs t d) :=
  (hg.block b (Array.getElem?_eq_some_iff.1 h).1 (fun e' => by
    obtain ⟨_, ho, hc⟩ := hr b e'.symm
    rw [h] at ho
    cases ho
    cases hc)).trans h
/-- What keeps all that lay keeps whatever is no cells. -/
theorem keeps_below {A B : World} (h : Below A.heap.size A B) (b : Nat) : KeepsFrom b A B :=
  ⟨h.size, fun k _ _ hk _ => (h.block k (Array.getElem?_eq_some_iff.1 hk).1).trans hk⟩

/-- A region that draws its order, by the steps of the plain walk. -/
theorem start_in {P : Program} {ops : Array Oper} {Q : Exit → Act → World → Prop} {S : World → Prop} {ds : List Nat} {lp m id n : Nat} {a : Act} {w : World} (hd : ops.toList.all noDefer = true) (l : Array Bool) (hm : P.follows .mixedOrders = true) (hn : ops.size = n) (hl : Array.replicate n false = l) (hS : S w.drew)
    (h : S w.drew → wpAnyLast P .any ops (noOut Q) S ds n l a w.drew) : (Code.region id ops true).wpIn (Fence.wide.inRound lp) m P Q a w := by
  subst hn
  subst hl
  exact wpIn_region_any hm (any_bridge (fun o ho => List.all_eq_true.1 hd o (by simpa using ho)) _ _ _ _ (wpAny_of_last _ _ _ _ (h hS)))

/-- The law of a loop over an iterator of one variable, at the wide fence, between plain walks. -/
theorem rf1 {P : Program} {α : Type} {g : Operand} {p s : Tmp} {assign body : Code} {Q : Exit → Act → World → Prop} {a : Act} {w : World} {gf : Nat} {lb : Array Value}
    (hg : a.eval g = .func (.func gf) #[] lb) (eg : ∀ args w, (callFunc gf args).run P w = .ok (.enter gf args) w)
    {enc : α → Value} {Kp : World → World → Prop} {S Sp : List α → Prop} {N : Nat} (hseq : SeqStopsK Fence.wide 2 P gf lb (fun x => #[enc x]) Kp S Sp N w)
    (hKt : ∀ {A B C : World}, Kp A B → Kp B C → Kp A C) (hKb : ∀ (W : World) (l : Nat) (o o' : Obj), w.heap.size ≤ l → W.heap[l]? = some o → o.isCells = false → o.isWalk = false → Kp W (W.putObj l o'))
    (I : List α → World → Prop) (Ix : Code → List α → World → Prop) (hI : OwnFrom w.heap.size I) (hIx : ∀ c, OwnFrom w.heap.size (Ix c)) (h0 : I [] w)
    (hassign : ∀ (l : Nat) (x : α) (W : World) (K : Act → World → Prop), K { tmps := (a.tmps.setIfInBounds p (enc x)).setIfInBounds s (enc x), defers := [] } W →
      assign.wpIn (Fence.wide.inRound l) 1 P (Exit.then K (fun _ _ _ => False)) { tmps := a.tmps.setIfInBounds p (enc x), defers := [] } W)
    (hbody : ∀ (l : Nat) (pre : List α) (x : α) (W : World), I pre W → pre.length < N → body.wpIn (Fence.wide.inRound l) 1 P (ownPostG w.heap.size Kp I Ix (pre ++ [x]) W) { tmps := (a.tmps.setIfInBounds p (enc x)).setIfInBounds s (enc x), defers := [] } W)
    (hdone : ∀ (D : Nat) (xs : List α) (W : World), w.heap.size ≤ D → S xs → I xs W → W.heap[D]? = some (.deferred (some [])) → Q .normal { a with defers := { target := .collected D, args := #[] } :: a.defers } W)
    (hstop : ∀ (D : Nat) (c : Code) (pre : List α) (W : World), w.heap.size ≤ D → Sp pre → Ix c pre W → W.heap[D]? = some (.deferred (some [])) → c.wp P Q { a with defers := { target := .collected D, args := #[] } :: a.defers } W) :
    (Code.rangeFunc g #[p] assign body).wp P Q a w :=
  (wpIn_wide (n := 3)).1 (wpIn_rangeFunc_ownG (F := Fence.wide) (n := 3) rfl (by omega) hg trivial eg hseq (fun h k => hKt h k) hKb (Below.refl _ _) (fun _ => rfl) I Ix hI hIx h0 _ (fun l x W K hK => by simpa using hassign l x W K hK) hbody hdone
    (fun D c pre W a b c' d => wpIn_wide.2 (hstop D c pre W a b c' d)))

/-- All that lay lies as it lay, but for one box. -/
def KeepB (W0 : World) (g : Nat) (W : World) : Prop := W0.heap.size ≤ W.heap.size ∧ ∀ k, k < W0.heap.size → k ≠ g → W.heap[k]? = W0.heap[k]?
theorem KeepB.refl (W0 : World) (g : Nat) : KeepB W0 g W0 := ⟨Nat.le_refl _, fun _ _ _ => rfl⟩
theorem KeepB.blk {W0 W : World} {g b : Nat} {o : Obj} (h : KeepB W0 g W) (hb : W0.heap[b]? = some o) (hne : b ≠ g) : W.heap[b]? = some o := (h.2 b (blk_lt hb) hne).trans hb
theorem KeepB.R {α : Type} {d : Kd α} {e base g : Nat} {v : Value} {xs : List α} {W0 W : World} (h : KeepB W0 g W) (hR : d.R e W0 base (fun k => k ≠ g) v xs) : d.R e W base (fun k => k ≠ g) v xs :=
  Kd.R_step hR (fun k hk hlt => h.2 k hlt hk)
theorem KeepB.trans {W0 W W' : World} {g : Nat} (h : KeepB W0 g W) (h' : W.heap.size ≤ W'.heap.size) (hk : ∀ k, k < W0.heap.size → k ≠ g → W'.heap[k]? = W.heap[k]?) : KeepB W0 g W' :=
  ⟨Nat.le_trans h.1 h', fun k h1 h2 => (hk k h1 h2).trans (h.2 k h1 h2)⟩
theorem keepB_own {s : Type} (W0 : World) (g : Nat) : OwnFrom W0.heap.size (fun (_ : s) W => KeepB W0 g W) :=
  fun _ A B row h hg hr => h.trans hg.size (fun k hk _ => hg.block k (Nat.lt_of_lt_of_le hk h.1) (fun e => by have := (hr k e.symm).1; omega))
/-- A box that holds a row which has grown since. -/
def BoxR {α : Type} (d : Kd α) (t e : Nat) (g base b0 : Nat) (xs : List α) (W : World) : Prop := ∃ v, W.heap[g]? = some (.cells #[v] t (0, 0)) ∧ d.R e W base (fun k => b0 ≤ k) v xs
theorem boxR_own {α s : Type} {d : Kd α} {t e g base b0 B : Nat} (f : s → List α) : OwnFrom B (fun x W => BoxR d t e g base b0 (f x) W) :=
  fun _ _ _ _ ⟨v, hb, hR⟩ hg hr => ⟨v, blk_own hb hg (fun r e => (hr r e).2), R_own hR hg (fun r e => (hr r e).2)⟩
end Go.Proofs.Ytodldpdnhcafpaa.K

-- tokens (53, 62): the iterator's contract
namespace Go.Proofs.Ytodldpdnhcafpaa.K
open Go.RowKit Go.Shelf Go.Proofs.YtodldpdnhcafpaaW.PrintWords Go.Proofs.YtodldpdnhcafpaaW.PrintLast Go.Proofs.YtodldpdnhcafpaaW.PrintMore
open Go.Proofs.Ytodldpdnhcafpaa.F
attribute [local go_sem] Oper.semAt_some max2_int min2_int max_two min_two
set_option linter.unusedVariables false
set_option linter.unusedSimpArgs false

/-- No blanks, no note. -/
def tokB (l : List S61) (i : Int) : Bool := !decide ((rd_T61 l i).f0 = 0) && !decide ((rd_T61 l i).f0 = 1)
/-- The tokens from a up to b. -/
def tokR (l : List S61) (a b : Int) : List Int := ((List.range (b - a).toNat).map (fun j : Nat => a + (j : Int))).filter (tokB l)
theorem tokR_nil (l : List S61) {a b : Int} (h : b ≤ a) : tokR l a b = [] := by
  have e : (b - a).toNat = 0 := by omega
  unfold tokR
  rw [e]
  rfl
theorem tokR_succ (l : List S61) {a b : Int} (h : a ≤ b) : tokR l a (b + 1) = tokR l a b ++ (if tokB l b = true then [b] else []) := by
  have e : (b + 1 - a).toNat = (b - a).toNat + 1 := by omega
  have e2 : a + (((b - a).toNat : Nat) : Int) = b := by omega
  unfold tokR
  rw [e, List.range_succ, List.map_append, List.filter_append, List.map_singleton, e2, List.filter_cons, List.filter_nil]
theorem tokR_len (l : List S61) (a b : Int) : (tokR l a b).length ≤ (b - a).toNat := by
  unfold tokR
  refine Nat.le_trans (List.length_filter_le _ _) ?_
  simp
theorem tokR_prefix (l : List S61) {a b b' : Int} (h : b ≤ b') : tokR l a b <+: tokR l a b' := by
  unfold tokR
  refine List.IsPrefix.filter _ (List.IsPrefix.map _ ?_)
  have e : (b' - a).toNat = (b - a).toNat + ((b' - a).toNat - (b - a).toNat) := by omega
  rw [e, List.range_add]
  exact List.prefix_append _ _
/-- A token's number. -/
abbrev Tk (l : List S61) := { x : Int // 0 ≤ x ∧ x < (l.length : Int) ∧ tokB l x = true }

def valsT {l : List S61} (xs : List (Tk l)) : List Int := xs.map (·.1)
/-- What a round keeps: what lay ahead of the call, the two boxes. -/
def KpT (n₀ b1 b2 : Nat) (W W' : World) : Prop := Below n₀ W W' ∧ W'.heap[b1]? = W.heap[b1]? ∧ W'.heap[b2]? = W.heap[b2]?
theorem KpT.trans {n₀ b1 b2 : Nat} {A B C : World} (h : KpT n₀ b1 b2 A B) (k : KpT n₀ b1 b2 B C) : KpT n₀ b1 b2 A C := ⟨h.1.trans k.1, k.2.1.trans h.2.1, k.2.2.trans h.2.2⟩
theorem KpT.refl (n₀ b1 b2 : Nat) (A : World) : KpT n₀ b1 b2 A A := ⟨Below.refl _ _, rfl, rfl⟩

theorem KpT_b {n₀ B b1 b2 : Nat} (hn : n₀ ≤ B) (h1 : b1 < B) (h2 : b2 < B) (W : World) (l : Nat) (o o' : Obj) (hl : B ≤ l) (ho : W.heap[l]? = some o) (hc : o.isCells = false) (hw : o.isWalk = false) : KpT n₀ b1 b2 W (W.putObj l o') :=
  ⟨(Below.refl n₀ W).grown (grownBy_putObj' W l o') (by have := (Array.getElem?_eq_some_iff.1 ho).1; omega) (fun k e => by cases e; omega), World.putObj_heap_other (by omega), World.putObj_heap_other (by omega)⟩

set_option maxRecDepth 100000 in
set_option maxHeartbeats 2000000 in
theorem tokens1_in (n : Nat) (hn : 1 ≤ n) (lp b1 b2 : Nat) (w0 : World) (A : Option Addr) (c : Nat) (l : List S61) (x0 x1 x2 x3 : Int) (hl : l.length < 4611686018427387904) (hc : Kd.C k61 w0 A l.length l) (J Jx : List (Tk l) → World → Prop)
    (hY : ∀ pre (x : Tk l) W, J pre W → pre.length < l.length → YieldAt Fence.wide (n - 1) Try.prog lp #[.int .i64 x.1] W fun e W' =>
      (e = .returned (.bool true) ∧ J (pre ++ [x]) W' ∧ KpT w0.heap.size b1 b2 W W') ∨ (e = .returned (.bool false) ∧ Jx (pre ++ [x]) W'))
    (W : World) (hW : Below w0.heap.size w0 W) (h1 : W.heap[b1]? = some (.cells #[.int .u8 x0, .int .i64 x1, .int .i64 x2, .int .i64 x3] 47 (0, 0))) (h2 : W.heap[b2]? = some (.cells #[.slice A l.length c] 22 (0, 0))) (h0 : J [] W) :
    CallsIn Fence.wide n Try.prog 62 #[.func (.yield lp) #[] #[], .pointer (some ⟨b1, 0, none⟩), .pointer (some ⟨b2, 0, none⟩)] W fun e W' => (∃ v, e = .returned v) ∧
      ((∃ ys : List (Tk l), valsT ys = tokR l (mx x1 0) (mn x2 (l.length : Int)) ∧ J ys W') ∨ (∃ pre : List (Tk l), valsT pre <+: tokR l (mx x1 0) (mn x2 (l.length : Int)) ∧ Jx pre W')) := by
  have hu22 := Try.underlying22
  have hu47 := Try.underlying47
  have hu61 := Try.underlying61
  have hlo : 0 ≤ mx x1 0 := by unfold mx; split <;> omega
  have hhi : mn x2 (l.length : Int) ≤ (l.length : Int) := by unfold mn; split <;> omega
  obtain ⟨lo, elo⟩ : ∃ lo, mx x1 0 = lo := ⟨_, rfl⟩
  obtain ⟨hi, ehi⟩ : ∃ hi, mn x2 (l.length : Int) = hi := ⟨_, rfl⟩
  rw [elo] at hlo ⊢
  rw [ehi] at hhi ⊢
  have elo' : (if x1 < 0 then 0 else x1) = lo := elo
  have hcx : W.cell? ⟨b1, 1, none⟩ = some (.int .i64 x1) := (blk_cell h1 1).trans rfl
  have hcx2 : W.cell? ⟨b1, 2, none⟩ = some (.int .i64 x2) := (blk_cell h1 2).trans rfl
  have hcl : W.cell? ⟨b2, 0, none⟩ = some (.slice A l.length c) := (blk_cell h2 0).trans rfl
  refine callsIn_of_wp Try.func62 rfl trivial ?_ rfl
  simp only [Try.ntmps62, List.size_toArray, List.length_cons, List.length_nil, Nat.reduceAdd, Nat.reduceSub, Array.replicate_succ, Array.replicate_zero, List.push_toArray, List.append_toArray, List.nil_append, List.cons_append]
  gi_wp2
  gi_loopw [4] (fun i wr => ∃ (z : Int) (pre : List (Tk l)), i = .int .i64 z ∧ lo ≤ z ∧ (z = lo ∨ z ≤ hi) ∧ valsT pre = tokR l lo z ∧ J pre wr ∧ KpT w0.heap.size b1 b2 W wr) (fun i _ => (hi - intOf i).toNat)
  case atStart =>
    exact ⟨lo, [], rfl, Int.le_refl _, .inl rfl, by rw [tokR_nil l (Int.le_refl _)]; rfl, h0, KpT.refl _ _ _ _⟩
  case round =>
    obtain ⟨z, pre, rfl, hz, hzh, hpre, hJs, hk⟩ := hrel
    have c1 : wr.cell? ⟨b1, 2, none⟩ = some (.int .i64 x2) := (blk_cell (hk.2.1.trans h1) 2).trans rfl
    have c2 : wr.cell? ⟨b2, 0, none⟩ = some (.slice A l.length c) := (blk_cell (hk.2.2.trans h2) 0).trans rfl
    have ehi' : (if (l.length : Int) < x2 then (l.length : Int) else x2) = hi := ehi
    by_cases hlt : z < hi
    · have hz0 : 0 ≤ z := by omega
      have hzl : z < (l.length : Int) := by omega
      obtain ⟨ad, rfl, ca, _, _⟩ := at_T61 (Kd.C_below hc (hW.trans hk.1)) z hz0 hzl
      by_cases g0 : (rd_T61 l z).f0 = 0
      · have b0 : ((rd_T61 l z).f0 != 0) = false := by simp [g0]
        have ht : tokB l z = false := by simp [tokB, g0]
        clear g0
        gi_wp2
        refine ⟨fun _ h => (by cases h), ?_⟩
        gi_wp2
        go_roundw
        case rel => exact ⟨z + 1, pre, rfl, by omega, .inr (by omega), by rw [hpre, tokR_succ l hz, if_neg (by rw [ht]; simp), List.append_nil], hJs, hk⟩
        case measure => simp only [intOf]; omega
      · have b0 : ((rd_T61 l z).f0 != 0) = true := by simp [g0]
        by_cases g1 : (rd_T61 l z).f0 = 1
        · have bb1 : ((rd_T61 l z).f0 != 1) = false := by simp [g1]
          have ht : tokB l z = false := by simp [tokB, g1]
          gi_wp2
          refine ⟨fun _ h => (by cases h), ?_⟩
          gi_wp2
          go_roundw
          case rel => exact ⟨z + 1, pre, rfl, by omega, .inr (by omega), by rw [hpre, tokR_succ l hz, if_neg (by rw [ht]; simp), List.append_nil], hJs, hk⟩
          case measure => simp only [intOf]; omega
        · have bb1 : ((rd_T61 l z).f0 != 1) = true := by simp [g1]
          have ht : tokB l z = true := by simp [tokB, g0, g1]
          have hpl : pre.length < l.length := by
            have e1 : (valsT pre).length = pre.length := by simp [valsT]
            have := tokR_len l lo z
            rw [← hpre, e1] at this
            omega
          obtain ⟨fn, tmps, assign, body, hy, hR⟩ := hY pre ⟨z, hz0, hzl, ht⟩ wr hJs hpl
          dsimp only at hy
          gi_wp2
          refine hR.mono ?_
          rintro e W3 (⟨rfl, hJ3, hk3⟩ | ⟨rfl, hJx3⟩)
          · gi_wp2
            go_roundw
            case rel => exact ⟨z + 1, pre ++ [⟨z, hz0, hzl, ht⟩], rfl, by omega, .inr (by omega), by rw [tokR_succ l hz, if_pos ht, ← hpre]; simp [valsT], hJ3, hk.trans hk3⟩
            case measure => simp only [intOf]; omega
          · gi_wp2
            refine bodyPost_ret (results_none rfl _ _ _) rfl ?_
            refine ⟨⟨_, rfl⟩, .inr ⟨_, ?_, hJx3⟩⟩
            have e1 : valsT (pre ++ [⟨z, hz0, hzl, ht⟩]) = tokR l lo (z + 1) := by rw [tokR_succ l hz, if_pos ht, ← hpre]; simp [valsT]
            rw [e1]
            exact tokR_prefix l (by omega)
    · gi_wp2
      go_end0
      refine ⟨⟨_, rfl⟩, .inl ⟨pre, ?_, hJs⟩⟩
      rcases hzh with rfl | hzh
      · rw [hpre, tokR_nil l (Int.le_refl _), tokR_nil l (by omega)]
      · rw [hpre, show z = hi by omega]

theorem tokens_stops (n : Nat) (hn : 1 ≤ n) (b1 b2 : Nat) (w0 w : World) (A : Option Addr) (c : Nat) (l : List S61) (x0 x1 x2 x3 : Int) (hl : l.length < 4611686018427387904) (hc : Kd.C k61 w0 A l.length l)
    (hW : Below w0.heap.size w0 w) (h1 : w.heap[b1]? = some (.cells #[.int .u8 x0, .int .i64 x1, .int .i64 x2, .int .i64 x3] 47 (0, 0))) (h2 : w.heap[b2]? = some (.cells #[.slice A l.length c] 22 (0, 0))) :
    SeqStopsK Fence.wide n Try.prog 62 #[.pointer (some ⟨b1, 0, none⟩), .pointer (some ⟨b2, 0, none⟩)] (fun x : Tk l => #[.int .i64 x.1]) (KpT w0.heap.size b1 b2) (fun ys => valsT ys = tokR l (mx x1 0) (mn x2 (l.length : Int))) (fun pre => valsT pre <+: tokR l (mx x1 0) (mn x2 (l.length : Int))) l.length w :=
  fun lp J Jx W hb _ _ hY h0 => tokens1_in n hn lp b1 b2 w0 A c l x0 x1 x2 x3 hl hc J Jx hY W (hW.trans (hb.mono hW.size)) (blk_below h1 hb) (blk_below h2 hb) h0

theorem tokens.calls (A : Option Addr) (m c : Nat) (x0 x1 x2 x3 : Int) (w : World) :
    Calls Try.prog 53 #[.slice A m c, .agg #[.int .u8 x0, .int .i64 x1, .int .i64 x2, .int .i64 x3]] w fun e w' => ∃ b1 b2, e = .returned (.func (.func 62) #[] #[.pointer (some ⟨b1, 0, none⟩), .pointer (some ⟨b2, 0, none⟩)]) ∧
      w'.heap[b1]? = some (.cells #[.int .u8 x0, .int .i64 x1, .int .i64 x2, .int .i64 x3] 47 (0, 0)) ∧ w'.heap[b2]? = some (.cells #[.slice A m c] 22 (0, 0)) ∧ w.heap.size ≤ b1 ∧ w.heap.size ≤ b2 ∧ Below w.heap.size w w' := by
  have hu22 := Try.underlying22
  have hu47 := Try.underlying47
  have HB := Aside0.mk (Below.refl w.heap.size w)
  go_enter Try.func53, Try.ntmps53
  go_wp2_with (first
    | ((with_reducible refine gate_dst (N := 2) rfl ?_); refine box_event ?hg2 (N := 2) ?hd2 (cs := #[.slice A m c]) (t := 22) ?hr2 ?_; (case hd2 => rfl); (case hg2 => rfl); (case hr2 => first | (go_simp; done) | (go_simp; rfl)); intro g2 hg w1 hbox hb; have n0_ := Aside0.mk (below_step HB.out hb); have n1_ := Aside0.mk hbox; have GE2 := Aside0.mk (show w.heap.size ≤ g2 by rw [hg]; exact Nat.le_refl _); clear HB; have HB := n0_; have BK2 := n1_; clear n0_ n1_ hb hbox hg)
    | ((with_reducible refine gate_dst (N := 3) rfl ?_); refine box_event ?hg3 (N := 3) ?hd3 (cs := #[.int .u8 x0, .int .i64 x1, .int .i64 x2, .int .i64 x3]) (t := 47) ?hr3 ?_; (case hd3 => rfl); (case hg3 => rfl); (case hr3 => first | (go_simp; done) | (go_simp; rfl)); intro g3 hg w2 hbox hb; have n0_ := Aside0.mk (below_step HB.out hb); have n1_ := Aside0.mk hbox; have n2_ := Aside0.mk (blk_below BK2.out hb); have GE3 := Aside0.mk (show w.heap.size ≤ g3 by rw [hg]; exact HB.out.size); clear HB BK2; have HB := n0_; have BK3 := n1_; have BK2 := n2_; clear n0_ n1_ n2_ hb hbox hg))
  go_ret
  exact ⟨g3, g2, rfl, BK3.out, BK2.out, GE3.out, GE2.out, HB.out⟩
end Go.Proofs.Ytodldpdnhcafpaa.K

-- Same (33): its contract (made by wip/mkgsame.py)
namespace Go.Proofs.Ytodldpdnhcafpaa.F
open Go.RowKit Go.Shelf Go.Proofs.YtodldpdnhcafpaaW.PrintWords Go.Proofs.YtodldpdnhcafpaaW.PrintLast Go.Proofs.YtodldpdnhcafpaaW.PrintMore
open Go.Proofs.Ytodldpdnhcafpaa.K
attribute [local go_sem] Oper.semAt_some
set_option linter.unusedVariables false
set_option linter.unusedSimpArgs false

/-- The kinds of a run's tokens. -/
def kindsR (l : List S61) (x : S47) : List Int := (tokR l (mx x.f1 0) (mn x.f2 (l.length : Int))).map (fun i => (rd_T61 l i).f0)
def nodeB (l : List S61) (x : S47) (m : List S61) (y : S47) : Bool := decide (x.f0 = y.f0) && (decide (x.f3 = y.f3) && decide (kindsR l x = kindsR m y))
def sameGo (l : List S61) (a : List S47) (m : List S61) (b : List S47) : Nat → Int → Bool
  | 0, _ => true
  | d + 1, n => nodeB l (rd_T47 a n) m (rd_T47 b n) && sameGo l a m b d (n + 1)
def sameB (l : List S61) (a : List S47) (m : List S61) (b : List S47) : Bool := decide (a.length = b.length) && sameGo l a m b a.length 0
def tree_Same.f (k : Nat) (l : List S61) (a : List S47) (m : List S61) (b : List S47) : Option Bool :=
  if l.length < 17592186044415 ∧ m.length < 17592186044415 ∧ a.length < 17592186044415 then some (sameB l a m b) else none
def mark (D : Nat) : Deferred := { target := .collected D, args := #[] }
/-- The way out of Same, whatever marks there are. -/
theorem same_out (w : World) (g8 : Nat) (b : Bool) (tmps : Array Value) (h8 : tmps[8]? = some (.pointer (some ⟨g8, 0, none⟩))) : ∀ (ds : List Nat) (W : World), (∀ D ∈ ds, w.heap.size ≤ D ∧ W.heap[D]? = some (.deferred (some []))) → ds.Nodup →
    W.heap[g8]? = some (.cells #[.bool b] 4 (0, 0)) → Below w.heap.size w W →
    LeavesInM Fence.wide 3 Try.prog Try.f33 tmps (fun e w' => e = .returned (.bool b) ∧ Below w.heap.size w w') (ds.map mark) .returning W
  | [], W, _, _, hb, hB => by
    refine ⟨.bool b, ?_, rfl, hB⟩
    have hc : W.cell? ⟨g8, 0, none⟩ = some (.bool b) := (blk_cell hb 0).trans rfl
    have hres : Try.f33.results = #[.cell 8 4] := rfl
    unfold results
    rw [hres]
    simp only [Array.mapM_eq_mapM_toList, List.mapM_cons, List.mapM_nil] <;> simp [h8] <;> go_simp
  | D :: ds, W, hd, hn, hb, hB => by
    obtain ⟨h1, h2⟩ := hd D List.mem_cons_self
    refine ⟨by simp, .inl ⟨D, _, rfl, run_takeDeferred h2, ?_⟩⟩
    have hne : g8 ≠ D := fun e => by rw [e, h2] at hb; cases hb
    refine same_out w g8 b tmps h8 ds _ (fun D' hD' => ?_) (List.nodup_cons.1 hn).2 ((World.putObj_heap_other hne).trans hb) (hB.grown (grownBy_putObj' W D _) hB.size (fun k e => by cases e; exact h1))
    obtain ⟨a1, a2⟩ := hd D' (List.mem_cons_of_mem _ hD')
    exact ⟨a1, (World.putObj_heap_other (fun e => by subst e; exact (List.nodup_cons.1 hn).1 hD')).trans a2⟩

theorem info59 : (Try.prog.info? 59).map (fun i => (i.zero, i.size, i.bytes)) = some (some (.int .u8 0), 1, 1) := by kernel_rfl
/-- A row in a box has been appended to and stored. -/
theorem appR_step {α : Type} {d : Kd α} {t e : Nat} {W w1 : World} {g base b0 : Nat} {v v1 : Value} {xs ys : List α}
    (hbox : W.heap[g]? = some (.cells #[v] t (0, 0))) (hg0 : g < b0) (hb0 : base ≤ b0) (hr : d.R e W base (fun k => b0 ≤ k) v xs) (hbase : base ≤ W.heap.size) (hge : base ≤ g) (ho : d.R e w1 base (fun k => b0 ≤ k) v1 ys) (hgr : W.grownBy w1 v.ownBlock) :
    (w1.setCell ⟨g, 0, none⟩ v1).heap[g]? = some (.cells #[v1] t (0, 0)) ∧ d.R e (w1.setCell ⟨g, 0, none⟩ v1) base (fun k => b0 ≤ k) v1 ys ∧
    (∀ k, k < b0 → k ≠ g → k < W.heap.size → (w1.setCell ⟨g, 0, none⟩ v1).heap[k]? = W.heap[k]?) ∧ (∀ B, KeepsFrom B W (w1.setCell ⟨g, 0, none⟩ v1)) ∧ Below base W (w1.setCell ⟨g, 0, none⟩ v1) := by
  have hne : ∀ k, k < b0 → some k ≠ v.ownBlock := fun k hk e => by
    have h : b0 ≤ k := hr.1 _ e.symm
    omega
  have h1 : w1.heap[g]? = some (.cells #[v] t (0, 0)) := blk_grown hbox hgr (hne g hg0)
  refine ⟨blk_put h1 0 _ rfl, Kd.R_far (p := ⟨g, 0, none⟩) ho (fun k hk => (by have : b0 ≤ k := hk; show k ≠ g; omega)) v1, fun k hk hkg hlt => ?_, fun B => ⟨by simpa using hgr.size, fun k o _ hk hc => ?_⟩, ?_⟩
  · exact (Below.heap_setCell w1 ⟨g, 0, none⟩ v1 k hkg).trans (hgr.block k hlt (hne k hk))
  · have hkg : k ≠ g := fun e => by rw [e, hbox] at hk; cases hk; cases hc
    refine (Below.heap_setCell w1 ⟨g, 0, none⟩ v1 k hkg).trans ((hgr.block k (blk_lt hk) (fun e => ?_)).trans hk)
    obtain ⟨_, _, _, q, _, cells, hcell⟩ := (Kd.R_bound hr).1 k e.symm
    rw [hcell] at hk
    cases hk
    cases hc
  · exact ((Below.refl base W).grown hgr hbase fun k e => by
      have h : b0 ≤ k := hr.1 _ e
      omega).setCell (p := ⟨g, 0, none⟩) hge v1
theorem marks_set {w W : World} {g8 : Nat} {ds : List Nat} {v : Value} {cs : Array Value} {t : Nat} {d : Nat × Nat} (hm : ∀ D ∈ ds, w.heap.size ≤ D ∧ W.heap[D]? = some (.deferred (some []))) (h8 : W.heap[g8]? = some (.cells cs t d)) :
    ∀ D ∈ ds, w.heap.size ≤ D ∧ (W.setCell ⟨g8, 0, none⟩ v).heap[D]? = some (.deferred (some [])) := fun D hD =>
  ⟨(hm D hD).1, (Below.heap_setCell W ⟨g8, 0, none⟩ v D (fun e => by have := (hm D hD).2; rw [e, h8] at this; cases this)).trans (hm D hD).2⟩
theorem marks_below {w W W' : World} {ds : List Nat} (hm : ∀ D ∈ ds, w.heap.size ≤ D ∧ W.heap[D]? = some (.deferred (some []))) (hb : Below W.heap.size W W') :
    ∀ D ∈ ds, w.heap.size ≤ D ∧ W'.heap[D]? = some (.deferred (some [])) := fun D hD => ⟨(hm D hD).1, blk_below (hm D hD).2 hb⟩

def tree_Same.T12 : Bool × List (List Nat × List Nat) := (true, [([], []), ([], []), ([], []), ([1, 2], [1, 2]), ([3], [3]), ([4], [4]), ([5], [5]), ([0, 6], [0, 6]), ([7, 7, 0, 1, 2, 3, 4, 5, 6, 7], [7])])
def tree_Same.B12 : List Nat := [0, 0, 0, 6, 14, 30, 62, 127, 255]
theorem tree_Same.tab12 : rtab .any (opsOf Try.f33 12) = tree_Same.T12 := by kernel_rfl
theorem tree_Same.bits12 : waitsOk tree_Same.T12.2 tree_Same.B12 = true := by kernel_rfl
set_option maxHeartbeats 4000000 in
set_option maxRecDepth 100000 in
theorem tree_Same.calls (k : Nat) (A0 : Option Addr) (c0 : Nat) (l0 : List S61) (A1_0 : Option Addr) (c1_0 : Nat) (l1_0 : List S47) (A2 : Option Addr) (c2 : Nat) (l2 : List S61) (A3_0 : Option Addr) (c3_0 : Nat) (l3_0 : List S47) (r : Bool) (w : World)
    (hr0 : Kd.C k61 w A0 l0.length l0) (hc0 : l0.length ≤ c0) (hr1_0 : Kd.C k47 w A1_0 l1_0.length l1_0) (hc1_0 : l1_0.length ≤ c1_0) (hr2 : Kd.C k61 w A2 l2.length l2) (hc2 : l2.length ≤ c2) (hr3_0 : Kd.C k47 w A3_0 l3_0.length l3_0) (hc3_0 : l3_0.length ≤ c3_0) (h : tree_Same.f k l0 l1_0 l2 l3_0 = some r) :
    Calls Try.prog 33 #[.slice A0 l0.length c0, .agg #[.slice A1_0 l1_0.length c1_0], .slice A2 l2.length c2, .agg #[.slice A3_0 l3_0.length c3_0]] w fun e w' => e = .returned (.bool r) ∧ Below w.heap.size w w' := by
  have hu4 := Try.underlying4
  have hu22 := Try.underlying22
  have hu23 := Try.underlying23
  have hu25 := Try.underlying25
  have hu47 := Try.underlying47
  have hu61 := Try.underlying61
  have hu75 := Try.underlying75
  have HR0 := Aside0.mk hr0
  have HR1 := Aside0.mk hr1_0
  have HR2 := Aside0.mk hr2
  have HR3 := Aside0.mk hr3_0
  have HB := Aside0.mk (Below.refl w.heap.size w)
  unfold tree_Same.f at h
  have hcond : l0.length < 17592186044415 ∧ l2.length < 17592186044415 ∧ l1_0.length < 17592186044415 := Classical.byContradiction fun hh => by rw [if_neg hh] at h; cases h
  rw [if_pos hcond] at h
  obtain ⟨hL0, hL2, hL1⟩ := hcond
  obtain rfl := Option.some.inj h
  have HL0 := Aside0.mk hL0
  have HL2 := Aside0.mk hL2
  have HL1 := Aside0.mk hL1
  clear h hL0 hL2 hL1 hr0 hr1_0 hr2 hr3_0 hc0 hc1_0 hc2 hc3_0
  refine (callsIn_wide (n := 3)).1 ?_
  refine callsIn_of_wp_marks Try.func33 rfl trivial ?_ rfl
  simp only [Try.ntmps33, List.size_toArray, List.length_cons, List.length_nil, Nat.reduceAdd, Nat.reduceSub, Array.replicate_succ, Array.replicate_zero, List.push_toArray, List.append_toArray, List.nil_append, List.cons_append]
  refine wpIn_wide.2 ?_
  go_upto_region 1 with (first
    | ((with_reducible refine gate_dst (N := 4) rfl ?_); refine box_event ?hgg4 (N := 4) ?hdg4 (cs := #[.slice A0 l0.length c0]) (t := 22) ?hrg4 ?_; (case hdg4 => rfl); (case hgg4 => rfl); (case hrg4 => first | (go_simp; done) | (go_simp; rfl)); intro g4 hg w1 hbox hb; have n0_ := Aside0.mk (below_step HB.out hb); have n1_ := Aside0.mk hbox; have GEg4 := Aside0.mk (show w.heap.size ≤ g4 by rw [hg]; exact HB.out.size); clear HB; have HB := n0_; have BKg4 := n1_; clear n0_ n1_ hb hbox hg)
    | ((with_reducible refine gate_dst (N := 5) rfl ?_); refine box_event ?hgg5 (N := 5) ?hdg5 (cs := #[.slice A1_0 l1_0.length c1_0]) (t := 25) ?hrg5 ?_; (case hdg5 => rfl); (case hgg5 => rfl); (case hrg5 => first | (go_simp; done) | (go_simp; rfl)); intro g5 hg w2 hbox hb; have NEg4g5 := Aside0.mk (show g4 ≠ g5 by rw [hg]; exact Nat.ne_of_lt (blk_lt BKg4.out)); have n0_ := Aside0.mk (below_step HB.out hb); have n1_ := Aside0.mk hbox; have n_BKg4 := Aside0.mk (blk_below BKg4.out hb); have GEg5 := Aside0.mk (show w.heap.size ≤ g5 by rw [hg]; exact HB.out.size); clear HB; have HB := n0_; have BKg5 := n1_; clear BKg4; have BKg4 := n_BKg4; clear n_BKg4; clear n0_ n1_ hb hbox hg)
    | ((with_reducible refine gate_dst (N := 6) rfl ?_); refine box_event ?hgg6 (N := 6) ?hdg6 (cs := #[.slice A2 l2.length c2]) (t := 22) ?hrg6 ?_; (case hdg6 => rfl); (case hgg6 => rfl); (case hrg6 => first | (go_simp; done) | (go_simp; rfl)); intro g6 hg w3 hbox hb; have NEg4g6 := Aside0.mk (show g4 ≠ g6 by rw [hg]; exact Nat.ne_of_lt (blk_lt BKg4.out)); have NEg5g6 := Aside0.mk (show g5 ≠ g6 by rw [hg]; exact Nat.ne_of_lt (blk_lt BKg5.out)); have n0_ := Aside0.mk (below_step HB.out hb); have n1_ := Aside0.mk hbox; have n_BKg4 := Aside0.mk (blk_below BKg4.out hb); have n_BKg5 := Aside0.mk (blk_below BKg5.out hb); have GEg6 := Aside0.mk (show w.heap.size ≤ g6 by rw [hg]; exact HB.out.size); clear HB; have HB := n0_; have BKg6 := n1_; clear BKg4; have BKg4 := n_BKg4; clear n_BKg4; clear BKg5; have BKg5 := n_BKg5; clear n_BKg5; clear n0_ n1_ hb hbox hg)
    | ((with_reducible refine gate_dst (N := 7) rfl ?_); refine box_event ?hgg7 (N := 7) ?hdg7 (cs := #[.slice A3_0 l3_0.length c3_0]) (t := 25) ?hrg7 ?_; (case hdg7 => rfl); (case hgg7 => rfl); (case hrg7 => first | (go_simp; done) | (go_simp; rfl)); intro g7 hg w4 hbox hb; have NEg4g7 := Aside0.mk (show g4 ≠ g7 by rw [hg]; exact Nat.ne_of_lt (blk_lt BKg4.out)); have NEg5g7 := Aside0.mk (show g5 ≠ g7 by rw [hg]; exact Nat.ne_of_lt (blk_lt BKg5.out)); have NEg6g7 := Aside0.mk (show g6 ≠ g7 by rw [hg]; exact Nat.ne_of_lt (blk_lt BKg6.out)); have n0_ := Aside0.mk (below_step HB.out hb); have n1_ := Aside0.mk hbox; have n_BKg4 := Aside0.mk (blk_below BKg4.out hb); have n_BKg5 := Aside0.mk (blk_below BKg5.out hb); have n_BKg6 := Aside0.mk (blk_below BKg6.out hb); have GEg7 := Aside0.mk (show w.heap.size ≤ g7 by rw [hg]; exact HB.out.size); clear HB; have HB := n0_; have BKg7 := n1_; clear BKg4; have BKg4 := n_BKg4; clear n_BKg4; clear BKg5; have BKg5 := n_BKg5; clear n_BKg5; clear BKg6; have BKg6 := n_BKg6; clear n_BKg6; clear n0_ n1_ hb hbox hg)
    | ((with_reducible refine gate_dst (N := 8) rfl ?_); refine box_event ?hgg8 (N := 8) ?hdg8 (cs := #[.bool false]) (t := 4) ?hrg8 ?_; (case hdg8 => rfl); (case hgg8 => rfl); (case hrg8 => first | (go_simp; done) | (go_simp; rfl)); intro g8 hg w5 hbox hb; have NEg4g8 := Aside0.mk (show g4 ≠ g8 by rw [hg]; exact Nat.ne_of_lt (blk_lt BKg4.out)); have NEg5g8 := Aside0.mk (show g5 ≠ g8 by rw [hg]; exact Nat.ne_of_lt (blk_lt BKg5.out)); have NEg6g8 := Aside0.mk (show g6 ≠ g8 by rw [hg]; exact Nat.ne_of_lt (blk_lt BKg6.out)); have NEg7g8 := Aside0.mk (show g7 ≠ g8 by rw [hg]; exact Nat.ne_of_lt (blk_lt BKg7.out)); have n0_ := Aside0.mk (below_step HB.out hb); have n1_ := Aside0.mk hbox; have n_BKg4 := Aside0.mk (blk_below BKg4.out hb); have n_BKg5 := Aside0.mk (blk_below BKg5.out hb); have n_BKg6 := Aside0.mk (blk_below BKg6.out hb); have n_BKg7 := Aside0.mk (blk_below BKg7.out hb); have GEg8 := Aside0.mk (show w.heap.size ≤ g8 by rw [hg]; exact HB.out.size); clear HB; have HB := n0_; have BKg8 := n1_; clear BKg4; have BKg4 := n_BKg4; clear n_BKg4; clear BKg5; have BKg5 := n_BKg5; clear n_BKg5; clear BKg6; have BKg6 := n_BKg6; clear n_BKg6; clear BKg7; have BKg7 := n_BKg7; clear n_BKg7; clear n0_ n1_ hb hbox hg))
  have q5 : w5.cell? ⟨g5, 0, none⟩ = some (.slice A1_0 l1_0.length c1_0) := (blk_cell BKg5.out 0).trans rfl
  have q7 : w5.cell? ⟨g7, 0, none⟩ = some (.slice A3_0 l3_0.length c3_0) := (blk_cell BKg7.out 0).trans rfl
  by_cases hlen : l1_0.length = l3_0.length
  · have hle : ((l1_0.length : Int) != (l3_0.length : Int)) = false := by rw [hlen]; simp
    have HLE := Aside0.mk hlen
    clear hlen
    go_wp2
    refine name_loop ?_
    intro Lcode hL
    refine name_post ?_
    intro Qpost hQ
    refine wp_loop_rounds (l1_0.length + 1) ?_
    have key : ∀ (d : Nat) (n : Int) (ds : List Nat) (u9 u10 u11 u12 u13 u14 u15 u27 u28 u29 u30 u31 u32 u33 u34 u35 u36 u37 u38 u39 u40 u41 u42 u43 u44 u45 u46 u47 u48 u49 u50 u51 u52 u53 u54 u55 u56 u57 u58 u59 u60 u61 u62 u63 u64 u65 u66 u67 u68 u69 u70 u71 u72 u73 u74 u75 u76 u77 u78 u79 u80 u81 u82 u83 u84 u85 u86 : Value) (W : World), 0 ≤ n → (l1_0.length : Int) - n = d → sameGo l0 l1_0 l2 l3_0 d n = sameB l0 l1_0 l2 l3_0 →
        (∀ D ∈ ds, w.heap.size ≤ D ∧ W.heap[D]? = some (.deferred (some []))) → ds.Nodup →
        (W.heap[g4]? = some (.cells #[.slice A0 l0.length c0] 22 (0, 0)) ∧ W.heap[g6]? = some (.cells #[.slice A2 l2.length c2] 22 (0, 0)) ∧ W.heap[g7]? = some (.cells #[.slice A3_0 l3_0.length c3_0] 25 (0, 0)) ∧ W.heap[g8]? = some (.cells #[.bool false] 4 (0, 0))) →
        Below w.heap.size w W → Code.rounds Try.prog Lcode Qpost (d + 1) { tmps := #[.slice A0 l0.length c0, .agg #[.slice A1_0 l1_0.length c1_0], .slice A2 l2.length c2, .agg #[.slice A3_0 l3_0.length c3_0], .pointer (some ⟨g4, 0, none⟩), .pointer (some ⟨g5, 0, none⟩), .pointer (some ⟨g6, 0, none⟩), .pointer (some ⟨g7, 0, none⟩), .pointer (some ⟨g8, 0, none⟩), u9, u10, u11, u12, u13, u14, u15, .pointer (some ⟨g5, 0, none⟩), .slice A1_0 l1_0.length c1_0, .int .i64 (l1_0.length : Int), .pointer (some ⟨g7, 0, none⟩), .slice A3_0 l3_0.length c3_0, .int .i64 (l3_0.length : Int), .bool false, .pointer (some ⟨g5, 0, none⟩), .slice A1_0 l1_0.length c1_0, .int .i64 (l1_0.length : Int), .int .i64 n, u27, u28, u29, u30, u31, u32, u33, u34, u35, u36, u37, u38, u39, u40, u41, u42, u43, u44, u45, u46, u47, u48, u49, u50, u51, u52, u53, u54, u55, u56, u57, u58, u59, u60, u61, u62, u63, u64, u65, u66, u67, u68, u69, u70, u71, u72, u73, u74, u75, u76, u77, u78, u79, u80, u81, u82, u83, u84, u85, u86], defers := ds.map mark } W := by
      intro d
      induction d with
      | zero =>
        intro n ds u9 u10 u11 u12 u13 u14 u15 u27 u28 u29 u30 u31 u32 u33 u34 u35 u36 u37 u38 u39 u40 u41 u42 u43 u44 u45 u46 u47 u48 u49 u50 u51 u52 u53 u54 u55 u56 u57 u58 u59 u60 u61 u62 u63 u64 u65 u66 u67 u68 u69 u70 u71 u72 u73 u74 u75 u76 u77 u78 u79 u80 u81 u82 u83 u84 u85 u86 W h0 hd hs hm hn hbk hB
        rw [rounds_succ]
        have hge : ¬ n < (l1_0.length : Int) := by omega
        have hsb : sameB l0 l1_0 l2 l3_0 = true := hs.symm
        rw [← hL]
        subst hQ
        have q8 : W.cell? ⟨g8, 0, none⟩ = some (.bool false) := (blk_cell hbk.2.2.2 0).trans rfl
        have f8 := blk_frozen hbk.2.2.2 0
        clear hL hs hd
        go_wp2
        exact same_out w g8 true _ rfl ds _ (marks_set hm hbk.2.2.2) hn (blk_put hbk.2.2.2 0 _ rfl) (below_set hB GEg8.out)
      | succ d ih =>
        intro n ds u9 u10 u11 u12 u13 u14 u15 u27 u28 u29 u30 u31 u32 u33 u34 u35 u36 u37 u38 u39 u40 u41 u42 u43 u44 u45 u46 u47 u48 u49 u50 u51 u52 u53 u54 u55 u56 u57 u58 u59 u60 u61 u62 u63 u64 u65 u66 u67 u68 u69 u70 u71 u72 u73 u74 u75 u76 u77 u78 u79 u80 u81 u82 u83 u84 u85 u86 W h0 hd hs hm hn hbk hB
        rw [rounds_succ]
        generalize hR : Code.rounds Try.prog Lcode Qpost (d + 1) = Rnext
        have hlt : n < (l1_0.length : Int) := by omega
        have hlt3 : n < (l3_0.length : Int) := by have := HLE.out; omega
        obtain ⟨ad1, e1, hx0, hx1, hx2, hx3⟩ := at_T47 (Kd.C_below HR1.out hB) n h0 hlt
        obtain ⟨ad3, e3, hy0, hy1, hy2, hy3⟩ := at_T47 (Kd.C_below HR3.out hB) n h0 hlt3
        subst e1
        subst e3
        have q7 : W.cell? ⟨g7, 0, none⟩ = some (.slice (some ad3) l3_0.length c3_0) := (blk_cell hbk.2.2.1 0).trans rfl
        have p0 := eq_true h0
        have ba : Below W.heap.size W (W.alloc (.cells #[.int .u8 (rd_T47 l1_0 n).f0, .int .i64 (rd_T47 l1_0 n).f1, .int .i64 (rd_T47 l1_0 n).f2, .int .i64 (rd_T47 l1_0 n).f3] 47)) := below_alloc (Below.refl _ _) _
        have q7a := (ba.cell (World.block_lt_of_cell? _ _ q7)).trans q7
        have ya0 := (ba.cell (World.block_lt_of_cell? _ _ hy0)).trans hy0
        have ya1 := (ba.cell (World.block_lt_of_cell? _ _ hy1)).trans hy1
        have ya2 := (ba.cell (World.block_lt_of_cell? _ _ hy2)).trans hy2
        have ya3 := (ba.cell (World.block_lt_of_cell? _ _ hy3)).trans hy3
        clear ba
        have IH := Aside0.mk ih
        have HM := Aside0.mk hm
        have HN := Aside0.mk hn
        have HK := Aside0.mk hbk
        have HS := Aside0.mk hs
        have HBW := Aside0.mk hB
        have HRN := Aside0.mk hR
        have HQQ := Aside0.mk hQ
        have HD := Aside0.mk hd
        rw [← hL]
        have HLL := Aside0.mk hL
        clear ih hm hn hbk hs hB hR hQ hL hd
        go_upto_region 7 with (fail)
        have b10 : ((W.alloc (.cells #[.int .u8 (rd_T47 l1_0 n).f0, .int .i64 (rd_T47 l1_0 n).f1, .int .i64 (rd_T47 l1_0 n).f2, .int .i64 (rd_T47 l1_0 n).f3] 47)).alloc (.cells #[.int .u8 (rd_T47 l3_0 n).f0, .int .i64 (rd_T47 l3_0 n).f1, .int .i64 (rd_T47 l3_0 n).f2, .int .i64 (rd_T47 l3_0 n).f3] 47)).heap[W.heap.size]? = some (.cells #[.int .u8 (rd_T47 l1_0 n).f0, .int .i64 (rd_T47 l1_0 n).f1, .int .i64 (rd_T47 l1_0 n).f2, .int .i64 (rd_T47 l1_0 n).f3] 47 (0, 0)) := blk_alloc (blk_new W _) _
        have b11 : ((W.alloc (.cells #[.int .u8 (rd_T47 l1_0 n).f0, .int .i64 (rd_T47 l1_0 n).f1, .int .i64 (rd_T47 l1_0 n).f2, .int .i64 (rd_T47 l1_0 n).f3] 47)).alloc (.cells #[.int .u8 (rd_T47 l3_0 n).f0, .int .i64 (rd_T47 l3_0 n).f1, .int .i64 (rd_T47 l3_0 n).f2, .int .i64 (rd_T47 l3_0 n).f3] 47)).heap[W.heap.size + 1]? = some (.cells #[.int .u8 (rd_T47 l3_0 n).f0, .int .i64 (rd_T47 l3_0 n).f1, .int .i64 (rd_T47 l3_0 n).f2, .int .i64 (rd_T47 l3_0 n).f3] 47 (0, 0)) := by
          have e := blk_new (W.alloc (.cells #[.int .u8 (rd_T47 l1_0 n).f0, .int .i64 (rd_T47 l1_0 n).f1, .int .i64 (rd_T47 l1_0 n).f2, .int .i64 (rd_T47 l1_0 n).f3] 47)) (.cells #[.int .u8 (rd_T47 l3_0 n).f0, .int .i64 (rd_T47 l3_0 n).f1, .int .i64 (rd_T47 l3_0 n).f2, .int .i64 (rd_T47 l3_0 n).f3] 47)
          rwa [World.size_alloc] at e
        have bb : Below W.heap.size W ((W.alloc (.cells #[.int .u8 (rd_T47 l1_0 n).f0, .int .i64 (rd_T47 l1_0 n).f1, .int .i64 (rd_T47 l1_0 n).f2, .int .i64 (rd_T47 l1_0 n).f3] 47)).alloc (.cells #[.int .u8 (rd_T47 l3_0 n).f0, .int .i64 (rd_T47 l3_0 n).f1, .int .i64 (rd_T47 l3_0 n).f2, .int .i64 (rd_T47 l3_0 n).f3] 47)) := below_alloc (below_alloc (Below.refl _ _) _) _
        have g10w : W.heap.size ≤ W.heap.size := Nat.le_refl _
        have g11w : W.heap.size ≤ W.heap.size + 1 := Nat.le_succ _
        generalize (W.alloc (.cells #[.int .u8 (rd_T47 l1_0 n).f0, .int .i64 (rd_T47 l1_0 n).f1, .int .i64 (rd_T47 l1_0 n).f2, .int .i64 (rd_T47 l1_0 n).f3] 47)).alloc (.cells #[.int .u8 (rd_T47 l3_0 n).f0, .int .i64 (rd_T47 l3_0 n).f1, .int .i64 (rd_T47 l3_0 n).f2, .int .i64 (rd_T47 l3_0 n).f3] 47) = W1 at b10 b11 bb ⊢
        obtain ⟨g11, hg11⟩ : ∃ g, W.heap.size + 1 = g := ⟨_, rfl⟩
        rw [hg11] at b11 g11w ⊢
        obtain ⟨g10, hg10⟩ : ∃ g, W.heap.size = g := ⟨_, rfl⟩
        rw [hg10] at b10 ⊢
        rw [hg10] at g10w g11w
        have BK10 := Aside0.mk b10
        have BK11 := Aside0.mk b11
        have HB1 := Aside0.mk bb
        have G10 := Aside0.mk hg10
        have G11 := Aside0.mk hg11
        clear b10 b11 bb hg10 hg11 g10w g11w hx0 hx1 hx2 hx3 hy0 hy1 hy2 hy3 q7 p0 q7a ya0 ya1 ya2 ya3
        have q10 : W1.cell? ⟨g10, 0, none⟩ = some (.int .u8 (rd_T47 l1_0 n).f0) := (blk_cell BK10.out 0).trans rfl
        have q103 : W1.cell? ⟨g10, 3, none⟩ = some (.int .i64 (rd_T47 l1_0 n).f3) := (blk_cell BK10.out 3).trans rfl
        have q11 : W1.cell? ⟨g11, 0, none⟩ = some (.int .u8 (rd_T47 l3_0 n).f0) := (blk_cell BK11.out 0).trans rfl
        have q113 : W1.cell? ⟨g11, 3, none⟩ = some (.int .i64 (rd_T47 l3_0 n).f3) := (blk_cell BK11.out 3).trans rfl
        by_cases hkk : (rd_T47 l1_0 n).f0 = (rd_T47 l3_0 n).f0 ∧ (rd_T47 l1_0 n).f3 = (rd_T47 l3_0 n).f3
        · obtain ⟨k0, k3⟩ := hkk
          have z0 : ((rd_T47 l1_0 n).f0 != (rd_T47 l3_0 n).f0) = false := by rw [k0]; simp
          have z3 : ((rd_T47 l1_0 n).f3 != (rd_T47 l3_0 n).f3) = false := by rw [k3]; simp
          have K0 := Aside0.mk k0
          have K3 := Aside0.mk k3
          clear k0 k3
          go_upto_region 10 with (fail)
          have b12 : (W1.alloc (.cells #[.slice none 0 0] 75)).heap[W1.heap.size]? = some (.cells #[.slice none 0 0] 75 (0, 0)) := blk_new W1 _
          have ba : Below W1.heap.size W1 (W1.alloc (.cells #[.slice none 0 0] 75)) := below_alloc (Below.refl _ _) _
          generalize W1.alloc (.cells #[.slice none 0 0] 75) = W2 at b12 ba ⊢
          obtain ⟨g12, hg12⟩ : ∃ g, W1.heap.size = g := ⟨_, rfl⟩
          rw [hg12] at b12 ⊢
          have NB := Aside0.mk (HB1.out.trans (ba.mono HB1.out.size))
          have N10 := Aside0.mk (blk_below BK10.out ba)
          have N11 := Aside0.mk (blk_below BK11.out ba)
          have G12 := Aside0.mk hg12
          have BK12 := Aside0.mk b12
          have E12 := Aside0.mk (show g10 < g12 ∧ g11 < g12 by have := blk_lt BK10.out; have := blk_lt BK11.out; omega)
          clear HB1 BK10 BK11 q10 q103 q11 q113 b12 ba z0 z3 hg12
          have HB1 := NB
          have BK10 := N10
          have BK11 := N11
          clear NB N10 N11
          have q4 : W2.cell? ⟨g4, 0, none⟩ = some (.slice A0 l0.length c0) := (blk_cell (blk_below HK.out.1 HB1.out) 0).trans rfl
          have q0 : W2.cell? ⟨g10, 0, none⟩ = some (.int .u8 (rd_T47 l1_0 n).f0) := (blk_cell BK10.out 0).trans rfl
          have q1 : W2.cell? ⟨g10, 1, none⟩ = some (.int .i64 (rd_T47 l1_0 n).f1) := (blk_cell BK10.out 1).trans rfl
          have q2 : W2.cell? ⟨g10, 2, none⟩ = some (.int .i64 (rd_T47 l1_0 n).f2) := (blk_cell BK10.out 2).trans rfl
          have q3 : W2.cell? ⟨g10, 3, none⟩ = some (.int .i64 (rd_T47 l1_0 n).f3) := (blk_cell BK10.out 3).trans rfl
          go_wp2_with (fail)
          refine (tokens.calls A0 l0.length c0 _ _ _ _ _).mono ?_
          rintro e W4 ⟨b1, b2, rfl, k1, k2, gb1, gb2, hb4⟩
          have NB := Aside0.mk (HB1.out.trans (hb4.mono HB1.out.size))
          have N10 := Aside0.mk (blk_below BK10.out hb4)
          have N11 := Aside0.mk (blk_below BK11.out hb4)
          have N12 := Aside0.mk (blk_below BK12.out hb4)
          have F1 := Aside0.mk (show b1 ≠ g12 by have := blk_lt BK12.out; omega)
          have F2 := Aside0.mk (show b2 ≠ g12 by have := blk_lt BK12.out; omega)
          have K1 := Aside0.mk k1
          have K2 := Aside0.mk k2
          clear HB1 BK10 BK11 BK12 q4 q0 q1 q2 q3 k1 k2 gb1 gb2 hb4
          have HB1 := NB
          have BK10 := N10
          have BK11 := N11
          have BK12 := N12
          clear NB N10 N11 N12
          have HBW4 := Aside0.mk (below_step HBW.out HB1.out)
          have GL12 := Aside0.mk (show g12 < W4.heap.size from blk_lt BK12.out)
          have GB4 := Aside0.mk (show w.heap.size ≤ W4.heap.size from HBW4.out.size)
          have GE12 := Aside0.mk (show w.heap.size ≤ g12 by have := HBW.out.size; have := E12.out.1; have := G10.out; omega)
          have E4 := Aside0.mk (show g4 ≠ g12 by have := blk_lt HK.out.1; have := E12.out.1; have := G10.out; omega)
          go_wp2
          refine rf1 (gf := 62) (lb := #[.pointer (some ⟨b1, 0, none⟩), .pointer (some ⟨b2, 0, none⟩)]) (p := 51) (s := 13) rfl (enters_of Try.func62 (by kernel_rfl) rfl) (tokens_stops 2 (by omega) b1 b2 w W4 A0 c0 l0 _ _ _ _ (by have := HL0.out; omega) HR0.out HBW4.out K1.out K2.out) KpT.trans (KpT_b GB4.out (blk_lt K1.out) (blk_lt K2.out))
            (fun pre W' => BoxR (Kd.int .u8) 75 59 g12 w.heap.size W4.heap.size ((valsT pre).map (fun i => (rd_T61 l0 i).f0)) W' ∧ KeepB W4 g12 W' ∧ Below w.heap.size w W')
            (fun _ _ _ => False)
            (OwnFrom.and (boxR_own _) (OwnFrom.and (keepB_own W4 g12) (ownFrom_below (Nat.le_refl _) GB4.out)))
            (fun _ _ _ _ _ hs _ _ => hs)
            ⟨⟨_, BK12.out, Kd.R_nil _ _ _ _ _⟩, KeepB.refl _ _, HBW4.out⟩ ?assign ?body ?done ?stop
          case assign =>
            intro lp x W K hK
            simp only [List.setIfInBounds_toArray, List.set_cons_zero, List.set_cons_succ] at hK ⊢
            gi_wp2
            exact hK
          case stop => exact fun _ _ _ _ _ _ h _ => h.elim
          case body =>
            rintro lp pre x W5 ⟨⟨v, hv, hR⟩, hk, hB⟩ hlt
            simp only [List.setIfInBounds_toArray, List.set_cons_zero, List.set_cons_succ]
            obtain ⟨ms, hms⟩ : ∃ ms, (valsT pre).map (fun i => (rd_T61 l0 i).f0) = ms := ⟨_, rfl⟩
            rw [hms] at hR
            have hml : ms.length = pre.length := by rw [← hms]; simp [valsT]
            have hsn : (valsT (pre ++ [x])).map (fun i => (rd_T61 l0 i).f0) = ms ++ [(rd_T61 l0 x.1).f0] := by rw [← hms]; simp [valsT]
            obtain ⟨adx, ex, hx0, hx1, hx2⟩ := at_T61 (Kd.C_below HR0.out hB) x.1 x.2.1 x.2.2.1
            have HLN := Aside0.mk (show ms.length < 17592186044415 by have := HL0.out; omega)
            have HSN := Aside0.mk hsn
            obtain ⟨Av, cv, rfl⟩ := Kd.R_slice hR
            have HG4 := Aside0.mk (hk.blk (blk_below HK.out.1 HB1.out) E4.out)
            subst ex
            have HX := Aside0.mk hv
            have HV := Aside0.mk hR
            have HKB := Aside0.mk hk
            have HW := Aside0.mk hB
            have p1 := eq_true x.2.1
            have p2 := eq_true x.2.2.1
            clear hv hR hk hB hms hml hsn
            gi_wp2
            refine start_in (by rfl) (n := 9) (S := fun w' => Below W5.heap.size W5 w') (ds := [7, 8]) #[false, false, false, false, false, false, false, false, false] (by kernel_rfl) rfl rfl (below_drew (Below.refl _ _)) (fun hHeld => ?_)
            refine with_tabW tree_Same.tab12 tree_Same.bits12 (fun HT_ HW_ => ?_)
            generalize W5.drew = wb at hHeld ⊢
            refine pure_ (i := 2) (N := some 54) (v := ?_) (a' := ?_) #[false, false, true, false, false, false, false, false, false] rfl rfl (any_of HT_.out (by kernel_rfl)) (fun _ _ _ h => h) (Or.inl ⟨by rfl, ?_⟩) ?_ ?_
            rotate_left
            · intro w'
              go_simp
              with_reducible rfl
            rotate_left
            · simp only [Act.put, List.setIfInBounds_toArray, List.set_cons_zero, List.set_cons_succ, i64_w, i32_w]
              rfl
            refine take_ (i := 0) (N := some 52) (v := ?_) (a' := ?_) #[true, false, true, false, false, false, false, false, false] rfl rfl (take_ofW HT_.out HW_.out (by kernel_rfl)) (fun _ _ _ h => h) (Or.inl ⟨by rfl, ?_⟩) hHeld ?_ ?_
            rotate_left
            · intro w' hS
              have q12 : w'.cell? ⟨g12, 0, none⟩ = some (.slice Av ms.length cv) := (blk_cell (blk_below HX.out hS) 0).trans rfl
              have q4 : w'.cell? ⟨g4, 0, none⟩ = some (.slice (some adx) l0.length c0) := (blk_cell (blk_below HG4.out hS) 0).trans rfl
              have y0 := (hS.cell (World.block_lt_of_cell? _ _ hx0)).trans hx0
              clear hS
              go_simp
              with_reducible rfl
            rotate_left
            · simp only [Act.put, List.setIfInBounds_toArray, List.set_cons_zero, List.set_cons_succ, i64_w, i32_w]
              rfl
            refine take_ (i := 1) (N := some 53) (v := ?_) (a' := ?_) #[true, true, true, false, false, false, false, false, false] rfl rfl (take_ofW HT_.out HW_.out (by kernel_rfl)) (fun _ _ _ h => h) (Or.inl ⟨by rfl, ?_⟩) hHeld ?_ ?_
            rotate_left
            · intro w' hS
              have q12 : w'.cell? ⟨g12, 0, none⟩ = some (.slice Av ms.length cv) := (blk_cell (blk_below HX.out hS) 0).trans rfl
              have q4 : w'.cell? ⟨g4, 0, none⟩ = some (.slice (some adx) l0.length c0) := (blk_cell (blk_below HG4.out hS) 0).trans rfl
              have y0 := (hS.cell (World.block_lt_of_cell? _ _ hx0)).trans hx0
              clear hS
              go_simp
              with_reducible rfl
            rotate_left
            · simp only [Act.put, List.setIfInBounds_toArray, List.set_cons_zero, List.set_cons_succ, i64_w, i32_w]
              rfl
            refine pure_ (i := 3) (N := some 55) (v := ?_) (a' := ?_) #[true, true, true, true, false, false, false, false, false] rfl rfl (any_of HT_.out (by kernel_rfl)) (fun _ _ _ h => h) (Or.inl ⟨by rfl, ?_⟩) ?_ ?_
            rotate_left
            · intro w'
              go_simp
              with_reducible rfl
            rotate_left
            · simp only [Act.put, List.setIfInBounds_toArray, List.set_cons_zero, List.set_cons_succ, i64_w, i32_w]
              rfl
            refine pure_ (i := 4) (N := some 56) (v := ?_) (a' := ?_) #[true, true, true, true, true, false, false, false, false] rfl rfl (any_of HT_.out (by kernel_rfl)) (fun _ _ _ h => h) (Or.inl ⟨by rfl, ?_⟩) ?_ ?_
            rotate_left
            · intro w'
              go_simp
              with_reducible rfl
            rotate_left
            · simp only [Act.put, List.setIfInBounds_toArray, List.set_cons_zero, List.set_cons_succ, i64_w, i32_w]
              rfl
            refine take_ (i := 5) (N := some 57) (v := ?_) (a' := ?_) #[true, true, true, true, true, true, false, false, false] rfl rfl (take_ofW HT_.out HW_.out (by kernel_rfl)) (fun _ _ _ h => h) (Or.inl ⟨by rfl, ?_⟩) hHeld ?_ ?_
            rotate_left
            · intro w' hS
              have q12 : w'.cell? ⟨g12, 0, none⟩ = some (.slice Av ms.length cv) := (blk_cell (blk_below HX.out hS) 0).trans rfl
              have q4 : w'.cell? ⟨g4, 0, none⟩ = some (.slice (some adx) l0.length c0) := (blk_cell (blk_below HG4.out hS) 0).trans rfl
              have y0 := (hS.cell (World.block_lt_of_cell? _ _ hx0)).trans hx0
              clear hS
              go_simp
              with_reducible rfl
            rotate_left
            · simp only [Act.put, List.setIfInBounds_toArray, List.set_cons_zero, List.set_cons_succ, i64_w, i32_w]
              rfl
            refine one_ (i := 6) (N := some 58) #[true, true, true, true, true, true, true, false, false] rfl rfl (one_of HT_.out (by kernel_rfl)) (by decide) (fun K hK => ?_)
            refine value_ (w1 := ?_) (v := ?_) (by rfl) rfl ?_ ?_
            rotate_left 2
            · go_simp
              constructor
              · rfl
              · rfl
            refine hK.out _ _ (below_alloc hHeld _) (fun hHeld2 => ?_)
            clear hK K
            refine norm_ (a' := ?_) ?_ ?_
            rotate_left
            · show Act.put _ (some 58) _ = _
              simp only [Act.put, List.setIfInBounds_toArray, List.set_cons_zero, List.set_cons_succ, i64_w, i32_w]
              rfl
            refine last_ (i := 7) (N := some 59) #[true, true, true, true, true, true, true, true, false] rfl rfl (one_of HT_.out (by kernel_rfl)) (by decide) (fun K hK => ?_)
            refine Kd.R_append_step (Kd.int .u8) (w0 := w) w.heap.size (by rfl) (.tmp 52) (.tmp 58) 75 59 (.int .u8 0) 1 rfl Try.underlying75 info59 rfl (by decide) (by omega) (.slice Av ms.length cv) ms ((rd_T61 l0 x.1).f0) [.int .u8 ((rd_T61 l0 x.1).f0)] (fun k => W4.heap.size ≤ k) (fun _ => False) rfl rfl ?aP (fun _ hk => hk.elim) ?aF ?aO ?aB ?aS ?aL ?_
            (case aP => exact rfl)
            (case aF => exact (fun k hk => by have := HKB.out.1; have := hHeld.size; show W4.heap.size ≤ k; omega))
            (case aO => exact Kd.R_below HV.out hHeld)
            (case aB => exact below_step HW.out hHeld)
            (case aS => exact (below_step HW.out hHeld).size)
            (case aL => have := HLN.out; omega)
            intro v1 w7 ho hb1 hg hat
            have AP := Aside0.mk (appR_step (blk_below HX.out hHeld) GL12.out GB4.out (Kd.R_below HV.out hHeld) (below_step HW.out hHeld).size GE12.out ho hg)
            have HBO := Aside0.mk hb1
            have h7 := blk_grown (blk_below HX.out hHeld) hg (fun e => by have h : W4.heap.size ≤ g12 := HV.out.1 _ e.symm; have := GL12.out; omega)
            have q12' : w7.cell? ⟨g12, 0, none⟩ = some (.slice Av ms.length cv) := (blk_cell h7 0).trans rfl
            have f12' := blk_frozen h7 0
            obtain ⟨A7, c7, e7⟩ := Kd.R_slice ho
            subst e7
            obtain ⟨ms2, hms2⟩ : ∃ z, ms ++ [(rd_T61 l0 x.1).f0] = z := ⟨_, rfl⟩
            skip
            refine hK.out _ _ ?_
            clear hK K
            refine norm_ (a' := ?_) ?_ ?_
            rotate_left
            · show Act.put _ (some 59) _ = _
              simp only [Act.put, List.setIfInBounds_toArray, List.set_cons_zero, List.set_cons_succ, i64_w, i32_w]
              rfl
            refine last_ (i := 8) (N := none) #[true, true, true, true, true, true, true, true, true] rfl rfl (one_of HT_.out (by kernel_rfl)) (by decide) (fun K hK => ?_)
            refine skip_ (w1 := ?_) (by rfl) rfl ?_ ?_
            rotate_left 1
            · go_simp
              rfl
            refine hK.out _ _ ?_
            clear hK K
            refine done_ (done_of HT_.out (by kernel_rfl)) ?_
            (rw [noOut_normal]; gi_wp2)
            have ap := AP.out
            rw [hms2] at ap
            obtain ⟨ap1, ap2, ap3, ap4, ap5⟩ := ap
            have hs0 := HKB.out.1
            have hs1 := hHeld.size
            have hs4 := HW.out.size
            refine ⟨KeepsFrom.trans (keeps_below hHeld _) (ap4 _), ⟨(hHeld.mono hs4).trans ap5, (ap3 b1 (blk_lt K1.out) F1.out (by have := blk_lt K1.out; omega)).trans (hHeld.block b1 (by have := blk_lt K1.out; omega)), (ap3 b2 (blk_lt K2.out) F2.out (by have := blk_lt K2.out; omega)).trans (hHeld.block b2 (by have := blk_lt K2.out; omega))⟩, ⟨_, ap1, ?_⟩, HKB.out.trans (KeepsFrom.trans (keeps_below hHeld 0) (ap4 0)).size (fun k h1 h2 => (ap3 k h1 h2 (by omega)).trans (hHeld.block k (by omega))), (HW.out.trans (hHeld.mono hs4)).trans ap5⟩
            rw [HSN.out, hms2]
            exact ap2
          case done =>
            rintro D ys W6 hD hys ⟨⟨v, hv, hR⟩, hk, hB⟩ hKD
            rw [hys] at hR
            have hkk : (tokR l0 (mx (rd_T47 l1_0 n).f1 0) (mn (rd_T47 l1_0 n).f2 (l0.length : Int))).map (fun i => (rd_T61 l0 i).f0) = kindsR l0 (rd_T47 l1_0 n) := rfl
            rw [hkk] at hR
            obtain ⟨ks, hks⟩ : ∃ ks, kindsR l0 (rd_T47 l1_0 n) = ks := ⟨_, rfl⟩
            rw [hks] at hR
            obtain ⟨Av, cv, rfl⟩ := Kd.R_slice hR
            have e4 : ∀ {b : Nat} {o : Obj}, W.heap[b]? = some o → W6.heap[b]? = some o := fun {b o} h => hk.blk (blk_below h HB1.out) (by have := blk_lt h; have := E12.out.1; have := G10.out; omega)
            have M6 := Aside0.mk (show ∀ D' ∈ D :: ds, w.heap.size ≤ D' ∧ W6.heap[D']? = some (.deferred (some [])) from fun D' hD' => by
              rcases List.mem_cons.1 hD' with rfl | hD'
              · exact ⟨by have := GB4.out; omega, hKD⟩
              · exact ⟨(HM.out D' hD').1, e4 (HM.out D' hD').2⟩)
            have N6 := Aside0.mk (show (D :: ds).Nodup from List.nodup_cons.2 ⟨fun h => by have := blk_lt (HM.out D h).2; have := HB1.out.size; omega, HN.out⟩)
            have J4 := Aside0.mk (e4 HK.out.1)
            have J6 := Aside0.mk (e4 HK.out.2.1)
            have J7 := Aside0.mk (e4 HK.out.2.2.1)
            have J8 := Aside0.mk (e4 HK.out.2.2.2)
            have J11 := Aside0.mk (hk.blk BK11.out (by have := E12.out.2; omega))
            have J12 := Aside0.mk hv
            have JR := Aside0.mk (Kd.R_mono (Kd.R_bound hR) (ok' := fun k => k ≠ W6.heap.size) (fun k hk => by have := hk.2.2.1; show k ≠ W6.heap.size; omega))
            have JB := Aside0.mk hB
            have HKS := Aside0.mk hks
            have L6 := Aside0.mk (show W.heap.size ≤ W6.heap.size from Nat.le_trans HB1.out.size hk.1)
            clear hv hR hk hB hKD hD hys hkk hks e4 HB1 BK10 BK11 BK12 HBW4 GL12 GB4 GE12 E4 K1 K2 F1 F2
            go_upto_region 14 with (fail)
            have b14 : (W6.alloc (.cells #[.int .i64 0] 3)).heap[W6.heap.size]? = some (.cells #[.int .i64 0] 3 (0, 0)) := blk_new W6 _
            have ba : Below W6.heap.size W6 (W6.alloc (.cells #[.int .i64 0] 3)) := below_alloc (Below.refl _ _) _
            generalize W6.alloc (.cells #[.int .i64 0] 3) = W7 at b14 ba ⊢
            obtain ⟨g14, hg14⟩ : ∃ g, W6.heap.size = g := ⟨_, rfl⟩
            rw [hg14] at b14 ⊢
            have G14 := Aside0.mk hg14
            have BK14 := Aside0.mk b14
            have HBA := Aside0.mk ba
            clear b14 ba hg14
            have q6 : W7.cell? ⟨g6, 0, none⟩ = some (.slice A2 l2.length c2) := (blk_cell (blk_below J6.out HBA.out) 0).trans rfl
            have q0 : W7.cell? ⟨g11, 0, none⟩ = some (.int .u8 (rd_T47 l3_0 n).f0) := (blk_cell (blk_below J11.out HBA.out) 0).trans rfl
            have q1 : W7.cell? ⟨g11, 1, none⟩ = some (.int .i64 (rd_T47 l3_0 n).f1) := (blk_cell (blk_below J11.out HBA.out) 1).trans rfl
            have q2 : W7.cell? ⟨g11, 2, none⟩ = some (.int .i64 (rd_T47 l3_0 n).f2) := (blk_cell (blk_below J11.out HBA.out) 2).trans rfl
            have q3 : W7.cell? ⟨g11, 3, none⟩ = some (.int .i64 (rd_T47 l3_0 n).f3) := (blk_cell (blk_below J11.out HBA.out) 3).trans rfl
            go_wp2_with (fail)
            refine (tokens.calls A2 l2.length c2 _ _ _ _ _).mono ?_
            rintro e W8 ⟨b3, b4, rfl, k3, k4, gb3, gb4, hb8⟩
            have hb68 := HBA.out.trans (hb8.mono HBA.out.size)
            have M8 := Aside0.mk (marks_below M6.out hb68)
            have P4 := Aside0.mk (blk_below J4.out hb68)
            have P6 := Aside0.mk (blk_below J6.out hb68)
            have P7 := Aside0.mk (blk_below J7.out hb68)
            have P8 := Aside0.mk (blk_below J8.out hb68)
            have P12 := Aside0.mk (blk_below J12.out hb68)
            have PR := Aside0.mk (Kd.R_below JR.out hb68)
            have PB := Aside0.mk (below_step JB.out hb68)
            have P14 := Aside0.mk (blk_below BK14.out hb8)
            have K3_ := Aside0.mk k3
            have K4_ := Aside0.mk k4
            have lt6 : ∀ {b : Nat} {o : Obj}, W6.heap[b]? = some o → b < g14 := fun {b o} h => by have := blk_lt h; have := G14.out; omega
            have Q4 := Aside0.mk (lt6 J4.out)
            have Q6 := Aside0.mk (lt6 J6.out)
            have Q7 := Aside0.mk (lt6 J7.out)
            have Q8 := Aside0.mk (lt6 J8.out)
            have Q12 := Aside0.mk (lt6 J12.out)
            have QM := Aside0.mk (show ∀ D' ∈ D :: ds, D' < g14 from fun D' h => lt6 (M6.out D' h).2)
            have F3 := Aside0.mk (show b3 ≠ g14 by have := blk_lt BK14.out; omega)
            have F4 := Aside0.mk (show b4 ≠ g14 by have := blk_lt BK14.out; omega)
            have GE14 := Aside0.mk (show w.heap.size ≤ g14 by have := JB.out.size; have := G14.out; omega)
            rw [G14.out] at PR
            clear lt6 hb68 hb8 HBA k3 k4 gb3 gb4 M6 J4 J6 J7 J8 J11 J12 JR JB q6 q0 q1 q2 q3 BK14
            go_wp2
            refine rf1 (gf := 62) (lb := #[.pointer (some ⟨b3, 0, none⟩), .pointer (some ⟨b4, 0, none⟩)]) (p := 63) (s := 15) rfl (enters_of Try.func62 (by kernel_rfl) rfl) (tokens_stops 2 (by omega) b3 b4 w W8 A2 c2 l2 _ _ _ _ (by have := HL2.out; omega) HR2.out PB.out K3_.out K4_.out) KpT.trans (KpT_b PB.out.size (blk_lt K3_.out) (blk_lt K4_.out))
              (fun pre W' => (W'.heap[g14]? = some (.cells #[.int .i64 (pre.length : Int)] 3 (0, 0)) ∧ (valsT pre).map (fun i => (rd_T61 l2 i).f0) = ks.take pre.length ∧ pre.length ≤ ks.length) ∧ KeepB W8 g14 W' ∧ Below w.heap.size w W')
              (fun c pre W' => c = .ret ∧ ¬ ((valsT pre).map (fun i => (rd_T61 l2 i).f0) <+: ks) ∧ W'.heap[g8]? = some (.cells #[.bool false] 4 (0, 0)) ∧ (∀ k, k < W8.heap.size → k ≠ g14 → k ≠ g8 → W'.heap[k]? = W8.heap[k]?) ∧ W8.heap.size ≤ W'.heap.size ∧ Below w.heap.size w W')
              (OwnFrom.and (fun _ _ _ _ h hg hr => ⟨blk_own h.1 hg (fun r e => (hr r e).2), h.2⟩) (OwnFrom.and (keepB_own W8 g14) (ownFrom_below (Nat.le_refl _) PB.out.size)))
              (fun _ _ _ _ _ h hg hr => ⟨h.1, h.2.1, blk_own h.2.2.1 hg (fun r e => (hr r e).2), fun k a b c => (hg.block k (Nat.lt_of_lt_of_le a h.2.2.2.2.1) (fun e => by have := (hr k e.symm).1; omega)).trans (h.2.2.2.1 k a b c), Nat.le_trans h.2.2.2.2.1 hg.size, h.2.2.2.2.2.grown hg h.2.2.2.2.2.size (fun k e => Nat.le_trans PB.out.size (hr k e).1)⟩)
              ⟨⟨P14.out, rfl, Nat.zero_le _⟩, KeepB.refl _ _, PB.out⟩ ?assign2 ?body2 ?done2 ?stop2
            case assign2 =>
              intro lp x W K hK
              simp only [List.setIfInBounds_toArray, List.set_cons_zero, List.set_cons_succ] at hK ⊢
              gi_wp2
              exact hK
            case stop2 =>
              rintro D2 c pre W9 hD2 hsp ⟨rfl, hnp, h8, hkk, hsz, hB9⟩ hKD
              have hne : ¬ kindsR l0 (rd_T47 l1_0 n) = kindsR l2 (rd_T47 l3_0 n) := fun e => hnp (by rw [← HKS.out, e]; exact hsp.map _)
              have hs0 : sameB l0 l1_0 l2 l3_0 = false := by
                rw [← HS.out]
                show (nodeB l0 (rd_T47 l1_0 n) l2 (rd_T47 l3_0 n) && _) = false
                unfold nodeB
                rw [decide_eq_false hne, Bool.and_false, Bool.and_false]
                rfl
              have hmk : ∀ D' ∈ D2 :: D :: ds, w.heap.size ≤ D' ∧ W9.heap[D']? = some (.deferred (some [])) := fun D' hD' => by
                rcases List.mem_cons.1 hD' with rfl | hD'
                · exact ⟨by have := PB.out.size; omega, hKD⟩
                · exact ⟨(M8.out D' hD').1, (hkk D' (blk_lt (M8.out D' hD').2) (by have := QM.out D' hD'; omega) (fun e => by have := (M8.out D' hD').2; rw [e, P8.out] at this; cases this)).trans (M8.out D' hD').2⟩
              have hnd : (D2 :: D :: ds).Nodup := List.nodup_cons.2 ⟨fun h => by have := blk_lt (M8.out D2 h).2; omega, N6.out⟩
              have hq := HQQ.out
              subst hq
              clear hne hnp hkk
              go_wp2
              exact same_out w g8 false _ rfl (D2 :: D :: ds) _ hmk hnd h8 hB9
            case done2 =>
              rintro D2 ys W9 hD2 hys ⟨⟨h14, htk, hle⟩, hk9, hB9⟩ hKD
              have hyk : (valsT ys).map (fun i => (rd_T61 l2 i).f0) = kindsR l2 (rd_T47 l3_0 n) := by rw [hys]; rfl
              have hyl : ys.length = (kindsR l2 (rd_T47 l3_0 n)).length := by rw [← hyk]; simp [valsT]
              rw [hyk] at htk
              have hmk : ∀ D' ∈ D2 :: D :: ds, w.heap.size ≤ D' ∧ W9.heap[D']? = some (.deferred (some [])) := fun D' hD' => by
                rcases List.mem_cons.1 hD' with rfl | hD'
                · exact ⟨by have := PB.out.size; omega, hKD⟩
                · exact ⟨(M8.out D' hD').1, hk9.blk (M8.out D' hD').2 (by have := QM.out D' hD'; omega)⟩
              have hnd : (D2 :: D :: ds).Nodup := List.nodup_cons.2 ⟨fun h => by have := blk_lt (M8.out D2 h).2; omega, N6.out⟩
              have r4 := hk9.blk P4.out (by have := Q4.out; omega)
              have r6 := hk9.blk P6.out (by have := Q6.out; omega)
              have r7 := hk9.blk P7.out (by have := Q7.out; omega)
              have r8 := hk9.blk P8.out (by have := Q8.out; omega)
              have c14 : W9.cell? ⟨g14, 0, none⟩ = some (.int .i64 (ys.length : Int)) := (blk_cell h14 0).trans rfl
              have c12 : W9.cell? ⟨g12, 0, none⟩ = some (.slice Av ks.length cv) := (blk_cell (hk9.blk P12.out (by have := Q12.out; omega)) 0).trans rfl
              have MK := Aside0.mk hmk
              have ND := Aside0.mk hnd
              have R4 := Aside0.mk r4
              have R6 := Aside0.mk r6
              have R7 := Aside0.mk r7
              have R8 := Aside0.mk r8
              have B9 := Aside0.mk hB9
              have TK := Aside0.mk htk
              have YL := Aside0.mk hyl
              clear hmk hnd r4 r6 r7 r8 hB9 htk hyl hys hyk hk9 hD2 hKD
              by_cases hj : ys.length = ks.length
              · have e1 : ((ys.length : Int) != (ks.length : Int)) = false := by rw [hj]; simp
                have hkk : kindsR l0 (rd_T47 l1_0 n) = kindsR l2 (rd_T47 l3_0 n) := by rw [TK.out, HKS.out, hj, List.take_length]
                have hs1 : sameGo l0 l1_0 l2 l3_0 d (n + 1) = sameB l0 l1_0 l2 l3_0 := by
                  rw [← HS.out]
                  show _ = (nodeB l0 (rd_T47 l1_0 n) l2 (rd_T47 l3_0 n) && sameGo l0 l1_0 l2 l3_0 d (n + 1))
                  unfold nodeB
                  rw [decide_eq_true K0.out, decide_eq_true K3.out, decide_eq_true hkk]
                  rfl
                clear hj hkk
                have HS1 := Aside0.mk hs1
                clear hs1
                go_wp2
                rw [← HRN.out, show wrap64 (n + 1) = n + 1 by unfold wrap64; have := HL1.out; omega]
                exact IH.out (n + 1) (D2 :: D :: ds) _ _ _ _ _ _ _ _ _ _ _ _ _ _ _ _ _ _ _ _ _ _ _ _ _ _ _ _ _ _ _ _ _ _ _ _ _ _ _ _ _ _ _ _ _ _ _ _ _ _ _ _ _ _ _ _ _ _ _ _ _ _ _ _ _ _ _ W9 (by omega) (by have := HD.out; omega) HS1.out MK.out ND.out ⟨R4.out, R6.out, R7.out, R8.out⟩ B9.out
              · have e1 : ((ys.length : Int) != (ks.length : Int)) = true := by simp; omega
                have hne : ¬ kindsR l0 (rd_T47 l1_0 n) = kindsR l2 (rd_T47 l3_0 n) := fun e => hj (by rw [YL.out, ← e, HKS.out])
                have hs0 : sameB l0 l1_0 l2 l3_0 = false := by
                  rw [← HS.out]
                  show (nodeB l0 (rd_T47 l1_0 n) l2 (rd_T47 l3_0 n) && _) = false
                  unfold nodeB
                  rw [decide_eq_false hne, Bool.and_false, Bool.and_false]
                  rfl
                have q8 : W9.cell? ⟨g8, 0, none⟩ = some (.bool false) := (blk_cell R8.out 0).trans rfl
                have f8 := blk_frozen R8.out 0
                have hq := HQQ.out
                subst hq
                clear hj hne
                go_wp2
                exact same_out w g8 false _ rfl (D2 :: D :: ds) _ (marks_set MK.out R8.out) ND.out (blk_put R8.out 0 _ rfl) (below_set B9.out GEg8.out)
            case body2 =>
              rintro lp pre x W9 ⟨⟨h14, htk, hle⟩, hk9, hB9⟩ hlt
              simp only [List.setIfInBounds_toArray, List.set_cons_zero, List.set_cons_succ]
              obtain ⟨adx, ex, hx0, hx1, hx2⟩ := at_T61 (Kd.C_below HR2.out hB9) x.1 x.2.1 x.2.2.1
              have c6 : W9.cell? ⟨g6, 0, none⟩ = some (.slice A2 l2.length c2) := (blk_cell (hk9.blk P6.out (by have := Q6.out; omega)) 0).trans rfl
              have c14 : W9.cell? ⟨g14, 0, none⟩ = some (.int .i64 (pre.length : Int)) := (blk_cell h14 0).trans rfl
              have f14 := blk_frozen h14 0
              have c12 : W9.cell? ⟨g12, 0, none⟩ = some (.slice Av ks.length cv) := (blk_cell (hk9.blk P12.out (by have := Q12.out; omega)) 0).trans rfl
              subst ex
              have p1 := eq_true x.2.1
              have p2 := eq_true x.2.2.1
              have hml : ((valsT pre).map (fun i => (rd_T61 l2 i).f0)).length = pre.length := by simp [valsT]
              have hsn : (valsT (pre ++ [x])).map (fun i => (rd_T61 l2 i).f0) = ks.take pre.length ++ [(rd_T61 l2 x.1).f0] := by rw [← htk]; simp [valsT]
              by_cases hj : pre.length = ks.length
              · have e1 : ((pre.length : Int) == (ks.length : Int)) = true := by rw [hj]; simp
                have HNP := Aside0.mk (show ¬ ((valsT (pre ++ [x])).map (fun i => (rd_T61 l2 i).f0) <+: ks) from fun h => by
                  have := h.length_le
                  rw [hsn, List.length_append, List.length_take, List.length_singleton] at this
                  omega)
                clear hj htk hml hsn h14
                have r8 := hk9.blk P8.out (by have := Q8.out; omega)
                have q8 : W9.cell? ⟨g8, 0, none⟩ = some (.bool false) := (blk_cell r8 0).trans rfl
                have f8 := blk_frozen r8 0
                have R8 := Aside0.mk r8
                have HK9 := Aside0.mk hk9
                have HB9 := Aside0.mk hB9
                clear r8 hk9 hB9
                gi_wp2
                refine quiet_in (by rfl) (by kernel_rfl) (by kernel_rfl) ?_
                repeat (go_big_quiet_step (fail))
                refine wpQuiet_nil ?_
                intro _ hw'
                obtain ⟨nq, hw''⟩ := hw'
                subst hw''
                gi_wp2
                refine ⟨⟨by simp [World.drewN], fun k o _ ho hc => (Below.heap_setCell (W9.drewN nq) ⟨g8, 0, none⟩ _ k (fun e => by rw [e, R8.out] at ho; cases ho; cases hc)).trans ho⟩, rfl, HNP.out, blk_put (blk_drewN R8.out nq) 0 _ rfl, fun k a b c => (Below.heap_setCell (W9.drewN nq) ⟨g8, 0, none⟩ _ k c).trans (HK9.out.2 k a b), by simpa [World.drewN] using HK9.out.1, below_set (pw_below_drewN HB9.out nq) GEg8.out⟩
              · have e1 : ((pre.length : Int) == (ks.length : Int)) = false := by simp; omega
                have hjl : (pre.length : Int) < (ks.length : Int) := by omega
                obtain ⟨_, _, hcm⟩ := Kd.R_reads' (hk9.R PR.out)
                obtain ⟨adm, em, hxm⟩ := Kd.at_int hcm (pre.length : Int) (by omega) hjl
                subst em
                have hjn : pre.length < ks.length := by omega
                have hrd : rd ks (pre.length : Int) = ks[pre.length] := by simp [rd, List.getD_eq_getElem?_getD, hjn]
                have p3 : (0 ≤ (pre.length : Int)) = True := eq_true (by omega)
                have p4 := eq_true hjl
                have p5 : (pre.length < ks.length) = True := eq_true hjn
                have hxm' := hxm
                rw [Int.toNat_natCast] at hxm'
                by_cases hq : rd ks (pre.length : Int) = (rd_T61 l2 x.1).f0
                · have z1 : (rd ks (pre.length : Int) != (rd_T61 l2 x.1).f0) = false := by rw [hq]; simp
                  have HT := Aside0.mk (show (valsT (pre ++ [x])).map (fun i => (rd_T61 l2 i).f0) = ks.take (pre ++ [x]).length by
                    rw [hsn, List.length_append, List.length_singleton, List.take_succ_eq_append_getElem hjn, ← hrd, hq])
                  have HL := Aside0.mk (show (pre ++ [x]).length ≤ ks.length by rw [List.length_append, List.length_singleton]; omega)
                  have H14 := Aside0.mk h14
                  have HK9 := Aside0.mk hk9
                  have HB9 := Aside0.mk hB9
                  have HJL := Aside0.mk hjn
                  clear hj htk hml hsn h14 hk9 hB9 hq hrd hle hjl hjn
                  gi_wp2
                  refine quiet_in (by rfl) (by kernel_rfl) (by kernel_rfl) ?_
                  repeat (go_big_quiet_step (fail))
                  refine wpQuiet_nil ?_
                  intro _ hw'
                  obtain ⟨nq, hw''⟩ := hw'
                  subst hw''
                  gi_wp2
                  have hle1 : ((pre ++ [x]).length : Int) = (pre.length : Int) + 1 := by rw [List.length_append, List.length_singleton]; rfl
                  have hw1 : wrap64 ((pre.length : Int) + 1) = (pre.length : Int) + 1 := by unfold wrap64; have := HL2.out; omega
                  refine ⟨⟨by simp [World.drewN], fun k o _ ho hc => (Below.heap_setCell (W9.drewN nq) ⟨g14, 0, none⟩ _ k (fun e => by rw [e, H14.out] at ho; cases ho; cases hc)).trans ho⟩, ⟨(pw_below_drewN (Below.refl w.heap.size W9) nq).setCell (p := ⟨g14, 0, none⟩) GE14.out _, Below.heap_setCell (W9.drewN nq) ⟨g14, 0, none⟩ _ b3 F3.out, Below.heap_setCell (W9.drewN nq) ⟨g14, 0, none⟩ _ b4 F4.out⟩, ⟨?_, HT.out, HL.out⟩, HK9.out.trans (by simp [World.drewN]) (fun k a b => Below.heap_setCell (W9.drewN nq) ⟨g14, 0, none⟩ _ k b), below_set (pw_below_drewN HB9.out nq) GE14.out⟩
                  rw [hle1]
                  first | exact blk_put (blk_drewN H14.out nq) 0 _ rfl | (rw [hw1]; exact blk_put (blk_drewN H14.out nq) 0 _ rfl)
                · have z1 : (rd ks (pre.length : Int) != (rd_T61 l2 x.1).f0) = true := by simp [hq]
                  have HNP := Aside0.mk (show ¬ ((valsT (pre ++ [x])).map (fun i => (rd_T61 l2 i).f0) <+: ks) from fun h => by
                    rw [hsn] at h
                    have e := List.prefix_iff_eq_take.1 h
                    rw [List.length_append, List.length_take, List.length_singleton, Nat.min_eq_left (by omega), List.take_succ_eq_append_getElem hjn] at e
                    have := List.append_cancel_left e
                    simp only [List.cons.injEq, and_true] at this
                    exact hq (by rw [hrd, this]))
                  clear hj htk hml hsn h14 hq hrd hle hjl hjn
                  have r8 := hk9.blk P8.out (by have := Q8.out; omega)
                  have q8 : W9.cell? ⟨g8, 0, none⟩ = some (.bool false) := (blk_cell r8 0).trans rfl
                  have f8 := blk_frozen r8 0
                  have R8 := Aside0.mk r8
                  have HK9 := Aside0.mk hk9
                  have HB9 := Aside0.mk hB9
                  clear r8 hk9 hB9
                  gi_wp2
                  refine quiet_in (by rfl) (by kernel_rfl) (by kernel_rfl) ?_
                  repeat (go_big_quiet_step (fail))
                  refine wpQuiet_nil ?_
                  intro _ hw'
                  obtain ⟨nq, hw''⟩ := hw'
                  subst hw''
                  gi_wp2
                  refine ⟨⟨by simp [World.drewN], fun k o _ ho hc => (Below.heap_setCell (W9.drewN nq) ⟨g8, 0, none⟩ _ k (fun e => by rw [e, R8.out] at ho; cases ho; cases hc)).trans ho⟩, rfl, HNP.out, blk_put (blk_drewN R8.out nq) 0 _ rfl, fun k a b c => (Below.heap_setCell (W9.drewN nq) ⟨g8, 0, none⟩ _ k c).trans (HK9.out.2 k a b), by simpa [World.drewN] using HK9.out.1, below_set (pw_below_drewN HB9.out nq) GEg8.out⟩
        · have hs0 : sameB l0 l1_0 l2 l3_0 = false := by
            rw [← HS.out]
            show (nodeB l0 (rd_T47 l1_0 n) l2 (rd_T47 l3_0 n) && _) = false
            unfold nodeB
            by_cases k0 : (rd_T47 l1_0 n).f0 = (rd_T47 l3_0 n).f0
            · rw [decide_eq_true k0, decide_eq_false (fun h => hkk ⟨k0, h⟩)]; rfl
            · rw [decide_eq_false k0]; rfl
          have q8 : W1.cell? ⟨g8, 0, none⟩ = some (.bool false) := (blk_cell (blk_below HK.out.2.2.2 HB1.out) 0).trans rfl
          have f8 := blk_frozen (blk_below HK.out.2.2.2 HB1.out) 0
          have hq := HQQ.out
          subst hq
          by_cases k0 : (rd_T47 l1_0 n).f0 = (rd_T47 l3_0 n).f0
          · have z0 : ((rd_T47 l1_0 n).f0 != (rd_T47 l3_0 n).f0) = false := by rw [k0]; simp
            have z3 : ((rd_T47 l1_0 n).f3 != (rd_T47 l3_0 n).f3) = true := by simp; exact fun h => hkk ⟨k0, h⟩
            clear hkk k0
            go_wp2
            exact same_out w g8 false _ rfl ds _ (marks_set (marks_below HM.out HB1.out) (blk_below HK.out.2.2.2 HB1.out)) HN.out (blk_put (blk_below HK.out.2.2.2 HB1.out) 0 _ rfl) (below_set (below_step HBW.out HB1.out) GEg8.out)
          · have z0 : ((rd_T47 l1_0 n).f0 != (rd_T47 l3_0 n).f0) = true := by simp [k0]
            clear hkk k0
            go_wp2
            exact same_out w g8 false _ rfl ds _ (marks_set (marks_below HM.out HB1.out) (blk_below HK.out.2.2.2 HB1.out)) HN.out (blk_put (blk_below HK.out.2.2.2 HB1.out) 0 _ rfl) (below_set (below_step HBW.out HB1.out) GEg8.out)
    have hsb : sameGo l0 l1_0 l2 l3_0 l1_0.length 0 = sameB l0 l1_0 l2 l3_0 := by
      unfold sameB
      rw [decide_eq_true HLE.out, Bool.true_and]
    exact key l1_0.length 0 [] _ _ _ _ _ _ _ _ _ _ _ _ _ _ _ _ _ _ _ _ _ _ _ _ _ _ _ _ _ _ _ _ _ _ _ _ _ _ _ _ _ _ _ _ _ _ _ _ _ _ _ _ _ _ _ _ _ _ _ _ _ _ _ _ _ _ _ w5 (Int.le_refl _) (by omega) hsb (fun D h => by cases h) List.nodup_nil ⟨BKg4.out, BKg6.out, BKg7.out, BKg8.out⟩ HB.out
  · have hle : ((l1_0.length : Int) != (l3_0.length : Int)) = true := by simp; omega
    have hs : sameB l0 l1_0 l2 l3_0 = false := by unfold sameB; rw [decide_eq_false hlen]; rfl
    have q8 : w5.cell? ⟨g8, 0, none⟩ = some (.bool false) := (blk_cell BKg8.out 0).trans rfl
    have f8 := blk_frozen BKg8.out 0
    clear hlen
    go_wp2
    rw [hs]
    exact same_out w g8 false _ rfl [] _ (fun D h => by cases h) List.nodup_nil (blk_put BKg8.out 0 _ rfl) (below_set HB.out GEg8.out)
end Go.Proofs.Ytodldpdnhcafpaa.F

-- A text of this session's own program (wip/myprint.sh over a changed print tool): functions and their walks
namespace Go.Proofs.Ytodldpdnhcafpaa.F
open Go.RowKit Go.Proofs.YtodldpdnhcafpaaW.PrintWords Go.Proofs.YtodldpdnhcafpaaW.PrintLast Go.Proofs.YtodldpdnhcafpaaW.PrintMore
attribute [local go_sem] max2_int min2_int max_two min_two max_three min_three max_four min_four   -- for this text's walks alone
set_option linter.unusedVariables false
set_option linter.unusedSimpArgs false

/-! ### monikerref4_token: function 63 -/
def monikerref4_token.f (a0 : Int) : Option (Bool) := if a0 = 0 then (some false) else (some (a0 != 1))
set_option maxHeartbeats 8000000 in
set_option maxRecDepth 100000 in
theorem monikerref4_token.calls (a0 : Int) (r : Bool) (w : World) (h : monikerref4_token.f a0 = some r) :
    Calls Try.prog 63 #[.int .u8 a0] w fun e w' => e = .returned (.bool r) ∧ Drawn0 w w' := by
  have H : (if a0 = 0 then (some false) else (some (a0 != 1))) = some r := h
  clear h
  by_cases c2 : a0 = 0
  · rw [if_pos c2] at H
    have c2b0 : (a0 == 0) = true := beq_iff_eq.mpr c2
    have c2b1 : (a0 != 0) = false := bne_eq_false_iff_eq.mpr c2
    clear c2
    obtain rfl := Option.some.inj H
    go_enter Try.func63, Try.ntmps63
    go_wp2
    go_ret
    exact ⟨by first | rfl | (simp; done) | (simp [*]; done), by repeat (first | exact Drawn0.refl _ | apply Drawn0.step)⟩
  · rw [if_neg c2] at H
    have c2b0 : (a0 == 0) = false := beq_eq_false_iff_ne.mpr c2
    have c2b1 : (a0 != 0) = true := bne_iff_ne.mpr c2
    obtain rfl := Option.some.inj H
    go_enter Try.func63, Try.ntmps63
    go_wp2
    go_ret
    exact ⟨by first | rfl | (simp; done) | (simp [*]; done), by repeat (first | exact Drawn0.refl _ | apply Drawn0.step)⟩

end Go.Proofs.Ytodldpdnhcafpaa.F

-- A text of this session's own program (wip/myprint.sh over a changed print tool): functions and their walks
namespace Go.Proofs.Ytodldpdnhcafpaa.F
open Go.RowKit Go.Proofs.YtodldpdnhcafpaaW.PrintWords Go.Proofs.YtodldpdnhcafpaaW.PrintLast Go.Proofs.YtodldpdnhcafpaaW.PrintMore
attribute [local go_sem] max2_int min2_int max_two min_two max_three min_three max_four min_four   -- for this text's walks alone
set_option linter.unusedVariables false
set_option linter.unusedSimpArgs false

/-! ### monikerref4_Tokens: function 54 -/
mutual
def monikerref4_Tokens.l0 : Nat → List (S61) → List Int → Int → Int → Int → Int → Int → Option (List Int)
  | 0, _, _, _, _, _, _, _ => none
  | k + 1, x0, x5, x6, x205000, x205001, x205002, x205003 => if x6 < x205002 then (monikerref4_Tokens.j1 k x0 x5 x6 (decide (x6 < (x0.length : Int))) x205000 x205001 x205002 x205003) else (monikerref4_Tokens.j1 k x0 x5 x6 false x205000 x205001 x205002 x205003)
def monikerref4_Tokens.j1 : Nat → List (S61) → List Int → Int → Bool → Int → Int → Int → Int → Option (List Int)
  | 0, _, _, _, _, _, _, _, _ => none
  | k + 1, x0, x5, x6, x19, x205000, x205001, x205002, x205003 => if x19 = true then (if 0 ≤ x6 then (if x6 < (x0.length : Int) then ((monikerref4_token.f ((rd_T61 x0 x6).f0)).bind fun t206 => (if t206 = true then (if x5.length < 17592186044416 then (monikerref4_Tokens.l0 k x0 (x5 ++ [x6]) (wrap64 (x6 + 1)) x205000 x205001 x205002 x205003) else (none)) else (monikerref4_Tokens.l0 k x0 x5 (wrap64 (x6 + 1)) x205000 x205001 x205002 x205003))) else (none)) else (none)) else (some x5)
end
def monikerref4_Tokens.f (k : Nat) (l0 : List (S61)) (a1_0 : Int) (a1_1 : Int) (a1_2 : Int) (a1_3 : Int) : Option (List Int) := monikerref4_Tokens.l0 k l0 ([] : List Int) (mx a1_1 0) a1_0 a1_1 a1_2 a1_3
set_option maxHeartbeats 8000000 in
set_option maxRecDepth 100000 in
theorem monikerref4_Tokens.calls (k : Nat) (A0 : Option Addr) (c0 : Nat) (l0 : List (S61)) (a1_0 : Int) (a1_1 : Int) (a1_2 : Int) (a1_3 : Int) (r : List Int) (w : World) (hr0 : Kd.C k61 w A0 l0.length l0) (hc0 : l0.length ≤ c0) (h : monikerref4_Tokens.f k l0 a1_0 a1_1 a1_2 a1_3 = some r) :
    Calls Try.prog 54 #[.slice A0 l0.length c0, .agg #[.int .u8 a1_0, .int .i64 a1_1, .int .i64 a1_2, .int .i64 a1_3]] w fun e w' => ∃ v0_ : Value, e = .returned (v0_) ∧ Kd.R (Kd.int .i64) 3 w' w.heap.size (fun _ => True) v0_ r ∧ Below w.heap.size w w' := by
  have hu47 := Try.underlying47
  have HR0 := Aside0.mk hr0
  have HC0 := Aside0.mk hc0
  clear hr0 hc0
  have HB := Aside0.mk (Below.refl w.heap.size w)
  have H : (monikerref4_Tokens.l0 k l0 ([] : List Int) (mx a1_1 0) a1_0 a1_1 a1_2 a1_3) = some r := h
  clear h
  obtain ⟨ji3, hji3⟩ : ∃ j_ : Int, (mx a1_1 0) = j_ := ⟨_, rfl⟩
  replace H : (monikerref4_Tokens.l0 k l0 ([] : List Int) ji3 a1_0 a1_1 a1_2 a1_3) = some r := by first | (rw [hji3] at H; exact H) | (simp only [hji3] at H ⊢; exact H)
  (try (have hji3l : 0 ≤ ji3 := by (rw [← hji3]; unfold mx; (repeat' split) <;> omega)))
  (try (have hji3m : 0 ≤ ji3 := by omega))
  have hji3_ : (if a1_1 < 0 then 0 else a1_1) = ji3 := hji3
  have H' := Aside0.mk H
  clear H
  go_enter Try.func54, Try.ntmps54
  go_wp2_with (first | ((with_reducible refine gate_dst (N := 3) rfl ?_); (try (refine gate_guard (by rfl) ?_; dsimp only)); refine box_event ?hg (N := 3) ?hd (cs := #[.int .u8 a1_0, .int .i64 a1_1, .int .i64 a1_2, .int .i64 a1_3]) (t := 47) ?hr ?_; (case hd => rfl); (case hg => rfl); (case hr => first | (go_simp; done) | (go_simp; rfl)); intro gb204 hg w4 hbox hb; have n0_ := Aside0.mk (below_step (by repeat (first | (with_reducible first | exact HB.out | apply below_alloc | apply pw_below_drewN | apply below_drew1) | exact HB.out)) hb); have n1_ := Aside0.mk (hbox); have n2_ := Aside0.mk ((by rw [hg]; exact (below_size (by repeat (first | (with_reducible first | exact HB.out | apply below_alloc | apply pw_below_drewN | apply below_drew1) | exact HB.out))) : w.heap.size ≤ gb204)); have n3_ := Aside0.mk ((by rw [hg]; exact (below_size (by repeat (first | (with_reducible first | exact HB.out | apply below_alloc | apply pw_below_drewN | apply below_drew1) | exact HB.out))) : w.heap.size ≤ gb204)); clear HB; have HB := n0_; have BK204 := n1_; have GW204 := n2_; have GE204 := n3_; clear n0_ n1_ n2_ n3_; clear hb hbox hg; have hcz5_0 : w4.cell? ⟨gb204, 0, none⟩ = some (.int .u8 a1_0) := (blk_cell BK204.out 0).trans rfl; have hcz5_1 : w4.cell? ⟨gb204, 1, none⟩ = some (.int .i64 a1_1) := (blk_cell BK204.out 1).trans rfl; have hcz5_2 : w4.cell? ⟨gb204, 2, none⟩ = some (.int .i64 a1_2) := (blk_cell BK204.out 2).trans rfl; have hcz5_3 : w4.cell? ⟨gb204, 3, none⟩ = some (.int .i64 a1_3) := (blk_cell BK204.out 3).trans rfl; have hfz5_0 := blk_frozen BK204.out 0; have hfz5_1 := blk_frozen BK204.out 1; have hfz5_2 := blk_frozen BK204.out 2; have hfz5_3 := blk_frozen BK204.out 3))
  go_loopg [5, 6] k (fun kq v5 v6 w' => ∃ (x5_1 : List Int) (x6_1 : Int), v6 = .int .i64 x6_1 ∧ Aside0 (monikerref4_Tokens.l0 kq l0 x5_1 x6_1 a1_0 a1_1 a1_2 a1_3 = some r) ∧ Aside0 (kq ≤ k) ∧ Aside0 (Kd.R (Kd.int .i64) 3 w' w.heap.size (fun _ => True) v5 x5_1) ∧ Aside0 (w'.heap[gb204]? = some (.cells #[.int .u8 a1_0, .int .i64 a1_1, .int .i64 a1_2, .int .i64 a1_3] 47 (0, 0))) ∧ Aside0 (Below w.heap.size w w'))
  case atStart => exact ⟨(([] : List Int)), (ji3), (by first | rfl | (simp; done) | (simp only [← hji3] <;> (first | rfl | simp)) | (simp [*]; done)), H', ⟨Nat.le_refl _⟩, ⟨by first | exact Kd.R_nil _ _ _ _ _ | exact Kd.N_nil _ _ _ _ _ | exact Kd.V_nil _ _ _ _ _ | exact Kd.Q_nil _ _ _ _ _ | exact Kd.S_nil _ _ _ _ _⟩, ⟨by (with_reducible repeat (first | refine blk_drewN ?_ _ | refine blk_drew ?_ | refine blk_alloc ?_ _)); exact BK204.out⟩, ⟨by repeat (first | (with_reducible first | exact HB.out | apply below_alloc | apply pw_below_drewN | apply below_drew1 | refine below_set ?_ GE204.out) | exact HB.out)⟩⟩
  case round =>
    clear H'
    try clear p2
    try clear c5
    try clear hcz5_0
    try clear hcz5_1
    try clear hcz5_2
    try clear hcz5_3
    try clear hfz5_0
    try clear hfz5_1
    try clear hfz5_2
    try clear hfz5_3
    obtain ⟨x5_1, x6_1, rfl, HA, HK1, HO_5, BK204, HB⟩ := hrel
    cases gk with
    | zero => exact absurd HA.out (by simp [monikerref4_Tokens.l0])
    | succ k1 =>
      have H := HA.out
      clear HA
      simp only [monikerref4_Tokens.l0] at H
      have HC6 := Aside0.mk H
      clear H
      go_upto_region 3 with (fail)
      go_cut [19] (fun v19 wc => ∃ (kq : Nat) (x19_5 : Bool), v19 = .bool x19_5 ∧ Aside0 (monikerref4_Tokens.j1 kq l0 x5_1 x6_1 x19_5 a1_0 a1_1 a1_2 a1_3 = some r) ∧ Aside0 (kq ≤ k1) ∧ Aside0 (Kd.R (Kd.int .i64) 3 wc w.heap.size (fun _ => True) u5 x5_1) ∧ Aside0 (wc.heap[gb204]? = some (.cells #[.int .u8 a1_0, .int .i64 a1_1, .int .i64 a1_2, .int .i64 a1_3] 47 (0, 0))) ∧ Aside0 (Below w.heap.size w wc))
      case first =>
        have H := HC6.out
        clear HC6
        by_cases c7 : x6_1 < a1_2
        · rw [if_pos c7] at H
          have c7b0 : decide (x6_1 < a1_2) = true := decide_eq_true c7
          clear c7
          (first | rw [c7b0] | (simp only [i64_w, i32_w]; rw [c7b0]) | skip)
          have H' := Aside0.mk H
          clear H
          have hcz8_0 : wr.cell? ⟨gb204, 0, none⟩ = some (.int .u8 a1_0) := (blk_cell BK204.out 0).trans rfl
          have hcz8_1 : wr.cell? ⟨gb204, 1, none⟩ = some (.int .i64 a1_1) := (blk_cell BK204.out 1).trans rfl
          have hcz8_2 : wr.cell? ⟨gb204, 2, none⟩ = some (.int .i64 a1_2) := (blk_cell BK204.out 2).trans rfl
          have hcz8_3 : wr.cell? ⟨gb204, 3, none⟩ = some (.int .i64 a1_3) := (blk_cell BK204.out 3).trans rfl
          have hfz8_0 := blk_frozen BK204.out 0
          have hfz8_1 := blk_frozen BK204.out 1
          have hfz8_2 := blk_frozen BK204.out 2
          have hfz8_3 := blk_frozen BK204.out 3
          go_wp2
          go_meet
          case rel => exact ⟨_, (decide (x6_1 < (l0.length : Int))), (by first | rfl | (simp; done) | (simp [*]; done)), H', ⟨by have := HK1.out; first | omega | exact Nat.le_refl _⟩, ⟨by (with_reducible repeat (first | apply Kd.R_alloc | apply Kd.R_drewN | apply Kd.R_drew)); exact HO_5.out⟩, ⟨by (with_reducible repeat (first | refine blk_drewN ?_ _ | refine blk_drew ?_ | refine blk_alloc ?_ _)); exact BK204.out⟩, ⟨by repeat (first | (with_reducible first | exact HB.out | apply below_alloc | apply pw_below_drewN | apply below_drew1 | refine below_set ?_ GE204.out) | exact HB.out)⟩⟩
        · rw [if_neg c7] at H
          have c7b0 : decide (x6_1 < a1_2) = false := decide_eq_false c7
          clear c7
          (first | rw [c7b0] | (simp only [i64_w, i32_w]; rw [c7b0]) | skip)
          have H' := Aside0.mk H
          clear H
          have hcz9_0 : wr.cell? ⟨gb204, 0, none⟩ = some (.int .u8 a1_0) := (blk_cell BK204.out 0).trans rfl
          have hcz9_1 : wr.cell? ⟨gb204, 1, none⟩ = some (.int .i64 a1_1) := (blk_cell BK204.out 1).trans rfl
          have hcz9_2 : wr.cell? ⟨gb204, 2, none⟩ = some (.int .i64 a1_2) := (blk_cell BK204.out 2).trans rfl
          have hcz9_3 : wr.cell? ⟨gb204, 3, none⟩ = some (.int .i64 a1_3) := (blk_cell BK204.out 3).trans rfl
          have hfz9_0 := blk_frozen BK204.out 0
          have hfz9_1 := blk_frozen BK204.out 1
          have hfz9_2 := blk_frozen BK204.out 2
          have hfz9_3 := blk_frozen BK204.out 3
          go_wp2
          go_meet
          case rel => exact ⟨_, (false), (by first | rfl | (simp; done) | (simp [*]; done)), H', ⟨by have := HK1.out; first | omega | exact Nat.le_refl _⟩, ⟨by (with_reducible repeat (first | apply Kd.R_alloc | apply Kd.R_drewN | apply Kd.R_drew)); exact HO_5.out⟩, ⟨by (with_reducible repeat (first | refine blk_drewN ?_ _ | refine blk_drew ?_ | refine blk_alloc ?_ _)); exact BK204.out⟩, ⟨by repeat (first | (with_reducible first | exact HB.out | apply below_alloc | apply pw_below_drewN | apply below_drew1 | refine below_set ?_ GE204.out) | exact HB.out)⟩⟩
      case rest =>
        clear HC6
        try clear p2
        try clear c5
        try clear c7
        try clear c7b0
        try clear hcz5_0
        try clear hcz5_1
        try clear hcz5_2
        try clear hcz5_3
        try clear hcz8_0
        try clear hcz8_1
        try clear hcz8_2
        try clear hcz8_3
        try clear hcz9_0
        try clear hcz9_1
        try clear hcz9_2
        try clear hcz9_3
        try clear hfz5_0
        try clear hfz5_1
        try clear hfz5_2
        try clear hfz5_3
        try clear hfz8_0
        try clear hfz8_1
        try clear hfz8_2
        try clear hfz8_3
        try clear hfz9_0
        try clear hfz9_1
        try clear hfz9_2
        try clear hfz9_3
        try clear p2
        obtain ⟨kq, x19_5, rfl, HA, HJ5, HO_5, BK204, HB⟩ := hcut
        cases kq with
        | zero => exact absurd HA.out (by simp [monikerref4_Tokens.j1])
        | succ kj5 =>
          have H := HA.out
          clear HA
          simp only [monikerref4_Tokens.j1] at H
          by_cases c10 : x19_5 = true
          · subst c10
            have H1 : (if 0 ≤ x6_1 then (if x6_1 < (l0.length : Int) then ((monikerref4_token.f ((rd_T61 l0 x6_1).f0)).bind fun t206 => (if t206 = true then (if x5_1.length < 17592186044416 then (monikerref4_Tokens.l0 kj5 l0 (x5_1 ++ [x6_1]) (wrap64 (x6_1 + 1)) a1_0 a1_1 a1_2 a1_3) else (none)) else (monikerref4_Tokens.l0 kj5 l0 x5_1 (wrap64 (x6_1 + 1)) a1_0 a1_1 a1_2 a1_3))) else (none)) else (none)) = some r := by rw [if_pos rfl] at H; exact H
            clear H
            have H := H1
            clear H1
            by_cases c11 : 0 ≤ x6_1
            · rw [if_pos c11] at H
              have c11b0 : decide (0 ≤ x6_1) = true := decide_eq_true c11
              clear c11
              by_cases c12 : x6_1 < (l0.length : Int)
              · rw [if_pos c12] at H
                have c12b0 : decide (x6_1 < (l0.length : Int)) = true := decide_eq_true c12
                clear c12
                replace H := Option.bind_eq_some_iff.mp H
                obtain ⟨t206, A130, H⟩ := H
                replace H : (if t206 = true then (if x5_1.length < 17592186044416 then (monikerref4_Tokens.l0 kj5 l0 (x5_1 ++ [x6_1]) (wrap64 (x6_1 + 1)) a1_0 a1_1 a1_2 a1_3) else (none)) else (monikerref4_Tokens.l0 kj5 l0 x5_1 (wrap64 (x6_1 + 1)) a1_0 a1_1 a1_2 a1_3)) = some r := H
                have A13 := Aside0.mk A130
                clear A130
                by_cases c14 : t206 = true
                · subst c14
                  have H1 : (if x5_1.length < 17592186044416 then (monikerref4_Tokens.l0 kj5 l0 (x5_1 ++ [x6_1]) (wrap64 (x6_1 + 1)) a1_0 a1_1 a1_2 a1_3) else (none)) = some r := by rw [if_pos rfl] at H; exact H
                  clear H
                  have H := H1
                  clear H1
                  by_cases c15 : x5_1.length < 17592186044416
                  · rw [if_pos c15] at H
                    have LMc15 := Aside0.mk c15
                    clear c15
                    obtain ⟨y207, hy207⟩ : ∃ y_ : List Int, y_ = (x5_1 ++ [x6_1]) := ⟨_, rfl⟩
                    replace H : (monikerref4_Tokens.l0 kj5 l0 y207 (wrap64 (x6_1 + 1)) a1_0 a1_1 a1_2 a1_3) = some r := by first | (rw [hy207]; with_reducible exact H) | (have H2_ := (Option.bind_some _ _).symm.trans H; rw [hy207]; with_reducible exact H2_) | (have H2_ := (Option.bind_some _ _).symm.trans H; with_reducible exact H2_) | with_reducible exact H | (rw [hy207]; exact H) | exact H
                    have Ny207 := Aside0.mk hy207
                    clear hy207
                    have H' := Aside0.mk H
                    clear H
                    have p205 : 0 ≤ (x6_1 : Int) := of_decide_eq_true (by first | (with_reducible assumption) | assumption)
                    have q205 : x6_1 < (l0.length : Int) := of_decide_eq_true (by first | (with_reducible assumption) | assumption)
                    obtain ⟨ad205, e205, hx205_0, hx205_1, hx205_2⟩ := at_T61 HR0.out x6_1 p205 q205
                    cases e205
                    replace hx205_0 := (HB.out.cell (World.block_lt_of_cell? w _ hx205_0)).trans hx205_0
                    replace hx205_1 := (HB.out.cell (World.block_lt_of_cell? w _ hx205_1)).trans hx205_1
                    replace hx205_2 := (HB.out.cell (World.block_lt_of_cell? w _ hx205_2)).trans hx205_2
                    replace p205 := eq_true p205
                    replace q205 := eq_true q205
                    go_wp2_with (first | ((with_reducible refine gate_callee (f := 63) rfl ?_); refine goesL_ (some 27) rfl rfl Try.func63 (by kernel_rfl) rfl #[.int .u8 ((rd_T61 l0 x6_1).f0)] rfl (by (try simp only [List.map_toArray, List.map_cons, List.map_nil]); first | done | rfl | (simp only [List.length_drop, List.length_take]; rfl)) ?_; (with_reducible refine (monikerref4_token.calls ((rd_T61 l0 x6_1).f0) true _ A13.out).mono ?_); rintro e w' ⟨rfl, ⟨nd, rfl⟩⟩; refine ⟨_, rfl, ?_⟩) | ((with_reducible refine gate_builtin (b := .append) (xs := #[.tmp 28, .tmp 30]) rfl ?_); (try (refine gate_guard (by rfl) ?_; dsimp only)); at_builtin; refine Kd.R_append (Kd.int .i64) (w0 := w) w.heap.size rfl (.tmp 28) (.tmp 30) 33 3 (.int .i64 0) 8 rfl Try.underlying33 info3 rfl (by decide) (by omega) u5 x5_1 x6_1 [.int .i64 x6_1] (fun _ => True) (fun _ => False) rfl rfl ?aP (fun _ hk => hk.elim) ?aF ?aO ?aB ?aS ?aL ?_; (case aP => exact rfl); (case aB => exact (by repeat (first | (with_reducible first | exact HB.out | apply below_alloc | apply pw_below_drewN | apply below_drew1 | refine below_set ?_ GE204.out) | exact HB.out))); (case aF => exact (fun _ _ => trivial)); (case aO => exact (by (with_reducible repeat (first | apply Kd.R_alloc | apply Kd.R_drewN | apply Kd.R_drew)); exact HO_5.out)); (case aS => exact (below_size (by repeat (first | (with_reducible first | exact HB.out | apply below_alloc | apply pw_below_drewN | apply below_drew1 | refine below_set ?_ GE204.out) | exact HB.out)))); (case aL => have := LMc15.out; omega); intro v208 w16 ho hb hg hat; rw [← Ny207.out] at ho; have n0_ := Aside0.mk (blk_grown (g := gb204) (o := .cells #[.int .u8 a1_0, .int .i64 a1_1, .int .i64 a1_2, .int .i64 a1_3] 47 (0, 0)) (by (with_reducible repeat (first | refine blk_drewN ?_ _ | refine blk_drew ?_ | refine blk_alloc ?_ _)); exact BK204.out) hg (Kd.R_ne HO_5.out BK204.out (by decide))); have n1_ := Aside0.mk (hb); have n2_ := Aside0.mk (ho); clear BK204; clear HB; clear HO_5; have BK204 := n0_; have HB := n1_; have HO209 := n2_; clear n0_ n1_ n2_; clear ho hb hg hat))
                    go_roundg kj5
                    case measure => have := HK1.out; have := HJ5.out; omega
                    case rel => exact ⟨(y207), (wrap64 (x6_1 + 1)), (by first | rfl | (simp; done) | (simp [*]; done)), H', ⟨by have := HK1.out; have := HJ5.out; omega⟩, ⟨by (with_reducible repeat (first | apply Kd.R_alloc | apply Kd.R_drewN | apply Kd.R_drew)); exact HO209.out⟩, ⟨by (with_reducible repeat (first | refine blk_drewN ?_ _ | refine blk_drew ?_ | refine blk_alloc ?_ _)); exact BK204.out⟩, ⟨by repeat (first | (with_reducible first | exact HB.out | apply below_alloc | apply pw_below_drewN | apply below_drew1 | refine below_set ?_ GE204.out) | exact HB.out)⟩⟩
                  · rw [if_neg c15] at H
                    exact absurd H (by simp)
                · replace c14 := Bool.eq_false_iff.mpr c14
                  subst c14
                  have H1 : (monikerref4_Tokens.l0 kj5 l0 x5_1 (wrap64 (x6_1 + 1)) a1_0 a1_1 a1_2 a1_3) = some r := by rw [if_neg (show ¬ (false = true) by decide)] at H; exact H
                  clear H
                  have H := H1
                  clear H1
                  have H' := Aside0.mk H
                  clear H
                  have p205 : 0 ≤ (x6_1 : Int) := of_decide_eq_true (by first | (with_reducible assumption) | assumption)
                  have q205 : x6_1 < (l0.length : Int) := of_decide_eq_true (by first | (with_reducible assumption) | assumption)
                  obtain ⟨ad205, e205, hx205_0, hx205_1, hx205_2⟩ := at_T61 HR0.out x6_1 p205 q205
                  cases e205
                  replace hx205_0 := (HB.out.cell (World.block_lt_of_cell? w _ hx205_0)).trans hx205_0
                  replace hx205_1 := (HB.out.cell (World.block_lt_of_cell? w _ hx205_1)).trans hx205_1
                  replace hx205_2 := (HB.out.cell (World.block_lt_of_cell? w _ hx205_2)).trans hx205_2
                  replace p205 := eq_true p205
                  replace q205 := eq_true q205
                  go_wp2_with (first | ((with_reducible refine gate_callee (f := 63) rfl ?_); refine goesL_ (some 27) rfl rfl Try.func63 (by kernel_rfl) rfl #[.int .u8 ((rd_T61 l0 x6_1).f0)] rfl (by (try simp only [List.map_toArray, List.map_cons, List.map_nil]); first | done | rfl | (simp only [List.length_drop, List.length_take]; rfl)) ?_; (with_reducible refine (monikerref4_token.calls ((rd_T61 l0 x6_1).f0) false _ A13.out).mono ?_); rintro e w' ⟨rfl, ⟨nd, rfl⟩⟩; refine ⟨_, rfl, ?_⟩))
                  go_roundg kj5
                  case measure => have := HK1.out; have := HJ5.out; omega
                  case rel => exact ⟨(x5_1), (wrap64 (x6_1 + 1)), (by first | rfl | (simp; done) | (simp [*]; done)), H', ⟨by have := HK1.out; have := HJ5.out; omega⟩, ⟨by (with_reducible repeat (first | apply Kd.R_alloc | apply Kd.R_drewN | apply Kd.R_drew)); exact HO_5.out⟩, ⟨by (with_reducible repeat (first | refine blk_drewN ?_ _ | refine blk_drew ?_ | refine blk_alloc ?_ _)); exact BK204.out⟩, ⟨by repeat (first | (with_reducible first | exact HB.out | apply below_alloc | apply pw_below_drewN | apply below_drew1 | refine below_set ?_ GE204.out) | exact HB.out)⟩⟩
              · rw [if_neg c12] at H
                exact absurd H (by simp)
            · rw [if_neg c11] at H
              exact absurd H (by simp)
          · replace c10 := Bool.eq_false_iff.mpr c10
            subst c10
            have H1 : (some x5_1) = some r := by rw [if_neg (show ¬ (false = true) by decide)] at H; exact H
            clear H
            have H := H1
            clear H1
            obtain rfl := Option.some.inj H
            go_wp2
            go_ret
            exact ⟨_, by first | rfl | (simp [errW_none, errW_some] <;> rfl) | (simp only [← hji3]; first | rfl | (simp [errW_none, errW_some] <;> rfl)) | (simp [*, errW_none, errW_some] <;> rfl), by (with_reducible repeat (first | apply Kd.R_alloc | apply Kd.R_drewN | apply Kd.R_drew)); exact HO_5.out, by repeat (first | (with_reducible first | exact HB.out | apply below_alloc | apply pw_below_drewN | apply below_drew1 | refine below_set ?_ GE204.out) | exact HB.out)⟩

end Go.Proofs.Ytodldpdnhcafpaa.F

-- A text of this session's own program (wip/myprint.sh over a changed print tool): functions and their walks
namespace Go.Proofs.Ytodldpdnhcafpaa.F
open Go.RowKit Go.Proofs.YtodldpdnhcafpaaW.PrintWords Go.Proofs.YtodldpdnhcafpaaW.PrintLast Go.Proofs.YtodldpdnhcafpaaW.PrintMore
attribute [local go_sem] max2_int min2_int max_two min_two max_three min_three max_four min_four   -- for this text's walks alone
set_option linter.unusedVariables false
set_option linter.unusedSimpArgs false

/-! ### monikerref4_Same: function 34 -/
mutual
def monikerref4_Same.l0 : Nat → List (S61) → List (S61) → Int → List (S47) → List (S47) → Option (Bool)
  | 0, _, _, _, _, _ => none
  | k + 1, x0, x2, x9, x240000, x241000 => if x9 < (x240000.length : Int) then (if 0 ≤ x9 then (if x9 < (x241000.length : Int) then (if ((rd_T47 x240000 x9).f0) = ((rd_T47 x241000 x9).f0) then (monikerref4_Same.j1 k x0 x2 x9 (((rd_T47 x240000 x9).f3) != ((rd_T47 x241000 x9).f3)) x240000 x241000) else (monikerref4_Same.j1 k x0 x2 x9 true x240000 x241000)) else (none)) else (none)) else (some true)
def monikerref4_Same.j1 : Nat → List (S61) → List (S61) → Int → Bool → List (S47) → List (S47) → Option (Bool)
  | 0, _, _, _, _, _, _ => none
  | k + 1, x0, x2, x9, x54, x240000, x241000 => if x54 = true then (some false) else (if 0 ≤ x9 then (if x9 < (x240000.length : Int) then ((monikerref4_Tokens.f k x0 ((rd_T47 x240000 x9).f0) ((rd_T47 x240000 x9).f1) ((rd_T47 x240000 x9).f2) ((rd_T47 x240000 x9).f3)).bind fun t246 => (if x9 < (x241000.length : Int) then ((monikerref4_Tokens.f k x2 ((rd_T47 x241000 x9).f0) ((rd_T47 x241000 x9).f1) ((rd_T47 x241000 x9).f2) ((rd_T47 x241000 x9).f3)).bind fun t250 => (if (t246.length : Int) = (t250.length : Int) then (monikerref4_Same.l1 k x0 x2 x9 t246 t250 0 x240000 x241000) else (some false))) else (none))) else (none)) else (none))
def monikerref4_Same.l1 : Nat → List (S61) → List (S61) → Int → List Int → List Int → Int → List (S47) → List (S47) → Option (Bool)
  | 0, _, _, _, _, _, _, _, _ => none
  | k + 1, x0, x2, x9, x10, x11, x12, x240000, x241000 => if x12 < (x10.length : Int) then (if 0 ≤ x12 then (if 0 ≤ (rd x10 x12) then (if (rd x10 x12) < (x0.length : Int) then (if x12 < (x11.length : Int) then (if 0 ≤ (rd x11 x12) then (if (rd x11 x12) < (x2.length : Int) then (if ((rd_T61 x0 (rd x10 x12)).f0) = ((rd_T61 x2 (rd x11 x12)).f0) then (monikerref4_Same.l1 k x0 x2 x9 x10 x11 (wrap64 (x12 + 1)) x240000 x241000) else (some false)) else (none)) else (none)) else (none)) else (none)) else (none)) else (none)) else (monikerref4_Same.l0 k x0 x2 (wrap64 (x9 + 1)) x240000 x241000)
end
def monikerref4_Same.f (k : Nat) (l0 : List (S61)) (l1_0 : List (S47)) (l2 : List (S61)) (l3_0 : List (S47)) : Option (Bool) := if (l1_0.length : Int) = (l3_0.length : Int) then (monikerref4_Same.l0 k l0 l2 0 l1_0 l3_0) else (some false)
set_option maxHeartbeats 8000000 in
set_option maxRecDepth 100000 in
theorem monikerref4_Same.calls (k : Nat) (A0 : Option Addr) (c0 : Nat) (l0 : List (S61)) (A1_0 : Option Addr) (c1_0 : Nat) (l1_0 : List (S47)) (A2 : Option Addr) (c2 : Nat) (l2 : List (S61)) (A3_0 : Option Addr) (c3_0 : Nat) (l3_0 : List (S47)) (r : Bool) (w : World) (hr0 : Kd.C k61 w A0 l0.length l0) (hc0 : l0.length ≤ c0) (hr1_0 : Kd.C k47 w A1_0 l1_0.length l1_0) (hc1_0 : l1_0.length ≤ c1_0) (hr2 : Kd.C k61 w A2 l2.length l2) (hc2 : l2.length ≤ c2) (hr3_0 : Kd.C k47 w A3_0 l3_0.length l3_0) (hc3_0 : l3_0.length ≤ c3_0) (h : monikerref4_Same.f k l0 l1_0 l2 l3_0 = some r) :
    Calls Try.prog 34 #[.slice A0 l0.length c0, .agg #[.slice A1_0 l1_0.length c1_0], .slice A2 l2.length c2, .agg #[.slice A3_0 l3_0.length c3_0]] w fun e w' => e = .returned (.bool r) ∧ Below w.heap.size w w' := by
  have hu25 := Try.underlying25
  have hu47 := Try.underlying47
  have HR0 := Aside0.mk hr0
  have HC0 := Aside0.mk hc0
  clear hr0 hc0
  have HR1_0 := Aside0.mk hr1_0
  have HC1_0 := Aside0.mk hc1_0
  clear hr1_0 hc1_0
  have HR2 := Aside0.mk hr2
  have HC2 := Aside0.mk hc2
  clear hr2 hc2
  have HR3_0 := Aside0.mk hr3_0
  have HC3_0 := Aside0.mk hc3_0
  clear hr3_0 hc3_0
  have HB := Aside0.mk (Below.refl w.heap.size w)
  have H : (if (l1_0.length : Int) = (l3_0.length : Int) then (monikerref4_Same.l0 k l0 l2 0 l1_0 l3_0) else (some false)) = some r := h
  clear h
  by_cases c5 : (l1_0.length : Int) = (l3_0.length : Int)
  · rw [if_pos c5] at H
    have c5b0 : ((l1_0.length : Int) == (l3_0.length : Int)) = true := beq_iff_eq.mpr c5
    have c5b1 : ((l1_0.length : Int) != (l3_0.length : Int)) = false := bne_eq_false_iff_eq.mpr c5
    have c5b2 : (l1_0.length == l3_0.length) = true := by first | simpa using c5 | (simp at c5 ⊢; omega)
    clear c5
    have H' := Aside0.mk H
    clear H
    go_enter Try.func34, Try.ntmps34
    go_wp2_with (first | ((with_reducible refine gate_dst (N := 5) rfl ?_); refine box_event ?hg (N := 5) ?hd (cs := #[.slice A1_0 l1_0.length c1_0]) (t := 25) ?hr ?_; (case hd => rfl); (case hg => rfl); (case hr => first | (go_simp; done) | (go_simp; rfl)); intro gb239 hg w6 hbox hb; have n0_ := Aside0.mk (below_step (by repeat (first | (with_reducible first | exact HB.out | apply below_alloc | apply pw_below_drewN | apply below_drew1) | exact HB.out)) hb); have n1_ := Aside0.mk (hbox); have n2_ := Aside0.mk ((by rw [hg]; exact (below_size (by repeat (first | (with_reducible first | exact HB.out | apply below_alloc | apply pw_below_drewN | apply below_drew1) | exact HB.out))) : w.heap.size ≤ gb239)); have n3_ := Aside0.mk ((by rw [hg]; exact (below_size (by repeat (first | (with_reducible first | exact HB.out | apply below_alloc | apply pw_below_drewN | apply below_drew1) | exact HB.out))) : w.heap.size ≤ gb239)); clear HB; have HB := n0_; have BK239 := n1_; have GW239 := n2_; have GE239 := n3_; clear n0_ n1_ n2_ n3_; clear hb hbox hg) | ((with_reducible refine gate_dst (N := 7) rfl ?_); refine box_event ?hg (N := 7) ?hd (cs := #[.slice A3_0 l3_0.length c3_0]) (t := 25) ?hr ?_; (case hd => rfl); (case hg => rfl); (case hr => first | (go_simp; done) | (go_simp; rfl)); intro gb240 hg w7 hbox hb; have n0_ := Aside0.mk (blk_below (g := gb239) (o := .cells #[.slice A1_0 l1_0.length c1_0] 25 (0, 0)) (by (with_reducible repeat (first | refine blk_drewN ?_ _ | refine blk_drew ?_ | refine blk_alloc ?_ _)); exact BK239.out) hb); have n1_ := Aside0.mk (below_step (by repeat (first | (with_reducible first | exact HB.out | apply below_alloc | apply pw_below_drewN | apply below_drew1 | refine below_set ?_ GE239.out) | exact HB.out)) hb); have n2_ := Aside0.mk (hbox); have n3_ := Aside0.mk ((by rw [hg]; exact (below_size (by repeat (first | (with_reducible first | exact HB.out | apply below_alloc | apply pw_below_drewN | apply below_drew1 | refine below_set ?_ GE239.out) | exact HB.out))) : w.heap.size ≤ gb240)); have n4_ := Aside0.mk ((by rw [hg]; exact (below_size (by repeat (first | (with_reducible first | exact HB.out | apply below_alloc | apply pw_below_drewN | apply below_drew1 | refine below_set ?_ GE239.out) | exact HB.out))) : w.heap.size ≤ gb240)); have n5_ := Aside0.mk ((by rw [hg]; exact Nat.ne_of_lt (blk_lt (g := gb239) (o := .cells #[.slice A1_0 l1_0.length c1_0] 25 (0, 0)) (by (with_reducible repeat (first | refine blk_drewN ?_ _ | refine blk_drew ?_ | refine blk_alloc ?_ _)); exact BK239.out)) : gb239 ≠ gb240)); have n6_ := Aside0.mk ((by rw [hg]; exact Nat.ne_of_gt (blk_lt (g := gb239) (o := .cells #[.slice A1_0 l1_0.length c1_0] 25 (0, 0)) (by (with_reducible repeat (first | refine blk_drewN ?_ _ | refine blk_drew ?_ | refine blk_alloc ?_ _)); exact BK239.out)) : gb240 ≠ gb239)); clear BK239; clear HB; have BK239 := n0_; have HB := n1_; have BK240 := n2_; have GW240 := n3_; have GE240 := n4_; have NB239_240 := n5_; have NB240_239 := n6_; clear n0_ n1_ n2_ n3_ n4_ n5_ n6_; clear hb hbox hg; have hnb8 := NB239_240.out; have hnc8 := NB240_239.out; have hcz9_0 : w7.cell? ⟨gb239, 0, none⟩ = some (.slice A1_0 l1_0.length c1_0) := (blk_cell BK239.out 0).trans rfl; have hfz9_0 := blk_frozen BK239.out 0; have hcz10_0 : w7.cell? ⟨gb240, 0, none⟩ = some (.slice A3_0 l3_0.length c3_0) := (blk_cell BK240.out 0).trans rfl; have hfz10_0 := blk_frozen BK240.out 0))
    repeat (go_quiet (first | ((with_reducible refine gate_dst (N := 5) rfl ?_); refine box_event ?hg (N := 5) ?hd (cs := #[.slice A1_0 l1_0.length c1_0]) (t := 25) ?hr ?_; (case hd => rfl); (case hg => rfl); (case hr => first | (go_simp; done) | (go_simp; rfl)); intro gb239 hg w6 hbox hb; have n0_ := Aside0.mk (below_step (by repeat (first | (with_reducible first | exact HB.out | apply below_alloc | apply pw_below_drewN | apply below_drew1) | exact HB.out)) hb); have n1_ := Aside0.mk (hbox); have n2_ := Aside0.mk ((by rw [hg]; exact (below_size (by repeat (first | (with_reducible first | exact HB.out | apply below_alloc | apply pw_below_drewN | apply below_drew1) | exact HB.out))) : w.heap.size ≤ gb239)); have n3_ := Aside0.mk ((by rw [hg]; exact (below_size (by repeat (first | (with_reducible first | exact HB.out | apply below_alloc | apply pw_below_drewN | apply below_drew1) | exact HB.out))) : w.heap.size ≤ gb239)); clear HB; have HB := n0_; have BK239 := n1_; have GW239 := n2_; have GE239 := n3_; clear n0_ n1_ n2_ n3_; clear hb hbox hg) | ((with_reducible refine gate_dst (N := 7) rfl ?_); refine box_event ?hg (N := 7) ?hd (cs := #[.slice A3_0 l3_0.length c3_0]) (t := 25) ?hr ?_; (case hd => rfl); (case hg => rfl); (case hr => first | (go_simp; done) | (go_simp; rfl)); intro gb240 hg w7 hbox hb; have n0_ := Aside0.mk (blk_below (g := gb239) (o := .cells #[.slice A1_0 l1_0.length c1_0] 25 (0, 0)) (by (with_reducible repeat (first | refine blk_drewN ?_ _ | refine blk_drew ?_ | refine blk_alloc ?_ _)); exact BK239.out) hb); have n1_ := Aside0.mk (below_step (by repeat (first | (with_reducible first | exact HB.out | apply below_alloc | apply pw_below_drewN | apply below_drew1 | refine below_set ?_ GE239.out) | exact HB.out)) hb); have n2_ := Aside0.mk (hbox); have n3_ := Aside0.mk ((by rw [hg]; exact (below_size (by repeat (first | (with_reducible first | exact HB.out | apply below_alloc | apply pw_below_drewN | apply below_drew1 | refine below_set ?_ GE239.out) | exact HB.out))) : w.heap.size ≤ gb240)); have n4_ := Aside0.mk ((by rw [hg]; exact (below_size (by repeat (first | (with_reducible first | exact HB.out | apply below_alloc | apply pw_below_drewN | apply below_drew1 | refine below_set ?_ GE239.out) | exact HB.out))) : w.heap.size ≤ gb240)); have n5_ := Aside0.mk ((by rw [hg]; exact Nat.ne_of_lt (blk_lt (g := gb239) (o := .cells #[.slice A1_0 l1_0.length c1_0] 25 (0, 0)) (by (with_reducible repeat (first | refine blk_drewN ?_ _ | refine blk_drew ?_ | refine blk_alloc ?_ _)); exact BK239.out)) : gb239 ≠ gb240)); have n6_ := Aside0.mk ((by rw [hg]; exact Nat.ne_of_gt (blk_lt (g := gb239) (o := .cells #[.slice A1_0 l1_0.length c1_0] 25 (0, 0)) (by (with_reducible repeat (first | refine blk_drewN ?_ _ | refine blk_drew ?_ | refine blk_alloc ?_ _)); exact BK239.out)) : gb240 ≠ gb239)); clear BK239; clear HB; have BK239 := n0_; have HB := n1_; have BK240 := n2_; have GW240 := n3_; have GE240 := n4_; have NB239_240 := n5_; have NB240_239 := n6_; clear n0_ n1_ n2_ n3_ n4_ n5_ n6_; clear hb hbox hg; have hnb8 := NB239_240.out; have hnc8 := NB240_239.out; have hcz9_0 : w7.cell? ⟨gb239, 0, none⟩ = some (.slice A1_0 l1_0.length c1_0) := (blk_cell BK239.out 0).trans rfl; have hfz9_0 := blk_frozen BK239.out 0; have hcz10_0 : w7.cell? ⟨gb240, 0, none⟩ = some (.slice A3_0 l3_0.length c3_0) := (blk_cell BK240.out 0).trans rfl; have hfz10_0 := blk_frozen BK240.out 0)); try go_wp2_with (first | ((with_reducible refine gate_dst (N := 5) rfl ?_); refine box_event ?hg (N := 5) ?hd (cs := #[.slice A1_0 l1_0.length c1_0]) (t := 25) ?hr ?_; (case hd => rfl); (case hg => rfl); (case hr => first | (go_simp; done) | (go_simp; rfl)); intro gb239 hg w6 hbox hb; have n0_ := Aside0.mk (below_step (by repeat (first | (with_reducible first | exact HB.out | apply below_alloc | apply pw_below_drewN | apply below_drew1) | exact HB.out)) hb); have n1_ := Aside0.mk (hbox); have n2_ := Aside0.mk ((by rw [hg]; exact (below_size (by repeat (first | (with_reducible first | exact HB.out | apply below_alloc | apply pw_below_drewN | apply below_drew1) | exact HB.out))) : w.heap.size ≤ gb239)); have n3_ := Aside0.mk ((by rw [hg]; exact (below_size (by repeat (first | (with_reducible first | exact HB.out | apply below_alloc | apply pw_below_drewN | apply below_drew1) | exact HB.out))) : w.heap.size ≤ gb239)); clear HB; have HB := n0_; have BK239 := n1_; have GW239 := n2_; have GE239 := n3_; clear n0_ n1_ n2_ n3_; clear hb hbox hg) | ((with_reducible refine gate_dst (N := 7) rfl ?_); refine box_event ?hg (N := 7) ?hd (cs := #[.slice A3_0 l3_0.length c3_0]) (t := 25) ?hr ?_; (case hd => rfl); (case hg => rfl); (case hr => first | (go_simp; done) | (go_simp; rfl)); intro gb240 hg w7 hbox hb; have n0_ := Aside0.mk (blk_below (g := gb239) (o := .cells #[.slice A1_0 l1_0.length c1_0] 25 (0, 0)) (by (with_reducible repeat (first | refine blk_drewN ?_ _ | refine blk_drew ?_ | refine blk_alloc ?_ _)); exact BK239.out) hb); have n1_ := Aside0.mk (below_step (by repeat (first | (with_reducible first | exact HB.out | apply below_alloc | apply pw_below_drewN | apply below_drew1 | refine below_set ?_ GE239.out) | exact HB.out)) hb); have n2_ := Aside0.mk (hbox); have n3_ := Aside0.mk ((by rw [hg]; exact (below_size (by repeat (first | (with_reducible first | exact HB.out | apply below_alloc | apply pw_below_drewN | apply below_drew1 | refine below_set ?_ GE239.out) | exact HB.out))) : w.heap.size ≤ gb240)); have n4_ := Aside0.mk ((by rw [hg]; exact (below_size (by repeat (first | (with_reducible first | exact HB.out | apply below_alloc | apply pw_below_drewN | apply below_drew1 | refine below_set ?_ GE239.out) | exact HB.out))) : w.heap.size ≤ gb240)); have n5_ := Aside0.mk ((by rw [hg]; exact Nat.ne_of_lt (blk_lt (g := gb239) (o := .cells #[.slice A1_0 l1_0.length c1_0] 25 (0, 0)) (by (with_reducible repeat (first | refine blk_drewN ?_ _ | refine blk_drew ?_ | refine blk_alloc ?_ _)); exact BK239.out)) : gb239 ≠ gb240)); have n6_ := Aside0.mk ((by rw [hg]; exact Nat.ne_of_gt (blk_lt (g := gb239) (o := .cells #[.slice A1_0 l1_0.length c1_0] 25 (0, 0)) (by (with_reducible repeat (first | refine blk_drewN ?_ _ | refine blk_drew ?_ | refine blk_alloc ?_ _)); exact BK239.out)) : gb240 ≠ gb239)); clear BK239; clear HB; have BK239 := n0_; have HB := n1_; have BK240 := n2_; have GW240 := n3_; have GE240 := n4_; have NB239_240 := n5_; have NB240_239 := n6_; clear n0_ n1_ n2_ n3_ n4_ n5_ n6_; clear hb hbox hg; have hnb8 := NB239_240.out; have hnc8 := NB240_239.out; have hcz9_0 : w7.cell? ⟨gb239, 0, none⟩ = some (.slice A1_0 l1_0.length c1_0) := (blk_cell BK239.out 0).trans rfl; have hfz9_0 := blk_frozen BK239.out 0; have hcz10_0 : w7.cell? ⟨gb240, 0, none⟩ = some (.slice A3_0 l3_0.length c3_0) := (blk_cell BK240.out 0).trans rfl; have hfz10_0 := blk_frozen BK240.out 0)))
    go_loopg [9] k (fun kq v9 w' => ∃ (x9_1 : Int), v9 = .int .i64 x9_1 ∧ Aside0 (monikerref4_Same.l0 kq l0 l2 x9_1 l1_0 l3_0 = some r) ∧ Aside0 (kq ≤ k) ∧ Aside0 (w'.heap[gb239]? = some (.cells #[(.slice A1_0 l1_0.length c1_0)] 25 (0, 0))) ∧ Aside0 (w'.heap[gb240]? = some (.cells #[(.slice A3_0 l3_0.length c3_0)] 25 (0, 0))) ∧ Aside0 (Below w.heap.size w w'))
    case atStart => exact ⟨(0), (by first | rfl | (simp; done) | (simp [*]; done)), H', ⟨Nat.le_refl _⟩, ⟨by (with_reducible repeat (first | refine blk_drewN ?_ _ | refine blk_drew ?_ | refine blk_alloc ?_ _)); exact BK239.out⟩, ⟨by (with_reducible repeat (first | refine blk_drewN ?_ _ | refine blk_drew ?_ | refine blk_alloc ?_ _)); exact BK240.out⟩, ⟨by repeat (first | (with_reducible first | exact HB.out | apply below_alloc | apply pw_below_drewN | apply below_drew1 | refine below_set ?_ GE239.out | refine below_set ?_ GE240.out) | exact HB.out)⟩⟩
    case round =>
      clear H'
      try clear c1
      try clear c2
      try clear p2
      try clear c3
      try clear c5
      try clear c5b0
      try clear c5b1
      try clear c5b2
      try clear c8
      try clear hcz10_0
      try clear hcz9_0
      try clear hfz10_0
      try clear hfz9_0
      obtain ⟨x9_1, rfl, HA, HK1, BK239, BK240, HB⟩ := hrel
      cases gk with
      | zero => exact absurd HA.out (by simp [monikerref4_Same.l0])
      | succ k1 =>
        have H := HA.out
        clear HA
        simp only [monikerref4_Same.l0] at H
        by_cases c11 : x9_1 < (l1_0.length : Int)
        · rw [if_pos c11] at H
          have c11b0 : decide (x9_1 < (l1_0.length : Int)) = true := decide_eq_true c11
          clear c11
          have HC12 := Aside0.mk H
          clear H
          have hnb13 := NB239_240.out
          have hnc13 := NB240_239.out
          have hcz14_0 : wr.cell? ⟨gb239, 0, none⟩ = some (.slice A1_0 l1_0.length c1_0) := (blk_cell BK239.out 0).trans rfl
          have hfz14_0 := blk_frozen BK239.out 0
          go_upto_region 6 with (fail)
          repeat (go_quiet (fail); go_upto_region 6 with (fail))
          go_cut [54] (fun v54 wc => ∃ (kq : Nat) (x54_11 : Bool), v54 = .bool x54_11 ∧ Aside0 (monikerref4_Same.j1 kq l0 l2 x9_1 x54_11 l1_0 l3_0 = some r) ∧ Aside0 (kq ≤ k1) ∧ Aside0 (wc.heap[gb239]? = some (.cells #[(.slice A1_0 l1_0.length c1_0)] 25 (0, 0))) ∧ Aside0 (wc.heap[gb240]? = some (.cells #[(.slice A3_0 l3_0.length c3_0)] 25 (0, 0))) ∧ Aside0 (Below w.heap.size w wc))
          case first =>
            have H := HC12.out
            clear HC12
            by_cases c15 : 0 ≤ x9_1
            · rw [if_pos c15] at H
              have c15b0 : decide (0 ≤ x9_1) = true := decide_eq_true c15
              clear c15
              (first | rw [c15b0] | (simp only [i64_w, i32_w]; rw [c15b0]) | skip)
              by_cases c16 : x9_1 < (l3_0.length : Int)
              · rw [if_pos c16] at H
                have c16b0 : decide (x9_1 < (l3_0.length : Int)) = true := decide_eq_true c16
                clear c16
                by_cases c17 : ((rd_T47 l1_0 x9_1).f0) = ((rd_T47 l3_0 x9_1).f0)
                · rw [if_pos c17] at H
                  have c17b0 : (((rd_T47 l1_0 x9_1).f0) == ((rd_T47 l3_0 x9_1).f0)) = true := beq_iff_eq.mpr c17
                  have c17b1 : (((rd_T47 l1_0 x9_1).f0) != ((rd_T47 l3_0 x9_1).f0)) = false := bne_eq_false_iff_eq.mpr c17
                  clear c17
                  have H' := Aside0.mk H
                  clear H
                  have hnb18 := NB239_240.out
                  have hnc18 := NB240_239.out
                  have hcz19_0 : wr.cell? ⟨gb239, 0, none⟩ = some (.slice A1_0 l1_0.length c1_0) := (blk_cell BK239.out 0).trans rfl
                  have hfz19_0 := blk_frozen BK239.out 0
                  have p241 : 0 ≤ (x9_1 : Int) := of_decide_eq_true (by first | (with_reducible assumption) | assumption)
                  have q241 : x9_1 < (l1_0.length : Int) := of_decide_eq_true (by first | (with_reducible assumption) | assumption)
                  obtain ⟨ad241, e241, hx241_0, hx241_1, hx241_2, hx241_3⟩ := at_T47 HR1_0.out x9_1 p241 q241
                  cases e241
                  replace hx241_0 := (HB.out.cell (World.block_lt_of_cell? w _ hx241_0)).trans hx241_0
                  replace hx241_1 := (HB.out.cell (World.block_lt_of_cell? w _ hx241_1)).trans hx241_1
                  replace hx241_2 := (HB.out.cell (World.block_lt_of_cell? w _ hx241_2)).trans hx241_2
                  replace hx241_3 := (HB.out.cell (World.block_lt_of_cell? w _ hx241_3)).trans hx241_3
                  replace p241 := eq_true p241
                  replace q241 := eq_true q241
                  have hcz20_0 : wr.cell? ⟨gb240, 0, none⟩ = some (.slice A3_0 l3_0.length c3_0) := (blk_cell BK240.out 0).trans rfl
                  have hfz20_0 := blk_frozen BK240.out 0
                  have p242 : 0 ≤ (x9_1 : Int) := of_decide_eq_true (by first | (with_reducible assumption) | assumption)
                  have q242 : x9_1 < (l3_0.length : Int) := of_decide_eq_true (by first | (with_reducible assumption) | assumption)
                  obtain ⟨ad242, e242, hx242_0, hx242_1, hx242_2, hx242_3⟩ := at_T47 HR3_0.out x9_1 p242 q242
                  cases e242
                  replace hx242_0 := (HB.out.cell (World.block_lt_of_cell? w _ hx242_0)).trans hx242_0
                  replace hx242_1 := (HB.out.cell (World.block_lt_of_cell? w _ hx242_1)).trans hx242_1
                  replace hx242_2 := (HB.out.cell (World.block_lt_of_cell? w _ hx242_2)).trans hx242_2
                  replace hx242_3 := (HB.out.cell (World.block_lt_of_cell? w _ hx242_3)).trans hx242_3
                  replace p242 := eq_true p242
                  replace q242 := eq_true q242
                  have p243 : 0 ≤ (x9_1 : Int) := of_decide_eq_true (by first | (with_reducible assumption) | assumption)
                  have q243 : x9_1 < (l1_0.length : Int) := of_decide_eq_true (by first | (with_reducible assumption) | assumption)
                  obtain ⟨ad243, e243, hx243_0, hx243_1, hx243_2, hx243_3⟩ := at_T47 HR1_0.out x9_1 p243 q243
                  obtain rfl : ad241 = ad243 := (by injection e243)
                  replace hx243_0 := (HB.out.cell (World.block_lt_of_cell? w _ hx243_0)).trans hx243_0
                  replace hx243_1 := (HB.out.cell (World.block_lt_of_cell? w _ hx243_1)).trans hx243_1
                  replace hx243_2 := (HB.out.cell (World.block_lt_of_cell? w _ hx243_2)).trans hx243_2
                  replace hx243_3 := (HB.out.cell (World.block_lt_of_cell? w _ hx243_3)).trans hx243_3
                  replace p243 := eq_true p243
                  replace q243 := eq_true q243
                  have p244 : 0 ≤ (x9_1 : Int) := of_decide_eq_true (by first | (with_reducible assumption) | assumption)
                  have q244 : x9_1 < (l3_0.length : Int) := of_decide_eq_true (by first | (with_reducible assumption) | assumption)
                  obtain ⟨ad244, e244, hx244_0, hx244_1, hx244_2, hx244_3⟩ := at_T47 HR3_0.out x9_1 p244 q244
                  obtain rfl : ad242 = ad244 := (by injection e244)
                  replace hx244_0 := (HB.out.cell (World.block_lt_of_cell? w _ hx244_0)).trans hx244_0
                  replace hx244_1 := (HB.out.cell (World.block_lt_of_cell? w _ hx244_1)).trans hx244_1
                  replace hx244_2 := (HB.out.cell (World.block_lt_of_cell? w _ hx244_2)).trans hx244_2
                  replace hx244_3 := (HB.out.cell (World.block_lt_of_cell? w _ hx244_3)).trans hx244_3
                  replace p244 := eq_true p244
                  replace q244 := eq_true q244
                  go_wp2
                  repeat (go_quiet (fail); try go_wp2)
                  go_meet
                  case rel => exact ⟨_, ((((rd_T47 l1_0 x9_1).f3) != ((rd_T47 l3_0 x9_1).f3))), (by first | rfl | (simp; done) | (simp [*]; done)), H', ⟨by have := HK1.out; first | omega | exact Nat.le_refl _⟩, ⟨by (with_reducible repeat (first | refine blk_drewN ?_ _ | refine blk_drew ?_ | refine blk_alloc ?_ _)); exact BK239.out⟩, ⟨by (with_reducible repeat (first | refine blk_drewN ?_ _ | refine blk_drew ?_ | refine blk_alloc ?_ _)); exact BK240.out⟩, ⟨by repeat (first | (with_reducible first | exact HB.out | apply below_alloc | apply pw_below_drewN | apply below_drew1 | refine below_set ?_ GE239.out | refine below_set ?_ GE240.out) | exact HB.out)⟩⟩
                · rw [if_neg c17] at H
                  have c17b0 : (((rd_T47 l1_0 x9_1).f0) == ((rd_T47 l3_0 x9_1).f0)) = false := beq_eq_false_iff_ne.mpr c17
                  have c17b1 : (((rd_T47 l1_0 x9_1).f0) != ((rd_T47 l3_0 x9_1).f0)) = true := bne_iff_ne.mpr c17
                  have H' := Aside0.mk H
                  clear H
                  have hnb21 := NB239_240.out
                  have hnc21 := NB240_239.out
                  have hcz22_0 : wr.cell? ⟨gb239, 0, none⟩ = some (.slice A1_0 l1_0.length c1_0) := (blk_cell BK239.out 0).trans rfl
                  have hfz22_0 := blk_frozen BK239.out 0
                  have p241 : 0 ≤ (x9_1 : Int) := of_decide_eq_true (by first | (with_reducible assumption) | assumption)
                  have q241 : x9_1 < (l1_0.length : Int) := of_decide_eq_true (by first | (with_reducible assumption) | assumption)
                  obtain ⟨ad241, e241, hx241_0, hx241_1, hx241_2, hx241_3⟩ := at_T47 HR1_0.out x9_1 p241 q241
                  cases e241
                  replace hx241_0 := (HB.out.cell (World.block_lt_of_cell? w _ hx241_0)).trans hx241_0
                  replace hx241_1 := (HB.out.cell (World.block_lt_of_cell? w _ hx241_1)).trans hx241_1
                  replace hx241_2 := (HB.out.cell (World.block_lt_of_cell? w _ hx241_2)).trans hx241_2
                  replace hx241_3 := (HB.out.cell (World.block_lt_of_cell? w _ hx241_3)).trans hx241_3
                  replace p241 := eq_true p241
                  replace q241 := eq_true q241
                  have hcz23_0 : wr.cell? ⟨gb240, 0, none⟩ = some (.slice A3_0 l3_0.length c3_0) := (blk_cell BK240.out 0).trans rfl
                  have hfz23_0 := blk_frozen BK240.out 0
                  have p242 : 0 ≤ (x9_1 : Int) := of_decide_eq_true (by first | (with_reducible assumption) | assumption)
                  have q242 : x9_1 < (l3_0.length : Int) := of_decide_eq_true (by first | (with_reducible assumption) | assumption)
                  obtain ⟨ad242, e242, hx242_0, hx242_1, hx242_2, hx242_3⟩ := at_T47 HR3_0.out x9_1 p242 q242
                  cases e242
                  replace hx242_0 := (HB.out.cell (World.block_lt_of_cell? w _ hx242_0)).trans hx242_0
                  replace hx242_1 := (HB.out.cell (World.block_lt_of_cell? w _ hx242_1)).trans hx242_1
                  replace hx242_2 := (HB.out.cell (World.block_lt_of_cell? w _ hx242_2)).trans hx242_2
                  replace hx242_3 := (HB.out.cell (World.block_lt_of_cell? w _ hx242_3)).trans hx242_3
                  replace p242 := eq_true p242
                  replace q242 := eq_true q242
                  go_wp2
                  repeat (go_quiet (fail); try go_wp2)
                  go_meet
                  case rel => exact ⟨_, (true), (by first | rfl | (simp; done) | (simp [*]; done)), H', ⟨by have := HK1.out; first | omega | exact Nat.le_refl _⟩, ⟨by (with_reducible repeat (first | refine blk_drewN ?_ _ | refine blk_drew ?_ | refine blk_alloc ?_ _)); exact BK239.out⟩, ⟨by (with_reducible repeat (first | refine blk_drewN ?_ _ | refine blk_drew ?_ | refine blk_alloc ?_ _)); exact BK240.out⟩, ⟨by repeat (first | (with_reducible first | exact HB.out | apply below_alloc | apply pw_below_drewN | apply below_drew1 | refine below_set ?_ GE239.out | refine below_set ?_ GE240.out) | exact HB.out)⟩⟩
              · rw [if_neg c16] at H
                exact absurd H (by simp)
            · rw [if_neg c15] at H
              exact absurd H (by simp)
          case rest =>
            clear HC12
            try clear c1
            try clear c2
            try clear p2
            try clear q2
            try clear hx2
            try clear c3
            try clear c5
            try clear c5b0
            try clear c5b1
            try clear c5b2
            try clear c8
            try clear c11
            try clear c11b0
            try clear c13
            try clear c15
            try clear c15b0
            try clear c16
            try clear c16b0
            try clear c17
            try clear c17b0
            try clear c17b1
            try clear c18
            try clear c21
            try clear hcz10_0
            try clear hcz14_0
            try clear hcz19_0
            try clear hcz20_0
            try clear hcz22_0
            try clear hcz23_0
            try clear hcz9_0
            try clear hfz10_0
            try clear hfz14_0
            try clear hfz19_0
            try clear hfz20_0
            try clear hfz22_0
            try clear hfz23_0
            try clear hfz9_0
            try clear hx241_0
            try clear hx241_1
            try clear hx241_2
            try clear hx241_3
            try clear hx242_0
            try clear hx242_1
            try clear hx242_2
            try clear hx242_3
            try clear hx243_0
            try clear hx243_1
            try clear hx243_2
            try clear hx243_3
            try clear hx244_0
            try clear hx244_1
            try clear hx244_2
            try clear hx244_3
            try clear p2
            try clear p241
            try clear p242
            try clear p243
            try clear p244
            try clear q241
            try clear q242
            try clear q243
            try clear q244
            obtain ⟨kq, x54_11, rfl, HA, HJ11, BK239, BK240, HB⟩ := hcut
            cases kq with
            | zero => exact absurd HA.out (by simp [monikerref4_Same.j1])
            | succ kj11 =>
              have H := HA.out
              clear HA
              simp only [monikerref4_Same.j1] at H
              by_cases c24 : x54_11 = true
              · subst c24
                have H1 : (some false) = some r := by rw [if_pos rfl] at H; exact H
                clear H
                have H := H1
                clear H1
                obtain rfl := Option.some.inj H
                go_wp2
                repeat (go_quiet (fail); try go_wp2)
                go_ret
                exact ⟨by first | rfl | (simp [errW_none, errW_some] <;> rfl) | (simp [*, errW_none, errW_some] <;> rfl), by repeat (first | (with_reducible first | exact HB.out | apply below_alloc | apply pw_below_drewN | apply below_drew1 | refine below_set ?_ GE239.out | refine below_set ?_ GE240.out) | exact HB.out)⟩
              · replace c24 := Bool.eq_false_iff.mpr c24
                subst c24
                have H1 : (if 0 ≤ x9_1 then (if x9_1 < (l1_0.length : Int) then ((monikerref4_Tokens.f kj11 l0 ((rd_T47 l1_0 x9_1).f0) ((rd_T47 l1_0 x9_1).f1) ((rd_T47 l1_0 x9_1).f2) ((rd_T47 l1_0 x9_1).f3)).bind fun t246 => (if x9_1 < (l3_0.length : Int) then ((monikerref4_Tokens.f kj11 l2 ((rd_T47 l3_0 x9_1).f0) ((rd_T47 l3_0 x9_1).f1) ((rd_T47 l3_0 x9_1).f2) ((rd_T47 l3_0 x9_1).f3)).bind fun t250 => (if (t246.length : Int) = (t250.length : Int) then (monikerref4_Same.l1 kj11 l0 l2 x9_1 t246 t250 0 l1_0 l3_0) else (some false))) else (none))) else (none)) else (none)) = some r := by rw [if_neg (show ¬ (false = true) by decide)] at H; exact H
                clear H
                have H := H1
                clear H1
                by_cases c25 : 0 ≤ x9_1
                · rw [if_pos c25] at H
                  have c25b0 : decide (0 ≤ x9_1) = true := decide_eq_true c25
                  clear c25
                  by_cases c26 : x9_1 < (l1_0.length : Int)
                  · rw [if_pos c26] at H
                    have c26b0 : decide (x9_1 < (l1_0.length : Int)) = true := decide_eq_true c26
                    clear c26
                    replace H := Option.bind_eq_some_iff.mp H
                    obtain ⟨t246, A270, H⟩ := H
                    replace H : (if x9_1 < (l3_0.length : Int) then ((monikerref4_Tokens.f kj11 l2 ((rd_T47 l3_0 x9_1).f0) ((rd_T47 l3_0 x9_1).f1) ((rd_T47 l3_0 x9_1).f2) ((rd_T47 l3_0 x9_1).f3)).bind fun t250 => (if (t246.length : Int) = (t250.length : Int) then (monikerref4_Same.l1 kj11 l0 l2 x9_1 t246 t250 0 l1_0 l3_0) else (some false))) else (none)) = some r := H
                    have A27 := Aside0.mk A270
                    clear A270
                    by_cases c28 : x9_1 < (l3_0.length : Int)
                    · rw [if_pos c28] at H
                      have c28b0 : decide (x9_1 < (l3_0.length : Int)) = true := decide_eq_true c28
                      clear c28
                      replace H := Option.bind_eq_some_iff.mp H
                      obtain ⟨t250, A290, H⟩ := H
                      replace H : (if (t246.length : Int) = (t250.length : Int) then (monikerref4_Same.l1 kj11 l0 l2 x9_1 t246 t250 0 l1_0 l3_0) else (some false)) = some r := H
                      have A29 := Aside0.mk A290
                      clear A290
                      by_cases c30 : (t246.length : Int) = (t250.length : Int)
                      · rw [if_pos c30] at H
                        have c30b0 : ((t246.length : Int) == (t250.length : Int)) = true := beq_iff_eq.mpr c30
                        have c30b1 : ((t246.length : Int) != (t250.length : Int)) = false := bne_eq_false_iff_eq.mpr c30
                        have c30b2 : (t246.length == t250.length) = true := by first | simpa using c30 | (simp at c30 ⊢; omega)
                        clear c30
                        have H' := Aside0.mk H
                        clear H
                        have hnb31 := NB239_240.out
                        have hnc31 := NB240_239.out
                        have hcz32_0 : wc.cell? ⟨gb239, 0, none⟩ = some (.slice A1_0 l1_0.length c1_0) := (blk_cell BK239.out 0).trans rfl
                        have hfz32_0 := blk_frozen BK239.out 0
                        have p245 : 0 ≤ (x9_1 : Int) := of_decide_eq_true (by first | (with_reducible assumption) | assumption)
                        have q245 : x9_1 < (l1_0.length : Int) := of_decide_eq_true (by first | (with_reducible assumption) | assumption)
                        obtain ⟨ad245, e245, hx245_0, hx245_1, hx245_2, hx245_3⟩ := at_T47 HR1_0.out x9_1 p245 q245
                        cases e245
                        replace hx245_0 := (HB.out.cell (World.block_lt_of_cell? w _ hx245_0)).trans hx245_0
                        replace hx245_1 := (HB.out.cell (World.block_lt_of_cell? w _ hx245_1)).trans hx245_1
                        replace hx245_2 := (HB.out.cell (World.block_lt_of_cell? w _ hx245_2)).trans hx245_2
                        replace hx245_3 := (HB.out.cell (World.block_lt_of_cell? w _ hx245_3)).trans hx245_3
                        replace p245 := eq_true p245
                        replace q245 := eq_true q245
                        go_wp2_with (first | (go_at_call 54; (with_reducible refine (monikerref4_Tokens.calls kj11 _ _ l0 ((rd_T47 l1_0 x9_1).f0) ((rd_T47 l1_0 x9_1).f1) ((rd_T47 l1_0 x9_1).f2) ((rd_T47 l1_0 x9_1).f3) t246 _ ?side1 ?side2 A27.out).mono ?_); (case side1 => repeat (first | exact (Kd.C_below HR0.out HB.out) | (with_reducible refine Kd.C_alloc ?_ _) | (with_reducible refine Kd.C_drewN ?_ _) | (with_reducible refine Kd.C_drew ?_))); (case side2 => exact HC0.out); rintro e w33 ⟨v247, rfl, ho0, hb⟩; have n0_ := Aside0.mk (Kd.R_lower ho0 (below_size (by repeat (first | (with_reducible first | exact HB.out | apply below_alloc | apply pw_below_drewN | apply below_drew1 | refine below_set ?_ GE239.out | refine below_set ?_ GE240.out) | exact HB.out)))); have n1_ := Aside0.mk (blk_below (g := gb239) (o := .cells #[.slice (some ad245) l1_0.length c1_0] 25 (0, 0)) (by (with_reducible repeat (first | refine blk_drewN ?_ _ | refine blk_drew ?_ | refine blk_alloc ?_ _)); exact BK239.out) hb); have n2_ := Aside0.mk (blk_below (g := gb240) (o := .cells #[.slice A3_0 l3_0.length c3_0] 25 (0, 0)) (by (with_reducible repeat (first | refine blk_drewN ?_ _ | refine blk_drew ?_ | refine blk_alloc ?_ _)); exact BK240.out) hb); have n3_ := Aside0.mk (below_step (by repeat (first | (with_reducible first | exact HB.out | apply below_alloc | apply pw_below_drewN | apply below_drew1 | refine below_set ?_ GE239.out | refine below_set ?_ GE240.out) | exact HB.out)) hb); clear BK239; clear BK240; clear HB; have HO248 := n0_; have BK239 := n1_; have BK240 := n2_; have HB := n3_; clear n0_ n1_ n2_ n3_; (try clear hb); (try clear hb2); (try clear hk); (try clear hi); (try clear ho0); have hcz34_0 : w33.cell? ⟨gb240, 0, none⟩ = some (.slice A3_0 l3_0.length c3_0) := (blk_cell BK240.out 0).trans rfl; have hfz34_0 := blk_frozen BK240.out 0; have p249 : 0 ≤ (x9_1 : Int) := of_decide_eq_true (by first | (with_reducible assumption) | assumption); have q249 : x9_1 < (l3_0.length : Int) := of_decide_eq_true (by first | (with_reducible assumption) | assumption); obtain ⟨ad249, e249, hx249_0, hx249_1, hx249_2, hx249_3⟩ := at_T47 HR3_0.out x9_1 p249 q249; cases e249; replace hx249_0 := (HB.out.cell (World.block_lt_of_cell? w _ hx249_0)).trans hx249_0; replace hx249_1 := (HB.out.cell (World.block_lt_of_cell? w _ hx249_1)).trans hx249_1; replace hx249_2 := (HB.out.cell (World.block_lt_of_cell? w _ hx249_2)).trans hx249_2; replace hx249_3 := (HB.out.cell (World.block_lt_of_cell? w _ hx249_3)).trans hx249_3; replace p249 := eq_true p249; replace q249 := eq_true q249) | (go_at_call 54; (with_reducible refine (monikerref4_Tokens.calls kj11 _ _ l2 ((rd_T47 l3_0 x9_1).f0) ((rd_T47 l3_0 x9_1).f1) ((rd_T47 l3_0 x9_1).f2) ((rd_T47 l3_0 x9_1).f3) t250 _ ?side1 ?side2 A29.out).mono ?_); (case side1 => repeat (first | exact (Kd.C_below HR2.out HB.out) | (with_reducible refine Kd.C_alloc ?_ _) | (with_reducible refine Kd.C_drewN ?_ _) | (with_reducible refine Kd.C_drew ?_))); (case side2 => exact HC2.out); rintro e w35 ⟨v251, rfl, ho0, hb⟩; have n0_ := Aside0.mk (Kd.R_elder' (by (with_reducible repeat (first | apply Kd.R_alloc | apply Kd.R_drewN | apply Kd.R_drew)); exact HO248.out) (Kd.R_base ho0) hb); have n1_ := Aside0.mk (Kd.R_lower (Kd.R_new' ho0 (Kd.R_lt (by (with_reducible repeat (first | apply Kd.R_alloc | apply Kd.R_drewN | apply Kd.R_drew)); exact HO248.out))) (below_size (by repeat (first | (with_reducible first | exact HB.out | apply below_alloc | apply pw_below_drewN | apply below_drew1 | refine below_set ?_ GE239.out | refine below_set ?_ GE240.out) | exact HB.out)))); have n2_ := Aside0.mk (blk_below (g := gb239) (o := .cells #[.slice (some ad245) l1_0.length c1_0] 25 (0, 0)) (by (with_reducible repeat (first | refine blk_drewN ?_ _ | refine blk_drew ?_ | refine blk_alloc ?_ _)); exact BK239.out) hb); have n3_ := Aside0.mk (blk_below (g := gb240) (o := .cells #[.slice (some ad249) l3_0.length c3_0] 25 (0, 0)) (by (with_reducible repeat (first | refine blk_drewN ?_ _ | refine blk_drew ?_ | refine blk_alloc ?_ _)); exact BK240.out) hb); have n4_ := Aside0.mk (below_step (by repeat (first | (with_reducible first | exact HB.out | apply below_alloc | apply pw_below_drewN | apply below_drew1 | refine below_set ?_ GE239.out | refine below_set ?_ GE240.out) | exact HB.out)) hb); clear HO248; clear BK239; clear BK240; clear HB; have HO248 := n0_; have HO252 := n1_; have BK239 := n2_; have BK240 := n3_; have HB := n4_; clear n0_ n1_ n2_ n3_ n4_; (try clear hb); (try clear hb2); (try clear hk); (try clear hi); (try clear ho0); obtain ⟨Ao36, co36, eo36⟩ := Kd.R_slice HO248.out; subst eo36; obtain ⟨Ao37, co37, eo37⟩ := Kd.R_slice HO252.out; subst eo37))
                        repeat (go_quiet (first | (go_at_call 54; (with_reducible refine (monikerref4_Tokens.calls kj11 _ _ l0 ((rd_T47 l1_0 x9_1).f0) ((rd_T47 l1_0 x9_1).f1) ((rd_T47 l1_0 x9_1).f2) ((rd_T47 l1_0 x9_1).f3) t246 _ ?side1 ?side2 A27.out).mono ?_); (case side1 => repeat (first | exact (Kd.C_below HR0.out HB.out) | (with_reducible refine Kd.C_alloc ?_ _) | (with_reducible refine Kd.C_drewN ?_ _) | (with_reducible refine Kd.C_drew ?_))); (case side2 => exact HC0.out); rintro e w33 ⟨v247, rfl, ho0, hb⟩; have n0_ := Aside0.mk (Kd.R_lower ho0 (below_size (by repeat (first | (with_reducible first | exact HB.out | apply below_alloc | apply pw_below_drewN | apply below_drew1 | refine below_set ?_ GE239.out | refine below_set ?_ GE240.out) | exact HB.out)))); have n1_ := Aside0.mk (blk_below (g := gb239) (o := .cells #[.slice (some ad245) l1_0.length c1_0] 25 (0, 0)) (by (with_reducible repeat (first | refine blk_drewN ?_ _ | refine blk_drew ?_ | refine blk_alloc ?_ _)); exact BK239.out) hb); have n2_ := Aside0.mk (blk_below (g := gb240) (o := .cells #[.slice A3_0 l3_0.length c3_0] 25 (0, 0)) (by (with_reducible repeat (first | refine blk_drewN ?_ _ | refine blk_drew ?_ | refine blk_alloc ?_ _)); exact BK240.out) hb); have n3_ := Aside0.mk (below_step (by repeat (first | (with_reducible first | exact HB.out | apply below_alloc | apply pw_below_drewN | apply below_drew1 | refine below_set ?_ GE239.out | refine below_set ?_ GE240.out) | exact HB.out)) hb); clear BK239; clear BK240; clear HB; have HO248 := n0_; have BK239 := n1_; have BK240 := n2_; have HB := n3_; clear n0_ n1_ n2_ n3_; (try clear hb); (try clear hb2); (try clear hk); (try clear hi); (try clear ho0); have hcz34_0 : w33.cell? ⟨gb240, 0, none⟩ = some (.slice A3_0 l3_0.length c3_0) := (blk_cell BK240.out 0).trans rfl; have hfz34_0 := blk_frozen BK240.out 0; have p249 : 0 ≤ (x9_1 : Int) := of_decide_eq_true (by first | (with_reducible assumption) | assumption); have q249 : x9_1 < (l3_0.length : Int) := of_decide_eq_true (by first | (with_reducible assumption) | assumption); obtain ⟨ad249, e249, hx249_0, hx249_1, hx249_2, hx249_3⟩ := at_T47 HR3_0.out x9_1 p249 q249; cases e249; replace hx249_0 := (HB.out.cell (World.block_lt_of_cell? w _ hx249_0)).trans hx249_0; replace hx249_1 := (HB.out.cell (World.block_lt_of_cell? w _ hx249_1)).trans hx249_1; replace hx249_2 := (HB.out.cell (World.block_lt_of_cell? w _ hx249_2)).trans hx249_2; replace hx249_3 := (HB.out.cell (World.block_lt_of_cell? w _ hx249_3)).trans hx249_3; replace p249 := eq_true p249; replace q249 := eq_true q249) | (go_at_call 54; (with_reducible refine (monikerref4_Tokens.calls kj11 _ _ l2 ((rd_T47 l3_0 x9_1).f0) ((rd_T47 l3_0 x9_1).f1) ((rd_T47 l3_0 x9_1).f2) ((rd_T47 l3_0 x9_1).f3) t250 _ ?side1 ?side2 A29.out).mono ?_); (case side1 => repeat (first | exact (Kd.C_below HR2.out HB.out) | (with_reducible refine Kd.C_alloc ?_ _) | (with_reducible refine Kd.C_drewN ?_ _) | (with_reducible refine Kd.C_drew ?_))); (case side2 => exact HC2.out); rintro e w35 ⟨v251, rfl, ho0, hb⟩; have n0_ := Aside0.mk (Kd.R_elder' (by (with_reducible repeat (first | apply Kd.R_alloc | apply Kd.R_drewN | apply Kd.R_drew)); exact HO248.out) (Kd.R_base ho0) hb); have n1_ := Aside0.mk (Kd.R_lower (Kd.R_new' ho0 (Kd.R_lt (by (with_reducible repeat (first | apply Kd.R_alloc | apply Kd.R_drewN | apply Kd.R_drew)); exact HO248.out))) (below_size (by repeat (first | (with_reducible first | exact HB.out | apply below_alloc | apply pw_below_drewN | apply below_drew1 | refine below_set ?_ GE239.out | refine below_set ?_ GE240.out) | exact HB.out)))); have n2_ := Aside0.mk (blk_below (g := gb239) (o := .cells #[.slice (some ad245) l1_0.length c1_0] 25 (0, 0)) (by (with_reducible repeat (first | refine blk_drewN ?_ _ | refine blk_drew ?_ | refine blk_alloc ?_ _)); exact BK239.out) hb); have n3_ := Aside0.mk (blk_below (g := gb240) (o := .cells #[.slice (some ad249) l3_0.length c3_0] 25 (0, 0)) (by (with_reducible repeat (first | refine blk_drewN ?_ _ | refine blk_drew ?_ | refine blk_alloc ?_ _)); exact BK240.out) hb); have n4_ := Aside0.mk (below_step (by repeat (first | (with_reducible first | exact HB.out | apply below_alloc | apply pw_below_drewN | apply below_drew1 | refine below_set ?_ GE239.out | refine below_set ?_ GE240.out) | exact HB.out)) hb); clear HO248; clear BK239; clear BK240; clear HB; have HO248 := n0_; have HO252 := n1_; have BK239 := n2_; have BK240 := n3_; have HB := n4_; clear n0_ n1_ n2_ n3_ n4_; (try clear hb); (try clear hb2); (try clear hk); (try clear hi); (try clear ho0); obtain ⟨Ao36, co36, eo36⟩ := Kd.R_slice HO248.out; subst eo36; obtain ⟨Ao37, co37, eo37⟩ := Kd.R_slice HO252.out; subst eo37)); try go_wp2_with (first | (go_at_call 54; (with_reducible refine (monikerref4_Tokens.calls kj11 _ _ l0 ((rd_T47 l1_0 x9_1).f0) ((rd_T47 l1_0 x9_1).f1) ((rd_T47 l1_0 x9_1).f2) ((rd_T47 l1_0 x9_1).f3) t246 _ ?side1 ?side2 A27.out).mono ?_); (case side1 => repeat (first | exact (Kd.C_below HR0.out HB.out) | (with_reducible refine Kd.C_alloc ?_ _) | (with_reducible refine Kd.C_drewN ?_ _) | (with_reducible refine Kd.C_drew ?_))); (case side2 => exact HC0.out); rintro e w33 ⟨v247, rfl, ho0, hb⟩; have n0_ := Aside0.mk (Kd.R_lower ho0 (below_size (by repeat (first | (with_reducible first | exact HB.out | apply below_alloc | apply pw_below_drewN | apply below_drew1 | refine below_set ?_ GE239.out | refine below_set ?_ GE240.out) | exact HB.out)))); have n1_ := Aside0.mk (blk_below (g := gb239) (o := .cells #[.slice (some ad245) l1_0.length c1_0] 25 (0, 0)) (by (with_reducible repeat (first | refine blk_drewN ?_ _ | refine blk_drew ?_ | refine blk_alloc ?_ _)); exact BK239.out) hb); have n2_ := Aside0.mk (blk_below (g := gb240) (o := .cells #[.slice A3_0 l3_0.length c3_0] 25 (0, 0)) (by (with_reducible repeat (first | refine blk_drewN ?_ _ | refine blk_drew ?_ | refine blk_alloc ?_ _)); exact BK240.out) hb); have n3_ := Aside0.mk (below_step (by repeat (first | (with_reducible first | exact HB.out | apply below_alloc | apply pw_below_drewN | apply below_drew1 | refine below_set ?_ GE239.out | refine below_set ?_ GE240.out) | exact HB.out)) hb); clear BK239; clear BK240; clear HB; have HO248 := n0_; have BK239 := n1_; have BK240 := n2_; have HB := n3_; clear n0_ n1_ n2_ n3_; (try clear hb); (try clear hb2); (try clear hk); (try clear hi); (try clear ho0); have hcz34_0 : w33.cell? ⟨gb240, 0, none⟩ = some (.slice A3_0 l3_0.length c3_0) := (blk_cell BK240.out 0).trans rfl; have hfz34_0 := blk_frozen BK240.out 0; have p249 : 0 ≤ (x9_1 : Int) := of_decide_eq_true (by first | (with_reducible assumption) | assumption); have q249 : x9_1 < (l3_0.length : Int) := of_decide_eq_true (by first | (with_reducible assumption) | assumption); obtain ⟨ad249, e249, hx249_0, hx249_1, hx249_2, hx249_3⟩ := at_T47 HR3_0.out x9_1 p249 q249; cases e249; replace hx249_0 := (HB.out.cell (World.block_lt_of_cell? w _ hx249_0)).trans hx249_0; replace hx249_1 := (HB.out.cell (World.block_lt_of_cell? w _ hx249_1)).trans hx249_1; replace hx249_2 := (HB.out.cell (World.block_lt_of_cell? w _ hx249_2)).trans hx249_2; replace hx249_3 := (HB.out.cell (World.block_lt_of_cell? w _ hx249_3)).trans hx249_3; replace p249 := eq_true p249; replace q249 := eq_true q249) | (go_at_call 54; (with_reducible refine (monikerref4_Tokens.calls kj11 _ _ l2 ((rd_T47 l3_0 x9_1).f0) ((rd_T47 l3_0 x9_1).f1) ((rd_T47 l3_0 x9_1).f2) ((rd_T47 l3_0 x9_1).f3) t250 _ ?side1 ?side2 A29.out).mono ?_); (case side1 => repeat (first | exact (Kd.C_below HR2.out HB.out) | (with_reducible refine Kd.C_alloc ?_ _) | (with_reducible refine Kd.C_drewN ?_ _) | (with_reducible refine Kd.C_drew ?_))); (case side2 => exact HC2.out); rintro e w35 ⟨v251, rfl, ho0, hb⟩; have n0_ := Aside0.mk (Kd.R_elder' (by (with_reducible repeat (first | apply Kd.R_alloc | apply Kd.R_drewN | apply Kd.R_drew)); exact HO248.out) (Kd.R_base ho0) hb); have n1_ := Aside0.mk (Kd.R_lower (Kd.R_new' ho0 (Kd.R_lt (by (with_reducible repeat (first | apply Kd.R_alloc | apply Kd.R_drewN | apply Kd.R_drew)); exact HO248.out))) (below_size (by repeat (first | (with_reducible first | exact HB.out | apply below_alloc | apply pw_below_drewN | apply below_drew1 | refine below_set ?_ GE239.out | refine below_set ?_ GE240.out) | exact HB.out)))); have n2_ := Aside0.mk (blk_below (g := gb239) (o := .cells #[.slice (some ad245) l1_0.length c1_0] 25 (0, 0)) (by (with_reducible repeat (first | refine blk_drewN ?_ _ | refine blk_drew ?_ | refine blk_alloc ?_ _)); exact BK239.out) hb); have n3_ := Aside0.mk (blk_below (g := gb240) (o := .cells #[.slice (some ad249) l3_0.length c3_0] 25 (0, 0)) (by (with_reducible repeat (first | refine blk_drewN ?_ _ | refine blk_drew ?_ | refine blk_alloc ?_ _)); exact BK240.out) hb); have n4_ := Aside0.mk (below_step (by repeat (first | (with_reducible first | exact HB.out | apply below_alloc | apply pw_below_drewN | apply below_drew1 | refine below_set ?_ GE239.out | refine below_set ?_ GE240.out) | exact HB.out)) hb); clear HO248; clear BK239; clear BK240; clear HB; have HO248 := n0_; have HO252 := n1_; have BK239 := n2_; have BK240 := n3_; have HB := n4_; clear n0_ n1_ n2_ n3_ n4_; (try clear hb); (try clear hb2); (try clear hk); (try clear hi); (try clear ho0); obtain ⟨Ao36, co36, eo36⟩ := Kd.R_slice HO248.out; subst eo36; obtain ⟨Ao37, co37, eo37⟩ := Kd.R_slice HO252.out; subst eo37)))
                        go_loopg [12] kj11 (fun kq v12 w' => ∃ (x12_3 : Int), v12 = .int .i64 x12_3 ∧ Aside0 (monikerref4_Same.l1 kq l0 l2 x9_1 t246 t250 x12_3 l1_0 l3_0 = some r) ∧ Aside0 (kq ≤ kj11) ∧ Aside0 (Kd.R (Kd.int .i64) 3 w' w.heap.size (fun k_ => some k_ ≠ ((.slice Ao37 t250.length co37) : Value).ownBlock) (.slice Ao36 t246.length co36) t246) ∧ Aside0 (Kd.R (Kd.int .i64) 3 w' w.heap.size (fun k_ => some k_ ≠ ((.slice Ao36 t246.length co36) : Value).ownBlock) (.slice Ao37 t250.length co37) t250) ∧ Aside0 (w'.heap[gb239]? = some (.cells #[(.slice (some ad245) l1_0.length c1_0)] 25 (0, 0))) ∧ Aside0 (w'.heap[gb240]? = some (.cells #[(.slice (some ad249) l3_0.length c3_0)] 25 (0, 0))) ∧ Aside0 (Below w.heap.size w w'))
                        case atStart => exact ⟨(0), (by first | rfl | (simp; done) | (simp [*]; done)), H', ⟨Nat.le_refl _⟩, ⟨by (with_reducible repeat (first | apply Kd.R_alloc | apply Kd.R_drewN | apply Kd.R_drew)); exact Kd.R_mono HO248.out (fun _ hk => hk.2)⟩, ⟨by (with_reducible repeat (first | apply Kd.R_alloc | apply Kd.R_drewN | apply Kd.R_drew)); exact Kd.R_mono HO252.out (fun _ hk => hk.2)⟩, ⟨by (with_reducible repeat (first | refine blk_drewN ?_ _ | refine blk_drew ?_ | refine blk_alloc ?_ _)); exact BK239.out⟩, ⟨by (with_reducible repeat (first | refine blk_drewN ?_ _ | refine blk_drew ?_ | refine blk_alloc ?_ _)); exact BK240.out⟩, ⟨by repeat (first | (with_reducible first | exact HB.out | apply below_alloc | apply pw_below_drewN | apply below_drew1 | refine below_set ?_ GE239.out | refine below_set ?_ GE240.out) | exact HB.out)⟩⟩
                        case round =>
                          clear H'
                          try clear c1
                          try clear c2
                          try clear p2
                          try clear q2
                          try clear hx2
                          try clear c3
                          try clear c5
                          try clear c5b0
                          try clear c5b1
                          try clear c5b2
                          try clear c8
                          try clear c11
                          try clear c11b0
                          try clear c13
                          try clear c15
                          try clear c15b0
                          try clear c16
                          try clear c16b0
                          try clear c17
                          try clear c17b0
                          try clear c17b1
                          try clear c18
                          try clear c21
                          try clear c24
                          try clear p24
                          try clear q24
                          try clear hx24
                          try clear c25
                          try clear c25b0
                          try clear c26
                          try clear c26b0
                          try clear c28
                          try clear c28b0
                          try clear c30
                          try clear c30b0
                          try clear c30b1
                          try clear c30b2
                          try clear c31
                          try clear c34
                          try clear hcz10_0
                          try clear hcz14_0
                          try clear hcz19_0
                          try clear hcz20_0
                          try clear hcz22_0
                          try clear hcz23_0
                          try clear hcz32_0
                          try clear hcz34_0
                          try clear hcz9_0
                          try clear hfz10_0
                          try clear hfz14_0
                          try clear hfz19_0
                          try clear hfz20_0
                          try clear hfz22_0
                          try clear hfz23_0
                          try clear hfz32_0
                          try clear hfz34_0
                          try clear hfz9_0
                          try clear hx241_0
                          try clear hx241_1
                          try clear hx241_2
                          try clear hx241_3
                          try clear hx242_0
                          try clear hx242_1
                          try clear hx242_2
                          try clear hx242_3
                          try clear hx243_0
                          try clear hx243_1
                          try clear hx243_2
                          try clear hx243_3
                          try clear hx244_0
                          try clear hx244_1
                          try clear hx244_2
                          try clear hx244_3
                          try clear hx245_0
                          try clear hx245_1
                          try clear hx245_2
                          try clear hx245_3
                          try clear hx249_0
                          try clear hx249_1
                          try clear hx249_2
                          try clear hx249_3
                          try clear p2
                          try clear p241
                          try clear p242
                          try clear p243
                          try clear p244
                          try clear p245
                          try clear p249
                          try clear q2
                          try clear q241
                          try clear q242
                          try clear q243
                          try clear q244
                          try clear q245
                          try clear q249
                          obtain ⟨x12_3, rfl, HA, HK3, HO_10, HO_11, BK239, BK240, HB⟩ := hrel
                          cases gk with
                          | zero => exact absurd HA.out (by simp [monikerref4_Same.l1])
                          | succ k3 =>
                            have H := HA.out
                            clear HA
                            simp only [monikerref4_Same.l1] at H
                            by_cases c38 : x12_3 < (t246.length : Int)
                            · rw [if_pos c38] at H
                              have c38b0 : decide (x12_3 < (t246.length : Int)) = true := decide_eq_true c38
                              clear c38
                              by_cases c39 : 0 ≤ x12_3
                              · rw [if_pos c39] at H
                                have c39b0 : decide (0 ≤ x12_3) = true := decide_eq_true c39
                                clear c39
                                by_cases c40 : 0 ≤ (rd t246 x12_3)
                                · rw [if_pos c40] at H
                                  have c40b0 : decide (0 ≤ (rd t246 x12_3)) = true := decide_eq_true c40
                                  clear c40
                                  by_cases c41 : (rd t246 x12_3) < (l0.length : Int)
                                  · rw [if_pos c41] at H
                                    have c41b0 : decide ((rd t246 x12_3) < (l0.length : Int)) = true := decide_eq_true c41
                                    clear c41
                                    by_cases c42 : x12_3 < (t250.length : Int)
                                    · rw [if_pos c42] at H
                                      have c42b0 : decide (x12_3 < (t250.length : Int)) = true := decide_eq_true c42
                                      clear c42
                                      by_cases c43 : 0 ≤ (rd t250 x12_3)
                                      · rw [if_pos c43] at H
                                        have c43b0 : decide (0 ≤ (rd t250 x12_3)) = true := decide_eq_true c43
                                        clear c43
                                        by_cases c44 : (rd t250 x12_3) < (l2.length : Int)
                                        · rw [if_pos c44] at H
                                          have c44b0 : decide ((rd t250 x12_3) < (l2.length : Int)) = true := decide_eq_true c44
                                          clear c44
                                          by_cases c45 : ((rd_T61 l0 (rd t246 x12_3)).f0) = ((rd_T61 l2 (rd t250 x12_3)).f0)
                                          · rw [if_pos c45] at H
                                            have c45b0 : (((rd_T61 l0 (rd t246 x12_3)).f0) == ((rd_T61 l2 (rd t250 x12_3)).f0)) = true := beq_iff_eq.mpr c45
                                            have c45b1 : (((rd_T61 l0 (rd t246 x12_3)).f0) != ((rd_T61 l2 (rd t250 x12_3)).f0)) = false := bne_eq_false_iff_eq.mpr c45
                                            clear c45
                                            have H' := Aside0.mk H
                                            clear H
                                            have p253 : 0 ≤ (x12_3 : Int) := of_decide_eq_true (by first | (with_reducible assumption) | assumption)
                                            have q253 : x12_3 < (t246.length : Int) := of_decide_eq_true (by first | (with_reducible assumption) | assumption)
                                            obtain ⟨ad253, e253, hx253_0⟩ := Kd.at_int (Kd.R_reads' HO_10.out).2.2 x12_3 p253 q253
                                            cases e253
                                            replace p253 := eq_true p253
                                            replace q253 := eq_true q253
                                            have p254 : 0 ≤ ((rd t246 x12_3) : Int) := of_decide_eq_true (by first | (with_reducible assumption) | assumption)
                                            have q254 : (rd t246 x12_3) < (l0.length : Int) := of_decide_eq_true (by first | (with_reducible assumption) | assumption)
                                            obtain ⟨ad254, e254, hx254_0, hx254_1, hx254_2⟩ := at_T61 HR0.out (rd t246 x12_3) p254 q254
                                            cases e254
                                            replace hx254_0 := (HB.out.cell (World.block_lt_of_cell? w _ hx254_0)).trans hx254_0
                                            replace hx254_1 := (HB.out.cell (World.block_lt_of_cell? w _ hx254_1)).trans hx254_1
                                            replace hx254_2 := (HB.out.cell (World.block_lt_of_cell? w _ hx254_2)).trans hx254_2
                                            replace p254 := eq_true p254
                                            replace q254 := eq_true q254
                                            have p255 : 0 ≤ (x12_3 : Int) := of_decide_eq_true (by first | (with_reducible assumption) | assumption)
                                            have q255 : x12_3 < (t250.length : Int) := of_decide_eq_true (by first | (with_reducible assumption) | assumption)
                                            obtain ⟨ad255, e255, hx255_0⟩ := Kd.at_int (Kd.R_reads' HO_11.out).2.2 x12_3 p255 q255
                                            cases e255
                                            replace p255 := eq_true p255
                                            replace q255 := eq_true q255
                                            have p256 : 0 ≤ ((rd t250 x12_3) : Int) := of_decide_eq_true (by first | (with_reducible assumption) | assumption)
                                            have q256 : (rd t250 x12_3) < (l2.length : Int) := of_decide_eq_true (by first | (with_reducible assumption) | assumption)
                                            obtain ⟨ad256, e256, hx256_0, hx256_1, hx256_2⟩ := at_T61 HR2.out (rd t250 x12_3) p256 q256
                                            cases e256
                                            replace hx256_0 := (HB.out.cell (World.block_lt_of_cell? w _ hx256_0)).trans hx256_0
                                            replace hx256_1 := (HB.out.cell (World.block_lt_of_cell? w _ hx256_1)).trans hx256_1
                                            replace hx256_2 := (HB.out.cell (World.block_lt_of_cell? w _ hx256_2)).trans hx256_2
                                            replace p256 := eq_true p256
                                            replace q256 := eq_true q256
                                            go_wp2
                                            repeat (go_quiet (fail); try go_wp2)
                                            go_roundg k3
                                            case measure => have := HK1.out; have := HJ11.out; have := HK3.out; omega
                                            case rel => exact ⟨(wrap64 (x12_3 + 1)), (by first | rfl | (simp; done) | (simp [*]; done)), H', ⟨by have := HK1.out; have := HJ11.out; have := HK3.out; omega⟩, ⟨by (with_reducible repeat (first | apply Kd.R_alloc | apply Kd.R_drewN | apply Kd.R_drew)); exact HO_10.out⟩, ⟨by (with_reducible repeat (first | apply Kd.R_alloc | apply Kd.R_drewN | apply Kd.R_drew)); exact HO_11.out⟩, ⟨by (with_reducible repeat (first | refine blk_drewN ?_ _ | refine blk_drew ?_ | refine blk_alloc ?_ _)); exact BK239.out⟩, ⟨by (with_reducible repeat (first | refine blk_drewN ?_ _ | refine blk_drew ?_ | refine blk_alloc ?_ _)); exact BK240.out⟩, ⟨by repeat (first | (with_reducible first | exact HB.out | apply below_alloc | apply pw_below_drewN | apply below_drew1 | refine below_set ?_ GE239.out | refine below_set ?_ GE240.out) | exact HB.out)⟩⟩
                                          · rw [if_neg c45] at H
                                            have c45b0 : (((rd_T61 l0 (rd t246 x12_3)).f0) == ((rd_T61 l2 (rd t250 x12_3)).f0)) = false := beq_eq_false_iff_ne.mpr c45
                                            have c45b1 : (((rd_T61 l0 (rd t246 x12_3)).f0) != ((rd_T61 l2 (rd t250 x12_3)).f0)) = true := bne_iff_ne.mpr c45
                                            obtain rfl := Option.some.inj H
                                            have p253 : 0 ≤ (x12_3 : Int) := of_decide_eq_true (by first | (with_reducible assumption) | assumption)
                                            have q253 : x12_3 < (t246.length : Int) := of_decide_eq_true (by first | (with_reducible assumption) | assumption)
                                            obtain ⟨ad253, e253, hx253_0⟩ := Kd.at_int (Kd.R_reads' HO_10.out).2.2 x12_3 p253 q253
                                            cases e253
                                            replace p253 := eq_true p253
                                            replace q253 := eq_true q253
                                            have p254 : 0 ≤ ((rd t246 x12_3) : Int) := of_decide_eq_true (by first | (with_reducible assumption) | assumption)
                                            have q254 : (rd t246 x12_3) < (l0.length : Int) := of_decide_eq_true (by first | (with_reducible assumption) | assumption)
                                            obtain ⟨ad254, e254, hx254_0, hx254_1, hx254_2⟩ := at_T61 HR0.out (rd t246 x12_3) p254 q254
                                            cases e254
                                            replace hx254_0 := (HB.out.cell (World.block_lt_of_cell? w _ hx254_0)).trans hx254_0
                                            replace hx254_1 := (HB.out.cell (World.block_lt_of_cell? w _ hx254_1)).trans hx254_1
                                            replace hx254_2 := (HB.out.cell (World.block_lt_of_cell? w _ hx254_2)).trans hx254_2
                                            replace p254 := eq_true p254
                                            replace q254 := eq_true q254
                                            have p255 : 0 ≤ (x12_3 : Int) := of_decide_eq_true (by first | (with_reducible assumption) | assumption)
                                            have q255 : x12_3 < (t250.length : Int) := of_decide_eq_true (by first | (with_reducible assumption) | assumption)
                                            obtain ⟨ad255, e255, hx255_0⟩ := Kd.at_int (Kd.R_reads' HO_11.out).2.2 x12_3 p255 q255
                                            cases e255
                                            replace p255 := eq_true p255
                                            replace q255 := eq_true q255
                                            have p256 : 0 ≤ ((rd t250 x12_3) : Int) := of_decide_eq_true (by first | (with_reducible assumption) | assumption)
                                            have q256 : (rd t250 x12_3) < (l2.length : Int) := of_decide_eq_true (by first | (with_reducible assumption) | assumption)
                                            obtain ⟨ad256, e256, hx256_0, hx256_1, hx256_2⟩ := at_T61 HR2.out (rd t250 x12_3) p256 q256
                                            cases e256
                                            replace hx256_0 := (HB.out.cell (World.block_lt_of_cell? w _ hx256_0)).trans hx256_0
                                            replace hx256_1 := (HB.out.cell (World.block_lt_of_cell? w _ hx256_1)).trans hx256_1
                                            replace hx256_2 := (HB.out.cell (World.block_lt_of_cell? w _ hx256_2)).trans hx256_2
                                            replace p256 := eq_true p256
                                            replace q256 := eq_true q256
                                            go_wp2
                                            repeat (go_quiet (fail); try go_wp2)
                                            go_ret
                                            exact ⟨by first | rfl | (simp [errW_none, errW_some] <;> rfl) | (simp [*, errW_none, errW_some] <;> rfl), by repeat (first | (with_reducible first | exact HB.out | apply below_alloc | apply pw_below_drewN | apply below_drew1 | refine below_set ?_ GE239.out | refine below_set ?_ GE240.out) | exact HB.out)⟩
                                        · rw [if_neg c44] at H
                                          exact absurd H (by simp)
                                      · rw [if_neg c43] at H
                                        exact absurd H (by simp)
                                    · rw [if_neg c42] at H
                                      exact absurd H (by simp)
                                  · rw [if_neg c41] at H
                                    exact absurd H (by simp)
                                · rw [if_neg c40] at H
                                  exact absurd H (by simp)
                              · rw [if_neg c39] at H
                                exact absurd H (by simp)
                            · rw [if_neg c38] at H
                              have c38b0 : decide (x12_3 < (t246.length : Int)) = false := decide_eq_false c38
                              clear c38
                              have H' := Aside0.mk H
                              clear H
                              go_wp2
                              repeat (go_quiet (fail); try go_wp2)
                              go_roundg k3
                              case measure => have := HK1.out; have := HJ11.out; have := HK3.out; omega
                              case rel => exact ⟨(wrap64 (x9_1 + 1)), (by first | rfl | (simp; done) | (simp [*]; done)), H', ⟨by have := HK1.out; have := HJ11.out; have := HK3.out; omega⟩, ⟨by (with_reducible repeat (first | refine blk_drewN ?_ _ | refine blk_drew ?_ | refine blk_alloc ?_ _)); exact BK239.out⟩, ⟨by (with_reducible repeat (first | refine blk_drewN ?_ _ | refine blk_drew ?_ | refine blk_alloc ?_ _)); exact BK240.out⟩, ⟨by repeat (first | (with_reducible first | exact HB.out | apply below_alloc | apply pw_below_drewN | apply below_drew1 | refine below_set ?_ GE239.out | refine below_set ?_ GE240.out) | exact HB.out)⟩⟩
                      · rw [if_neg c30] at H
                        have c30b0 : ((t246.length : Int) == (t250.length : Int)) = false := beq_eq_false_iff_ne.mpr c30
                        have c30b1 : ((t246.length : Int) != (t250.length : Int)) = true := bne_iff_ne.mpr c30
                        have c30b2 : (t246.length == t250.length) = false := by first | simpa using c30 | (simp at c30 ⊢; omega)
                        obtain rfl := Option.some.inj H
                        have hnb46 := NB239_240.out
                        have hnc46 := NB240_239.out
                        have hcz47_0 : wc.cell? ⟨gb239, 0, none⟩ = some (.slice A1_0 l1_0.length c1_0) := (blk_cell BK239.out 0).trans rfl
                        have hfz47_0 := blk_frozen BK239.out 0
                        have p245 : 0 ≤ (x9_1 : Int) := of_decide_eq_true (by first | (with_reducible assumption) | assumption)
                        have q245 : x9_1 < (l1_0.length : Int) := of_decide_eq_true (by first | (with_reducible assumption) | assumption)
                        obtain ⟨ad245, e245, hx245_0, hx245_1, hx245_2, hx245_3⟩ := at_T47 HR1_0.out x9_1 p245 q245
                        cases e245
                        replace hx245_0 := (HB.out.cell (World.block_lt_of_cell? w _ hx245_0)).trans hx245_0
                        replace hx245_1 := (HB.out.cell (World.block_lt_of_cell? w _ hx245_1)).trans hx245_1
                        replace hx245_2 := (HB.out.cell (World.block_lt_of_cell? w _ hx245_2)).trans hx245_2
                        replace hx245_3 := (HB.out.cell (World.block_lt_of_cell? w _ hx245_3)).trans hx245_3
                        replace p245 := eq_true p245
                        replace q245 := eq_true q245
                        go_wp2_with (first | (go_at_call 54; (with_reducible refine (monikerref4_Tokens.calls kj11 _ _ l0 ((rd_T47 l1_0 x9_1).f0) ((rd_T47 l1_0 x9_1).f1) ((rd_T47 l1_0 x9_1).f2) ((rd_T47 l1_0 x9_1).f3) t246 _ ?side1 ?side2 A27.out).mono ?_); (case side1 => repeat (first | exact (Kd.C_below HR0.out HB.out) | (with_reducible refine Kd.C_alloc ?_ _) | (with_reducible refine Kd.C_drewN ?_ _) | (with_reducible refine Kd.C_drew ?_))); (case side2 => exact HC0.out); rintro e w48 ⟨v247, rfl, ho0, hb⟩; have n0_ := Aside0.mk (Kd.R_lower ho0 (below_size (by repeat (first | (with_reducible first | exact HB.out | apply below_alloc | apply pw_below_drewN | apply below_drew1 | refine below_set ?_ GE239.out | refine below_set ?_ GE240.out) | exact HB.out)))); have n1_ := Aside0.mk (blk_below (g := gb239) (o := .cells #[.slice (some ad245) l1_0.length c1_0] 25 (0, 0)) (by (with_reducible repeat (first | refine blk_drewN ?_ _ | refine blk_drew ?_ | refine blk_alloc ?_ _)); exact BK239.out) hb); have n2_ := Aside0.mk (blk_below (g := gb240) (o := .cells #[.slice A3_0 l3_0.length c3_0] 25 (0, 0)) (by (with_reducible repeat (first | refine blk_drewN ?_ _ | refine blk_drew ?_ | refine blk_alloc ?_ _)); exact BK240.out) hb); have n3_ := Aside0.mk (below_step (by repeat (first | (with_reducible first | exact HB.out | apply below_alloc | apply pw_below_drewN | apply below_drew1 | refine below_set ?_ GE239.out | refine below_set ?_ GE240.out) | exact HB.out)) hb); clear BK239; clear BK240; clear HB; have HO248 := n0_; have BK239 := n1_; have BK240 := n2_; have HB := n3_; clear n0_ n1_ n2_ n3_; (try clear hb); (try clear hb2); (try clear hk); (try clear hi); (try clear ho0); have hcz49_0 : w48.cell? ⟨gb240, 0, none⟩ = some (.slice A3_0 l3_0.length c3_0) := (blk_cell BK240.out 0).trans rfl; have hfz49_0 := blk_frozen BK240.out 0; have p249 : 0 ≤ (x9_1 : Int) := of_decide_eq_true (by first | (with_reducible assumption) | assumption); have q249 : x9_1 < (l3_0.length : Int) := of_decide_eq_true (by first | (with_reducible assumption) | assumption); obtain ⟨ad249, e249, hx249_0, hx249_1, hx249_2, hx249_3⟩ := at_T47 HR3_0.out x9_1 p249 q249; cases e249; replace hx249_0 := (HB.out.cell (World.block_lt_of_cell? w _ hx249_0)).trans hx249_0; replace hx249_1 := (HB.out.cell (World.block_lt_of_cell? w _ hx249_1)).trans hx249_1; replace hx249_2 := (HB.out.cell (World.block_lt_of_cell? w _ hx249_2)).trans hx249_2; replace hx249_3 := (HB.out.cell (World.block_lt_of_cell? w _ hx249_3)).trans hx249_3; replace p249 := eq_true p249; replace q249 := eq_true q249) | (go_at_call 54; (with_reducible refine (monikerref4_Tokens.calls kj11 _ _ l2 ((rd_T47 l3_0 x9_1).f0) ((rd_T47 l3_0 x9_1).f1) ((rd_T47 l3_0 x9_1).f2) ((rd_T47 l3_0 x9_1).f3) t250 _ ?side1 ?side2 A29.out).mono ?_); (case side1 => repeat (first | exact (Kd.C_below HR2.out HB.out) | (with_reducible refine Kd.C_alloc ?_ _) | (with_reducible refine Kd.C_drewN ?_ _) | (with_reducible refine Kd.C_drew ?_))); (case side2 => exact HC2.out); rintro e w50 ⟨v251, rfl, ho0, hb⟩; have n0_ := Aside0.mk (Kd.R_elder' (by (with_reducible repeat (first | apply Kd.R_alloc | apply Kd.R_drewN | apply Kd.R_drew)); exact HO248.out) (Kd.R_base ho0) hb); have n1_ := Aside0.mk (Kd.R_lower (Kd.R_new' ho0 (Kd.R_lt (by (with_reducible repeat (first | apply Kd.R_alloc | apply Kd.R_drewN | apply Kd.R_drew)); exact HO248.out))) (below_size (by repeat (first | (with_reducible first | exact HB.out | apply below_alloc | apply pw_below_drewN | apply below_drew1 | refine below_set ?_ GE239.out | refine below_set ?_ GE240.out) | exact HB.out)))); have n2_ := Aside0.mk (blk_below (g := gb239) (o := .cells #[.slice (some ad245) l1_0.length c1_0] 25 (0, 0)) (by (with_reducible repeat (first | refine blk_drewN ?_ _ | refine blk_drew ?_ | refine blk_alloc ?_ _)); exact BK239.out) hb); have n3_ := Aside0.mk (blk_below (g := gb240) (o := .cells #[.slice (some ad249) l3_0.length c3_0] 25 (0, 0)) (by (with_reducible repeat (first | refine blk_drewN ?_ _ | refine blk_drew ?_ | refine blk_alloc ?_ _)); exact BK240.out) hb); have n4_ := Aside0.mk (below_step (by repeat (first | (with_reducible first | exact HB.out | apply below_alloc | apply pw_below_drewN | apply below_drew1 | refine below_set ?_ GE239.out | refine below_set ?_ GE240.out) | exact HB.out)) hb); clear HO248; clear BK239; clear BK240; clear HB; have HO248 := n0_; have HO252 := n1_; have BK239 := n2_; have BK240 := n3_; have HB := n4_; clear n0_ n1_ n2_ n3_ n4_; (try clear hb); (try clear hb2); (try clear hk); (try clear hi); (try clear ho0); obtain ⟨Ao51, co51, eo51⟩ := Kd.R_slice HO248.out; subst eo51; obtain ⟨Ao52, co52, eo52⟩ := Kd.R_slice HO252.out; subst eo52))
                        repeat (go_quiet (first | (go_at_call 54; (with_reducible refine (monikerref4_Tokens.calls kj11 _ _ l0 ((rd_T47 l1_0 x9_1).f0) ((rd_T47 l1_0 x9_1).f1) ((rd_T47 l1_0 x9_1).f2) ((rd_T47 l1_0 x9_1).f3) t246 _ ?side1 ?side2 A27.out).mono ?_); (case side1 => repeat (first | exact (Kd.C_below HR0.out HB.out) | (with_reducible refine Kd.C_alloc ?_ _) | (with_reducible refine Kd.C_drewN ?_ _) | (with_reducible refine Kd.C_drew ?_))); (case side2 => exact HC0.out); rintro e w48 ⟨v247, rfl, ho0, hb⟩; have n0_ := Aside0.mk (Kd.R_lower ho0 (below_size (by repeat (first | (with_reducible first | exact HB.out | apply below_alloc | apply pw_below_drewN | apply below_drew1 | refine below_set ?_ GE239.out | refine below_set ?_ GE240.out) | exact HB.out)))); have n1_ := Aside0.mk (blk_below (g := gb239) (o := .cells #[.slice (some ad245) l1_0.length c1_0] 25 (0, 0)) (by (with_reducible repeat (first | refine blk_drewN ?_ _ | refine blk_drew ?_ | refine blk_alloc ?_ _)); exact BK239.out) hb); have n2_ := Aside0.mk (blk_below (g := gb240) (o := .cells #[.slice A3_0 l3_0.length c3_0] 25 (0, 0)) (by (with_reducible repeat (first | refine blk_drewN ?_ _ | refine blk_drew ?_ | refine blk_alloc ?_ _)); exact BK240.out) hb); have n3_ := Aside0.mk (below_step (by repeat (first | (with_reducible first | exact HB.out | apply below_alloc | apply pw_below_drewN | apply below_drew1 | refine below_set ?_ GE239.out | refine below_set ?_ GE240.out) | exact HB.out)) hb); clear BK239; clear BK240; clear HB; have HO248 := n0_; have BK239 := n1_; have BK240 := n2_; have HB := n3_; clear n0_ n1_ n2_ n3_; (try clear hb); (try clear hb2); (try clear hk); (try clear hi); (try clear ho0); have hcz49_0 : w48.cell? ⟨gb240, 0, none⟩ = some (.slice A3_0 l3_0.length c3_0) := (blk_cell BK240.out 0).trans rfl; have hfz49_0 := blk_frozen BK240.out 0; have p249 : 0 ≤ (x9_1 : Int) := of_decide_eq_true (by first | (with_reducible assumption) | assumption); have q249 : x9_1 < (l3_0.length : Int) := of_decide_eq_true (by first | (with_reducible assumption) | assumption); obtain ⟨ad249, e249, hx249_0, hx249_1, hx249_2, hx249_3⟩ := at_T47 HR3_0.out x9_1 p249 q249; cases e249; replace hx249_0 := (HB.out.cell (World.block_lt_of_cell? w _ hx249_0)).trans hx249_0; replace hx249_1 := (HB.out.cell (World.block_lt_of_cell? w _ hx249_1)).trans hx249_1; replace hx249_2 := (HB.out.cell (World.block_lt_of_cell? w _ hx249_2)).trans hx249_2; replace hx249_3 := (HB.out.cell (World.block_lt_of_cell? w _ hx249_3)).trans hx249_3; replace p249 := eq_true p249; replace q249 := eq_true q249) | (go_at_call 54; (with_reducible refine (monikerref4_Tokens.calls kj11 _ _ l2 ((rd_T47 l3_0 x9_1).f0) ((rd_T47 l3_0 x9_1).f1) ((rd_T47 l3_0 x9_1).f2) ((rd_T47 l3_0 x9_1).f3) t250 _ ?side1 ?side2 A29.out).mono ?_); (case side1 => repeat (first | exact (Kd.C_below HR2.out HB.out) | (with_reducible refine Kd.C_alloc ?_ _) | (with_reducible refine Kd.C_drewN ?_ _) | (with_reducible refine Kd.C_drew ?_))); (case side2 => exact HC2.out); rintro e w50 ⟨v251, rfl, ho0, hb⟩; have n0_ := Aside0.mk (Kd.R_elder' (by (with_reducible repeat (first | apply Kd.R_alloc | apply Kd.R_drewN | apply Kd.R_drew)); exact HO248.out) (Kd.R_base ho0) hb); have n1_ := Aside0.mk (Kd.R_lower (Kd.R_new' ho0 (Kd.R_lt (by (with_reducible repeat (first | apply Kd.R_alloc | apply Kd.R_drewN | apply Kd.R_drew)); exact HO248.out))) (below_size (by repeat (first | (with_reducible first | exact HB.out | apply below_alloc | apply pw_below_drewN | apply below_drew1 | refine below_set ?_ GE239.out | refine below_set ?_ GE240.out) | exact HB.out)))); have n2_ := Aside0.mk (blk_below (g := gb239) (o := .cells #[.slice (some ad245) l1_0.length c1_0] 25 (0, 0)) (by (with_reducible repeat (first | refine blk_drewN ?_ _ | refine blk_drew ?_ | refine blk_alloc ?_ _)); exact BK239.out) hb); have n3_ := Aside0.mk (blk_below (g := gb240) (o := .cells #[.slice (some ad249) l3_0.length c3_0] 25 (0, 0)) (by (with_reducible repeat (first | refine blk_drewN ?_ _ | refine blk_drew ?_ | refine blk_alloc ?_ _)); exact BK240.out) hb); have n4_ := Aside0.mk (below_step (by repeat (first | (with_reducible first | exact HB.out | apply below_alloc | apply pw_below_drewN | apply below_drew1 | refine below_set ?_ GE239.out | refine below_set ?_ GE240.out) | exact HB.out)) hb); clear HO248; clear BK239; clear BK240; clear HB; have HO248 := n0_; have HO252 := n1_; have BK239 := n2_; have BK240 := n3_; have HB := n4_; clear n0_ n1_ n2_ n3_ n4_; (try clear hb); (try clear hb2); (try clear hk); (try clear hi); (try clear ho0); obtain ⟨Ao51, co51, eo51⟩ := Kd.R_slice HO248.out; subst eo51; obtain ⟨Ao52, co52, eo52⟩ := Kd.R_slice HO252.out; subst eo52)); try go_wp2_with (first | (go_at_call 54; (with_reducible refine (monikerref4_Tokens.calls kj11 _ _ l0 ((rd_T47 l1_0 x9_1).f0) ((rd_T47 l1_0 x9_1).f1) ((rd_T47 l1_0 x9_1).f2) ((rd_T47 l1_0 x9_1).f3) t246 _ ?side1 ?side2 A27.out).mono ?_); (case side1 => repeat (first | exact (Kd.C_below HR0.out HB.out) | (with_reducible refine Kd.C_alloc ?_ _) | (with_reducible refine Kd.C_drewN ?_ _) | (with_reducible refine Kd.C_drew ?_))); (case side2 => exact HC0.out); rintro e w48 ⟨v247, rfl, ho0, hb⟩; have n0_ := Aside0.mk (Kd.R_lower ho0 (below_size (by repeat (first | (with_reducible first | exact HB.out | apply below_alloc | apply pw_below_drewN | apply below_drew1 | refine below_set ?_ GE239.out | refine below_set ?_ GE240.out) | exact HB.out)))); have n1_ := Aside0.mk (blk_below (g := gb239) (o := .cells #[.slice (some ad245) l1_0.length c1_0] 25 (0, 0)) (by (with_reducible repeat (first | refine blk_drewN ?_ _ | refine blk_drew ?_ | refine blk_alloc ?_ _)); exact BK239.out) hb); have n2_ := Aside0.mk (blk_below (g := gb240) (o := .cells #[.slice A3_0 l3_0.length c3_0] 25 (0, 0)) (by (with_reducible repeat (first | refine blk_drewN ?_ _ | refine blk_drew ?_ | refine blk_alloc ?_ _)); exact BK240.out) hb); have n3_ := Aside0.mk (below_step (by repeat (first | (with_reducible first | exact HB.out | apply below_alloc | apply pw_below_drewN | apply below_drew1 | refine below_set ?_ GE239.out | refine below_set ?_ GE240.out) | exact HB.out)) hb); clear BK239; clear BK240; clear HB; have HO248 := n0_; have BK239 := n1_; have BK240 := n2_; have HB := n3_; clear n0_ n1_ n2_ n3_; (try clear hb); (try clear hb2); (try clear hk); (try clear hi); (try clear ho0); have hcz49_0 : w48.cell? ⟨gb240, 0, none⟩ = some (.slice A3_0 l3_0.length c3_0) := (blk_cell BK240.out 0).trans rfl; have hfz49_0 := blk_frozen BK240.out 0; have p249 : 0 ≤ (x9_1 : Int) := of_decide_eq_true (by first | (with_reducible assumption) | assumption); have q249 : x9_1 < (l3_0.length : Int) := of_decide_eq_true (by first | (with_reducible assumption) | assumption); obtain ⟨ad249, e249, hx249_0, hx249_1, hx249_2, hx249_3⟩ := at_T47 HR3_0.out x9_1 p249 q249; cases e249; replace hx249_0 := (HB.out.cell (World.block_lt_of_cell? w _ hx249_0)).trans hx249_0; replace hx249_1 := (HB.out.cell (World.block_lt_of_cell? w _ hx249_1)).trans hx249_1; replace hx249_2 := (HB.out.cell (World.block_lt_of_cell? w _ hx249_2)).trans hx249_2; replace hx249_3 := (HB.out.cell (World.block_lt_of_cell? w _ hx249_3)).trans hx249_3; replace p249 := eq_true p249; replace q249 := eq_true q249) | (go_at_call 54; (with_reducible refine (monikerref4_Tokens.calls kj11 _ _ l2 ((rd_T47 l3_0 x9_1).f0) ((rd_T47 l3_0 x9_1).f1) ((rd_T47 l3_0 x9_1).f2) ((rd_T47 l3_0 x9_1).f3) t250 _ ?side1 ?side2 A29.out).mono ?_); (case side1 => repeat (first | exact (Kd.C_below HR2.out HB.out) | (with_reducible refine Kd.C_alloc ?_ _) | (with_reducible refine Kd.C_drewN ?_ _) | (with_reducible refine Kd.C_drew ?_))); (case side2 => exact HC2.out); rintro e w50 ⟨v251, rfl, ho0, hb⟩; have n0_ := Aside0.mk (Kd.R_elder' (by (with_reducible repeat (first | apply Kd.R_alloc | apply Kd.R_drewN | apply Kd.R_drew)); exact HO248.out) (Kd.R_base ho0) hb); have n1_ := Aside0.mk (Kd.R_lower (Kd.R_new' ho0 (Kd.R_lt (by (with_reducible repeat (first | apply Kd.R_alloc | apply Kd.R_drewN | apply Kd.R_drew)); exact HO248.out))) (below_size (by repeat (first | (with_reducible first | exact HB.out | apply below_alloc | apply pw_below_drewN | apply below_drew1 | refine below_set ?_ GE239.out | refine below_set ?_ GE240.out) | exact HB.out)))); have n2_ := Aside0.mk (blk_below (g := gb239) (o := .cells #[.slice (some ad245) l1_0.length c1_0] 25 (0, 0)) (by (with_reducible repeat (first | refine blk_drewN ?_ _ | refine blk_drew ?_ | refine blk_alloc ?_ _)); exact BK239.out) hb); have n3_ := Aside0.mk (blk_below (g := gb240) (o := .cells #[.slice (some ad249) l3_0.length c3_0] 25 (0, 0)) (by (with_reducible repeat (first | refine blk_drewN ?_ _ | refine blk_drew ?_ | refine blk_alloc ?_ _)); exact BK240.out) hb); have n4_ := Aside0.mk (below_step (by repeat (first | (with_reducible first | exact HB.out | apply below_alloc | apply pw_below_drewN | apply below_drew1 | refine below_set ?_ GE239.out | refine below_set ?_ GE240.out) | exact HB.out)) hb); clear HO248; clear BK239; clear BK240; clear HB; have HO248 := n0_; have HO252 := n1_; have BK239 := n2_; have BK240 := n3_; have HB := n4_; clear n0_ n1_ n2_ n3_ n4_; (try clear hb); (try clear hb2); (try clear hk); (try clear hi); (try clear ho0); obtain ⟨Ao51, co51, eo51⟩ := Kd.R_slice HO248.out; subst eo51; obtain ⟨Ao52, co52, eo52⟩ := Kd.R_slice HO252.out; subst eo52)))
                        go_ret
                        exact ⟨by first | rfl | (simp [errW_none, errW_some] <;> rfl) | (simp [*, errW_none, errW_some] <;> rfl), by repeat (first | (with_reducible first | exact HB.out | apply below_alloc | apply pw_below_drewN | apply below_drew1 | refine below_set ?_ GE239.out | refine below_set ?_ GE240.out) | exact HB.out)⟩
                    · rw [if_neg c28] at H
                      exact absurd H (by simp)
                  · rw [if_neg c26] at H
                    exact absurd H (by simp)
                · rw [if_neg c25] at H
                  exact absurd H (by simp)
        · rw [if_neg c11] at H
          have c11b0 : decide (x9_1 < (l1_0.length : Int)) = false := decide_eq_false c11
          clear c11
          obtain rfl := Option.some.inj H
          have hnb53 := NB239_240.out
          have hnc53 := NB240_239.out
          have hcz54_0 : wr.cell? ⟨gb239, 0, none⟩ = some (.slice A1_0 l1_0.length c1_0) := (blk_cell BK239.out 0).trans rfl
          have hfz54_0 := blk_frozen BK239.out 0
          go_wp2
          repeat (go_quiet (fail); try go_wp2)
          go_ret
          exact ⟨by first | rfl | (simp [errW_none, errW_some] <;> rfl) | (simp [*, errW_none, errW_some] <;> rfl), by repeat (first | (with_reducible first | exact HB.out | apply below_alloc | apply pw_below_drewN | apply below_drew1 | refine below_set ?_ GE239.out | refine below_set ?_ GE240.out) | exact HB.out)⟩
  · rw [if_neg c5] at H
    have c5b0 : ((l1_0.length : Int) == (l3_0.length : Int)) = false := beq_eq_false_iff_ne.mpr c5
    have c5b1 : ((l1_0.length : Int) != (l3_0.length : Int)) = true := bne_iff_ne.mpr c5
    have c5b2 : (l1_0.length == l3_0.length) = false := by first | simpa using c5 | (simp at c5 ⊢; omega)
    obtain rfl := Option.some.inj H
    go_enter Try.func34, Try.ntmps34
    go_wp2_with (first | ((with_reducible refine gate_dst (N := 5) rfl ?_); refine box_event ?hg (N := 5) ?hd (cs := #[.slice A1_0 l1_0.length c1_0]) (t := 25) ?hr ?_; (case hd => rfl); (case hg => rfl); (case hr => first | (go_simp; done) | (go_simp; rfl)); intro gb239 hg w55 hbox hb; have n0_ := Aside0.mk (below_step (by repeat (first | (with_reducible first | exact HB.out | apply below_alloc | apply pw_below_drewN | apply below_drew1) | exact HB.out)) hb); have n1_ := Aside0.mk (hbox); have n2_ := Aside0.mk ((by rw [hg]; exact (below_size (by repeat (first | (with_reducible first | exact HB.out | apply below_alloc | apply pw_below_drewN | apply below_drew1) | exact HB.out))) : w.heap.size ≤ gb239)); have n3_ := Aside0.mk ((by rw [hg]; exact (below_size (by repeat (first | (with_reducible first | exact HB.out | apply below_alloc | apply pw_below_drewN | apply below_drew1) | exact HB.out))) : w.heap.size ≤ gb239)); clear HB; have HB := n0_; have BK239 := n1_; have GW239 := n2_; have GE239 := n3_; clear n0_ n1_ n2_ n3_; clear hb hbox hg) | ((with_reducible refine gate_dst (N := 7) rfl ?_); refine box_event ?hg (N := 7) ?hd (cs := #[.slice A3_0 l3_0.length c3_0]) (t := 25) ?hr ?_; (case hd => rfl); (case hg => rfl); (case hr => first | (go_simp; done) | (go_simp; rfl)); intro gb240 hg w56 hbox hb; have n0_ := Aside0.mk (blk_below (g := gb239) (o := .cells #[.slice A1_0 l1_0.length c1_0] 25 (0, 0)) (by (with_reducible repeat (first | refine blk_drewN ?_ _ | refine blk_drew ?_ | refine blk_alloc ?_ _)); exact BK239.out) hb); have n1_ := Aside0.mk (below_step (by repeat (first | (with_reducible first | exact HB.out | apply below_alloc | apply pw_below_drewN | apply below_drew1 | refine below_set ?_ GE239.out) | exact HB.out)) hb); have n2_ := Aside0.mk (hbox); have n3_ := Aside0.mk ((by rw [hg]; exact (below_size (by repeat (first | (with_reducible first | exact HB.out | apply below_alloc | apply pw_below_drewN | apply below_drew1 | refine below_set ?_ GE239.out) | exact HB.out))) : w.heap.size ≤ gb240)); have n4_ := Aside0.mk ((by rw [hg]; exact (below_size (by repeat (first | (with_reducible first | exact HB.out | apply below_alloc | apply pw_below_drewN | apply below_drew1 | refine below_set ?_ GE239.out) | exact HB.out))) : w.heap.size ≤ gb240)); have n5_ := Aside0.mk ((by rw [hg]; exact Nat.ne_of_lt (blk_lt (g := gb239) (o := .cells #[.slice A1_0 l1_0.length c1_0] 25 (0, 0)) (by (with_reducible repeat (first | refine blk_drewN ?_ _ | refine blk_drew ?_ | refine blk_alloc ?_ _)); exact BK239.out)) : gb239 ≠ gb240)); have n6_ := Aside0.mk ((by rw [hg]; exact Nat.ne_of_gt (blk_lt (g := gb239) (o := .cells #[.slice A1_0 l1_0.length c1_0] 25 (0, 0)) (by (with_reducible repeat (first | refine blk_drewN ?_ _ | refine blk_drew ?_ | refine blk_alloc ?_ _)); exact BK239.out)) : gb240 ≠ gb239)); clear BK239; clear HB; have BK239 := n0_; have HB := n1_; have BK240 := n2_; have GW240 := n3_; have GE240 := n4_; have NB239_240 := n5_; have NB240_239 := n6_; clear n0_ n1_ n2_ n3_ n4_ n5_ n6_; clear hb hbox hg; have hnb57 := NB239_240.out; have hnc57 := NB240_239.out; have hcz58_0 : w56.cell? ⟨gb239, 0, none⟩ = some (.slice A1_0 l1_0.length c1_0) := (blk_cell BK239.out 0).trans rfl; have hfz58_0 := blk_frozen BK239.out 0; have hcz59_0 : w56.cell? ⟨gb240, 0, none⟩ = some (.slice A3_0 l3_0.length c3_0) := (blk_cell BK240.out 0).trans rfl; have hfz59_0 := blk_frozen BK240.out 0))
    repeat (go_quiet (first | ((with_reducible refine gate_dst (N := 5) rfl ?_); refine box_event ?hg (N := 5) ?hd (cs := #[.slice A1_0 l1_0.length c1_0]) (t := 25) ?hr ?_; (case hd => rfl); (case hg => rfl); (case hr => first | (go_simp; done) | (go_simp; rfl)); intro gb239 hg w55 hbox hb; have n0_ := Aside0.mk (below_step (by repeat (first | (with_reducible first | exact HB.out | apply below_alloc | apply pw_below_drewN | apply below_drew1) | exact HB.out)) hb); have n1_ := Aside0.mk (hbox); have n2_ := Aside0.mk ((by rw [hg]; exact (below_size (by repeat (first | (with_reducible first | exact HB.out | apply below_alloc | apply pw_below_drewN | apply below_drew1) | exact HB.out))) : w.heap.size ≤ gb239)); have n3_ := Aside0.mk ((by rw [hg]; exact (below_size (by repeat (first | (with_reducible first | exact HB.out | apply below_alloc | apply pw_below_drewN | apply below_drew1) | exact HB.out))) : w.heap.size ≤ gb239)); clear HB; have HB := n0_; have BK239 := n1_; have GW239 := n2_; have GE239 := n3_; clear n0_ n1_ n2_ n3_; clear hb hbox hg) | ((with_reducible refine gate_dst (N := 7) rfl ?_); refine box_event ?hg (N := 7) ?hd (cs := #[.slice A3_0 l3_0.length c3_0]) (t := 25) ?hr ?_; (case hd => rfl); (case hg => rfl); (case hr => first | (go_simp; done) | (go_simp; rfl)); intro gb240 hg w56 hbox hb; have n0_ := Aside0.mk (blk_below (g := gb239) (o := .cells #[.slice A1_0 l1_0.length c1_0] 25 (0, 0)) (by (with_reducible repeat (first | refine blk_drewN ?_ _ | refine blk_drew ?_ | refine blk_alloc ?_ _)); exact BK239.out) hb); have n1_ := Aside0.mk (below_step (by repeat (first | (with_reducible first | exact HB.out | apply below_alloc | apply pw_below_drewN | apply below_drew1 | refine below_set ?_ GE239.out) | exact HB.out)) hb); have n2_ := Aside0.mk (hbox); have n3_ := Aside0.mk ((by rw [hg]; exact (below_size (by repeat (first | (with_reducible first | exact HB.out | apply below_alloc | apply pw_below_drewN | apply below_drew1 | refine below_set ?_ GE239.out) | exact HB.out))) : w.heap.size ≤ gb240)); have n4_ := Aside0.mk ((by rw [hg]; exact (below_size (by repeat (first | (with_reducible first | exact HB.out | apply below_alloc | apply pw_below_drewN | apply below_drew1 | refine below_set ?_ GE239.out) | exact HB.out))) : w.heap.size ≤ gb240)); have n5_ := Aside0.mk ((by rw [hg]; exact Nat.ne_of_lt (blk_lt (g := gb239) (o := .cells #[.slice A1_0 l1_0.length c1_0] 25 (0, 0)) (by (with_reducible repeat (first | refine blk_drewN ?_ _ | refine blk_drew ?_ | refine blk_alloc ?_ _)); exact BK239.out)) : gb239 ≠ gb240)); have n6_ := Aside0.mk ((by rw [hg]; exact Nat.ne_of_gt (blk_lt (g := gb239) (o := .cells #[.slice A1_0 l1_0.length c1_0] 25 (0, 0)) (by (with_reducible repeat (first | refine blk_drewN ?_ _ | refine blk_drew ?_ | refine blk_alloc ?_ _)); exact BK239.out)) : gb240 ≠ gb239)); clear BK239; clear HB; have BK239 := n0_; have HB := n1_; have BK240 := n2_; have GW240 := n3_; have GE240 := n4_; have NB239_240 := n5_; have NB240_239 := n6_; clear n0_ n1_ n2_ n3_ n4_ n5_ n6_; clear hb hbox hg; have hnb57 := NB239_240.out; have hnc57 := NB240_239.out; have hcz58_0 : w56.cell? ⟨gb239, 0, none⟩ = some (.slice A1_0 l1_0.length c1_0) := (blk_cell BK239.out 0).trans rfl; have hfz58_0 := blk_frozen BK239.out 0; have hcz59_0 : w56.cell? ⟨gb240, 0, none⟩ = some (.slice A3_0 l3_0.length c3_0) := (blk_cell BK240.out 0).trans rfl; have hfz59_0 := blk_frozen BK240.out 0)); try go_wp2_with (first | ((with_reducible refine gate_dst (N := 5) rfl ?_); refine box_event ?hg (N := 5) ?hd (cs := #[.slice A1_0 l1_0.length c1_0]) (t := 25) ?hr ?_; (case hd => rfl); (case hg => rfl); (case hr => first | (go_simp; done) | (go_simp; rfl)); intro gb239 hg w55 hbox hb; have n0_ := Aside0.mk (below_step (by repeat (first | (with_reducible first | exact HB.out | apply below_alloc | apply pw_below_drewN | apply below_drew1) | exact HB.out)) hb); have n1_ := Aside0.mk (hbox); have n2_ := Aside0.mk ((by rw [hg]; exact (below_size (by repeat (first | (with_reducible first | exact HB.out | apply below_alloc | apply pw_below_drewN | apply below_drew1) | exact HB.out))) : w.heap.size ≤ gb239)); have n3_ := Aside0.mk ((by rw [hg]; exact (below_size (by repeat (first | (with_reducible first | exact HB.out | apply below_alloc | apply pw_below_drewN | apply below_drew1) | exact HB.out))) : w.heap.size ≤ gb239)); clear HB; have HB := n0_; have BK239 := n1_; have GW239 := n2_; have GE239 := n3_; clear n0_ n1_ n2_ n3_; clear hb hbox hg) | ((with_reducible refine gate_dst (N := 7) rfl ?_); refine box_event ?hg (N := 7) ?hd (cs := #[.slice A3_0 l3_0.length c3_0]) (t := 25) ?hr ?_; (case hd => rfl); (case hg => rfl); (case hr => first | (go_simp; done) | (go_simp; rfl)); intro gb240 hg w56 hbox hb; have n0_ := Aside0.mk (blk_below (g := gb239) (o := .cells #[.slice A1_0 l1_0.length c1_0] 25 (0, 0)) (by (with_reducible repeat (first | refine blk_drewN ?_ _ | refine blk_drew ?_ | refine blk_alloc ?_ _)); exact BK239.out) hb); have n1_ := Aside0.mk (below_step (by repeat (first | (with_reducible first | exact HB.out | apply below_alloc | apply pw_below_drewN | apply below_drew1 | refine below_set ?_ GE239.out) | exact HB.out)) hb); have n2_ := Aside0.mk (hbox); have n3_ := Aside0.mk ((by rw [hg]; exact (below_size (by repeat (first | (with_reducible first | exact HB.out | apply below_alloc | apply pw_below_drewN | apply below_drew1 | refine below_set ?_ GE239.out) | exact HB.out))) : w.heap.size ≤ gb240)); have n4_ := Aside0.mk ((by rw [hg]; exact (below_size (by repeat (first | (with_reducible first | exact HB.out | apply below_alloc | apply pw_below_drewN | apply below_drew1 | refine below_set ?_ GE239.out) | exact HB.out))) : w.heap.size ≤ gb240)); have n5_ := Aside0.mk ((by rw [hg]; exact Nat.ne_of_lt (blk_lt (g := gb239) (o := .cells #[.slice A1_0 l1_0.length c1_0] 25 (0, 0)) (by (with_reducible repeat (first | refine blk_drewN ?_ _ | refine blk_drew ?_ | refine blk_alloc ?_ _)); exact BK239.out)) : gb239 ≠ gb240)); have n6_ := Aside0.mk ((by rw [hg]; exact Nat.ne_of_gt (blk_lt (g := gb239) (o := .cells #[.slice A1_0 l1_0.length c1_0] 25 (0, 0)) (by (with_reducible repeat (first | refine blk_drewN ?_ _ | refine blk_drew ?_ | refine blk_alloc ?_ _)); exact BK239.out)) : gb240 ≠ gb239)); clear BK239; clear HB; have BK239 := n0_; have HB := n1_; have BK240 := n2_; have GW240 := n3_; have GE240 := n4_; have NB239_240 := n5_; have NB240_239 := n6_; clear n0_ n1_ n2_ n3_ n4_ n5_ n6_; clear hb hbox hg; have hnb57 := NB239_240.out; have hnc57 := NB240_239.out; have hcz58_0 : w56.cell? ⟨gb239, 0, none⟩ = some (.slice A1_0 l1_0.length c1_0) := (blk_cell BK239.out 0).trans rfl; have hfz58_0 := blk_frozen BK239.out 0; have hcz59_0 : w56.cell? ⟨gb240, 0, none⟩ = some (.slice A3_0 l3_0.length c3_0) := (blk_cell BK240.out 0).trans rfl; have hfz59_0 := blk_frozen BK240.out 0)))
    go_ret
    exact ⟨by first | rfl | (simp [errW_none, errW_some] <;> rfl) | (simp [*, errW_none, errW_some] <;> rfl), by repeat (first | (with_reducible first | exact HB.out | apply below_alloc | apply pw_below_drewN | apply below_drew1 | refine below_set ?_ GE239.out | refine below_set ?_ GE240.out) | exact HB.out)⟩

end Go.Proofs.Ytodldpdnhcafpaa.F

namespace Go.Proofs.Ytodldpdnhcafpaa.Q
open Go.RowKit Go.Proofs.YtodldpdnhcafpaaW.PrintWords Go.Proofs.YtodldpdnhcafpaaW.PrintLast Go.Proofs.YtodldpdnhcafpaaW.PrintMore
open Go.Proofs.Ytodldpdnhcafpaa.F Go.Proofs.Ytodldpdnhcafpaa.K
set_option linter.unusedSimpArgs false
set_option linter.unusedVariables false

theorem kw64 {x : Int} (h0 : -9223372036854775808 ≤ x) (h1 : x ≤ 9223372036854775807) : wrap64 x = x := by unfold wrap64; omega
end Go.Proofs.Ytodldpdnhcafpaa.Q

namespace Go.Proofs.Ytodldpdnhcafpaa.Q
open Go.RowKit Go.Proofs.YtodldpdnhcafpaaW.PrintWords Go.Proofs.YtodldpdnhcafpaaW.PrintLast Go.Proofs.YtodldpdnhcafpaaW.PrintMore
open Go.Proofs.Ytodldpdnhcafpaa.F Go.Proofs.Ytodldpdnhcafpaa.K
set_option linter.unusedSimpArgs false
set_option linter.unusedVariables false

/-- Are the kids from x on in order up to en? -/
def ck (l : List S47) (en : Int) : Nat → Int → Bool
  | 0, _ => true
  | d + 1, x => if x < en then (if (rd_T47 l x).f3 < 1 then false else if (rd_T47 l x).f3 > en - x then false else ck l en d (x + (rd_T47 l x).f3)) else true
def C (l : List S47) (x en : Int) : Bool := ck l en l.length x
/-- The nodes from n on, the ends of those around from the innermost on. -/
def pops (n : Int) : List Int → List Int
  | [] => []
  | e :: s => if e = n then pops n s else e :: s
def endOf (l : List S47) : List Int → Int
  | [] => l.length
  | e :: _ => e
def run (l : List S47) : Nat → Int → List Int → Bool
  | 0, _, _ => true
  | f + 1, n, s => if (rd_T47 l n).f0 ≥ 58 then false else if (rd_T47 l n).f3 < 1 then false else if (rd_T47 l n).f3 > endOf l (pops n s) - n then false else run l f (n + 1) ((n + (rd_T47 l n).f3) :: pops n s)

end Go.Proofs.Ytodldpdnhcafpaa.Q

namespace Go.Proofs.Ytodldpdnhcafpaa.Q
open Go.RowKit Go.Proofs.YtodldpdnhcafpaaW.PrintWords Go.Proofs.YtodldpdnhcafpaaW.PrintLast Go.Proofs.YtodldpdnhcafpaaW.PrintMore
open Go.Proofs.Ytodldpdnhcafpaa.F Go.Proofs.Ytodldpdnhcafpaa.K
set_option linter.unusedSimpArgs false
set_option linter.unusedVariables false

theorem tokR_cons (l : List S61) {a b : Int} (h : a < b) : tokR l a b = (if tokB l a = true then [a] else []) ++ tokR l (a + 1) b := by
  have e : (b - a).toNat = (b - (a + 1)).toNat + 1 := by omega
  have e2 : ((fun j : Nat => a + (j : Int)) ∘ Nat.succ) = (fun j : Nat => a + 1 + (j : Int)) := by
    funext j
    show a + ((j + 1 : Nat) : Int) = a + 1 + (j : Int)
    omega
  unfold tokR
  rw [e, List.range_succ_eq_map, List.map_cons, List.map_map, e2, List.filter_cons]
  rw [show a + ((0 : Nat) : Int) = a by omega]
  split <;> simp

theorem token_is (l : List S61) (x : Int) : monikerref4_token.f (rd_T61 l x).f0 = some (tokB l x) := by
  unfold monikerref4_token.f tokB
  by_cases h0 : (rd_T61 l x).f0 = 0
  · rw [if_pos h0, h0]; rfl
  · rw [if_neg h0, decide_eq_false h0]
    by_cases h1 : (rd_T61 l x).f0 = 1
    · rw [h1]; rfl
    · rw [decide_eq_false h1]
      simp [h1]

theorem tokens_loop (l : List S61) (hl : l.length ≤ 8796093022208) (a0 a1 a2 a3 : Int) (d : Nat) : ∀ (pre : List Int) (x : Int), 0 ≤ x → mn a2 (l.length : Int) - x ≤ d → (pre.length : Int) ≤ x →
    Ev (fun k => monikerref4_Tokens.l0 k l pre x a0 a1 a2 a3) (pre ++ tokR l x (mn a2 (l.length : Int))) := by
  have hmn : ∀ x : Int, (x < mn a2 (l.length : Int)) ↔ (x < a2 ∧ x < (l.length : Int)) := fun x => by unfold mn; split <;> omega
  have hend : ∀ (pre : List Int) (x : Int), ¬ x < mn a2 (l.length : Int) → Ev (fun k => monikerref4_Tokens.l0 k l pre x a0 a1 a2 a3) (pre ++ tokR l x (mn a2 (l.length : Int))) := by
    intro pre x hx
    rw [tokR_nil l (Int.not_lt.1 hx), List.append_nil]
    refine Ev.step (f := fun k => monikerref4_Tokens.j1 k l pre x false a0 a1 a2 a3) (fun k => ?_) ?_
    · simp only [monikerref4_Tokens.l0]
      by_cases c : x < a2
      · rw [if_pos c, show decide (x < (l.length : Int)) = false from decide_eq_false (fun h => hx ((hmn x).2 ⟨c, h⟩))]
      · rw [if_neg c]
    · refine Ev.step (fun k => ?_) (Ev.now _)
      simp only [monikerref4_Tokens.j1]
      rw [if_neg (by simp)]
  induction d with
  | zero => intro pre x hx hd _; exact hend pre x (by omega)
  | succ d ih =>
    intro pre x hx hd hp
    by_cases c : x < mn a2 (l.length : Int)
    · obtain ⟨c1, c2⟩ := (hmn x).1 c
      have hw : wrap64 (x + 1) = x + 1 := kw64 (by omega) (by omega)
      have hlim : pre.length < 17592186044416 := by omega
      refine Ev.step (f := fun k => monikerref4_Tokens.j1 k l pre x true a0 a1 a2 a3) (fun k => ?_) ?_
      · simp only [monikerref4_Tokens.l0]
        rw [if_pos c1, decide_eq_true c2]
      · rw [tokR_cons l c]
        by_cases ht : tokB l x = true
        · rw [if_pos ht, ← List.append_assoc]
          refine Ev.step (fun k => ?_) (ih (pre ++ [x]) (x + 1) (by omega) (by omega) (by rw [List.length_append, List.length_singleton]; omega))
          simp only [monikerref4_Tokens.j1]
          rw [if_pos trivial, if_pos hx, if_pos c2, token_is, ht]
          simp only [Option.bind_some, if_true]
          rw [if_pos hlim, hw]
        · rw [if_neg ht, List.nil_append]
          refine Ev.step (fun k => ?_) (ih pre (x + 1) (by omega) (by omega) (by omega))
          simp only [monikerref4_Tokens.j1]
          rw [if_pos trivial, if_pos hx, if_pos c2, token_is, Bool.eq_false_iff.2 ht]
          simp only [Option.bind_some, Bool.false_eq_true, if_false]
          rw [hw]
    · exact hend pre x c

theorem RTokens_is (l : List S61) (hl : l.length ≤ 8796093022208) (a0 a1 a2 a3 : Int) : Ev (fun k => monikerref4_Tokens.f k l a0 a1 a2 a3) (tokR l (mx a1 0) (mn a2 (l.length : Int))) := by
  have h0 : 0 ≤ mx a1 0 := by unfold mx; split <;> omega
  have := tokens_loop l hl a0 a1 a2 a3 (mn a2 (l.length : Int) - mx a1 0).toNat [] (mx a1 0) h0 (by omega) (by simpa using h0)
  exact this

end Go.Proofs.Ytodldpdnhcafpaa.Q

namespace Go.Proofs.Ytodldpdnhcafpaa.Q
open Go.RowKit Go.Proofs.YtodldpdnhcafpaaW.PrintWords Go.Proofs.YtodldpdnhcafpaaW.PrintLast Go.Proofs.YtodldpdnhcafpaaW.PrintMore
open Go.Proofs.Ytodldpdnhcafpaa.F Go.Proofs.Ytodldpdnhcafpaa.K
set_option linter.unusedSimpArgs false
set_option linter.unusedVariables false
theorem tokR_in (l : List S61) {a b : Int} (ha : 0 ≤ a) (hb : b ≤ (l.length : Int)) : ∀ i ∈ tokR l a b, 0 ≤ i ∧ i < (l.length : Int) := by
  intro i hi
  unfold tokR at hi
  obtain ⟨h1, _⟩ := List.mem_filter.1 hi
  obtain ⟨j, hj, rfl⟩ := List.mem_map.1 h1
  have := List.mem_range.1 hj
  omega

end Go.Proofs.Ytodldpdnhcafpaa.Q

namespace Go.Proofs.Ytodldpdnhcafpaa.Q
open Go.RowKit Go.Proofs.YtodldpdnhcafpaaW.PrintWords Go.Proofs.YtodldpdnhcafpaaW.PrintLast Go.Proofs.YtodldpdnhcafpaaW.PrintMore
open Go.Proofs.Ytodldpdnhcafpaa.F Go.Proofs.Ytodldpdnhcafpaa.K
set_option linter.unusedSimpArgs false
set_option linter.unusedVariables false

theorem rd_drop {ts : List Int} {i : Int} (h0 : 0 ≤ i) (hi : i < (ts.length : Int)) : ts.drop i.toNat = rd ts i :: ts.drop (i + 1).toNat ∧ rd ts i ∈ ts := by
  have hin : i.toNat < ts.length := by omega
  have e : rd ts i = ts[i.toNat] := by simp [rd, List.getD_eq_getElem?_getD, hin]
  have e1 : (i + 1).toNat = i.toNat + 1 := by omega
  exact ⟨by rw [e1, List.drop_eq_getElem_cons hin, e], by rw [e]; exact List.getElem_mem _⟩

theorem same_inner (l m : List S61) (a b : List S47) (n : Int) (hn : -9223372036854775808 ≤ n + 1 ∧ n + 1 ≤ 9223372036854775807) (tx ty : List Int) (hx : ∀ i ∈ tx, 0 ≤ i ∧ i < (l.length : Int)) (hy : ∀ i ∈ ty, 0 ≤ i ∧ i < (m.length : Int)) (hl : tx.length = ty.length) (htl : tx.length ≤ 8796093022208) (R : Bool) (d : Nat) : ∀ i : Int, 0 ≤ i → (tx.length : Int) - i ≤ d → i ≤ (tx.length : Int) →
    ((tx.drop i.toNat).map (fun i => (rd_T61 l i).f0) = (ty.drop i.toNat).map (fun i => (rd_T61 m i).f0) → Ev (fun k => monikerref4_Same.l0 k l m (n + 1) a b) R) →
    (¬ (tx.drop i.toNat).map (fun i => (rd_T61 l i).f0) = (ty.drop i.toNat).map (fun i => (rd_T61 m i).f0) → R = false) →
    Ev (fun k => monikerref4_Same.l1 k l m n tx ty i a b) R := by
  have hw : wrap64 (n + 1) = n + 1 := kw64 hn.1 hn.2
  have hend : ∀ i : Int, ¬ i < (tx.length : Int) → ((tx.drop i.toNat).map (fun i => (rd_T61 l i).f0) = (ty.drop i.toNat).map (fun i => (rd_T61 m i).f0) → Ev (fun k => monikerref4_Same.l0 k l m (n + 1) a b) R) → Ev (fun k => monikerref4_Same.l1 k l m n tx ty i a b) R := by
    intro i hi h
    refine Ev.step (fun k => ?_) (h (by rw [List.drop_eq_nil_of_le (by omega), List.drop_eq_nil_of_le (by omega)]; rfl))
    simp only [monikerref4_Same.l1]
    rw [if_neg hi, hw]
  induction d with
  | zero => intro i h0 hd _ h _; exact hend i (by omega) h
  | succ d ih =>
    intro i h0 hd hle h hb
    by_cases c : i < (tx.length : Int)
    · obtain ⟨ex, mx_⟩ := rd_drop h0 c
      obtain ⟨ey, my_⟩ := rd_drop (ts := ty) h0 (by omega)
      obtain ⟨x0, x1⟩ := hx _ mx_
      obtain ⟨y0, y1⟩ := hy _ my_
      have hwi : wrap64 (i + 1) = i + 1 := kw64 (by omega) (by omega)
      rw [ex, ey, List.map_cons, List.map_cons] at h hb
      by_cases q : (rd_T61 l (rd tx i)).f0 = (rd_T61 m (rd ty i)).f0
      · refine Ev.step (fun k => ?_) (ih (i + 1) (by omega) (by omega) (by omega) (fun e => h (by rw [q, e])) (fun e => hb (fun e' => e (List.cons.inj e').2)))
        simp only [monikerref4_Same.l1]
        rw [if_pos c, if_pos h0, if_pos x0, if_pos x1, if_pos (by omega), if_pos y0, if_pos y1, if_pos q, hwi]
      · have : R = false := hb (fun e' => q (List.cons.inj e').1)
        subst this
        refine Ev.step (fun k => ?_) (Ev.now false)
        simp only [monikerref4_Same.l1]
        rw [if_pos c, if_pos h0, if_pos x0, if_pos x1, if_pos (by omega), if_pos y0, if_pos y1, if_neg q]
    · exact hend i c h

theorem tok_in (l : List S61) (x : S47) : ∀ i ∈ tokR l (mx x.f1 0) (mn x.f2 (l.length : Int)), 0 ≤ i ∧ i < (l.length : Int) := by
  have h0 : 0 ≤ mx x.f1 0 := by unfold mx; split <;> omega
  have h3 : mn x.f2 (l.length : Int) ≤ (l.length : Int) := by unfold mn; split <;> omega
  exact tokR_in l h0 h3
theorem tok_len (l : List S61) (x : S47) : (tokR l (mx x.f1 0) (mn x.f2 (l.length : Int))).length ≤ l.length := by
  have h0 : 0 ≤ mx x.f1 0 := by unfold mx; split <;> omega
  have h3 : mn x.f2 (l.length : Int) ≤ (l.length : Int) := by unfold mn; split <;> omega
  refine Nat.le_trans (tokR_len l _ _) ?_
  omega

theorem same_loop (l m : List S61) (a b : List S47) (hl : l.length ≤ 8796093022208) (hm : m.length ≤ 8796093022208) (ha : a.length ≤ 8796093022208) (hab : a.length = b.length) (d : Nat) : ∀ n : Int, 0 ≤ n → (a.length : Int) - n = d →
    Ev (fun k => monikerref4_Same.l0 k l m n a b) (sameGo l a m b d n) := by
  induction d with
  | zero =>
    intro n h0 hd
    refine Ev.step (fun k => ?_) (Ev.now true)
    simp only [monikerref4_Same.l0]
    rw [if_neg (by omega)]
  | succ d ih =>
    intro n h0 hd
    have c : n < (a.length : Int) := by omega
    have c2 : n < (b.length : Int) := by omega
    have ih' := ih (n + 1) (by omega) (by omega)
    have hbad : ∀ v, Ev (fun k => monikerref4_Same.j1 k l m n true a b) v ↔ Ev (fun _ => some false) v := fun v => ⟨fun ⟨K, h⟩ => ⟨0, fun _ _ => by have := h (K + 1) (by omega); simpa [monikerref4_Same.j1] using this⟩, fun ⟨K, h⟩ => Ev.step (fun k => by simp only [monikerref4_Same.j1]; rw [if_pos trivial]) ⟨K, h⟩⟩
    show Ev _ (nodeB l (rd_T47 a n) m (rd_T47 b n) && sameGo l a m b d (n + 1))
    unfold nodeB
    by_cases q0 : (rd_T47 a n).f0 = (rd_T47 b n).f0
    · refine Ev.step (f := fun k => monikerref4_Same.j1 k l m n ((rd_T47 a n).f3 != (rd_T47 b n).f3) a b) (fun k => ?_) ?_
      · simp only [monikerref4_Same.l0]
        rw [if_pos c, if_pos h0, if_pos c2, if_pos q0]
      · by_cases q3 : (rd_T47 a n).f3 = (rd_T47 b n).f3
        · rw [decide_eq_true q0, decide_eq_true q3, Bool.true_and, Bool.true_and, show ((rd_T47 a n).f3 != (rd_T47 b n).f3) = false by rw [q3]; simp]
          refine Ev.step (fun k => by simp only [monikerref4_Same.j1]; rw [if_neg (by simp), if_pos h0, if_pos c]) ?_
          refine (RTokens_is l hl _ _ _ _).bind ?_
          simp only [if_pos c2]
          refine (RTokens_is m hm _ _ _ _).bind ?_
          by_cases ql : (tokR l (mx (rd_T47 a n).f1 0) (mn (rd_T47 a n).f2 (l.length : Int))).length = (tokR m (mx (rd_T47 b n).f1 0) (mn (rd_T47 b n).f2 (m.length : Int))).length
          · simp only [if_pos (show ((tokR l (mx (rd_T47 a n).f1 0) (mn (rd_T47 a n).f2 (l.length : Int))).length : Int) = ((tokR m (mx (rd_T47 b n).f1 0) (mn (rd_T47 b n).f2 (m.length : Int))).length : Int) by rw [ql])]
            have htl := tok_len l (rd_T47 a n)
            refine same_inner l m a b n ⟨by omega, by omega⟩ _ _ (tok_in l (rd_T47 a n)) (tok_in m (rd_T47 b n)) ql (by omega) _ _ 0 (Int.le_refl _) (by rw [Int.sub_zero]; exact Int.le_refl _) (by omega) (fun e => ?_) (fun e => ?_)
            · have hk : kindsR l (rd_T47 a n) = kindsR m (rd_T47 b n) := e
              rw [decide_eq_true hk, Bool.true_and]
              exact ih'
            · have hk : ¬ kindsR l (rd_T47 a n) = kindsR m (rd_T47 b n) := e
              rw [decide_eq_false hk]
              rfl
          · simp only [if_neg (show ¬ ((tokR l (mx (rd_T47 a n).f1 0) (mn (rd_T47 a n).f2 (l.length : Int))).length : Int) = ((tokR m (mx (rd_T47 b n).f1 0) (mn (rd_T47 b n).f2 (m.length : Int))).length : Int) by omega)]
            have hk : ¬ kindsR l (rd_T47 a n) = kindsR m (rd_T47 b n) := fun e => ql (by have := congrArg List.length e; simpa [kindsR] using this)
            rw [decide_eq_false hk]
            exact Ev.now false
        · rw [decide_eq_false q3, Bool.false_and, Bool.and_false, Bool.false_and, show ((rd_T47 a n).f3 != (rd_T47 b n).f3) = true by simp [q3]]
          exact (hbad _).2 (Ev.now _)
    · rw [decide_eq_false q0, Bool.false_and, Bool.false_and]
      refine Ev.step (f := fun k => monikerref4_Same.j1 k l m n true a b) (fun k => ?_) ((hbad _).2 (Ev.now _))
      simp only [monikerref4_Same.l0]
      rw [if_pos c, if_pos h0, if_pos c2, if_neg q0]

theorem Same_is (l m : List S61) (a b : List S47) (hl : l.length ≤ 8796093022208) (hm : m.length ≤ 8796093022208) (ha : a.length ≤ 8796093022208) : Ev (fun k => tree_Same.f k l a m b) (sameB l a m b) := by
  unfold tree_Same.f
  rw [if_pos ⟨by omega, by omega, by omega⟩]
  exact Ev.now _
theorem RSame_is (l m : List S61) (a b : List S47) (hl : l.length ≤ 8796093022208) (hm : m.length ≤ 8796093022208) (ha : a.length ≤ 8796093022208) : Ev (fun k => monikerref4_Same.f k l a m b) (sameB l a m b) := by
  unfold monikerref4_Same.f sameB
  by_cases h : a.length = b.length
  · simp only [if_pos (show (a.length : Int) = (b.length : Int) by rw [h])]
    rw [decide_eq_true h, Bool.true_and]
    exact same_loop l m a b hl hm ha h a.length 0 (Int.le_refl _) (by omega)
  · simp only [if_neg (show ¬ (a.length : Int) = (b.length : Int) by omega)]
    rw [decide_eq_false h]
    exact Ev.now false
end Go.Proofs.Ytodldpdnhcafpaa.Q

namespace Go.Proofs.Ytodldpdnhcafpaa.H
open Go.RowKit Go.Proofs.YtodldpdnhcafpaaW.PrintWords Go.Proofs.YtodldpdnhcafpaaW.PrintLast Go.Proofs.YtodldpdnhcafpaaW.PrintMore
open Go.Proofs.Ytodldpdnhcafpaa.F
set_option linter.unusedVariables false
set_option linter.unusedSimpArgs false
theorem Reps.app {α : Type} {R : α → List Value → Prop} {size : Nat} {ps qs : List α} {cs ds : List Value} (h : Reps R size ps cs) (k : Reps R size qs ds) : Reps R size (ps ++ qs) (cs ++ ds) := by
  refine ⟨by rw [List.length_append, h.1, k.1, List.length_append, Nat.add_mul], fun j q hq => ?_⟩
  rcases Nat.lt_or_ge j ps.length with hj | hj
  · rw [List.getElem?_append_left hj] at hq
    have h1 : j * size + size ≤ cs.length := by rw [h.1, ← Nat.succ_mul]; exact Nat.mul_le_mul_right _ hj
    have h2 := h.2 j q hq
    rw [List.drop_append_of_le_length (by omega), List.take_append_of_le_length (by rw [List.length_drop]; omega)]
    exact h2
  · rw [List.getElem?_append_right hj] at hq
    have h2 := k.2 _ q hq
    have e : j * size = cs.length + (j - ps.length) * size := by rw [h.1, ← Nat.add_mul]; congr 1; omega
    rw [e, List.drop_append, List.drop_eq_nil_of_le (by omega), List.nil_append, Nat.add_sub_cancel_left]
    exact h2

theorem row_cells61 {w : World} {A : Option Addr} {l : List S61} (hr : Kd.C k61 w A l.length l) :
    ∃ inner, Reps (k61.K w) 3 l inner ∧ (A = none → l.length = 0) ∧ ∀ ad, A = some ad → ∀ j u, inner[j]? = some u → w.cell? (ad.add j) = some u := by
  cases A with
  | none =>
    have h0 : l.length = 0 := by
      rcases Nat.eq_zero_or_pos l.length with h | h
      · exact h
      · obtain ⟨ad, e, _⟩ := hr.2.2 h
        cases e
    obtain rfl := List.eq_nil_of_length_eq_zero h0
    exact ⟨[], Reps.none _ _, fun _ => h0, (fun ad e => by cases e)⟩
  | some ad =>
    obtain ⟨inner, h1, h2⟩ := ReadsRow.inner_ (R := k61.K w) (size := 3) hr
    exact ⟨inner, h1, (fun e => by cases e), fun ad2 e => by cases e; exact h2⟩
theorem row_one61 {w : World} {l : List S61} {inner : List Value} (h : Reps (k61.K w) 3 l inner) : ∀ u ∈ inner, u.oneCell' = true := by
  intro u hu
  obtain ⟨i, hi, rfl⟩ := List.mem_iff_getElem.1 hu
  have hj : i / 3 < l.length := by have := h.1; omega
  have hk := h.2 (i / 3) (l[i / 3]'hj) (List.getElem?_eq_getElem hj)
  refine k61.K_one hk _ ?_
  rw [List.mem_iff_getElem]
  refine ⟨i % 3, by rw [List.length_take, List.length_drop]; have := h.1; omega, ?_⟩
  rw [List.getElem_take, List.getElem_drop]
  congr 1
  omega
def marks61 : List S61 := [⟨0, -5, -6⟩, ⟨77, 0, 0⟩]
def mcells61 : List Value := [.int .u8 0, .int .i64 (-5), .int .i64 (-6), .int .u8 77, .int .i64 0, .int .i64 0]
theorem mcell61 (w2 : World) (j : Nat) (u : Value) (hu : mcells61[j]? = some u) : (w2.alloc (.cells mcells61.toArray 61)).cell? ((⟨w2.heap.size, 0, none⟩ : Addr).add j) = some u := by
  rw [add_plain, World.cell?_alloc_new]; simpa using hu
theorem mcells61_one : ∀ u ∈ mcells61, u.oneCell' = true := by simp [mcells61, Value.oneCell']
theorem reps_marks61 (w : World) : Reps (k61.K w) 3 marks61 mcells61 := by
  refine ⟨rfl, fun j p hj => ?_⟩
  match j, hj with
  | 0, hj => cases hj; exact k61_mk w _
  | 1, hj => cases hj; exact k61_mk w _
  | j + 2, hj => simp [marks61] at hj
theorem C_of_own61 {w w3 : World} {base g c : Nat} {l : List S61} {inner : List Value} (hR : Reps (k61.K w) 3 l inner) (h : w3.ownsRow base 61 3 (.slice (some ⟨g, 0, none⟩) (l.length + 2) c) (l.length + 2) (inner ++ mcells61)) :
    Kd.C k61 w3 (some ⟨g, 0, none⟩) (l.length + 2) (l ++ marks61) := by
  have hk : ∀ (p : S61) cs, k61.K w p cs → k61.K w3 p cs := fun p cs h => by rw [k61_open h]; exact k61_mk w3 p
  obtain ⟨A, c', he, hrow⟩ := own_reads_row (R := k61.K w3) (ps := l ++ marks61) h (Reps.app (Reps.imp_ hR hk) (reps_marks61 w3)) (by simp [marks61])
  injection he with h1 _ _
  subst h1
  exact hrow
theorem C_lent61 {w : World} {A : Option Addr} {l : List S61} (h : Kd.C k61 w A (l.length + 2) (l ++ marks61)) : Kd.C k61 w A l.length l := by
  have h' : Kd.C k61 w A (l ++ marks61).length (l ++ marks61) := by rw [List.length_append]; exact h
  have h2 := Kd.C_take (m := l.length) h' (by simp)
  simpa using h2

theorem row_cells47 {w : World} {A : Option Addr} {l : List S47} (hr : Kd.C k47 w A l.length l) :
    ∃ inner, Reps (k47.K w) 4 l inner ∧ (A = none → l.length = 0) ∧ ∀ ad, A = some ad → ∀ j u, inner[j]? = some u → w.cell? (ad.add j) = some u := by
  cases A with
  | none =>
    have h0 : l.length = 0 := by
      rcases Nat.eq_zero_or_pos l.length with h | h
      · exact h
      · obtain ⟨ad, e, _⟩ := hr.2.2 h
        cases e
    obtain rfl := List.eq_nil_of_length_eq_zero h0
    exact ⟨[], Reps.none _ _, fun _ => h0, (fun ad e => by cases e)⟩
  | some ad =>
    obtain ⟨inner, h1, h2⟩ := ReadsRow.inner_ (R := k47.K w) (size := 4) hr
    exact ⟨inner, h1, (fun e => by cases e), fun ad2 e => by cases e; exact h2⟩
theorem row_one47 {w : World} {l : List S47} {inner : List Value} (h : Reps (k47.K w) 4 l inner) : ∀ u ∈ inner, u.oneCell' = true := by
  intro u hu
  obtain ⟨i, hi, rfl⟩ := List.mem_iff_getElem.1 hu
  have hj : i / 4 < l.length := by have := h.1; omega
  have hk := h.2 (i / 4) (l[i / 4]'hj) (List.getElem?_eq_getElem hj)
  refine k47.K_one hk _ ?_
  rw [List.mem_iff_getElem]
  refine ⟨i % 4, by rw [List.length_take, List.length_drop]; have := h.1; omega, ?_⟩
  rw [List.getElem_take, List.getElem_drop]
  congr 1
  omega
def marks47 : List S47 := [⟨99, -3, 0, -4⟩, ⟨0, 0, 12345, 0⟩]
def mcells47 : List Value := [.int .u8 99, .int .i64 (-3), .int .i64 0, .int .i64 (-4), .int .u8 0, .int .i64 0, .int .i64 12345, .int .i64 0]
theorem mcell47 (w2 : World) (j : Nat) (u : Value) (hu : mcells47[j]? = some u) : (w2.alloc (.cells mcells47.toArray 47)).cell? ((⟨w2.heap.size, 0, none⟩ : Addr).add j) = some u := by
  rw [add_plain, World.cell?_alloc_new]; simpa using hu
theorem mcells47_one : ∀ u ∈ mcells47, u.oneCell' = true := by simp [mcells47, Value.oneCell']
theorem reps_marks47 (w : World) : Reps (k47.K w) 4 marks47 mcells47 := by
  refine ⟨rfl, fun j p hj => ?_⟩
  match j, hj with
  | 0, hj => cases hj; exact k47_mk w _
  | 1, hj => cases hj; exact k47_mk w _
  | j + 2, hj => simp [marks47] at hj
theorem C_of_own47 {w w3 : World} {base g c : Nat} {l : List S47} {inner : List Value} (hR : Reps (k47.K w) 4 l inner) (h : w3.ownsRow base 47 4 (.slice (some ⟨g, 0, none⟩) (l.length + 2) c) (l.length + 2) (inner ++ mcells47)) :
    Kd.C k47 w3 (some ⟨g, 0, none⟩) (l.length + 2) (l ++ marks47) := by
  have hk : ∀ (p : S47) cs, k47.K w p cs → k47.K w3 p cs := fun p cs h => by rw [k47_open h]; exact k47_mk w3 p
  obtain ⟨A, c', he, hrow⟩ := own_reads_row (R := k47.K w3) (ps := l ++ marks47) h (Reps.app (Reps.imp_ hR hk) (reps_marks47 w3)) (by simp [marks47])
  injection he with h1 _ _
  subst h1
  exact hrow
theorem C_lent47 {w : World} {A : Option Addr} {l : List S47} (h : Kd.C k47 w A (l.length + 2) (l ++ marks47)) : Kd.C k47 w A l.length l := by
  have h' : Kd.C k47 w A (l ++ marks47).length (l ++ marks47) := by rw [List.length_append]; exact h
  have h2 := Kd.C_take (m := l.length) h' (by simp)
  simpa using h2

theorem own_set1 {w : World} {base n : Nat} {e : TypeId} {size : Nat} {v : Value} {xs : List Value} {g : Nat} (h : w.ownsRow base e size v n xs) (hne : v.ownBlock ≠ some g) (j : Nat) (u : Value) : (w.setCell ⟨g, j, none⟩ u).ownsRow base e size v n xs :=
  own_move h (fun k hk => Below.heap_setCell w ⟨g, j, none⟩ u k (by rintro rfl; exact hne hk))
theorem own_set3 {w : World} {base n : Nat} {e : TypeId} {size : Nat} {v : Value} {xs : List Value} {g : Nat} (h : w.ownsRow base e size v n xs) (hne : v.ownBlock ≠ some g) (i j k : Nat) (u u' u'' : Value) : (((w.setCell ⟨g, i, none⟩ u).setCell ⟨g, j, none⟩ u').setCell ⟨g, k, none⟩ u'').ownsRow base e size v n xs :=
  own_set1 (own_set1 (own_set1 h hne i u) hne j u') hne k u''
section
variable {P : Program} {ops : Array Oper} {rest : List Oper} {o : Oper} {a : Act} {Q : Exit → Act → World → Prop}
/-- make([]T, 0, n), the block a letter. -/
theorem make_g {W : World} (hg : o.guard = none) (l c : Operand) (t : TypeId) (hop : o.op = Op.makeSlice t l c) (base : Nat) (e : TypeId) (i : TypeInfo) (z : Value) (size : Nat) (h1 : P.underlying t = some (.slice e)) (h2 : P.info? e = some i) (h3 : i.zero = some z) (h4 : i.size = size)
    (kl kc : IntKind) (C : Int) (n : Nat) (hl : a.eval l = .int kl 0) (hc : a.eval c = .int kc C) (hC : C = (n : Int)) (b2 : i.bytes * n ≤ 281474976710656) (b3 : n ≤ maxLen) (b4 : base ≤ W.heap.size)
    (hK : ∀ g w', W.heap.size ≤ g → w'.ownsRow base e size (.slice (some ⟨g, 0, none⟩) 0 n) 0 [] → W.grownBy w' none → wpList P ops Q rest (a.put o.dst (.slice (some ⟨g, 0, none⟩) 0 n)) w') :
    wpList P ops Q (o :: rest) a W :=
  wpList_make_own W hg l c t hop base e i z size h1 h2 h3 h4 kl kc C n hl hc hC b2 b3 b4 (hK _ · (Nat.le_refl _))
end
 
def LentPost (t : ByteArray) (ps : List S61) (ns : List S47) (w : World) (e : Ending) (w' : World) : Prop :=
  ∃ A B, e = .returned (.agg #[.string t, .slice A ps.length (ps.length + 2), .slice B ns.length (ns.length + 2)]) ∧ Kd.C k61 w' A (ps.length + 2) (ps ++ marks61) ∧ Kd.C k47 w' B (ns.length + 2) (ns ++ marks47) ∧ Below w.heap.size w w'

set_option maxHeartbeats 2000000 in
theorem lent_calls (t : ByteArray) (A1 : Option Addr) (c1 : Nat) (ps : List S61) (A2 : Option Addr) (c2 : Nat) (ns : List S47) (w : World)
    (hr1 : Kd.C k61 w A1 ps.length ps) (hc1 : ps.length ≤ c1) (hn1 : A1 = none → c1 = 0) (hb1 : ps.length * 24 ≤ 140737488351232)
    (hr2 : Kd.C k47 w A2 ns.length ns) (hc2 : ns.length ≤ c2) (hn2 : A2 = none → c2 = 0) (hb2 : ns.length * 32 ≤ 140737488351232) :
    Calls Try.prog 18 #[.agg #[.string t, .slice A1 ps.length c1, .slice A2 ns.length c2]] w (LentPost t ps ns w) := by
  have hu61 := Try.underlying61
  have hu47 := Try.underlying47
  have hu27 := Try.underlying27
  have hu25 := Try.underlying25
  obtain ⟨i, hi, hz0, hz1, hz2⟩ := info_parts info61
  obtain ⟨i', hi', hz0', hz1', hz2'⟩ := info_parts info47
  obtain ⟨inner, hR, hA, hcell⟩ := row_cells61 hr1
  obtain ⟨inner', hR', hA', hcell'⟩ := row_cells47 hr2
  have HR := Aside0.mk hR
  have hlen : inner.length = ps.length * 3 := hR.1
  have HL := Aside0.mk hlen
  have HC := Aside0.mk hcell
  have HN := Aside0.mk hn1
  have HA := Aside0.mk hA
  have HY := Aside0.mk hz2
  have HI := Aside0.mk hi
  have HZ0 := Aside0.mk hz0
  have HZ1 := Aside0.mk hz1
  have HR' := Aside0.mk hR'
  have hlen' : inner'.length = ns.length * 4 := hR'.1
  have HL' := Aside0.mk hlen'
  have HC' := Aside0.mk hcell'
  have HN' := Aside0.mk hn2
  have HA' := Aside0.mk hA'
  have HY' := Aside0.mk hz2'
  have HI' := Aside0.mk hi'
  have HZ0' := Aside0.mk hz0'
  have HZ1' := Aside0.mk hz1'
  clear hR hcell hr1 hn1 hA hlen hz2 hi hz0 hz1 hR' hcell' hr2 hn2 hA' hlen' hz2' hi' hz0' hz1'
  have hl : ps.length ≤ 5864062014634 := by omega
  have hl' : ns.length ≤ 4398046510976 := by omega
  go_enter Try.func18, Try.ntmps18
  go_wp2_with (first
    | ((with_reducible refine gate_dst (N := 1) rfl ?_); refine box_event ?hg (N := 1) ?hd (cs := #[.string t, .slice A1 ps.length c1, .slice A2 ns.length c2]) (t := 27) ?hr ?_; (case hd => rfl); (case hg => rfl); (case hr => first | (go_simp; done) | (go_simp; rfl)); intro gb1 hge w1 hbox hb; have BK1 := Aside0.mk hbox; have HB := Aside0.mk hb; clear hbox hge hb; have hx0 : w1.cell? ⟨gb1, 0, none⟩ = some (.string t) := (blk_cell BK1.out 0).trans rfl; have hx1 : w1.cell? ⟨gb1, 1, none⟩ = some (.slice A1 ps.length c1) := (blk_cell BK1.out 1).trans rfl; have hx2 : w1.cell? ⟨gb1, 2, none⟩ = some (.slice A2 ns.length c2) := (blk_cell BK1.out 2).trans rfl)
    | ((with_reducible refine gate_dst (N := 2) rfl ?_); refine box_event ?hg (N := 2) ?hd (cs := #[.string ⟨#[]⟩, .slice none 0 0, .slice none 0 0]) (t := 27) ?hr ?_; (case hd => rfl); (case hg => rfl); (case hr => first | (go_simp; done) | (go_simp; rfl)); intro gb2 hge w2 hbox hb; have BK2 := Aside0.mk hbox; have GE2 := Aside0.mk (show w.heap.size ≤ gb2 by rw [hge]; exact HB.out.size); clear hx0 hx1 hx2; have n0_ := Aside0.mk (blk_below BK1.out hb); have n1_ := Aside0.mk (below_step HB.out hb); clear BK1; clear HB; have BK1 := n0_; have HB := n1_; clear n0_ n1_; clear hbox hge hb; have hx0 : w2.cell? ⟨gb1, 0, none⟩ = some (.string t) := (blk_cell BK1.out 0).trans rfl; have hx1 : w2.cell? ⟨gb1, 1, none⟩ = some (.slice A1 ps.length c1) := (blk_cell BK1.out 1).trans rfl; have hx2 : w2.cell? ⟨gb1, 2, none⟩ = some (.slice A2 ns.length c2) := (blk_cell BK1.out 2).trans rfl)
    | ((with_reducible refine gate_dst (N := 9) rfl ?_); refine make_g rfl _ _ 22 rfl w.heap.size 61 i _ 3 Try.underlying22 HI.out HZ0.out HZ1.out _ _ _ (ps.length + 2) rfl rfl (by first | rfl | (simp; done) | omega) (by rw [HY.out]; omega) (by unfold maxLen; omega) HB.out.size ?_; intro ga w3 hge hown hg; have HOa := Aside0.mk hown; have NE1ga := Aside0.mk (Nat.ne_of_lt (Nat.lt_of_lt_of_le (blk_lt BK1.out) hge)); have NE2ga := Aside0.mk (Nat.ne_of_lt (Nat.lt_of_lt_of_le (blk_lt BK2.out) hge)); have GEga := Aside0.mk (Nat.le_trans HB.out.size hge); clear hx0 hx1 hx2; have n0_ := Aside0.mk (blk_grown BK1.out hg (by simp)); have n1_ := Aside0.mk (blk_grown BK2.out hg (by simp)); have n2_ := Aside0.mk (HB.out.grown hg HB.out.size (by simp)); clear BK1; clear BK2; clear HB; have BK1 := n0_; have BK2 := n1_; have HB := n2_; clear n0_ n1_ n2_; clear hown hg hge; have hx0 : w3.cell? ⟨gb1, 0, none⟩ = some (.string t) := (blk_cell BK1.out 0).trans rfl; have hx1 : w3.cell? ⟨gb1, 1, none⟩ = some (.slice A1 ps.length c1) := (blk_cell BK1.out 1).trans rfl; have hx2 : w3.cell? ⟨gb1, 2, none⟩ = some (.slice A2 ns.length c2) := (blk_cell BK1.out 2).trans rfl)
    | ((with_reducible refine gate_dst (N := 13) rfl ?_); refine wpList_append_fits_any _ rfl _ _ 22 rfl w.heap.size 61 i 3 Try.underlying22 HI.out HZ1.out ga 0 (ps.length + 2) [] rfl HOa.out A1 ps.length c1 inner rfl HL.out (fun e => ⟨HA.out e, HN.out e⟩) (fun ad e j u hu => pw_cell_below HB.out (HC.out ad e j u hu)) (row_one61 HR.out) (by omega) ?_; intro w4 hown hg; simp only [Nat.zero_add, List.nil_append] at hown; clear HOa; have HOa := Aside0.mk hown; clear hx0 hx1 hx2; have n0_ := Aside0.mk (blk_grown BK1.out hg (by simpa using NE1ga.out)); have n1_ := Aside0.mk (blk_grown BK2.out hg (by simpa using NE2ga.out)); have n2_ := Aside0.mk (HB.out.grown hg HB.out.size (by rintro k ⟨⟩; exact GEga.out)); clear BK1; clear BK2; clear HB; have BK1 := n0_; have BK2 := n1_; have HB := n2_; clear n0_ n1_ n2_; clear hown hg; have hx0 : w4.cell? ⟨gb1, 0, none⟩ = some (.string t) := (blk_cell BK1.out 0).trans rfl; have hx1 : w4.cell? ⟨gb1, 1, none⟩ = some (.slice A1 ps.length c1) := (blk_cell BK1.out 1).trans rfl; have hx2 : w4.cell? ⟨gb1, 2, none⟩ = some (.slice A2 ns.length c2) := (blk_cell BK1.out 2).trans rfl; rw [Nat.zero_add])
    | ((with_reducible refine gate_dst (N := 18) rfl ?_); refine wpList_append_fits _ rfl _ _ 22 rfl w.heap.size 61 i 3 Try.underlying22 HI.out HZ1.out ga ps.length (ps.length + 2) inner rfl (HOa.out.alloc _) ⟨w4.heap.size, 0, none⟩ 2 2 mcells61 rfl rfl (fun j u hu => mcell61 w4 j u hu) mcells61_one (by omega) ?_; intro w5 hown hg; clear HOa; have HOa := Aside0.mk hown; clear hx0 hx1 hx2; have n0_ := Aside0.mk (blk_grown (blk_alloc BK1.out (.cells mcells61.toArray 61)) hg (by simpa using NE1ga.out)); have n1_ := Aside0.mk (blk_grown (blk_alloc BK2.out (.cells mcells61.toArray 61)) hg (by simpa using NE2ga.out)); have n2_ := Aside0.mk ((below_alloc HB.out (.cells mcells61.toArray 61)).grown hg (below_alloc HB.out (.cells mcells61.toArray 61)).size (by rintro k ⟨⟩; exact GEga.out)); clear BK1; clear BK2; clear HB; have BK1 := n0_; have BK2 := n1_; have HB := n2_; clear n0_ n1_ n2_; clear hown hg; have hx0 : w5.cell? ⟨gb1, 0, none⟩ = some (.string t) := (blk_cell BK1.out 0).trans rfl; have hx1 : w5.cell? ⟨gb1, 1, none⟩ = some (.slice A1 ps.length c1) := (blk_cell BK1.out 1).trans rfl; have hx2 : w5.cell? ⟨gb1, 2, none⟩ = some (.slice A2 ns.length c2) := (blk_cell BK1.out 2).trans rfl)
    | ((with_reducible refine gate_dst (N := 24) rfl ?_); refine make_g rfl _ _ 23 rfl w.heap.size 47 i' _ 4 Try.underlying23 HI'.out HZ0'.out HZ1'.out _ _ _ (ns.length + 2) rfl rfl (by first | rfl | (simp; done) | omega) (by rw [HY'.out]; omega) (by unfold maxLen; omega) HB.out.size ?_; intro gc w6 hge hown hg; have HOb := Aside0.mk hown; have NE1gc := Aside0.mk (Nat.ne_of_lt (Nat.lt_of_lt_of_le (blk_lt BK1.out) hge)); have NE2gc := Aside0.mk (Nat.ne_of_lt (Nat.lt_of_lt_of_le (blk_lt BK2.out) hge)); have GEgc := Aside0.mk (Nat.le_trans HB.out.size hge); have NEa := Aside0.mk (Nat.ne_of_lt (Nat.lt_of_lt_of_le (own_lt HOa.out ga rfl) hge)); clear hx0 hx1 hx2; have n0_ := Aside0.mk (blk_grown BK1.out hg (by simp)); have n1_ := Aside0.mk (blk_grown BK2.out hg (by simp)); have n2_ := Aside0.mk (HB.out.grown hg HB.out.size (by simp)); have n3_ := Aside0.mk (HOa.out.kept hg (.inr (by simp [Value.ownBlock]))); clear BK1; clear BK2; clear HB; clear HOa; have BK1 := n0_; have BK2 := n1_; have HB := n2_; have HOa := n3_; clear n0_ n1_ n2_ n3_; clear hown hg hge; have hx0 : w6.cell? ⟨gb1, 0, none⟩ = some (.string t) := (blk_cell BK1.out 0).trans rfl; have hx1 : w6.cell? ⟨gb1, 1, none⟩ = some (.slice A1 ps.length c1) := (blk_cell BK1.out 1).trans rfl; have hx2 : w6.cell? ⟨gb1, 2, none⟩ = some (.slice A2 ns.length c2) := (blk_cell BK1.out 2).trans rfl)
    | ((with_reducible refine gate_dst (N := 29) rfl ?_); refine wpList_append_fits_any _ rfl _ _ 23 rfl w.heap.size 47 i' 4 Try.underlying23 HI'.out HZ1'.out gc 0 (ns.length + 2) [] rfl HOb.out A2 ns.length c2 inner' rfl HL'.out (fun e => ⟨HA'.out e, HN'.out e⟩) (fun ad e j u hu => pw_cell_below HB.out (HC'.out ad e j u hu)) (row_one47 HR'.out) (by omega) ?_; intro w7 hown hg; simp only [Nat.zero_add, List.nil_append] at hown; clear HOb; have HOb := Aside0.mk hown; clear hx0 hx1 hx2; have n0_ := Aside0.mk (blk_grown BK1.out hg (by simpa using NE1gc.out)); have n1_ := Aside0.mk (blk_grown BK2.out hg (by simpa using NE2gc.out)); have n2_ := Aside0.mk (HB.out.grown hg HB.out.size (by rintro k ⟨⟩; exact GEgc.out)); have n3_ := Aside0.mk (HOa.out.kept hg (.inr (by simpa [Value.ownBlock] using NEa.out))); clear BK1; clear BK2; clear HB; clear HOa; have BK1 := n0_; have BK2 := n1_; have HB := n2_; have HOa := n3_; clear n0_ n1_ n2_ n3_; clear hown hg; have hx0 : w7.cell? ⟨gb1, 0, none⟩ = some (.string t) := (blk_cell BK1.out 0).trans rfl; have hx1 : w7.cell? ⟨gb1, 1, none⟩ = some (.slice A1 ps.length c1) := (blk_cell BK1.out 1).trans rfl; have hx2 : w7.cell? ⟨gb1, 2, none⟩ = some (.slice A2 ns.length c2) := (blk_cell BK1.out 2).trans rfl; rw [Nat.zero_add])
    | ((with_reducible refine gate_dst (N := 34) rfl ?_); refine wpList_append_fits _ rfl _ _ 23 rfl w.heap.size 47 i' 4 Try.underlying23 HI'.out HZ1'.out gc ns.length (ns.length + 2) inner' rfl (HOb.out.alloc _) ⟨w7.heap.size, 0, none⟩ 2 2 mcells47 rfl rfl (fun j u hu => mcell47 w7 j u hu) mcells47_one (by omega) ?_; intro w8 hown hg; clear HOb; have HOb := Aside0.mk hown; clear hx0 hx1 hx2; have n0_ := Aside0.mk (blk_grown (blk_alloc BK1.out (.cells mcells47.toArray 47)) hg (by simpa using NE1gc.out)); have n1_ := Aside0.mk (blk_grown (blk_alloc BK2.out (.cells mcells47.toArray 47)) hg (by simpa using NE2gc.out)); have n2_ := Aside0.mk ((below_alloc HB.out (.cells mcells47.toArray 47)).grown hg (below_alloc HB.out (.cells mcells47.toArray 47)).size (by rintro k ⟨⟩; exact GEgc.out)); have n3_ := Aside0.mk ((HOa.out.alloc (.cells mcells47.toArray 47)).kept hg (.inr (by simpa [Value.ownBlock] using NEa.out))); clear BK1; clear BK2; clear HB; clear HOa; have BK1 := n0_; have BK2 := n1_; have HB := n2_; have HOa := n3_; clear n0_ n1_ n2_ n3_; clear hown hg; have hx0 : w8.cell? ⟨gb1, 0, none⟩ = some (.string t) := (blk_cell BK1.out 0).trans rfl; have hx1 : w8.cell? ⟨gb1, 1, none⟩ = some (.slice A1 ps.length c1) := (blk_cell BK1.out 1).trans rfl; have hx2 : w8.cell? ⟨gb1, 2, none⟩ = some (.slice A2 ns.length c2) := (blk_cell BK1.out 2).trans rfl; have hy0 : w8.cell? ⟨gb2, 0, none⟩ = some (.string ⟨#[]⟩) := (blk_cell BK2.out 0).trans rfl; have hz0 := blk_frozen BK2.out 0; have hy1 : w8.cell? ⟨gb2, 1, none⟩ = some (.slice none 0 0) := (blk_cell BK2.out 1).trans rfl; have hz1 := blk_frozen BK2.out 1; have hy2 : w8.cell? ⟨gb2, 2, none⟩ = some (.slice none 0 0) := (blk_cell BK2.out 2).trans rfl; have hz2 := blk_frozen BK2.out 2))
  go_region
  go_wp2
  have hfin : ((((w8.setCell ⟨gb2, 0, none⟩ (.string t)).setCell ⟨gb2, 1, none⟩ (.slice (some ⟨ga, 0, none⟩) ps.length (ps.length + 2))).setCell ⟨gb2, 2, none⟩ (.slice (some ⟨gc, 0, none⟩) ns.length (ns.length + 2))).drew).heap[gb2]? = some (.cells #[.string t, .slice (some ⟨ga, 0, none⟩) ps.length (ps.length + 2), .slice (some ⟨gc, 0, none⟩) ns.length (ns.length + 2)] 27 (0, 0)) := by
    refine blk_drew ?_
    refine blk_put (cs := #[.string t, .slice (some ⟨ga, 0, none⟩) ps.length (ps.length + 2), .slice none 0 0]) ?_ 2 _ rfl
    refine blk_put (cs := #[.string t, .slice none 0 0, .slice none 0 0]) ?_ 1 _ rfl
    refine blk_put (cs := #[.string ⟨#[]⟩, .slice none 0 0, .slice none 0 0]) ?_ 0 _ rfl
    exact BK2.out
  refine bodyPost_ret (results_cell_row rfl _ _ gb2 27 #[.string t, .slice (some ⟨ga, 0, none⟩) ps.length (ps.length + 2), .slice (some ⟨gc, 0, none⟩) ns.length (ns.length + 2)] (0, 0) _ rfl hfin Try.underlying27 rfl (by kernel_rfl)) rfl ?_
  have hb8 : Below w.heap.size w ((((w8.setCell ⟨gb2, 0, none⟩ (.string t)).setCell ⟨gb2, 1, none⟩ (.slice (some ⟨ga, 0, none⟩) ps.length (ps.length + 2))).setCell ⟨gb2, 2, none⟩ (.slice (some ⟨gc, 0, none⟩) ns.length (ns.length + 2))).drew) := by
    refine below_drew ?_
    refine below_set ?_ GE2.out
    refine below_set ?_ GE2.out
    refine below_set ?_ GE2.out
    exact HB.out
  have na : (some gb2 : Option Nat) ≠ some ga := by simpa using NE2ga.out
  have nc : (some gb2 : Option Nat) ≠ some gc := by simpa using NE2gc.out
  have ra := (own_set3 HOa.out (by simpa [Value.ownBlock] using Ne.symm na) 0 1 2 (.string t) (.slice (some ⟨ga, 0, none⟩) ps.length (ps.length + 2)) (.slice (some ⟨gc, 0, none⟩) ns.length (ns.length + 2))).drew
  have rc := (own_set3 HOb.out (by simpa [Value.ownBlock] using Ne.symm nc) 0 1 2 (.string t) (.slice (some ⟨ga, 0, none⟩) ps.length (ps.length + 2)) (.slice (some ⟨gc, 0, none⟩) ns.length (ns.length + 2))).drew
  exact ⟨_, _, rfl, C_of_own61 HR.out ra, C_of_own47 HR'.out rc, hb8⟩
end Go.Proofs.Ytodldpdnhcafpaa.H

-- A text of this session's own program (wip/myprint.sh over a changed print tool): functions and their walks
namespace Go.Proofs.Ytodldpdnhcafpaa.F
open Go.RowKit Go.Proofs.YtodldpdnhcafpaaW.PrintWords Go.Proofs.YtodldpdnhcafpaaW.PrintLast Go.Proofs.YtodldpdnhcafpaaW.PrintMore
attribute [local go_sem] max2_int min2_int max_two min_two max_three min_three max_four min_four   -- for this text's walks alone
set_option linter.unusedVariables false
set_option linter.unusedSimpArgs false

theorem eqA61 (d : Nat) (w : World) (x0 y0 : Int) (x1 y1 : Int) (x2 y2 : Int) :
    (Op.equalIn (d + 2) 61 (.agg #[.int .u8 x0, .int .i64 x1, .int .i64 x2]) (.agg #[.int .u8 y0, .int .i64 y1, .int .i64 y2])).run Try.prog w = .ok (x0 == y0 && (x1 == y1 && (x2 == y2))) w := by
  refine eqA_of Try.underlying61 (by kernel_rfl) ?_
  refine eqf_cons (by rfl) (by go_simp; rfl) (by go_simp; rfl) (by go_simp) ?_
  refine eqf_cons (by rfl) (by go_simp; rfl) (by go_simp; rfl) (by go_simp) ?_
  exact eqf_last (by rfl) (by go_simp; rfl) (by go_simp; rfl) (by go_simp)
end Go.Proofs.Ytodldpdnhcafpaa.F

-- A text of this session's own program (wip/myprint.sh over a changed print tool): functions and their walks
namespace Go.Proofs.Ytodldpdnhcafpaa.F
open Go.RowKit Go.Proofs.YtodldpdnhcafpaaW.PrintWords Go.Proofs.YtodldpdnhcafpaaW.PrintLast Go.Proofs.YtodldpdnhcafpaaW.PrintMore
attribute [local go_sem] max2_int min2_int max_two min_two max_three min_three max_four min_four   -- for this text's walks alone
set_option linter.unusedVariables false
set_option linter.unusedSimpArgs false

attribute [local go_sem high] eqA61
/-! ### monikerplain_SameTokens: function 46 -/
def monikerplain_SameTokens.l0 : Nat → List (S61) → List (S61) → Int → Int → Option (Bool)
  | 0, _, _, _, _ => none
  | k + 1, x0, x1, x12, x13 => if x13 < x12 then (if 0 ≤ x13 then (if x13 < (x0.length : Int) then (if x13 < (x1.length : Int) then (if (!(((rd_T61 x0 x13).f0) == ((rd_T61 x1 x13).f0)) || (!(((rd_T61 x0 x13).f1) == ((rd_T61 x1 x13).f1)) || (!(((rd_T61 x0 x13).f2) == ((rd_T61 x1 x13).f2))))) = true then (some false) else (monikerplain_SameTokens.l0 k x0 x1 x12 (wrap64 (x13 + 1)))) else (none)) else (none)) else (none)) else (some true)
def monikerplain_SameTokens.f (k : Nat) (l0 : List (S61)) (l1 : List (S61)) : Option (Bool) := if (l0.length : Int) = (l1.length : Int) then (monikerplain_SameTokens.l0 k l0 l1 (l0.length : Int) 0) else (some false)
set_option maxHeartbeats 8000000 in
set_option maxRecDepth 100000 in
theorem monikerplain_SameTokens.calls (k : Nat) (A0 : Option Addr) (c0 : Nat) (l0 : List (S61)) (A1 : Option Addr) (c1 : Nat) (l1 : List (S61)) (r : Bool) (w : World) (hr0 : Kd.C k61 w A0 l0.length l0) (hc0 : l0.length ≤ c0) (hr1 : Kd.C k61 w A1 l1.length l1) (hc1 : l1.length ≤ c1) (h : monikerplain_SameTokens.f k l0 l1 = some r) :
    Calls Try.prog 46 #[.slice A0 l0.length c0, .slice A1 l1.length c1] w fun e w' => e = .returned (.bool r) ∧ Drawn0 w w' := by
  have hu61 := Try.underlying61
  have HR0 := Aside0.mk hr0
  have HC0 := Aside0.mk hc0
  clear hr0 hc0
  have HR1 := Aside0.mk hr1
  have HC1 := Aside0.mk hc1
  clear hr1 hc1
  have H : (if (l0.length : Int) = (l1.length : Int) then (monikerplain_SameTokens.l0 k l0 l1 (l0.length : Int) 0) else (some false)) = some r := h
  clear h
  by_cases c3 : (l0.length : Int) = (l1.length : Int)
  · rw [if_pos c3] at H
    have c3b0 : ((l0.length : Int) == (l1.length : Int)) = true := beq_iff_eq.mpr c3
    have c3b1 : ((l0.length : Int) != (l1.length : Int)) = false := bne_eq_false_iff_eq.mpr c3
    have c3b2 : (l0.length == l1.length) = true := by first | simpa using c3 | (simp at c3 ⊢; omega)
    clear c3
    have H' := Aside0.mk H
    clear H
    go_enter Try.func46, Try.ntmps46
    go_wp2
    repeat (go_quiet (fail); try go_wp2)
    go_loopg [13] k (fun kq v13 w' => ∃ (x13_1 : Int), v13 = .int .i64 x13_1 ∧ Aside0 (monikerplain_SameTokens.l0 kq l0 l1 (l0.length : Int) x13_1 = some r) ∧ Aside0 (kq ≤ k) ∧ Drawn0 w w')
    case atStart => exact ⟨(0), (by first | rfl | (simp; done) | (simp [*]; done)), H', ⟨Nat.le_refl _⟩, by repeat (first | exact Drawn0.refl _ | apply Drawn0.step)⟩
    case round =>
      clear H'
      try clear c1
      try clear p2
      try clear c3
      try clear c3b0
      try clear c3b1
      try clear c3b2
      obtain ⟨x13_1, rfl, HA, HK1, ⟨m1, rfl⟩⟩ := hrel
      cases gk with
      | zero => exact absurd HA.out (by simp [monikerplain_SameTokens.l0])
      | succ k1 =>
        have H := HA.out
        clear HA
        simp only [monikerplain_SameTokens.l0] at H
        by_cases c4 : x13_1 < (l0.length : Int)
        · rw [if_pos c4] at H
          have c4b0 : decide (x13_1 < (l0.length : Int)) = true := decide_eq_true c4
          clear c4
          by_cases c5 : 0 ≤ x13_1
          · rw [if_pos c5] at H
            have c5b0 : decide (0 ≤ x13_1) = true := decide_eq_true c5
            clear c5
            by_cases c6 : x13_1 < (l0.length : Int)
            · rw [if_pos c6] at H
              have c6b0 : decide (x13_1 < (l0.length : Int)) = true := decide_eq_true c6
              clear c6
              by_cases c7 : x13_1 < (l1.length : Int)
              · rw [if_pos c7] at H
                have c7b0 : decide (x13_1 < (l1.length : Int)) = true := decide_eq_true c7
                clear c7
                by_cases c8 : (!(((rd_T61 l0 x13_1).f0) == ((rd_T61 l1 x13_1).f0)) || (!(((rd_T61 l0 x13_1).f1) == ((rd_T61 l1 x13_1).f1)) || (!(((rd_T61 l0 x13_1).f2) == ((rd_T61 l1 x13_1).f2))))) = true
                · rw [if_pos c8] at H
                  have c8b0 : (!(((rd_T61 l0 x13_1).f0) == ((rd_T61 l1 x13_1).f0)) || (!(((rd_T61 l0 x13_1).f1) == ((rd_T61 l1 x13_1).f1)) || (!(((rd_T61 l0 x13_1).f2) == ((rd_T61 l1 x13_1).f2))))) = true := c8
                  clear c8
                  obtain rfl := Option.some.inj H
                  have p145 : 0 ≤ (x13_1 : Int) := of_decide_eq_true (by first | (with_reducible assumption) | assumption)
                  have q145 : x13_1 < (l0.length : Int) := of_decide_eq_true (by first | (with_reducible assumption) | assumption)
                  obtain ⟨ad145, e145, hx145_0, hx145_1, hx145_2⟩ := at_T61 HR0.out x13_1 p145 q145
                  cases e145
                  replace p145 := eq_true p145
                  replace q145 := eq_true q145
                  have p146 : 0 ≤ (x13_1 : Int) := of_decide_eq_true (by first | (with_reducible assumption) | assumption)
                  have q146 : x13_1 < (l1.length : Int) := of_decide_eq_true (by first | (with_reducible assumption) | assumption)
                  obtain ⟨ad146, e146, hx146_0, hx146_1, hx146_2⟩ := at_T61 HR1.out x13_1 p146 q146
                  cases e146
                  replace p146 := eq_true p146
                  replace q146 := eq_true q146
                  go_wp2
                  repeat (go_quiet (fail); try go_wp2)
                  go_ret
                  exact ⟨by first | rfl | (simp; done) | (simp [*]; done), by repeat (first | exact Drawn0.refl _ | apply Drawn0.step)⟩
                · rw [if_neg c8] at H
                  have c8b0 : (!(((rd_T61 l0 x13_1).f0) == ((rd_T61 l1 x13_1).f0)) || (!(((rd_T61 l0 x13_1).f1) == ((rd_T61 l1 x13_1).f1)) || (!(((rd_T61 l0 x13_1).f2) == ((rd_T61 l1 x13_1).f2))))) = false := by simpa using c8
                  clear c8
                  have H' := Aside0.mk H
                  clear H
                  have p145 : 0 ≤ (x13_1 : Int) := of_decide_eq_true (by first | (with_reducible assumption) | assumption)
                  have q145 : x13_1 < (l0.length : Int) := of_decide_eq_true (by first | (with_reducible assumption) | assumption)
                  obtain ⟨ad145, e145, hx145_0, hx145_1, hx145_2⟩ := at_T61 HR0.out x13_1 p145 q145
                  cases e145
                  replace p145 := eq_true p145
                  replace q145 := eq_true q145
                  have p146 : 0 ≤ (x13_1 : Int) := of_decide_eq_true (by first | (with_reducible assumption) | assumption)
                  have q146 : x13_1 < (l1.length : Int) := of_decide_eq_true (by first | (with_reducible assumption) | assumption)
                  obtain ⟨ad146, e146, hx146_0, hx146_1, hx146_2⟩ := at_T61 HR1.out x13_1 p146 q146
                  cases e146
                  replace p146 := eq_true p146
                  replace q146 := eq_true q146
                  go_wp2
                  repeat (go_quiet (fail); try go_wp2)
                  go_roundg k1
                  case measure => have := HK1.out; omega
                  case rel => exact ⟨(wrap64 (x13_1 + 1)), (by first | rfl | (simp; done) | (simp [*]; done)), H', ⟨by have := HK1.out; omega⟩, by repeat (first | exact Drawn0.refl _ | apply Drawn0.step)⟩
              · rw [if_neg c7] at H
                exact absurd H (by simp)
            · rw [if_neg c6] at H
              exact absurd H (by simp)
          · rw [if_neg c5] at H
            exact absurd H (by simp)
        · rw [if_neg c4] at H
          have c4b0 : decide (x13_1 < (l0.length : Int)) = false := decide_eq_false c4
          clear c4
          obtain rfl := Option.some.inj H
          go_wp2
          repeat (go_quiet (fail); try go_wp2)
          go_ret
          exact ⟨by first | rfl | (simp; done) | (simp [*]; done), by repeat (first | exact Drawn0.refl _ | apply Drawn0.step)⟩
  · rw [if_neg c3] at H
    have c3b0 : ((l0.length : Int) == (l1.length : Int)) = false := beq_eq_false_iff_ne.mpr c3
    have c3b1 : ((l0.length : Int) != (l1.length : Int)) = true := bne_iff_ne.mpr c3
    have c3b2 : (l0.length == l1.length) = false := by first | simpa using c3 | (simp at c3 ⊢; omega)
    obtain rfl := Option.some.inj H
    go_enter Try.func46, Try.ntmps46
    go_wp2
    repeat (go_quiet (fail); try go_wp2)
    go_ret
    exact ⟨by first | rfl | (simp; done) | (simp [*]; done), by repeat (first | exact Drawn0.refl _ | apply Drawn0.step)⟩

end Go.Proofs.Ytodldpdnhcafpaa.F

-- A text of this session's own program (wip/myprint.sh over a changed print tool): functions and their walks
namespace Go.Proofs.Ytodldpdnhcafpaa.F
open Go.RowKit Go.Proofs.YtodldpdnhcafpaaW.PrintWords Go.Proofs.YtodldpdnhcafpaaW.PrintLast Go.Proofs.YtodldpdnhcafpaaW.PrintMore
attribute [local go_sem] max2_int min2_int max_two min_two max_three min_three max_four min_four   -- for this text's walks alone
set_option linter.unusedVariables false
set_option linter.unusedSimpArgs false

theorem eqA47 (d : Nat) (w : World) (x0 y0 : Int) (x1 y1 : Int) (x2 y2 : Int) (x3 y3 : Int) :
    (Op.equalIn (d + 2) 47 (.agg #[.int .u8 x0, .int .i64 x1, .int .i64 x2, .int .i64 x3]) (.agg #[.int .u8 y0, .int .i64 y1, .int .i64 y2, .int .i64 y3])).run Try.prog w = .ok (x0 == y0 && (x1 == y1 && (x2 == y2 && (x3 == y3)))) w := by
  refine eqA_of Try.underlying47 (by kernel_rfl) ?_
  refine eqf_cons (by rfl) (by go_simp; rfl) (by go_simp; rfl) (by go_simp) ?_
  refine eqf_cons (by rfl) (by go_simp; rfl) (by go_simp; rfl) (by go_simp) ?_
  refine eqf_cons (by rfl) (by go_simp; rfl) (by go_simp; rfl) (by go_simp) ?_
  exact eqf_last (by rfl) (by go_simp; rfl) (by go_simp; rfl) (by go_simp)
end Go.Proofs.Ytodldpdnhcafpaa.F
