/- Texts of the proof of one law (Texts), part 0: functions printed as Lean functions with their walks, and what is proved of them. Conditions: those of each theorem. -/
import Derived.Test.YtodldpdnhcafpaaProg
import Derived.Below
import Derived.Deep.Draws
import Derived.Deep.AppendLies
import Derived.Maps.AppendAt
import Derived.OwnWalk
import Derived.Laws.BytesArg
import Derived.Laws.MakeOwn
import Derived.Laws.OwnMore
import Derived.Deep.OwnRows
import Derived.Tactics
import Derived.Lib.ConvBytes
import Derived.Laws.Slices
import Derived.WalkKit
import Derived.KernelRfl
import Derived.RowKit3
import Derived.Deep.LoopGhost
import Derived.Deep.QuietTactic
import Derived.BigQuiet
import Derived.WideLaws
import Derived.Deep.DeepCutAuto
import Derived.Deep.CutBlock
import Derived.Deep.RegionHeld3
import Derived.Laws.Rows
import Derived.Lib.AppendStr
import Derived.ArgAppend
import Derived.Laws.IdiomCopy
import Derived.OrdersHeld
import Derived.Laws.BitsLemmas
import Derived.WalkMore
import Derived.RowKit
import Derived.Test.YtodldpdnhcafpaaWWords
import Derived.Test.YtodldpdnhcafpaaWLast
import Derived.Test.YtodldpdnhcafpaaWTab
import Derived.Test.YtodldpdnhcafpaaWFour
import Derived.Test.YtodldpdnhcafpaaWQPut
import Derived.Test.YtodldpdnhcafpaaWApart
import Derived.Test.YtodldpdnhcafpaaWArr
import Derived.Test.YtodldpdnhcafpaaWZeros
import Derived.Test.YtodldpdnhcafpaaWFoot
import Derived.Test.YtodldpdnhcafpaaWKept
import Derived.Test.YtodldpdnhcafpaaWShare
import Derived.Test.YtodldpdnhcafpaaWN
import Derived.Test.YtodldpdnhcafpaaWFootNe
import Derived.Test.YtodldpdnhcafpaaWAt
import Derived.Test.YtodldpdnhcafpaaWEqStruct
import Derived.Test.YtodldpdnhcafpaaWRepsOne
import Derived.Test.YtodldpdnhcafpaaWInv
import Derived.Test.YtodldpdnhcafpaaWInvWords
import Derived.Test.YtodldpdnhcafpaaWGuard
import Derived.Test.YtodldpdnhcafpaaWNEv
import Derived.Test.YtodldpdnhcafpaaWMore
import Derived.RangeFuncNested
import Derived.RangeFuncBound
import Derived.RangeFuncCalls
import Derived.RangeFuncLeaves
import Derived.RangeFuncBox
import Derived.Shelf.Abstract
import Derived.Shelf.RegionOpen
import Derived.OwnWalkIn
import Derived.TacticsInMore
import Derived.LoopNIn
import Derived.LoopIn
import Derived.OrdersIn
import Derived.SizedLaws
import Derived.ChangeSlices
import Derived.Deep.Slices
import Derived.Test.YtodldpdnhcafpaaRows
import Derived.JoinedCond
import Derived.ChangeArms
import Derived.StillTailTactics
import Derived.BigRegion
-- A text of this session's own program (wip/myprint.sh over a changed print tool): functions and their walks
namespace Go.Proofs.Ytodldpdnhcafpaa.F
open Go.RowKit Go.Proofs.YtodldpdnhcafpaaW.PrintWords Go.Proofs.YtodldpdnhcafpaaW.PrintLast Go.Proofs.YtodldpdnhcafpaaW.PrintMore
attribute [local go_sem] max2_int min2_int max_two min_two max_three min_three max_four min_four   -- for this text's walks alone
set_option linter.unusedVariables false
set_option linter.unusedSimpArgs false



def errW : Option Int → Value
  | none => .nilIface
  | some c => .iface 0 (.int .i64 c)
theorem errW_none : errW none = .nilIface := rfl
theorem errW_some (c : Int) : errW (some c) = .iface 0 (.int .i64 c) := rfl

theorem info3 : (Try.prog.info? 3).map (fun i => (i.zero, i.size, i.bytes)) = some (some (.int .i64 0), 1, 8) := by kernel_rfl
theorem info47 : (Try.prog.info? 47).map (fun i => (i.zero, i.size, i.bytes)) = some (some (.agg #[(.int .u8 0), (.int .i64 0), (.int .i64 0), (.int .i64 0)]), 4, 32) := by kernel_rfl
theorem info61 : (Try.prog.info? 61).map (fun i => (i.zero, i.size, i.bytes)) = some (some (.agg #[(.int .u8 0), (.int .i64 0), (.int .i64 0)]), 3, 24) := by kernel_rfl
-- the values' own types
/-! #### struct type 61 -/
structure S61 where
  f0 : Int
  f1 : Int
  f2 : Int
def z61 : S61 := ⟨(0 : Int), (0 : Int), (0 : Int)⟩
def k61 : Kd S61 := Kd.iso (Kd.pair (Kd.int .u8) (Kd.pair (Kd.int .i64) (Kd.int .i64))) (fun x : S61 => (x.f0, x.f1, x.f2))
theorem k61_open {w : World} {x : S61} {cs : List Value} (h : k61.K w x cs) : cs = [.int .u8 x.f0, .int .i64 x.f1, .int .i64 x.f2] := by
  obtain ⟨_, _, rfl, rfl, ⟨_, _, rfl, rfl, rfl⟩⟩ := h
  exact rfl
theorem k61_mk (w : World) (x : S61)  : k61.K w x [.int .u8 x.f0, .int .i64 x.f1, .int .i64 x.f2] := ⟨[.int .u8 x.f0], [.int .i64 x.f1, .int .i64 x.f2], rfl, rfl, ⟨[.int .i64 x.f1], [.int .i64 x.f2], rfl, rfl, rfl⟩⟩
def rd_T61 (xs : List S61) (i : Int) : S61 := xs.getD i.toNat z61
theorem at_T61 {w : World} {A : Option Addr} {n : Nat} {xs : List S61} (h : Kd.C k61 w A n xs) (i : Int) (h0 : 0 ≤ i) (h1 : i < n) : ∃ ad , A = some ad ∧ w.cell? (ad.add (i.toNat * 3)) = some (.int .u8 (rd_T61 xs i).f0) ∧ w.cell? ⟨(ad.add (i.toNat * 3)).block, (ad.add (i.toNat * 3)).off + 1, none⟩ = some (.int .i64 (rd_T61 xs i).f1) ∧ w.cell? ⟨(ad.add (i.toNat * 3)).block, (ad.add (i.toNat * 3)).off + 2, none⟩ = some (.int .i64 (rd_T61 xs i).f2) := by
  obtain ⟨ad, c, e, _, hK, hc0⟩ := Kd.C_get h z61 i h0 h1
  have hc : ∀ j u, c[j]? = some u → w.cell? (ad.add (i.toNat * 3 + j)) = some u := hc0
  obtain rfl := k61_open hK
  exact ⟨ad, e, hc 0 _ rfl, by rw [← add_field _ _ 1 (by omega)]; exact hc 1 _ rfl, by rw [← add_field _ _ 2 (by omega)]; exact hc 2 _ rfl⟩

/-! #### struct type 47 -/
structure S47 where
  f0 : Int
  f1 : Int
  f2 : Int
  f3 : Int
def z47 : S47 := ⟨(0 : Int), (0 : Int), (0 : Int), (0 : Int)⟩
def k47 : Kd S47 := Kd.iso (Kd.pair (Kd.int .u8) (Kd.pair (Kd.int .i64) (Kd.pair (Kd.int .i64) (Kd.int .i64)))) (fun x : S47 => (x.f0, x.f1, x.f2, x.f3))
theorem k47_open {w : World} {x : S47} {cs : List Value} (h : k47.K w x cs) : cs = [.int .u8 x.f0, .int .i64 x.f1, .int .i64 x.f2, .int .i64 x.f3] := by
  obtain ⟨_, _, rfl, rfl, ⟨_, _, rfl, rfl, ⟨_, _, rfl, rfl, rfl⟩⟩⟩ := h
  exact rfl
theorem k47_mk (w : World) (x : S47)  : k47.K w x [.int .u8 x.f0, .int .i64 x.f1, .int .i64 x.f2, .int .i64 x.f3] := ⟨[.int .u8 x.f0], [.int .i64 x.f1, .int .i64 x.f2, .int .i64 x.f3], rfl, rfl, ⟨[.int .i64 x.f1], [.int .i64 x.f2, .int .i64 x.f3], rfl, rfl, ⟨[.int .i64 x.f2], [.int .i64 x.f3], rfl, rfl, rfl⟩⟩⟩
def rd_T47 (xs : List S47) (i : Int) : S47 := xs.getD i.toNat z47
theorem at_T47 {w : World} {A : Option Addr} {n : Nat} {xs : List S47} (h : Kd.C k47 w A n xs) (i : Int) (h0 : 0 ≤ i) (h1 : i < n) : ∃ ad , A = some ad ∧ w.cell? (ad.add (i.toNat * 4)) = some (.int .u8 (rd_T47 xs i).f0) ∧ w.cell? ⟨(ad.add (i.toNat * 4)).block, (ad.add (i.toNat * 4)).off + 1, none⟩ = some (.int .i64 (rd_T47 xs i).f1) ∧ w.cell? ⟨(ad.add (i.toNat * 4)).block, (ad.add (i.toNat * 4)).off + 2, none⟩ = some (.int .i64 (rd_T47 xs i).f2) ∧ w.cell? ⟨(ad.add (i.toNat * 4)).block, (ad.add (i.toNat * 4)).off + 3, none⟩ = some (.int .i64 (rd_T47 xs i).f3) := by
  obtain ⟨ad, c, e, _, hK, hc0⟩ := Kd.C_get h z47 i h0 h1
  have hc : ∀ j u, c[j]? = some u → w.cell? (ad.add (i.toNat * 4 + j)) = some u := hc0
  obtain rfl := k47_open hK
  exact ⟨ad, e, hc 0 _ rfl, by rw [← add_field _ _ 1 (by omega)]; exact hc 1 _ rfl, by rw [← add_field _ _ 2 (by omega)]; exact hc 2 _ rfl, by rw [← add_field _ _ 3 (by omega)]; exact hc 3 _ rfl⟩

end Go.Proofs.Ytodldpdnhcafpaa.F

-- Plain walks of regions serve in a round of a loop over an iterator (the wide fence): operation for operation.
namespace Go.Proofs.Ytodldpdnhcafpaa.K
open Go.RowKit Go.Proofs.YtodldpdnhcafpaaW.PrintWords Go.Proofs.YtodldpdnhcafpaaW.PrintLast Go.Proofs.YtodldpdnhcafpaaW.PrintMore

def noDefer (o : Oper) : Bool := match o.op with | .defer _ => false | _ => true

section
variable {P : Program} {ops : Array Oper} {Q : Exit → Act → World → Prop} {n lp : Nat}

theorem rows_bridge {row : String} {args : Array Value} {w : World} {R : Value → World → Prop} (h : Rows P row args w R) : RowsIn (Fence.wide.inRound lp) n P row args w R :=
  fun c cs _ => let ⟨v, w', r, s⟩ := h c cs; ⟨v, w', r, by rw [fenced_inRound]; exact stepsIn_wide.2 s⟩

/-- No way out by growing. -/
def noOut (Q : Exit → Act → World → Prop) : Exit → Act → World → Prop
  | .outgrown, _, _ => False
  | e, a, w => Q e a w
theorem noOut_normal {a : Act} {w : World} : noOut Q .normal a w = Q .normal a w := rfl
theorem noOut_lets : ¬ LetsOut (noOut Q) := fun ⟨_, _, h⟩ => h

theorem oper_bridge {o : Oper} (hd : noDefer o = true) {a : Act} {w : World} {K : Act → World → Prop} (h : o.wp P a w K (noOut Q)) : o.wpIn (Fence.wide.inRound lp) n P a w K Q := by
  refine ⟨fun _ _ => trivial, ?_⟩
  have he : o.semAt (Fence.wide.inRound lp).round a.eval = execOp a.eval o :=
    Oper.semAt_some lp a.eval o (by intro c hc; simp [noDefer, hc] at hd)
  rw [he]
  unfold Oper.wp at h
  have hdep : (Fence.wide.inRound lp).depth.isSome = true → 1 ≤ n := fun h => by simp [Fence.wide] at h
  generalize (execOp a.eval o).run P w = r at *
  cases r with
  | ok x w' =>
    cases x <;> simp only [Oper.upon, Oper.uponIn] at h ⊢ <;>
      first
        | exact h
        | exact ⟨hdep, CallsIn.inRound _ (callsIn_wide.2 (Calls.mono h (fun e w' he => by cases e <;> first | exact he | exact absurd he noOut_lets)))⟩
        | exact ⟨hdep, rows_bridge h⟩
  | halt x w' => cases x <;> simp only [Oper.upon, Oper.uponIn] at h ⊢ <;> exact h

theorem list_bridge : ∀ (l : List Oper), l.all noDefer = true → ∀ a w, wpList P ops (noOut Q) l a w → wpListIn (Fence.wide.inRound lp) n P ops Q l a w
  | [], _, _, _, h => h
  | o :: rest, hd, a, w, h => by
    simp only [List.all_cons, Bool.and_eq_true] at hd
    unfold wpList at h
    unfold wpListIn
    split at h
    · rename_i hw
      rw [if_pos hw]
      rcases h with h | h
      · exact oper_bridge hd.1 (Oper.wp_mono (fun a w => list_bridge rest hd.2 a w) h)
      · exact absurd h.2 noOut_lets
    · rename_i hw
      rw [if_neg hw]
      exact ⟨fun _ _ => trivial, list_bridge rest hd.2 _ _ h⟩

theorem op_bridge (hd : ∀ o ∈ ops, noDefer o = true) {i : Nat} {K : Act → World → Prop} {a : Act} {w : World} (h : wpOp P ops (noOut Q) i K a w) : wpOpIn (Fence.wide.inRound lp) n P ops Q i K a w := by
  unfold wpOp at h
  unfold wpOpIn
  split at h
  · rename_i ho
    simp only [ho]
    exact h
  · rename_i o ho
    simp only [ho]
    split at h
    · rename_i hw
      rw [if_pos hw]
      rcases h with h | h
      · exact oper_bridge (hd o (Array.mem_of_getElem? ho)) h
      · exact absurd h.2 noOut_lets
    · rename_i hw
      rw [if_neg hw]
      exact ⟨fun _ _ => trivial, h⟩

theorem any_bridge {md : Region.Mode} (hd : ∀ o ∈ ops, noDefer o = true) : ∀ (fuel : Nat) (listed : Array Bool) (a : Act) (w : World), wpAny P md ops (noOut Q) fuel listed a w → wpAnyIn (Fence.wide.inRound lp) n P md ops Q fuel listed a w
  | 0, _, _, _, h => h
  | fuel + 1, _, _, _, h => ⟨h.1, fun i hi => wpOpIn_mono (fun a w => any_bridge hd fuel _ a w) (op_bridge hd (h.2 i hi))⟩

end

theorem blk_own {A B : World} {row : Option Nat} {b t : Nat} {cs : Array Value} {d : Nat × Nat} (h : A.heap[b]? = some (.cells cs t d)) (hg : A.grownBy B row)
    (hr : ∀ r, row = some r → ∃ o : Obj, A.heap[r]? = some o ∧ o.isCells = false) : B.heap[b]? = some (.cells cs t d) :=
  (hg.block b (Array.getElem?_eq_some_iff.1 h).1 (fun e' => by
    obtain ⟨_, ho, hc⟩ := hr b e'.symm
    rw [h] at ho
    cases ho
    cases hc)).trans h
/-- What keeps all that lay keeps whatever is no cells. -/
theorem keeps_below {A B : World} (h : Below A.heap.size A B) (b : Nat) : KeepsFrom b A B :=
  ⟨h.size, fun k _ _ hk _ => (h.block k (Array.getElem?_eq_some_iff.1 hk).1).trans hk⟩

/-- A region that draws its order, by the steps of the plain walk. -/
theorem start_in {P : Program} {ops : Array Oper} {Q : Exit → Act → World → Prop} {S : World → Prop} {ds : List Nat} {lp m id n : Nat} {a : Act} {w : World} (hd : ops.toList.all noDefer = true) (l : Array Bool) (hm : P.follows .mixedOrders = true) (hn : ops.size = n) (hl : Array.replicate n false = l) (hS : S w.drew)
    (h : S w.drew → wpAnyLast P .any ops (noOut Q) S ds n l a w.drew) : (Code.region id ops true).wpIn (Fence.wide.inRound lp) m P Q a w := by
  subst hn
  subst hl
  exact wpIn_region_any hm (any_bridge (fun o ho => List.all_eq_true.1 hd o (by simpa using ho)) _ _ _ _ (wpAny_of_last _ _ _ _ (h hS)))

/-- The law of a loop over an iterator of one variable, at the wide fence, between plain walks. -/
theorem rf1 {P : Program} {α : Type} {g : Operand} {p s : Tmp} {assign body : Code} {Q : Exit → Act → World → Prop} {a : Act} {w : World} {gf : Nat} {lb : Array Value}
    (hg : a.eval g = .func (.func gf) #[] lb) (eg : ∀ args w, (callFunc gf args).run P w = .ok (.enter gf args) w)
    {enc : α → Value} {Kp : World → World → Prop} {S Sp : List α → Prop} {N : Nat} (hseq : SeqStopsK Fence.wide 2 P gf lb (fun x => #[enc x]) Kp S Sp N w)
    (hKt : ∀ {A B C : World}, Kp A B → Kp B C → Kp A C) (hKb : ∀ (W : World) (l : Nat) (o o' : Obj), w.heap.size ≤ l → W.heap[l]? = some o → o.isCells = false → o.isWalk = false → Kp W (W.putObj l o'))
    (I : List α → World → Prop) (Ix : Code → List α → World → Prop) (hI : OwnFrom w.heap.size I) (hIx : ∀ c, OwnFrom w.heap.size (Ix c)) (h0 : I [] w)
    (hassign : ∀ (l : Nat) (x : α) (W : World) (K : Act → World → Prop), K { tmps := (a.tmps.setIfInBounds p (enc x)).setIfInBounds s (enc x), defers := [] } W →
      assign.wpIn (Fence.wide.inRound l) 1 P (Exit.then K (fun _ _ _ => False)) { tmps := a.tmps.setIfInBounds p (enc x), defers := [] } W)
    (hbody : ∀ (l : Nat) (pre : List α) (x : α) (W : World), I pre W → pre.length < N → body.wpIn (Fence.wide.inRound l) 1 P (ownPostG w.heap.size Kp I Ix (pre ++ [x]) W) { tmps := (a.tmps.setIfInBounds p (enc x)).setIfInBounds s (enc x), defers := [] } W)
    (hdone : ∀ (D : Nat) (xs : List α) (W : World), w.heap.size ≤ D → S xs → I xs W → W.heap[D]? = some (.deferred (some [])) → Q .normal { a with defers := { target := .collected D, args := #[] } :: a.defers } W)
    (hstop : ∀ (D : Nat) (c : Code) (pre : List α) (W : World), w.heap.size ≤ D → Sp pre → Ix c pre W → W.heap[D]? = some (.deferred (some [])) → c.wp P Q { a with defers := { target := .collected D, args := #[] } :: a.defers } W) :
    (Code.rangeFunc g #[p] assign body).wp P Q a w :=
  (wpIn_wide (n := 3)).1 (wpIn_rangeFunc_ownG (F := Fence.wide) (n := 3) rfl (by omega) hg trivial eg hseq (fun h k => hKt h k) hKb (Below.refl _ _) (fun _ => rfl) I Ix hI hIx h0 _ (fun l x W K hK => by simpa using hassign l x W K hK) hbody hdone
    (fun D c pre W a b c' d => wpIn_wide.2 (hstop D c pre W a b c' d)))

/-- All that lay lies as it lay, but for one box. -/
def KeepB (W0 : World) (g : Nat) (W : World) : Prop := W0.heap.size ≤ W.heap.size ∧ ∀ k, k < W0.heap.size → k ≠ g → W.heap[k]? = W0.heap[k]?
theorem KeepB.refl (W0 : World) (g : Nat) : KeepB W0 g W0 := ⟨Nat.le_refl _, fun _ _ _ => rfl⟩
theorem KeepB.R {α : Type} {d : Kd α} {e base g : Nat} {v : Value} {xs : List α} {W0 W : World} (h : KeepB W0 g W) (hR : d.R e W0 base (fun k => k ≠ g) v xs) : d.R e W base (fun k => k ≠ g) v xs :=
  Kd.R_step hR (fun k hk hlt => h.2 k hlt hk)
theorem KeepB.trans {W0 W W' : World} {g : Nat} (h : KeepB W0 g W) (h' : W.heap.size ≤ W'.heap.size) (hk : ∀ k, k < W0.heap.size → k ≠ g → W'.heap[k]? = W.heap[k]?) : KeepB W0 g W' :=
  ⟨Nat.le_trans h.1 h', fun k h1 h2 => (hk k h1 h2).trans (h.2 k h1 h2)⟩
end Go.Proofs.Ytodldpdnhcafpaa.K

-- tokens (53, 62): the iterator's contract
namespace Go.Proofs.Ytodldpdnhcafpaa.K
open Go.RowKit Go.Shelf Go.Proofs.YtodldpdnhcafpaaW.PrintWords Go.Proofs.YtodldpdnhcafpaaW.PrintLast Go.Proofs.YtodldpdnhcafpaaW.PrintMore
open Go.Proofs.Ytodldpdnhcafpaa.F
attribute [local go_sem] Oper.semAt_some max2_int min2_int max_two min_two
set_option linter.unusedVariables false
set_option linter.unusedSimpArgs false

/-- No blanks, no note. -/
def tokB (l : List S61) (i : Int) : Bool := !decide ((rd_T61 l i).f0 = 0) && !decide ((rd_T61 l i).f0 = 1)
/-- The tokens from a up to b. -/
def tokR (l : List S61) (a b : Int) : List Int := ((List.range (b - a).toNat).map (fun j : Nat => a + (j : Int))).filter (tokB l)
theorem tokR_nil (l : List S61) {a b : Int} (h : b ≤ a) : tokR l a b = [] := by
  have e : (b - a).toNat = 0 := by omega
  unfold tokR
  rw [e]
  rfl
theorem tokR_succ (l : List S61) {a b : Int} (h : a ≤ b) : tokR l a (b + 1) = tokR l a b ++ (if tokB l b = true then [b] else []) := by
  have e : (b + 1 - a).toNat = (b - a).toNat + 1 := by omega
  have e2 : a + (((b - a).toNat : Nat) : Int) = b := by omega
  unfold tokR
  rw [e, List.range_succ, List.map_append, List.filter_append, List.map_singleton, e2, List.filter_cons, List.filter_nil]
theorem tokR_len (l : List S61) (a b : Int) : (tokR l a b).length ≤ (b - a).toNat := by
  unfold tokR
  refine Nat.le_trans (List.length_filter_le _ _) ?_
  simp
theorem tokR_prefix (l : List S61) {a b b' : Int} (h : b ≤ b') : tokR l a b <+: tokR l a b' := by
  unfold tokR
  refine List.IsPrefix.filter _ (List.IsPrefix.map _ ?_)
  have e : (b' - a).toNat = (b - a).toNat + ((b' - a).toNat - (b - a).toNat) := by omega
  rw [e, List.range_add]
  exact List.prefix_append _ _
/-- A token's number. -/
abbrev Tk (l : List S61) := { x : Int // 0 ≤ x ∧ x < (l.length : Int) ∧ tokB l x = true }

def valsT {l : List S61} (xs : List (Tk l)) : List Int := xs.map (·.1)
/-- What a round keeps: what lay ahead of the call, the two boxes. -/
def KpT (n₀ b1 b2 : Nat) (W W' : World) : Prop := Below n₀ W W' ∧ W'.heap[b1]? = W.heap[b1]? ∧ W'.heap[b2]? = W.heap[b2]?
theorem KpT.trans {n₀ b1 b2 : Nat} {A B C : World} (h : KpT n₀ b1 b2 A B) (k : KpT n₀ b1 b2 B C) : KpT n₀ b1 b2 A C := ⟨h.1.trans k.1, k.2.1.trans h.2.1, k.2.2.trans h.2.2⟩
theorem KpT.refl (n₀ b1 b2 : Nat) (A : World) : KpT n₀ b1 b2 A A := ⟨Below.refl _ _, rfl, rfl⟩

theorem KpT_b {n₀ B b1 b2 : Nat} (hn : n₀ ≤ B) (h1 : b1 < B) (h2 : b2 < B) (W : World) (l : Nat) (o o' : Obj) (hl : B ≤ l) (ho : W.heap[l]? = some o) (hc : o.isCells = false) (hw : o.isWalk = false) : KpT n₀ b1 b2 W (W.putObj l o') :=
  ⟨(Below.refl n₀ W).grown (grownBy_putObj' W l o') (by have := (Array.getElem?_eq_some_iff.1 ho).1; omega) (fun k e => by cases e; omega), World.putObj_heap_other (by omega), World.putObj_heap_other (by omega)⟩

set_option maxRecDepth 100000 in
set_option maxHeartbeats 2000000 in
theorem tokens1_in (n : Nat) (hn : 1 ≤ n) (lp b1 b2 : Nat) (w0 : World) (A : Option Addr) (c : Nat) (l : List S61) (x0 x1 x2 x3 : Int) (hl : l.length < 4611686018427387904) (hc : Kd.C k61 w0 A l.length l) (J Jx : List (Tk l) → World → Prop)
    (hY : ∀ pre (x : Tk l) W, J pre W → pre.length < l.length → YieldAt Fence.wide (n - 1) Try.prog lp #[.int .i64 x.1] W fun e W' =>
      (e = .returned (.bool true) ∧ J (pre ++ [x]) W' ∧ KpT w0.heap.size b1 b2 W W') ∨ (e = .returned (.bool false) ∧ Jx (pre ++ [x]) W'))
    (W : World) (hW : Below w0.heap.size w0 W) (h1 : W.heap[b1]? = some (.cells #[.int .u8 x0, .int .i64 x1, .int .i64 x2, .int .i64 x3] 47 (0, 0))) (h2 : W.heap[b2]? = some (.cells #[.slice A l.length c] 22 (0, 0))) (h0 : J [] W) :
    CallsIn Fence.wide n Try.prog 62 #[.func (.yield lp) #[] #[], .pointer (some ⟨b1, 0, none⟩), .pointer (some ⟨b2, 0, none⟩)] W fun e W' => (∃ v, e = .returned v) ∧
      ((∃ ys : List (Tk l), valsT ys = tokR l (mx x1 0) (mn x2 (l.length : Int)) ∧ J ys W') ∨ (∃ pre : List (Tk l), valsT pre <+: tokR l (mx x1 0) (mn x2 (l.length : Int)) ∧ Jx pre W')) := by
  have hu22 := Try.underlying22
  have hu47 := Try.underlying47
  have hu61 := Try.underlying61
  have hlo : 0 ≤ mx x1 0 := by unfold mx; split <;> omega
  have hhi : mn x2 (l.length : Int) ≤ (l.length : Int) := by unfold mn; split <;> omega
  obtain ⟨lo, elo⟩ : ∃ lo, mx x1 0 = lo := ⟨_, rfl⟩
  obtain ⟨hi, ehi⟩ : ∃ hi, mn x2 (l.length : Int) = hi := ⟨_, rfl⟩
  rw [elo] at hlo ⊢
  rw [ehi] at hhi ⊢
  have elo' : (if x1 < 0 then 0 else x1) = lo := elo
  have hcx : W.cell? ⟨b1, 1, none⟩ = some (.int .i64 x1) := (blk_cell h1 1).trans rfl
  have hcx2 : W.cell? ⟨b1, 2, none⟩ = some (.int .i64 x2) := (blk_cell h1 2).trans rfl
  have hcl : W.cell? ⟨b2, 0, none⟩ = some (.slice A l.length c) := (blk_cell h2 0).trans rfl
  refine callsIn_of_wp Try.func62 rfl trivial ?_ rfl
  simp only [Try.ntmps62, List.size_toArray, List.length_cons, List.length_nil, Nat.reduceAdd, Nat.reduceSub, Array.replicate_succ, Array.replicate_zero, List.push_toArray, List.append_toArray, List.nil_append, List.cons_append]
  gi_wp2
  gi_loopw [4] (fun i wr => ∃ (z : Int) (pre : List (Tk l)), i = .int .i64 z ∧ lo ≤ z ∧ (z = lo ∨ z ≤ hi) ∧ valsT pre = tokR l lo z ∧ J pre wr ∧ KpT w0.heap.size b1 b2 W wr) (fun i _ => (hi - intOf i).toNat)
  case atStart =>
    exact ⟨lo, [], rfl, Int.le_refl _, .inl rfl, by rw [tokR_nil l (Int.le_refl _)]; rfl, h0, KpT.refl _ _ _ _⟩
  case round =>
    obtain ⟨z, pre, rfl, hz, hzh, hpre, hJs, hk⟩ := hrel
    have c1 : wr.cell? ⟨b1, 2, none⟩ = some (.int .i64 x2) := (blk_cell (hk.2.1.trans h1) 2).trans rfl
    have c2 : wr.cell? ⟨b2, 0, none⟩ = some (.slice A l.length c) := (blk_cell (hk.2.2.trans h2) 0).trans rfl
    have ehi' : (if (l.length : Int) < x2 then (l.length : Int) else x2) = hi := ehi
    by_cases hlt : z < hi
    · have hz0 : 0 ≤ z := by omega
      have hzl : z < (l.length : Int) := by omega
      obtain ⟨ad, rfl, ca, _, _⟩ := at_T61 (Kd.C_below hc (hW.trans hk.1)) z hz0 hzl
      by_cases g0 : (rd_T61 l z).f0 = 0
      · have b0 : ((rd_T61 l z).f0 != 0) = false := by simp [g0]
        have ht : tokB l z = false := by simp [tokB, g0]
        clear g0
        gi_wp2
        refine ⟨fun _ h => (by cases h), ?_⟩
        gi_wp2
        go_roundw
        case rel => exact ⟨z + 1, pre, rfl, by omega, .inr (by omega), by rw [hpre, tokR_succ l hz, if_neg (by rw [ht]; simp), List.append_nil], hJs, hk⟩
        case measure => simp only [intOf]; omega
      · have b0 : ((rd_T61 l z).f0 != 0) = true := by simp [g0]
        by_cases g1 : (rd_T61 l z).f0 = 1
        · have bb1 : ((rd_T61 l z).f0 != 1) = false := by simp [g1]
          have ht : tokB l z = false := by simp [tokB, g1]
          gi_wp2
          refine ⟨fun _ h => (by cases h), ?_⟩
          gi_wp2
          go_roundw
          case rel => exact ⟨z + 1, pre, rfl, by omega, .inr (by omega), by rw [hpre, tokR_succ l hz, if_neg (by rw [ht]; simp), List.append_nil], hJs, hk⟩
          case measure => simp only [intOf]; omega
        · have bb1 : ((rd_T61 l z).f0 != 1) = true := by simp [g1]
          have ht : tokB l z = true := by simp [tokB, g0, g1]
          have hpl : pre.length < l.length := by
            have e1 : (valsT pre).length = pre.length := by simp [valsT]
            have := tokR_len l lo z
            rw [← hpre, e1] at this
            omega
          obtain ⟨fn, tmps, assign, body, hy, hR⟩ := hY pre ⟨z, hz0, hzl, ht⟩ wr hJs hpl
          dsimp only at hy
          gi_wp2
          refine hR.mono ?_
          rintro e W3 (⟨rfl, hJ3, hk3⟩ | ⟨rfl, hJx3⟩)
          · gi_wp2
            go_roundw
            case rel => exact ⟨z + 1, pre ++ [⟨z, hz0, hzl, ht⟩], rfl, by omega, .inr (by omega), by rw [tokR_succ l hz, if_pos ht, ← hpre]; simp [valsT], hJ3, hk.trans hk3⟩
            case measure => simp only [intOf]; omega
          · gi_wp2
            refine bodyPost_ret (results_none rfl _ _ _) rfl ?_
            refine ⟨⟨_, rfl⟩, .inr ⟨_, ?_, hJx3⟩⟩
            have e1 : valsT (pre ++ [⟨z, hz0, hzl, ht⟩]) = tokR l lo (z + 1) := by rw [tokR_succ l hz, if_pos ht, ← hpre]; simp [valsT]
            rw [e1]
            exact tokR_prefix l (by omega)
    · gi_wp2
      go_end0
      refine ⟨⟨_, rfl⟩, .inl ⟨pre, ?_, hJs⟩⟩
      rcases hzh with rfl | hzh
      · rw [hpre, tokR_nil l (Int.le_refl _), tokR_nil l (by omega)]
      · rw [hpre, show z = hi by omega]

theorem tokens_stops (n : Nat) (hn : 1 ≤ n) (b1 b2 : Nat) (w0 w : World) (A : Option Addr) (c : Nat) (l : List S61) (x0 x1 x2 x3 : Int) (hl : l.length < 4611686018427387904) (hc : Kd.C k61 w0 A l.length l)
    (hW : Below w0.heap.size w0 w) (h1 : w.heap[b1]? = some (.cells #[.int .u8 x0, .int .i64 x1, .int .i64 x2, .int .i64 x3] 47 (0, 0))) (h2 : w.heap[b2]? = some (.cells #[.slice A l.length c] 22 (0, 0))) :
    SeqStopsK Fence.wide n Try.prog 62 #[.pointer (some ⟨b1, 0, none⟩), .pointer (some ⟨b2, 0, none⟩)] (fun x : Tk l => #[.int .i64 x.1]) (KpT w0.heap.size b1 b2) (fun ys => valsT ys = tokR l (mx x1 0) (mn x2 (l.length : Int))) (fun pre => valsT pre <+: tokR l (mx x1 0) (mn x2 (l.length : Int))) l.length w :=
  fun lp J Jx W hb _ _ hY h0 => tokens1_in n hn lp b1 b2 w0 A c l x0 x1 x2 x3 hl hc J Jx hY W (hW.trans (hb.mono hW.size)) (blk_below h1 hb) (blk_below h2 hb) h0

theorem tokens.calls (A : Option Addr) (m c : Nat) (x0 x1 x2 x3 : Int) (w : World) :
    Calls Try.prog 53 #[.slice A m c, .agg #[.int .u8 x0, .int .i64 x1, .int .i64 x2, .int .i64 x3]] w fun e w' => ∃ b1 b2, e = .returned (.func (.func 62) #[] #[.pointer (some ⟨b1, 0, none⟩), .pointer (some ⟨b2, 0, none⟩)]) ∧
      w'.heap[b1]? = some (.cells #[.int .u8 x0, .int .i64 x1, .int .i64 x2, .int .i64 x3] 47 (0, 0)) ∧ w'.heap[b2]? = some (.cells #[.slice A m c] 22 (0, 0)) ∧ w.heap.size ≤ b1 ∧ w.heap.size ≤ b2 ∧ Below w.heap.size w w' := by
  have hu22 := Try.underlying22
  have hu47 := Try.underlying47
  have HB := Aside0.mk (Below.refl w.heap.size w)
  go_enter Try.func53, Try.ntmps53
  go_wp2_with (first
    | ((with_reducible refine gate_dst (N := 2) rfl ?_); refine box_event ?hg2 (N := 2) ?hd2 (cs := #[.slice A m c]) (t := 22) ?hr2 ?_; (case hd2 => rfl); (case hg2 => rfl); (case hr2 => first | (go_simp; done) | (go_simp; rfl)); intro g2 hg w1 hbox hb; have n0_ := Aside0.mk (below_step HB.out hb); have n1_ := Aside0.mk hbox; have GE2 := Aside0.mk (show w.heap.size ≤ g2 by rw [hg]; exact Nat.le_refl _); clear HB; have HB := n0_; have BK2 := n1_; clear n0_ n1_ hb hbox hg)
    | ((with_reducible refine gate_dst (N := 3) rfl ?_); refine box_event ?hg3 (N := 3) ?hd3 (cs := #[.int .u8 x0, .int .i64 x1, .int .i64 x2, .int .i64 x3]) (t := 47) ?hr3 ?_; (case hd3 => rfl); (case hg3 => rfl); (case hr3 => first | (go_simp; done) | (go_simp; rfl)); intro g3 hg w2 hbox hb; have n0_ := Aside0.mk (below_step HB.out hb); have n1_ := Aside0.mk hbox; have n2_ := Aside0.mk (blk_below BK2.out hb); have GE3 := Aside0.mk (show w.heap.size ≤ g3 by rw [hg]; exact HB.out.size); clear HB BK2; have HB := n0_; have BK3 := n1_; have BK2 := n2_; clear n0_ n1_ n2_ hb hbox hg))
  go_ret
  exact ⟨g3, g2, rfl, BK3.out, BK2.out, GE3.out, GE2.out, HB.out⟩
end Go.Proofs.Ytodldpdnhcafpaa.K

-- A text of this session's own program (wip/myprint.sh over a changed print tool): functions and their walks
namespace Go.Proofs.Ytodldpdnhcafpaa.F
open Go.RowKit Go.Proofs.YtodldpdnhcafpaaW.PrintWords Go.Proofs.YtodldpdnhcafpaaW.PrintLast Go.Proofs.YtodldpdnhcafpaaW.PrintMore
attribute [local go_sem] max2_int min2_int max_two min_two max_three min_three max_four min_four   -- for this text's walks alone
set_option linter.unusedVariables false
set_option linter.unusedSimpArgs false

/-! ### tree_word: function 48 -/
def tree_word.f (a0 : ByteArray) (a1_0 : Int) (a1_1 : Int) (a1_2 : Int) : Option (ByteArray) := if a1_1 < 0 then (some (⟨#[]⟩ : ByteArray)) else (if a1_2 < a1_1 then (some (⟨#[]⟩ : ByteArray)) else (if a1_2 > (a0.size : Int) then (some (⟨#[]⟩ : ByteArray)) else (if 0 ≤ a1_1 then (if a1_1 ≤ a1_2 then (if a1_2 ≤ (a0.size : Int) then (some (a0.extract (a1_1 : Int).toNat (a1_2 : Int).toNat)) else (none)) else (none)) else (none))))
set_option maxHeartbeats 8000000 in
set_option maxRecDepth 100000 in
theorem tree_word.calls (a0 : ByteArray) (a1_0 : Int) (a1_1 : Int) (a1_2 : Int) (r : ByteArray) (w : World) (h : tree_word.f a0 a1_0 a1_1 a1_2 = some r) :
    Calls Try.prog 48 #[.string a0, .agg #[.int .u8 a1_0, .int .i64 a1_1, .int .i64 a1_2]] w fun e w' => e = .returned (.string r) ∧ Below w.heap.size w w' := by
  have hu61 := Try.underlying61
  have HB := Aside0.mk (Below.refl w.heap.size w)
  have H : (if a1_1 < 0 then (some (⟨#[]⟩ : ByteArray)) else (if a1_2 < a1_1 then (some (⟨#[]⟩ : ByteArray)) else (if a1_2 > (a0.size : Int) then (some (⟨#[]⟩ : ByteArray)) else (if 0 ≤ a1_1 then (if a1_1 ≤ a1_2 then (if a1_2 ≤ (a0.size : Int) then (some (a0.extract (a1_1 : Int).toNat (a1_2 : Int).toNat)) else (none)) else (none)) else (none))))) = some r := h
  clear h
  by_cases c3 : a1_1 < 0
  · rw [if_pos c3] at H
    have c3b0 : decide (a1_1 < 0) = true := decide_eq_true c3
    clear c3
    obtain rfl := Option.some.inj H
    go_enter Try.func48, Try.ntmps48
    go_wp2_with (first | ((with_reducible refine gate_dst (N := 3) rfl ?_); (try (refine gate_guard (by rfl) ?_; dsimp only)); refine box_event ?hg (N := 3) ?hd (cs := #[.int .u8 a1_0, .int .i64 a1_1, .int .i64 a1_2]) (t := 61) ?hr ?_; (case hd => rfl); (case hg => rfl); (case hr => first | (go_simp; done) | (go_simp; rfl)); intro gb170 hg w4 hbox hb; have n0_ := Aside0.mk (below_step (by repeat (first | (with_reducible first | exact HB.out | apply below_alloc | apply pw_below_drewN | apply below_drew1) | exact HB.out)) hb); have n1_ := Aside0.mk (hbox); have n2_ := Aside0.mk ((by rw [hg]; exact (below_size (by repeat (first | (with_reducible first | exact HB.out | apply below_alloc | apply pw_below_drewN | apply below_drew1) | exact HB.out))) : w.heap.size ≤ gb170)); have n3_ := Aside0.mk ((by rw [hg]; exact (below_size (by repeat (first | (with_reducible first | exact HB.out | apply below_alloc | apply pw_below_drewN | apply below_drew1) | exact HB.out))) : w.heap.size ≤ gb170)); clear HB; have HB := n0_; have BK170 := n1_; have GW170 := n2_; have GE170 := n3_; clear n0_ n1_ n2_ n3_; clear hb hbox hg; have hcz5_0 : w4.cell? ⟨gb170, 0, none⟩ = some (.int .u8 a1_0) := (blk_cell BK170.out 0).trans rfl; have hcz5_1 : w4.cell? ⟨gb170, 1, none⟩ = some (.int .i64 a1_1) := (blk_cell BK170.out 1).trans rfl; have hcz5_2 : w4.cell? ⟨gb170, 2, none⟩ = some (.int .i64 a1_2) := (blk_cell BK170.out 2).trans rfl; have hfz5_0 := blk_frozen BK170.out 0; have hfz5_1 := blk_frozen BK170.out 1; have hfz5_2 := blk_frozen BK170.out 2))
    go_ret
    exact ⟨by first | rfl | (simp [errW_none, errW_some] <;> rfl) | (simp [*, errW_none, errW_some] <;> rfl), by repeat (first | (with_reducible first | exact HB.out | apply below_alloc | apply pw_below_drewN | apply below_drew1 | refine below_set ?_ GE170.out) | exact HB.out)⟩
  · rw [if_neg c3] at H
    have c3b0 : decide (a1_1 < 0) = false := decide_eq_false c3
    clear c3
    by_cases c6 : a1_2 < a1_1
    · rw [if_pos c6] at H
      have c6b0 : decide (a1_2 < a1_1) = true := decide_eq_true c6
      clear c6
      obtain rfl := Option.some.inj H
      go_enter Try.func48, Try.ntmps48
      go_wp2_with (first | ((with_reducible refine gate_dst (N := 3) rfl ?_); (try (refine gate_guard (by rfl) ?_; dsimp only)); refine box_event ?hg (N := 3) ?hd (cs := #[.int .u8 a1_0, .int .i64 a1_1, .int .i64 a1_2]) (t := 61) ?hr ?_; (case hd => rfl); (case hg => rfl); (case hr => first | (go_simp; done) | (go_simp; rfl)); intro gb170 hg w7 hbox hb; have n0_ := Aside0.mk (below_step (by repeat (first | (with_reducible first | exact HB.out | apply below_alloc | apply pw_below_drewN | apply below_drew1) | exact HB.out)) hb); have n1_ := Aside0.mk (hbox); have n2_ := Aside0.mk ((by rw [hg]; exact (below_size (by repeat (first | (with_reducible first | exact HB.out | apply below_alloc | apply pw_below_drewN | apply below_drew1) | exact HB.out))) : w.heap.size ≤ gb170)); have n3_ := Aside0.mk ((by rw [hg]; exact (below_size (by repeat (first | (with_reducible first | exact HB.out | apply below_alloc | apply pw_below_drewN | apply below_drew1) | exact HB.out))) : w.heap.size ≤ gb170)); clear HB; have HB := n0_; have BK170 := n1_; have GW170 := n2_; have GE170 := n3_; clear n0_ n1_ n2_ n3_; clear hb hbox hg; have hcz8_0 : w7.cell? ⟨gb170, 0, none⟩ = some (.int .u8 a1_0) := (blk_cell BK170.out 0).trans rfl; have hcz8_1 : w7.cell? ⟨gb170, 1, none⟩ = some (.int .i64 a1_1) := (blk_cell BK170.out 1).trans rfl; have hcz8_2 : w7.cell? ⟨gb170, 2, none⟩ = some (.int .i64 a1_2) := (blk_cell BK170.out 2).trans rfl; have hfz8_0 := blk_frozen BK170.out 0; have hfz8_1 := blk_frozen BK170.out 1; have hfz8_2 := blk_frozen BK170.out 2))
      go_ret
      exact ⟨by first | rfl | (simp [errW_none, errW_some] <;> rfl) | (simp [*, errW_none, errW_some] <;> rfl), by repeat (first | (with_reducible first | exact HB.out | apply below_alloc | apply pw_below_drewN | apply below_drew1 | refine below_set ?_ GE170.out) | exact HB.out)⟩
    · rw [if_neg c6] at H
      have c6b0 : decide (a1_2 < a1_1) = false := decide_eq_false c6
      clear c6
      by_cases c9 : a1_2 > (a0.size : Int)
      · rw [if_pos c9] at H
        have c9b0 : decide ((a0.size : Int) < a1_2) = true := decide_eq_true c9
        clear c9
        obtain rfl := Option.some.inj H
        go_enter Try.func48, Try.ntmps48
        go_wp2_with (first | ((with_reducible refine gate_dst (N := 3) rfl ?_); (try (refine gate_guard (by rfl) ?_; dsimp only)); refine box_event ?hg (N := 3) ?hd (cs := #[.int .u8 a1_0, .int .i64 a1_1, .int .i64 a1_2]) (t := 61) ?hr ?_; (case hd => rfl); (case hg => rfl); (case hr => first | (go_simp; done) | (go_simp; rfl)); intro gb170 hg w10 hbox hb; have n0_ := Aside0.mk (below_step (by repeat (first | (with_reducible first | exact HB.out | apply below_alloc | apply pw_below_drewN | apply below_drew1) | exact HB.out)) hb); have n1_ := Aside0.mk (hbox); have n2_ := Aside0.mk ((by rw [hg]; exact (below_size (by repeat (first | (with_reducible first | exact HB.out | apply below_alloc | apply pw_below_drewN | apply below_drew1) | exact HB.out))) : w.heap.size ≤ gb170)); have n3_ := Aside0.mk ((by rw [hg]; exact (below_size (by repeat (first | (with_reducible first | exact HB.out | apply below_alloc | apply pw_below_drewN | apply below_drew1) | exact HB.out))) : w.heap.size ≤ gb170)); clear HB; have HB := n0_; have BK170 := n1_; have GW170 := n2_; have GE170 := n3_; clear n0_ n1_ n2_ n3_; clear hb hbox hg; have hcz11_0 : w10.cell? ⟨gb170, 0, none⟩ = some (.int .u8 a1_0) := (blk_cell BK170.out 0).trans rfl; have hcz11_1 : w10.cell? ⟨gb170, 1, none⟩ = some (.int .i64 a1_1) := (blk_cell BK170.out 1).trans rfl; have hcz11_2 : w10.cell? ⟨gb170, 2, none⟩ = some (.int .i64 a1_2) := (blk_cell BK170.out 2).trans rfl; have hfz11_0 := blk_frozen BK170.out 0; have hfz11_1 := blk_frozen BK170.out 1; have hfz11_2 := blk_frozen BK170.out 2))
        go_ret
        exact ⟨by first | rfl | (simp [errW_none, errW_some] <;> rfl) | (simp [*, errW_none, errW_some] <;> rfl), by repeat (first | (with_reducible first | exact HB.out | apply below_alloc | apply pw_below_drewN | apply below_drew1 | refine below_set ?_ GE170.out) | exact HB.out)⟩
      · rw [if_neg c9] at H
        have c9b0 : decide ((a0.size : Int) < a1_2) = false := decide_eq_false c9
        clear c9
        by_cases c12 : 0 ≤ a1_1
        · rw [if_pos c12] at H
          have c12b0 := eq_true c12
          have c12b1 : decide (0 ≤ a1_1) = true := decide_eq_true c12
          clear c12
          by_cases c13 : a1_1 ≤ a1_2
          · rw [if_pos c13] at H
            have c13b0 := eq_true c13
            have c13b1 : decide (a1_1 ≤ a1_2) = true := decide_eq_true c13
            clear c13
            by_cases c14 : a1_2 ≤ (a0.size : Int)
            · rw [if_pos c14] at H
              have c14b0 := eq_true c14
              have c14b1 : decide (a1_2 ≤ (a0.size : Int)) = true := decide_eq_true c14
              clear c14
              obtain rfl := Option.some.inj H
              go_enter Try.func48, Try.ntmps48
              go_wp2_with (first | ((with_reducible refine gate_dst (N := 3) rfl ?_); (try (refine gate_guard (by rfl) ?_; dsimp only)); refine box_event ?hg (N := 3) ?hd (cs := #[.int .u8 a1_0, .int .i64 a1_1, .int .i64 a1_2]) (t := 61) ?hr ?_; (case hd => rfl); (case hg => rfl); (case hr => first | (go_simp; done) | (go_simp; rfl)); intro gb170 hg w15 hbox hb; have n0_ := Aside0.mk (below_step (by repeat (first | (with_reducible first | exact HB.out | apply below_alloc | apply pw_below_drewN | apply below_drew1) | exact HB.out)) hb); have n1_ := Aside0.mk (hbox); have n2_ := Aside0.mk ((by rw [hg]; exact (below_size (by repeat (first | (with_reducible first | exact HB.out | apply below_alloc | apply pw_below_drewN | apply below_drew1) | exact HB.out))) : w.heap.size ≤ gb170)); have n3_ := Aside0.mk ((by rw [hg]; exact (below_size (by repeat (first | (with_reducible first | exact HB.out | apply below_alloc | apply pw_below_drewN | apply below_drew1) | exact HB.out))) : w.heap.size ≤ gb170)); clear HB; have HB := n0_; have BK170 := n1_; have GW170 := n2_; have GE170 := n3_; clear n0_ n1_ n2_ n3_; clear hb hbox hg; have hcz16_0 : w15.cell? ⟨gb170, 0, none⟩ = some (.int .u8 a1_0) := (blk_cell BK170.out 0).trans rfl; have hcz16_1 : w15.cell? ⟨gb170, 1, none⟩ = some (.int .i64 a1_1) := (blk_cell BK170.out 1).trans rfl; have hcz16_2 : w15.cell? ⟨gb170, 2, none⟩ = some (.int .i64 a1_2) := (blk_cell BK170.out 2).trans rfl; have hfz16_0 := blk_frozen BK170.out 0; have hfz16_1 := blk_frozen BK170.out 1; have hfz16_2 := blk_frozen BK170.out 2))
              go_ret
              exact ⟨by first | rfl | (simp [errW_none, errW_some] <;> rfl) | (simp [*, errW_none, errW_some] <;> rfl), by repeat (first | (with_reducible first | exact HB.out | apply below_alloc | apply pw_below_drewN | apply below_drew1 | refine below_set ?_ GE170.out) | exact HB.out)⟩
            · rw [if_neg c14] at H
              exact absurd H (by simp)
          · rw [if_neg c13] at H
            exact absurd H (by simp)
        · rw [if_neg c12] at H
          exact absurd H (by simp)

end Go.Proofs.Ytodldpdnhcafpaa.F

-- Text (29): its contract (made by wip/mkgtext.py)
namespace Go.Proofs.Ytodldpdnhcafpaa.F
open Go.RowKit Go.Shelf Go.Proofs.YtodldpdnhcafpaaW.PrintWords Go.Proofs.YtodldpdnhcafpaaW.PrintLast Go.Proofs.YtodldpdnhcafpaaW.PrintMore
open Go.Proofs.Ytodldpdnhcafpaa.K
attribute [local go_sem] Oper.semAt_some
set_option linter.unusedVariables false
set_option linter.unusedSimpArgs false

theorem info5 : (Try.prog.info? 5).map (fun i => (i.zero, i.size, i.bytes)) = some (some (.int .u8 0), 1, 1) := by kernel_rfl
def wordB (t : ByteArray) (x : S61) : ByteArray := if x.f1 < 0 then ⟨#[]⟩ else if x.f2 < x.f1 then ⟨#[]⟩ else if x.f2 > (t.size : Int) then ⟨#[]⟩ else t.extract x.f1.toNat x.f2.toNat
theorem word_is (t : ByteArray) (x : S61) : tree_word.f t x.f0 x.f1 x.f2 = some (wordB t x) := by
  unfold tree_word.f wordB
  split
  · rfl
  split
  · rfl
  split
  · rfl
  rw [if_pos (by omega), if_pos (by omega), if_pos (by omega)]
/-- One token's word behind what has come. -/
def textStep (t : ByteArray) (l : List S61) (bs : List Int) (i : Int) : List Int :=
  (if (wordB t (rd_T61 l i)).toList = [] then bs else if bs = [] then bs else bs ++ [32]) ++ bytesOf (wordB t (rd_T61 l i))
def textB (t : ByteArray) (l : List S61) (is : List Int) : List Int := is.foldl (textStep t l) []
theorem textB_snoc (t : ByteArray) (l : List S61) (is : List Int) (i : Int) : textB t l (is ++ [i]) = textStep t l (textB t l is) i := by
  unfold textB
  rw [List.foldl_append, List.foldl_cons, List.foldl_nil]
theorem wordB_size (t : ByteArray) (x : S61) : (wordB t x).size ≤ t.size := by
  unfold wordB
  repeat' split
  all_goals first | exact Nat.zero_le _ | (rw [ByteArray.size_extract]; omega)
theorem textB_len (t : ByteArray) (l : List S61) (is : List Int) : ∀ bs : List Int, (is.foldl (textStep t l) bs).length ≤ bs.length + is.length * (t.size + 1) := by
  induction is with
  | nil => intro bs; simp
  | cons i is ih =>
    intro bs
    rw [List.foldl_cons]
    refine Nat.le_trans (ih _) ?_
    have h1 : (textStep t l bs i).length ≤ bs.length + (t.size + 1) := by
      have hw := wordB_size t (rd_T61 l i)
      unfold textStep
      rw [List.length_append, bytesOf_length]
      split
      · omega
      split
      · omega
      · rw [List.length_append, List.length_singleton]; omega
    rw [List.length_cons, Nat.succ_mul]
    omega

/-- The normal way out alone. -/
def onlyN (Q : Exit → Act → World → Prop) : Exit → Act → World → Prop
  | .normal, a, w => Q .normal a w
  | _, _, _ => False
theorem onlyN_normal {Q : Exit → Act → World → Prop} {a : Act} {w : World} : onlyN Q .normal a w = Q .normal a w := rfl
theorem start_n {P : Program} {ops : Array Oper} {Q : Exit → Act → World → Prop} {S : World → Prop} {ds : List Nat} {id n : Nat} {a : Act} {w : World} (l : Array Bool) (hm : P.follows .mixedOrders = true) (hn : ops.size = n) (hl : Array.replicate n false = l) (hS : S w.drew)
    (h : S w.drew → wpAnyLast P .any ops (onlyN Q) S ds n l a w.drew) : (Code.region id ops true).wp P Q a w :=
  wp_mono (start_ l hm hn hl hS h) (fun e a w h => by cases e <;> first | exact h | exact h.elim)
theorem list_bridge_app {P : Program} {ops : Array Oper} {Q : Exit → Act → World → Prop} {n lp : Nat} {o : Oper} {rest : List Oper} {a : Act} {w : World} (_ho : ∃ xs ts, o.op = .call { callee := .builtin .append, args := xs, argTypes := ts }) (hd : (o :: rest).all noDefer = true) (h : wpList P ops (noOut Q) (o :: rest) a w) :
    wpListIn (Fence.wide.inRound lp) n P ops Q (o :: rest) a w := list_bridge _ hd a w h
def tree_Text.f (k : Nat) (t : ByteArray) (l : List S61) (ns : List S47) (n : Int) : Option ByteArray :=
  if n < 0 then some ⟨#[]⟩ else if n ≥ (ns.length : Int) then some ⟨#[]⟩ else
    if l.length < 4611686018427387904 ∧ (l.length + 1) * (t.size + 1) ≤ 140737488355328 then
      some (strOfNums (textB t l (tokR l (mx (rd_T47 ns n).f1 0) (mn (rd_T47 ns n).f2 (l.length : Int))))) else none
theorem not_row {W : World} {B : Nat} {t e : TypeId} {cs : Array Value} {d : Nat × Nat} (h : W.heap[B]? = some (.cells cs t d)) (hte : t ≠ e) {base size k : Nat} {v : Value} {xs : List Value} (hr : W.ownsRow base e size v k xs) : some B ≠ v.ownBlock := by
  rcases hr.2 with ⟨rfl, _⟩ | ⟨g, cap, cur, rfl, _, hgb, _⟩
  · simp [Value.ownBlock]
  · intro e'
    obtain rfl : B = g := by simpa [Value.ownBlock] using e'
    have := h.symm.trans hgb
    simp at this
    exact hte this.2.1
/-- A row in a box has been appended to and stored. -/
theorem app_step {W w1 : World} {g base : Nat} {v v1 : Value} {n m : Nat} {xs ys : List Value}
    (hbox : W.heap[g]? = some (.cells #[v] 70 (0, 0))) (hr : W.ownsRow base 5 1 v n xs) (hbase : base ≤ W.heap.size) (hge : base ≤ g) (hown' : w1.ownsRow base 5 1 v1 m ys) (hgr : W.grownBy w1 v.ownBlock) :
    (w1.setCell ⟨g, 0, none⟩ v1).heap[g]? = some (.cells #[v1] 70 (0, 0)) ∧ (w1.setCell ⟨g, 0, none⟩ v1).ownsRow base 5 1 v1 m ys ∧
    (∀ (B : Nat) (cs : Array Value) (t : Nat) (d : Nat × Nat), W.heap[B]? = some (.cells cs t d) → t ≠ 5 → B ≠ g → (w1.setCell ⟨g, 0, none⟩ v1).heap[B]? = some (.cells cs t d)) ∧
    KeepsOthers W (w1.setCell ⟨g, 0, none⟩ v1) ∧ Below base W (w1.setCell ⟨g, 0, none⟩ v1) := by
  have h1 : w1.heap[g]? = some (.cells #[v] 70 (0, 0)) := blk_grown hbox hgr (not_row hbox (by decide) hr)
  refine ⟨blk_put h1 0 _ rfl, hown'.kept (grownBy_setCell' w1 g v1) (.inr (not_row h1 (by decide) hown').symm), fun B cs t d hB ht hne => ?_, ?_, ?_⟩
  · exact (Below.heap_setCell w1 ⟨g, 0, none⟩ v1 B hne).trans ((hgr.block B (blk_lt hB) (not_row hB ht hr)).trans hB)
  · refine (KeepsOthers.of_grownBy hgr fun j o ej hj => ?_).trans (KeepsOthers.setCell _ _ _)
    rcases hr.2 with ⟨rfl, _⟩ | ⟨q, cap, cur, rfl, _, hgb, _⟩
    · simp [Value.ownBlock] at ej
    · obtain rfl : q = j := by simpa [Value.ownBlock] using ej
      rw [hgb] at hj; cases hj; rfl
  · refine ((Below.refl base W).grown hgr hbase fun j ej => ?_).setCell (p := ⟨g, 0, none⟩) hge v1
    rcases hr.2 with ⟨rfl, _⟩ | ⟨q, cap, cur, rfl, hb, _, _⟩
    · simp [Value.ownBlock] at ej
    · obtain rfl : q = j := by simpa [Value.ownBlock] using ej
      exact hb
theorem row_below {W W' : World} {base e size n : Nat} {v : Value} {xs : List Value} (h : W.ownsRow base e size v n xs) (hb : Below W.heap.size W W') : W'.ownsRow base e size v n xs :=
  h.kept (row := none) ⟨hb.os, hb.tape, hb.output, hb.size, fun k hk _ => hb.block k hk⟩ (by
    rcases h.2 with ⟨rfl, _⟩ | ⟨q, cap, cur, rfl, _⟩
    · exact .inl rfl
    · exact .inr (by simp [Value.ownBlock]))
def tree_Text.T4 : Bool × List (List Nat × List Nat) := (true, [([], []), ([], []), ([1], [1]), ([], []), ([2, 3], [2, 3]), ([4], [4]), ([0, 5], [0, 5])])
def tree_Text.B4 : List Nat := [0, 0, 2, 0, 14, 30, 63]
theorem tree_Text.tab4 : rtab .any (opsOf Try.f29 4) = tree_Text.T4 := by kernel_rfl
theorem tree_Text.bits4 : waitsOk tree_Text.T4.2 tree_Text.B4 = true := by kernel_rfl
def tree_Text.T6 : Bool × List (List Nat × List Nat) := (true, [([], []), ([], []), ([], []), ([1, 2], [1, 2]), ([3], [3]), ([0, 4], [0, 4]), ([5, 5, 0, 1, 2, 3, 4, 5], [5])])
def tree_Text.B6 : List Nat := [0, 0, 0, 6, 14, 31, 63]
theorem tree_Text.tab6 : rtab .any (opsOf Try.f29 6) = tree_Text.T6 := by kernel_rfl
theorem tree_Text.bits6 : waitsOk tree_Text.T6.2 tree_Text.B6 = true := by kernel_rfl
set_option maxHeartbeats 4000000 in
set_option maxRecDepth 100000 in
theorem tree_Text.calls (k : Nat) (a0 : ByteArray) (A1 : Option Addr) (c1 : Nat) (l1 : List S61) (A2_0 : Option Addr) (c2_0 : Nat) (l2_0 : List S47) (a3 : Int) (r : ByteArray) (w : World) (hr1 : Kd.C k61 w A1 l1.length l1) (hc1 : l1.length ≤ c1) (hr2_0 : Kd.C k47 w A2_0 l2_0.length l2_0) (hc2_0 : l2_0.length ≤ c2_0) (h : tree_Text.f k a0 l1 l2_0 a3 = some r) :
    Calls Try.prog 29 #[.string a0, .slice A1 l1.length c1, .agg #[.slice A2_0 l2_0.length c2_0], .int .i64 a3] w fun e w' => e = .returned (.string r) ∧ Below w.heap.size w w' := by
  have hu9 := Try.underlying9
  have hu22 := Try.underlying22
  have hu23 := Try.underlying23
  have hu25 := Try.underlying25
  have hu47 := Try.underlying47
  have hu61 := Try.underlying61
  have hu70 := Try.underlying70
  have HR1 := Aside0.mk hr1
  have HR2 := Aside0.mk hr2_0
  have HB := Aside0.mk (Below.refl w.heap.size w)
  unfold tree_Text.f at h
  by_cases c7 : a3 < 0
  · rw [if_pos c7] at h
    obtain rfl := Option.some.inj h
    have c7b0 : decide (a3 < 0) = true := decide_eq_true c7
    clear c7 h
    go_enter Try.func29, Try.ntmps29
    go_wp2_with (first
    | ((with_reducible refine gate_dst (N := 4) rfl ?_); refine box_event ?hgg4 (N := 4) ?hdg4 (cs := #[.string a0]) (t := 9) ?hrg4 ?_; (case hdg4 => rfl); (case hgg4 => rfl); (case hrg4 => first | (go_simp; done) | (go_simp; rfl)); intro g4 hg w1 hbox hb; have n0_ := Aside0.mk (below_step HB.out hb); have n1_ := Aside0.mk hbox; have GEg4 := Aside0.mk (show w.heap.size ≤ g4 by rw [hg]; exact HB.out.size); clear HB; have HB := n0_; have BKg4 := n1_; clear n0_ n1_ hb hbox hg)
    | ((with_reducible refine gate_dst (N := 5) rfl ?_); refine box_event ?hgg5 (N := 5) ?hdg5 (cs := #[.slice A1 l1.length c1]) (t := 22) ?hrg5 ?_; (case hdg5 => rfl); (case hgg5 => rfl); (case hrg5 => first | (go_simp; done) | (go_simp; rfl)); intro g5 hg w2 hbox hb; have n0_ := Aside0.mk (below_step HB.out hb); have n1_ := Aside0.mk hbox; have n_BKg4 := Aside0.mk (blk_below BKg4.out hb); have GEg5 := Aside0.mk (show w.heap.size ≤ g5 by rw [hg]; exact HB.out.size); clear HB; have HB := n0_; have BKg5 := n1_; clear BKg4; have BKg4 := n_BKg4; clear n_BKg4; clear n0_ n1_ hb hbox hg)
    | ((with_reducible refine gate_dst (N := 6) rfl ?_); refine box_event ?hgg6 (N := 6) ?hdg6 (cs := #[.slice A2_0 l2_0.length c2_0]) (t := 25) ?hrg6 ?_; (case hdg6 => rfl); (case hgg6 => rfl); (case hrg6 => first | (go_simp; done) | (go_simp; rfl)); intro g6 hg w3 hbox hb; have n0_ := Aside0.mk (below_step HB.out hb); have n1_ := Aside0.mk hbox; have n_BKg4 := Aside0.mk (blk_below BKg4.out hb); have n_BKg5 := Aside0.mk (blk_below BKg5.out hb); have GEg6 := Aside0.mk (show w.heap.size ≤ g6 by rw [hg]; exact HB.out.size); clear HB; have HB := n0_; have BKg6 := n1_; clear BKg4; have BKg4 := n_BKg4; clear n_BKg4; clear BKg5; have BKg5 := n_BKg5; clear n_BKg5; clear n0_ n1_ hb hbox hg))
    go_ret
    exact ⟨rfl, HB.out⟩
  rw [if_neg c7] at h
  have c7b0 : decide (a3 < 0) = false := decide_eq_false c7
  by_cases c8 : a3 ≥ (l2_0.length : Int)
  · rw [if_pos c8] at h
    obtain rfl := Option.some.inj h
    have c8b0 : decide (a3 ≥ (l2_0.length : Int)) = true := decide_eq_true c8
    clear c7 c8 h
    go_enter Try.func29, Try.ntmps29
    go_upto_region 1 with (first
    | ((with_reducible refine gate_dst (N := 4) rfl ?_); refine box_event ?hgg4 (N := 4) ?hdg4 (cs := #[.string a0]) (t := 9) ?hrg4 ?_; (case hdg4 => rfl); (case hgg4 => rfl); (case hrg4 => first | (go_simp; done) | (go_simp; rfl)); intro g4 hg w1 hbox hb; have n0_ := Aside0.mk (below_step HB.out hb); have n1_ := Aside0.mk hbox; have GEg4 := Aside0.mk (show w.heap.size ≤ g4 by rw [hg]; exact HB.out.size); clear HB; have HB := n0_; have BKg4 := n1_; clear n0_ n1_ hb hbox hg)
    | ((with_reducible refine gate_dst (N := 5) rfl ?_); refine box_event ?hgg5 (N := 5) ?hdg5 (cs := #[.slice A1 l1.length c1]) (t := 22) ?hrg5 ?_; (case hdg5 => rfl); (case hgg5 => rfl); (case hrg5 => first | (go_simp; done) | (go_simp; rfl)); intro g5 hg w2 hbox hb; have n0_ := Aside0.mk (below_step HB.out hb); have n1_ := Aside0.mk hbox; have n_BKg4 := Aside0.mk (blk_below BKg4.out hb); have GEg5 := Aside0.mk (show w.heap.size ≤ g5 by rw [hg]; exact HB.out.size); clear HB; have HB := n0_; have BKg5 := n1_; clear BKg4; have BKg4 := n_BKg4; clear n_BKg4; clear n0_ n1_ hb hbox hg)
    | ((with_reducible refine gate_dst (N := 6) rfl ?_); refine box_event ?hgg6 (N := 6) ?hdg6 (cs := #[.slice A2_0 l2_0.length c2_0]) (t := 25) ?hrg6 ?_; (case hdg6 => rfl); (case hgg6 => rfl); (case hrg6 => first | (go_simp; done) | (go_simp; rfl)); intro g6 hg w3 hbox hb; have n0_ := Aside0.mk (below_step HB.out hb); have n1_ := Aside0.mk hbox; have n_BKg4 := Aside0.mk (blk_below BKg4.out hb); have n_BKg5 := Aside0.mk (blk_below BKg5.out hb); have GEg6 := Aside0.mk (show w.heap.size ≤ g6 by rw [hg]; exact HB.out.size); clear HB; have HB := n0_; have BKg6 := n1_; clear BKg4; have BKg4 := n_BKg4; clear n_BKg4; clear BKg5; have BKg5 := n_BKg5; clear n_BKg5; clear n0_ n1_ hb hbox hg))
    have hcz6 : w3.cell? ⟨g6, 0, none⟩ = some (.slice A2_0 l2_0.length c2_0) := (blk_cell BKg6.out 0).trans rfl
    go_wp2
    go_ret
    exact ⟨rfl, HB.out⟩
  rw [if_neg c8] at h
  have c8b0 : decide (a3 ≥ (l2_0.length : Int)) = false := decide_eq_false c8
  have hcond : l1.length < 4611686018427387904 ∧ (l1.length + 1) * (a0.size + 1) ≤ 140737488355328 := Classical.byContradiction fun hh => by rw [if_neg hh] at h; cases h
  rw [if_pos hcond] at h
  obtain ⟨hL, hT⟩ := hcond
  obtain rfl := Option.some.inj h
  have HL := Aside0.mk hL
  have HT := Aside0.mk hT
  have C7 := Aside0.mk c7
  have C8 := Aside0.mk c8
  clear h hL hT c7 c8 hr1 hc1 hr2_0 hc2_0
  refine (callsIn_wide (n := 3)).1 ?_
  refine callsIn_of_wp_marks Try.func29 rfl trivial ?_ rfl
  simp only [Try.ntmps29, List.size_toArray, List.length_cons, List.length_nil, Nat.reduceAdd, Nat.reduceSub, Array.replicate_succ, Array.replicate_zero, List.push_toArray, List.append_toArray, List.nil_append, List.cons_append]
  refine wpIn_wide.2 ?_
  go_upto_region 1 with (first
    | ((with_reducible refine gate_dst (N := 4) rfl ?_); refine box_event ?hgg4 (N := 4) ?hdg4 (cs := #[.string a0]) (t := 9) ?hrg4 ?_; (case hdg4 => rfl); (case hgg4 => rfl); (case hrg4 => first | (go_simp; done) | (go_simp; rfl)); intro g4 hg w1 hbox hb; have n0_ := Aside0.mk (below_step HB.out hb); have n1_ := Aside0.mk hbox; have GEg4 := Aside0.mk (show w.heap.size ≤ g4 by rw [hg]; exact HB.out.size); clear HB; have HB := n0_; have BKg4 := n1_; clear n0_ n1_ hb hbox hg)
    | ((with_reducible refine gate_dst (N := 5) rfl ?_); refine box_event ?hgg5 (N := 5) ?hdg5 (cs := #[.slice A1 l1.length c1]) (t := 22) ?hrg5 ?_; (case hdg5 => rfl); (case hgg5 => rfl); (case hrg5 => first | (go_simp; done) | (go_simp; rfl)); intro g5 hg w2 hbox hb; have n0_ := Aside0.mk (below_step HB.out hb); have n1_ := Aside0.mk hbox; have n_BKg4 := Aside0.mk (blk_below BKg4.out hb); have GEg5 := Aside0.mk (show w.heap.size ≤ g5 by rw [hg]; exact HB.out.size); clear HB; have HB := n0_; have BKg5 := n1_; clear BKg4; have BKg4 := n_BKg4; clear n_BKg4; clear n0_ n1_ hb hbox hg)
    | ((with_reducible refine gate_dst (N := 6) rfl ?_); refine box_event ?hgg6 (N := 6) ?hdg6 (cs := #[.slice A2_0 l2_0.length c2_0]) (t := 25) ?hrg6 ?_; (case hdg6 => rfl); (case hgg6 => rfl); (case hrg6 => first | (go_simp; done) | (go_simp; rfl)); intro g6 hg w3 hbox hb; have n0_ := Aside0.mk (below_step HB.out hb); have n1_ := Aside0.mk hbox; have n_BKg4 := Aside0.mk (blk_below BKg4.out hb); have n_BKg5 := Aside0.mk (blk_below BKg5.out hb); have GEg6 := Aside0.mk (show w.heap.size ≤ g6 by rw [hg]; exact HB.out.size); clear HB; have HB := n0_; have BKg6 := n1_; clear BKg4; have BKg4 := n_BKg4; clear n_BKg4; clear BKg5; have BKg5 := n_BKg5; clear n_BKg5; clear n0_ n1_ hb hbox hg))
  have hcz6 : w3.cell? ⟨g6, 0, none⟩ = some (.slice A2_0 l2_0.length c2_0) := (blk_cell BKg6.out 0).trans rfl
  go_wp2
  have b9 : (w3.alloc (.cells #[.slice none 0 0] 70)).heap[w3.heap.size]? = some (.cells #[.slice none 0 0] 70 (0, 0)) := blk_new w3 _
  have n4 := Aside0.mk (blk_alloc BKg4.out (.cells #[.slice none 0 0] 70))
  have n5 := Aside0.mk (blk_alloc BKg5.out (.cells #[.slice none 0 0] 70))
  have n6 := Aside0.mk (blk_alloc BKg6.out (.cells #[.slice none 0 0] 70))
  have nb := Aside0.mk (below_alloc HB.out (.cells #[.slice none 0 0] 70))
  have g9w := HB.out.size
  have e49 : g4 ≠ w3.heap.size := by have := blk_lt BKg4.out; omega
  have e59 : g5 ≠ w3.heap.size := by have := blk_lt BKg5.out; omega
  clear HB BKg4 BKg5 BKg6 hcz6
  generalize w3.alloc (.cells #[.slice none 0 0] 70) = w4 at b9 n4 n5 n6 nb ⊢
  generalize w3.heap.size = g9 at b9 g9w e49 e59 ⊢
  have HB := nb
  have BKg4 := n4
  have BKg5 := n5
  have BKg6 := n6
  have BK9 := Aside0.mk b9
  have G9W := Aside0.mk g9w
  have E49 := Aside0.mk e49
  have E59 := Aside0.mk e59
  clear nb n4 n5 n6 b9 g9w e49 e59
  have p211 : 0 ≤ a3 := by have := C7.out; omega
  have q211 : a3 < (l2_0.length : Int) := by have := C8.out; omega
  obtain ⟨ad1, e1, hx0, hx1, hx2, hx3⟩ := at_T47 (Kd.C_below HR2.out HB.out) a3 p211 q211
  cases e1
  replace p211 := eq_true p211
  replace q211 := eq_true q211
  refine start_n (n := 7) (S := fun w' => Below w4.heap.size w4 w') (ds := []) #[false, false, false, false, false, false, false] (by kernel_rfl) rfl rfl (below_drew (Below.refl _ _)) (fun hHeld => ?_)
  refine with_tabW tree_Text.tab4 tree_Text.bits4 (fun HT_ HW_ => ?_)
  generalize w4.drew = wa at hHeld ⊢
  refine pure_ (i := 1) (N := some 22) (v := ?_) (a' := ?_) #[false, true, false, false, false, false, false] rfl rfl (any_of HT_.out (by kernel_rfl)) (fun _ _ _ h => h) (Or.inl ⟨by rfl, ?_⟩) ?_ ?_
  rotate_left
  · intro w'
    go_simp
    with_reducible rfl
  rotate_left
  · simp only [Act.put, List.setIfInBounds_toArray, List.set_cons_zero, List.set_cons_succ, i64_w, i32_w]
    rfl
  refine pure_ (i := 3) (N := some 24) (v := ?_) (a' := ?_) #[false, true, false, true, false, false, false] rfl rfl (any_of HT_.out (by kernel_rfl)) (fun _ _ _ h => h) (Or.inl ⟨by rfl, ?_⟩) ?_ ?_
  rotate_left
  · intro w'
    go_simp
    with_reducible rfl
  rotate_left
  · simp only [Act.put, List.setIfInBounds_toArray, List.set_cons_zero, List.set_cons_succ, i64_w, i32_w]
    rfl
  refine take_ (i := 0) (N := some 21) (v := ?_) (a' := ?_) #[true, true, false, true, false, false, false] rfl rfl (take_ofW HT_.out HW_.out (by kernel_rfl)) (fun _ _ _ h => h) (Or.inl ⟨by rfl, ?_⟩) hHeld ?_ ?_
  rotate_left
  · intro w' hS
    have q5 : w'.cell? ⟨g5, 0, none⟩ = some (.slice A1 l1.length c1) := (blk_cell (blk_below BKg5.out hS) 0).trans rfl
    have q6 : w'.cell? ⟨g6, 0, none⟩ = some (.slice (some ad1) l2_0.length c2_0) := (blk_cell (blk_below BKg6.out hS) 0).trans rfl
    have y0 := (hS.cell (World.block_lt_of_cell? _ _ hx0)).trans hx0
    have y1 := (hS.cell (World.block_lt_of_cell? _ _ hx1)).trans hx1
    have y2 := (hS.cell (World.block_lt_of_cell? _ _ hx2)).trans hx2
    have y3 := (hS.cell (World.block_lt_of_cell? _ _ hx3)).trans hx3
    clear hS
    go_simp
    with_reducible rfl
  rotate_left
  · simp only [Act.put, List.setIfInBounds_toArray, List.set_cons_zero, List.set_cons_succ, i64_w, i32_w]
    rfl
  refine take_ (i := 2) (N := some 23) (v := ?_) (a' := ?_) #[true, true, true, true, false, false, false] rfl rfl (take_ofW HT_.out HW_.out (by kernel_rfl)) (fun _ _ _ h => h) (Or.inl ⟨by rfl, ?_⟩) hHeld ?_ ?_
  rotate_left
  · intro w' hS
    have q5 : w'.cell? ⟨g5, 0, none⟩ = some (.slice A1 l1.length c1) := (blk_cell (blk_below BKg5.out hS) 0).trans rfl
    have q6 : w'.cell? ⟨g6, 0, none⟩ = some (.slice (some ad1) l2_0.length c2_0) := (blk_cell (blk_below BKg6.out hS) 0).trans rfl
    have y0 := (hS.cell (World.block_lt_of_cell? _ _ hx0)).trans hx0
    have y1 := (hS.cell (World.block_lt_of_cell? _ _ hx1)).trans hx1
    have y2 := (hS.cell (World.block_lt_of_cell? _ _ hx2)).trans hx2
    have y3 := (hS.cell (World.block_lt_of_cell? _ _ hx3)).trans hx3
    clear hS
    go_simp
    with_reducible rfl
  rotate_left
  · simp only [Act.put, List.setIfInBounds_toArray, List.set_cons_zero, List.set_cons_succ, i64_w, i32_w]
    rfl
  refine pure_ (i := 4) (N := some 25) (v := ?_) (a' := ?_) #[true, true, true, true, true, false, false] rfl rfl (any_of HT_.out (by kernel_rfl)) (fun _ _ _ h => h) (Or.inl ⟨by rfl, ?_⟩) ?_ ?_
  rotate_left
  · intro w'
    go_simp
    with_reducible rfl
  rotate_left
  · simp only [Act.put, List.setIfInBounds_toArray, List.set_cons_zero, List.set_cons_succ, i64_w, i32_w]
    rfl
  refine take_ (i := 5) (N := some 26) (v := ?_) (a' := ?_) #[true, true, true, true, true, true, false] rfl rfl (take_ofW HT_.out HW_.out (by kernel_rfl)) (fun _ _ _ h => h) (Or.inl ⟨by rfl, ?_⟩) hHeld ?_ ?_
  rotate_left
  · intro w' hS
    have q5 : w'.cell? ⟨g5, 0, none⟩ = some (.slice A1 l1.length c1) := (blk_cell (blk_below BKg5.out hS) 0).trans rfl
    have q6 : w'.cell? ⟨g6, 0, none⟩ = some (.slice (some ad1) l2_0.length c2_0) := (blk_cell (blk_below BKg6.out hS) 0).trans rfl
    have y0 := (hS.cell (World.block_lt_of_cell? _ _ hx0)).trans hx0
    have y1 := (hS.cell (World.block_lt_of_cell? _ _ hx1)).trans hx1
    have y2 := (hS.cell (World.block_lt_of_cell? _ _ hx2)).trans hx2
    have y3 := (hS.cell (World.block_lt_of_cell? _ _ hx3)).trans hx3
    clear hS
    go_simp
    with_reducible rfl
  rotate_left
  · simp only [Act.put, List.setIfInBounds_toArray, List.set_cons_zero, List.set_cons_succ, i64_w, i32_w]
    rfl
  refine one_ (i := 6) (N := some 27) #[true, true, true, true, true, true, true] rfl rfl (one_of HT_.out (by kernel_rfl)) (by decide) (fun K hK => ?_)
  refine goes_ Try.func53 (by kernel_rfl) rfl #[.slice A1 l1.length c1, .agg #[.int .u8 (rd_T47 l2_0 a3).f0, .int .i64 (rd_T47 l2_0 a3).f1, .int .i64 (rd_T47 l2_0 a3).f2, .int .i64 (rd_T47 l2_0 a3).f3]] (by rfl) rfl rfl (by (try simp only [List.map_toArray, List.map_cons, List.map_nil]); first | done | rfl) ?_
  refine (tokens.calls A1 l1.length c1 _ _ _ _ _).mono ?_
  rintro e w5 ⟨b1, b2, rfl, k1, k2, gb1, gb2, hb4⟩
  refine ⟨_, rfl, ?_⟩
  have K1 := Aside0.mk k1
  have K2 := Aside0.mk k2
  have NB1 := Aside0.mk (Nat.le_trans hHeld.size gb1)
  have NB2 := Aside0.mk (Nat.le_trans hHeld.size gb2)
  clear k1 k2 gb1 gb2
  refine hK.out _ _ (below_step hHeld hb4) (fun hHeld => ?_)
  clear hb4
  clear hK K
  refine norm_ (a' := ?_) ?_ ?_
  rotate_left
  · show Act.put _ (some 27) _ = _
    simp only [Act.put, List.setIfInBounds_toArray, List.set_cons_zero, List.set_cons_succ, i64_w, i32_w]
    rfl
  refine done_ (done_of HT_.out (by kernel_rfl)) ?_
  rw [onlyN_normal]
  clear hx0 hx1 hx2 hx3 p211 q211
  have z4 := Aside0.mk (blk_below BKg4.out hHeld)
  have z5 := Aside0.mk (blk_below BKg5.out hHeld)
  have z9 := Aside0.mk (blk_below BK9.out hHeld)
  have zb := Aside0.mk (below_step HB.out hHeld)
  have N1 := Aside0.mk (show b1 ≠ g9 by have := NB1.out; have := blk_lt BK9.out; omega)
  have N2 := Aside0.mk (show b2 ≠ g9 by have := NB2.out; have := blk_lt BK9.out; omega)
  clear HB BKg4 BKg5 BKg6 BK9 hHeld
  go_wp2
  refine rf1 (gf := 62) (lb := #[.pointer (some ⟨b1, 0, none⟩), .pointer (some ⟨b2, 0, none⟩)]) (p := 28) (s := 10) rfl (enters_of Try.func62 (by kernel_rfl) rfl) (tokens_stops 2 (by omega) b1 b2 w w5 A1 c1 l1 _ _ _ _ HL.out HR1.out zb.out K1.out K2.out) KpT.trans (KpT_b zb.out.size (blk_lt K1.out) (blk_lt K2.out))
    (fun pre W => (∃ v, Boxed W g9 70 v ∧ W.ownsRow w.heap.size 5 1 v (textB a0 l1 (valsT pre)).length (nums .u8 (textB a0 l1 (valsT pre))) ∧ True) ∧ (W.heap[g4]? = some (.cells #[.string a0] 9 (0, 0)) ∧ W.heap[g5]? = some (.cells #[.slice A1 l1.length c1] 22 (0, 0)) ∧ W.heap[b1]? = w5.heap[b1]? ∧ W.heap[b2]? = w5.heap[b2]?) ∧ Below w.heap.size w W)
    (fun _ _ _ => False)
    (OwnFrom.and (Own.from (holdsRow_own w.heap.size g9 70 5 1 (fun pre => (textB a0 l1 (valsT pre)).length) (fun pre => nums .u8 (textB a0 l1 (valsT pre))) (fun _ _ => True)) _) (OwnFrom.and (fun _ _ _ _ h hg hr => ⟨blk_own h.1 hg (fun r e => (hr r e).2), blk_own h.2.1 hg (fun r e => (hr r e).2), (blk_own (h.2.2.1.trans K1.out) hg (fun r e => (hr r e).2)).trans K1.out.symm, (blk_own (h.2.2.2.trans K2.out) hg (fun r e => (hr r e).2)).trans K2.out.symm⟩) (ownFrom_below (Nat.le_refl _) zb.out.size)))
    (fun _ _ _ _ _ hs _ _ => hs)
    ⟨⟨_, z9.out, World.ownsRow_nil _ _ _ _, trivial⟩, ⟨z4.out, z5.out, rfl, rfl⟩, zb.out⟩ ?assign ?body ?done ?stop
  case assign =>
    intro lp x W K hK
    simp only [List.setIfInBounds_toArray, List.set_cons_zero, List.set_cons_succ] at hK ⊢
    gi_wp2
    exact hK
  case stop => exact fun _ _ _ _ _ _ h _ => h.elim
  case done =>
    rintro D ys W hD hys ⟨⟨v, hv, hR, _⟩, _, hB⟩ hK
    rw [hys] at hR
    obtain ⟨Av, cv, rfl⟩ := own_slice hR
    obtain ⟨bs, hbs⟩ : ∃ bs, textB a0 l1 (tokR l1 (mx (rd_T47 l2_0 a3).f1 0) (mn (rd_T47 l2_0 a3).f2 (l1.length : Int))) = bs := ⟨_, rfl⟩
    simp only [hbs] at hR hv ⊢
    have c9 : W.cell? ⟨g9, 0, none⟩ = some (.slice Av bs.length cv) := (blk_cell hv 0).trans rfl
    have hcv : (convert 70 9 (.slice Av bs.length cv)).run Try.prog W = .ok (.string (strOfNums bs)) W := own_string Try.underlying70 (by kernel_rfl) Try.underlying9 hR
    have HD := Aside0.mk hD
    have HW := Aside0.mk hB
    have HK := Aside0.mk hK
    clear hD hys hv hR hB hK
    go_wp2
    refine ⟨by simp, .inl ⟨_, _, rfl, run_takeDeferred HK.out, ?_⟩⟩
    refine ⟨_, results_tmp rfl _ _ _, ?_, HW.out.grown (grownBy_putObj' W D _) HW.out.size (fun k e => by cases e; exact Nat.le_trans zb.out.size HD.out)⟩
    rw [hbs]
    rfl
  case body =>
    rintro lp pre x W ⟨⟨v, hv, hR, _⟩, ⟨m4, m5, m1, m2⟩, hB⟩ hlt
    simp only [List.setIfInBounds_toArray, List.set_cons_zero, List.set_cons_succ]
    obtain ⟨adx, ex, hx0, hx1, hx2⟩ := at_T61 (Kd.C_below HR1.out hB) x.1 x.2.1 x.2.2.1
    cases ex
    have p1 := eq_true x.2.1
    have p2 := eq_true x.2.2.1
    gi_wp2
    refine start_in (by rfl) (n := 7) (S := fun w' => Below W.heap.size W w') (ds := []) #[false, false, false, false, false, false, false] (by kernel_rfl) rfl rfl (below_drew (Below.refl _ _)) (fun hHeld => ?_)
    refine with_tabW tree_Text.tab6 tree_Text.bits6 (fun HT_ HW_ => ?_)
    generalize W.drew = wb at hHeld ⊢
    refine pure_ (i := 2) (N := some 31) (v := ?_) (a' := ?_) #[false, false, true, false, false, false, false] rfl rfl (any_of HT_.out (by kernel_rfl)) (fun _ _ _ h => h) (Or.inl ⟨by rfl, ?_⟩) ?_ ?_
    rotate_left
    · intro w'
      go_simp
      with_reducible rfl
    rotate_left
    · simp only [Act.put, List.setIfInBounds_toArray, List.set_cons_zero, List.set_cons_succ, i64_w, i32_w]
      rfl
    refine take_ (i := 0) (N := some 29) (v := ?_) (a' := ?_) #[true, false, true, false, false, false, false] rfl rfl (take_ofW HT_.out HW_.out (by kernel_rfl)) (fun _ _ _ h => h) (Or.inl ⟨by rfl, ?_⟩) hHeld ?_ ?_
    rotate_left
    · intro w' hS
      have q4 : w'.cell? ⟨g4, 0, none⟩ = some (.string a0) := (blk_cell (blk_below m4 hS) 0).trans rfl
      have q5 : w'.cell? ⟨g5, 0, none⟩ = some (.slice (some adx) l1.length c1) := (blk_cell (blk_below m5 hS) 0).trans rfl
      have y0 := (hS.cell (World.block_lt_of_cell? _ _ hx0)).trans hx0
      have y1 := (hS.cell (World.block_lt_of_cell? _ _ hx1)).trans hx1
      have y2 := (hS.cell (World.block_lt_of_cell? _ _ hx2)).trans hx2
      clear hS
      go_simp
      with_reducible rfl
    rotate_left
    · simp only [Act.put, List.setIfInBounds_toArray, List.set_cons_zero, List.set_cons_succ, i64_w, i32_w]
      rfl
    refine take_ (i := 1) (N := some 30) (v := ?_) (a' := ?_) #[true, true, true, false, false, false, false] rfl rfl (take_ofW HT_.out HW_.out (by kernel_rfl)) (fun _ _ _ h => h) (Or.inl ⟨by rfl, ?_⟩) hHeld ?_ ?_
    rotate_left
    · intro w' hS
      have q4 : w'.cell? ⟨g4, 0, none⟩ = some (.string a0) := (blk_cell (blk_below m4 hS) 0).trans rfl
      have q5 : w'.cell? ⟨g5, 0, none⟩ = some (.slice (some adx) l1.length c1) := (blk_cell (blk_below m5 hS) 0).trans rfl
      have y0 := (hS.cell (World.block_lt_of_cell? _ _ hx0)).trans hx0
      have y1 := (hS.cell (World.block_lt_of_cell? _ _ hx1)).trans hx1
      have y2 := (hS.cell (World.block_lt_of_cell? _ _ hx2)).trans hx2
      clear hS
      go_simp
      with_reducible rfl
    rotate_left
    · simp only [Act.put, List.setIfInBounds_toArray, List.set_cons_zero, List.set_cons_succ, i64_w, i32_w]
      rfl
    refine pure_ (i := 3) (N := some 32) (v := ?_) (a' := ?_) #[true, true, true, true, false, false, false] rfl rfl (any_of HT_.out (by kernel_rfl)) (fun _ _ _ h => h) (Or.inl ⟨by rfl, ?_⟩) ?_ ?_
    rotate_left
    · intro w'
      go_simp
      with_reducible rfl
    rotate_left
    · simp only [Act.put, List.setIfInBounds_toArray, List.set_cons_zero, List.set_cons_succ, i64_w, i32_w]
      rfl
    refine take_ (i := 4) (N := some 33) (v := ?_) (a' := ?_) #[true, true, true, true, true, false, false] rfl rfl (take_ofW HT_.out HW_.out (by kernel_rfl)) (fun _ _ _ h => h) (Or.inl ⟨by rfl, ?_⟩) hHeld ?_ ?_
    rotate_left
    · intro w' hS
      have q4 : w'.cell? ⟨g4, 0, none⟩ = some (.string a0) := (blk_cell (blk_below m4 hS) 0).trans rfl
      have q5 : w'.cell? ⟨g5, 0, none⟩ = some (.slice (some adx) l1.length c1) := (blk_cell (blk_below m5 hS) 0).trans rfl
      have y0 := (hS.cell (World.block_lt_of_cell? _ _ hx0)).trans hx0
      have y1 := (hS.cell (World.block_lt_of_cell? _ _ hx1)).trans hx1
      have y2 := (hS.cell (World.block_lt_of_cell? _ _ hx2)).trans hx2
      clear hS
      go_simp
      with_reducible rfl
    rotate_left
    · simp only [Act.put, List.setIfInBounds_toArray, List.set_cons_zero, List.set_cons_succ, i64_w, i32_w]
      rfl
    refine one_ (i := 5) (N := some 34) #[true, true, true, true, true, true, false] rfl rfl (one_of HT_.out (by kernel_rfl)) (by decide) (fun K hK => ?_)
    refine goes_ Try.func48 (by kernel_rfl) rfl #[.string a0, .agg #[.int .u8 (rd_T61 l1 x.1).f0, .int .i64 (rd_T61 l1 x.1).f1, .int .i64 (rd_T61 l1 x.1).f2]] (by rfl) rfl rfl (by (try simp only [List.map_toArray, List.map_cons, List.map_nil]); first | done | rfl) ?_
    refine (tree_word.calls a0 _ _ _ (wordB a0 (rd_T61 l1 x.1)) _ (word_is a0 (rd_T61 l1 x.1))).mono ?_
    rintro e w6 ⟨rfl, hb6⟩
    refine ⟨_, rfl, ?_⟩
    refine hK.out _ _ (below_step hHeld hb6) (fun hHeld => ?_)
    clear hb6
    clear hK K
    refine norm_ (a' := ?_) ?_ ?_
    rotate_left
    · show Act.put _ (some 34) _ = _
      simp only [Act.put, List.setIfInBounds_toArray, List.set_cons_zero, List.set_cons_succ, i64_w, i32_w]
      rfl
    refine pure_ (i := 6) (N := some 11) (v := ?_) (a' := ?_) #[true, true, true, true, true, true, true] rfl rfl (any_of HT_.out (by kernel_rfl)) (fun _ _ _ h => h) (Or.inl ⟨by rfl, ?_⟩) ?_ ?_
    rotate_left
    · intro w'
      go_simp
      with_reducible rfl
    rotate_left
    · simp only [Act.put, List.setIfInBounds_toArray, List.set_cons_zero, List.set_cons_succ, i64_w, i32_w]
      rfl
    refine done_ (done_of HT_.out (by kernel_rfl)) ?_
    rw [noOut_normal]
    have HV := Aside0.mk (row_below hR hHeld)
    have HX := Aside0.mk (blk_below hv hHeld)
    have k4 := Aside0.mk (blk_below m4 hHeld)
    have k5 := Aside0.mk (blk_below m5 hHeld)
    have k1 := Aside0.mk (blk_below (m1.trans K1.out) hHeld)
    have k2 := Aside0.mk (blk_below (m2.trans K2.out) hHeld)
    have HW := Aside0.mk (below_step hB hHeld)
    have HKF := Aside0.mk (keeps_below (b := w5.heap.size) hHeld)
    have HBW := Aside0.mk (hHeld.mono hB.size)
    have M1 := Aside0.mk m1
    have M2 := Aside0.mk m2
    obtain ⟨Av, cv, rfl⟩ := own_slice hR
    have hlen := textB_len a0 l1 (valsT pre) []
    have hvl : (valsT pre).length = pre.length := by simp [valsT]
    have hws := wordB_size a0 (rd_T61 l1 x.1)
    have hlim : (textB a0 l1 (valsT pre)).length + (a0.size + 1) ≤ 140737488355328 := by
      have h1 : (valsT pre).length * (a0.size + 1) + (a0.size + 1) ≤ (l1.length + 1) * (a0.size + 1) := by
        rw [← Nat.succ_mul]
        exact Nat.mul_le_mul_right _ (by omega)
      have h2 : (textB a0 l1 (valsT pre)).length ≤ 0 + (valsT pre).length * (a0.size + 1) := hlen
      have := HT.out
      omega
    have hsn : valsT (pre ++ [x]) = valsT pre ++ [x.1] := by simp [valsT]
    have hst : textB a0 l1 (valsT (pre ++ [x])) = textStep a0 l1 (textB a0 l1 (valsT pre)) x.1 := by rw [hsn, textB_snoc]
    clear hR hv m4 m5 m1 m2 hB hHeld hlen hvl hx0 hx1 hx2 p1 p2
    obtain ⟨bs, hbs⟩ : ∃ bs, textB a0 l1 (valsT pre) = bs := ⟨_, rfl⟩
    obtain ⟨wd, hwd⟩ : ∃ wd, wordB a0 (rd_T61 l1 x.1) = wd := ⟨_, rfl⟩
    rw [hbs] at HV HX hlim hst
    unfold textStep at hst
    rw [hwd] at hst hws ⊢
    have q9 : w6.cell? ⟨g9, 0, none⟩ = some (.slice Av bs.length cv) := (blk_cell HX.out 0).trans rfl
    have f9 := blk_frozen HX.out 0
    have HST := Aside0.mk hst
    have HLM := Aside0.mk hlim
    clear hst hlim hbs hsn
    by_cases ew : wd.toList = []
    · have e1 : (wd.toList == ([] : List UInt8)) = true := beq_iff_eq.mpr ew
      have e2 : (wd.toList != ([] : List UInt8)) = false := bne_eq_false_iff_eq.mpr ew
      have nst := HST.out
      rw [if_pos ew] at nst
      clear HST ew
      have HST := Aside0.mk nst
      clear nst
      gi_wp2_with (gi_at_builtin; refine list_bridge_app (by exact ⟨_, _, rfl⟩) (by rfl) ?_)
      go_wp2_with (first
        | (at_builtin; refine print_append_str (w0 := w) w.heap.size rfl (.tmp 45) (.tmp 46) 70 9 5 rfl Try.underlying70 Try.underlying9 info5 (.slice Av bs.length cv) bs wd rfl rfl HV.out HW.out HW.out.size (by have := HLM.out; omega) ?_; intro v1 w7 ho hb1 hg; obtain ⟨b7s, hb7⟩ : ∃ b, bs ++ bytesOf wd = b := ⟨_, rfl⟩; have HB7 := Aside0.mk hb7; rw [hb7] at ho; clear hb7; have AP := Aside0.mk (app_step HX.out HV.out HW.out.size G9W.out ho hg); have h7 := blk_grown HX.out hg (not_row HX.out (by decide) HV.out); clear q9 f9; have q9 : w7.cell? ⟨g9, 0, none⟩ = some (.slice Av bs.length cv) := (blk_cell h7 0).trans rfl; have f9 := blk_frozen h7 0; obtain ⟨A7, c7, e7⟩ := own_slice ho; subst e7; clear ho hb1 hg h7))
      (rw [noOut_normal]; gi_wp2)
      obtain ⟨ap1, ap2, ap3, ap4, ap5⟩ := AP.out
      refine ⟨HKF.out.trans (ap4.from _), ⟨HBW.out.trans ap5, (ap3 b1 _ _ _ k1.out (by decide) N1.out).trans (M1.out.trans K1.out).symm, (ap3 b2 _ _ _ k2.out (by decide) N2.out).trans (M2.out.trans K2.out).symm⟩, ⟨_, ap1, ?_, trivial⟩, ⟨ap3 g4 _ _ _ k4.out (by decide) E49.out, ap3 g5 _ _ _ k5.out (by decide) E59.out, (ap3 b1 _ _ _ k1.out (by decide) N1.out).trans K1.out.symm, (ap3 b2 _ _ _ k2.out (by decide) N2.out).trans K2.out.symm⟩, HW.out.trans ap5⟩
      rw [HST.out, HB7.out]
      exact ap2
    · have e1 : (wd.toList == ([] : List UInt8)) = false := beq_eq_false_iff_ne.mpr ew
      have e2 : (wd.toList != ([] : List UInt8)) = true := bne_iff_ne.mpr ew
      have nst := HST.out
      rw [if_neg ew] at nst
      clear HST ew
      by_cases eb : bs = []
      · rw [if_pos eb] at nst
        have HST := Aside0.mk nst
        clear nst
        have hz' : (0 < bs.length) = False := eq_false (by rw [eb]; exact Nat.lt_irrefl 0)
        clear eb
        gi_wp2_with (gi_at_builtin; refine list_bridge_app (by exact ⟨_, _, rfl⟩) (by rfl) ?_)
        go_wp2_with (first
          | (at_builtin; refine print_append_str (w0 := w) w.heap.size rfl (.tmp 45) (.tmp 46) 70 9 5 rfl Try.underlying70 Try.underlying9 info5 (.slice Av bs.length cv) bs wd rfl rfl HV.out HW.out HW.out.size (by have := HLM.out; omega) ?_; intro v1 w7 ho hb1 hg; obtain ⟨b7s, hb7⟩ : ∃ b, bs ++ bytesOf wd = b := ⟨_, rfl⟩; have HB7 := Aside0.mk hb7; rw [hb7] at ho; clear hb7; have AP := Aside0.mk (app_step HX.out HV.out HW.out.size G9W.out ho hg); have h7 := blk_grown HX.out hg (not_row HX.out (by decide) HV.out); clear q9 f9; have q9 : w7.cell? ⟨g9, 0, none⟩ = some (.slice Av bs.length cv) := (blk_cell h7 0).trans rfl; have f9 := blk_frozen h7 0; obtain ⟨A7, c7, e7⟩ := own_slice ho; subst e7; clear ho hb1 hg h7))
        (rw [noOut_normal]; gi_wp2)
        obtain ⟨ap1, ap2, ap3, ap4, ap5⟩ := AP.out
        refine ⟨HKF.out.trans (ap4.from _), ⟨HBW.out.trans ap5, (ap3 b1 _ _ _ k1.out (by decide) N1.out).trans (M1.out.trans K1.out).symm, (ap3 b2 _ _ _ k2.out (by decide) N2.out).trans (M2.out.trans K2.out).symm⟩, ⟨_, ap1, ?_, trivial⟩, ⟨ap3 g4 _ _ _ k4.out (by decide) E49.out, ap3 g5 _ _ _ k5.out (by decide) E59.out, (ap3 b1 _ _ _ k1.out (by decide) N1.out).trans K1.out.symm, (ap3 b2 _ _ _ k2.out (by decide) N2.out).trans K2.out.symm⟩, HW.out.trans ap5⟩
        rw [HST.out, HB7.out]
        exact ap2
      · rw [if_neg eb] at nst
        have HST := Aside0.mk nst
        clear nst
        have hpos : 0 < bs.length := List.length_pos_iff.mpr eb
        clear eb
        gi_wp2_with (gi_at_builtin; refine list_bridge_app (by exact ⟨_, _, rfl⟩) (by rfl) ?_)
        go_wp2_with (first
          | (at_builtin; refine print_append_num (w0 := w) w.heap.size rfl (.tmp 42) (.tmp 43) 70 5 .u8 1 rfl Try.underlying70 info5 (by decide) (.slice Av bs.length cv) bs 32 rfl rfl HV.out HW.out HW.out.size (by have := HLM.out; omega) ?_; intro v1 w7 ho hb1 hg hat; obtain ⟨b2s, hb2⟩ : ∃ b, bs ++ [32] = b := ⟨_, rfl⟩; have HB2 := Aside0.mk hb2; have hbl := Aside0.mk (show b2s.length = bs.length + 1 by rw [← hb2, List.length_append, List.length_singleton]); rw [hb2] at ho; clear hb2; have AP := Aside0.mk (app_step HX.out HV.out HW.out.size G9W.out ho hg); have h7 := blk_grown HX.out hg (not_row HX.out (by decide) HV.out); clear q9 f9 hat; have q9 : w7.cell? ⟨g9, 0, none⟩ = some (.slice Av bs.length cv) := (blk_cell h7 0).trans rfl; have f9 := blk_frozen h7 0; obtain ⟨A7, c7, e7⟩ := own_slice ho; subst e7; clear ho hb1 hg h7))
        rw [noOut_normal]
        obtain ⟨ap1, ap2, ap3, ap4, ap5⟩ := AP.out
        have nst := HST.out
        rw [HB2.out] at nst
        have t4 := Aside0.mk (ap3 g4 _ _ _ k4.out (by decide) E49.out)
        have t5 := Aside0.mk (ap3 g5 _ _ _ k5.out (by decide) E59.out)
        have t1 := Aside0.mk (ap3 b1 _ _ _ k1.out (by decide) N1.out)
        have t2 := Aside0.mk (ap3 b2 _ _ _ k2.out (by decide) N2.out)
        have tw := Aside0.mk (HW.out.trans ap5)
        have tk := Aside0.mk (HKF.out.trans (ap4.from _))
        have tb := Aside0.mk (HBW.out.trans ap5)
        have tx := Aside0.mk ap1
        have tv := Aside0.mk ap2
        have tm := Aside0.mk (show b2s.length + a0.size ≤ 140737488355328 by have := HLM.out; have := hbl.out; omega)
        clear AP ap1 ap2 ap3 ap4 ap5 HST HV HX k4 k5 k1 k2 HW HKF HBW HLM q9 f9 hpos hbl HB2
        generalize w7.setCell ⟨g9, 0, none⟩ (.slice A7 b2s.length c7) = w8 at t4 t5 t1 t2 tw tk tb tx tv ⊢
        have HST := Aside0.mk nst
        have HLM := tm
        have HV := tv
        have HX := tx
        have k4 := t4
        have k5 := t5
        have k1 := t1
        have k2 := t2
        have HW := tw
        have HKF := tk
        have HBW := tb
        clear t4 t5 t1 t2 tw tk tb tx tv tm nst
        have q9 : w8.cell? ⟨g9, 0, none⟩ = some (.slice A7 b2s.length c7) := (blk_cell HX.out 0).trans rfl
        have f9 := blk_frozen HX.out 0
        gi_wp2_with (gi_at_builtin; refine list_bridge_app (by exact ⟨_, _, rfl⟩) (by rfl) ?_)
        go_wp2_with (first
          | (at_builtin; refine print_append_str (w0 := w) w.heap.size rfl (.tmp 45) (.tmp 46) 70 9 5 rfl Try.underlying70 Try.underlying9 info5 (.slice A7 b2s.length c7) b2s wd rfl rfl HV.out HW.out HW.out.size (by have := HLM.out; omega) ?_; intro v1 w9 ho hb1 hg; obtain ⟨b9s, hb7⟩ : ∃ b, b2s ++ bytesOf wd = b := ⟨_, rfl⟩; have HB7 := Aside0.mk hb7; rw [hb7] at ho; clear hb7; have AP := Aside0.mk (app_step HX.out HV.out HW.out.size G9W.out ho hg); have h7 := blk_grown HX.out hg (not_row HX.out (by decide) HV.out); clear q9 f9; have q9 : w9.cell? ⟨g9, 0, none⟩ = some (.slice A7 b2s.length c7) := (blk_cell h7 0).trans rfl; have f9 := blk_frozen h7 0; obtain ⟨A9, c9, e9⟩ := own_slice ho; subst e9; clear ho hb1 hg h7))
        (rw [noOut_normal]; gi_wp2)
        obtain ⟨ap1, ap2, ap3, ap4, ap5⟩ := AP.out
        refine ⟨HKF.out.trans (ap4.from _), ⟨HBW.out.trans ap5, (ap3 b1 _ _ _ k1.out (by decide) N1.out).trans (M1.out.trans K1.out).symm, (ap3 b2 _ _ _ k2.out (by decide) N2.out).trans (M2.out.trans K2.out).symm⟩, ⟨_, ap1, ?_, trivial⟩, ⟨ap3 g4 _ _ _ k4.out (by decide) E49.out, ap3 g5 _ _ _ k5.out (by decide) E59.out, (ap3 b1 _ _ _ k1.out (by decide) N1.out).trans K1.out.symm, (ap3 b2 _ _ _ k2.out (by decide) N2.out).trans K2.out.symm⟩, HW.out.trans ap5⟩
        rw [HST.out, HB7.out]
        exact ap2
end Go.Proofs.Ytodldpdnhcafpaa.F

-- A text of this session's own program (wip/myprint.sh over a changed print tool): functions and their walks
namespace Go.Proofs.Ytodldpdnhcafpaa.F
open Go.RowKit Go.Proofs.YtodldpdnhcafpaaW.PrintWords Go.Proofs.YtodldpdnhcafpaaW.PrintLast Go.Proofs.YtodldpdnhcafpaaW.PrintMore
attribute [local go_sem] max2_int min2_int max_two min_two max_three min_three max_four min_four   -- for this text's walks alone
set_option linter.unusedVariables false
set_option linter.unusedSimpArgs false

/-! ### monikerref4_Word: function 49 -/
def monikerref4_Word.f (a0 : ByteArray) (a1_0 : Int) (a1_1 : Int) (a1_2 : Int) : Option (ByteArray) := if a1_1 < 0 then (some (⟨#[]⟩ : ByteArray)) else (if a1_2 < a1_1 then (some (⟨#[]⟩ : ByteArray)) else (if a1_2 > (a0.size : Int) then (some (⟨#[]⟩ : ByteArray)) else (if 0 ≤ a1_1 then (if a1_1 ≤ a1_2 then (if a1_2 ≤ (a0.size : Int) then (some (a0.extract (a1_1 : Int).toNat (a1_2 : Int).toNat)) else (none)) else (none)) else (none))))
set_option maxHeartbeats 8000000 in
set_option maxRecDepth 100000 in
theorem monikerref4_Word.calls (a0 : ByteArray) (a1_0 : Int) (a1_1 : Int) (a1_2 : Int) (r : ByteArray) (w : World) (h : monikerref4_Word.f a0 a1_0 a1_1 a1_2 = some r) :
    Calls Try.prog 49 #[.string a0, .agg #[.int .u8 a1_0, .int .i64 a1_1, .int .i64 a1_2]] w fun e w' => e = .returned (.string r) ∧ Below w.heap.size w w' := by
  have hu61 := Try.underlying61
  have HB := Aside0.mk (Below.refl w.heap.size w)
  have H : (if a1_1 < 0 then (some (⟨#[]⟩ : ByteArray)) else (if a1_2 < a1_1 then (some (⟨#[]⟩ : ByteArray)) else (if a1_2 > (a0.size : Int) then (some (⟨#[]⟩ : ByteArray)) else (if 0 ≤ a1_1 then (if a1_1 ≤ a1_2 then (if a1_2 ≤ (a0.size : Int) then (some (a0.extract (a1_1 : Int).toNat (a1_2 : Int).toNat)) else (none)) else (none)) else (none))))) = some r := h
  clear h
  by_cases c3 : a1_1 < 0
  · rw [if_pos c3] at H
    have c3b0 : decide (a1_1 < 0) = true := decide_eq_true c3
    clear c3
    obtain rfl := Option.some.inj H
    go_enter Try.func49, Try.ntmps49
    go_wp2_with (first | ((with_reducible refine gate_dst (N := 3) rfl ?_); (try (refine gate_guard (by rfl) ?_; dsimp only)); refine box_event ?hg (N := 3) ?hd (cs := #[.int .u8 a1_0, .int .i64 a1_1, .int .i64 a1_2]) (t := 61) ?hr ?_; (case hd => rfl); (case hg => rfl); (case hr => first | (go_simp; done) | (go_simp; rfl)); intro gb180 hg w4 hbox hb; have n0_ := Aside0.mk (below_step (by repeat (first | (with_reducible first | exact HB.out | apply below_alloc | apply pw_below_drewN | apply below_drew1) | exact HB.out)) hb); have n1_ := Aside0.mk (hbox); have n2_ := Aside0.mk ((by rw [hg]; exact (below_size (by repeat (first | (with_reducible first | exact HB.out | apply below_alloc | apply pw_below_drewN | apply below_drew1) | exact HB.out))) : w.heap.size ≤ gb180)); have n3_ := Aside0.mk ((by rw [hg]; exact (below_size (by repeat (first | (with_reducible first | exact HB.out | apply below_alloc | apply pw_below_drewN | apply below_drew1) | exact HB.out))) : w.heap.size ≤ gb180)); clear HB; have HB := n0_; have BK180 := n1_; have GW180 := n2_; have GE180 := n3_; clear n0_ n1_ n2_ n3_; clear hb hbox hg; have hcz5_0 : w4.cell? ⟨gb180, 0, none⟩ = some (.int .u8 a1_0) := (blk_cell BK180.out 0).trans rfl; have hcz5_1 : w4.cell? ⟨gb180, 1, none⟩ = some (.int .i64 a1_1) := (blk_cell BK180.out 1).trans rfl; have hcz5_2 : w4.cell? ⟨gb180, 2, none⟩ = some (.int .i64 a1_2) := (blk_cell BK180.out 2).trans rfl; have hfz5_0 := blk_frozen BK180.out 0; have hfz5_1 := blk_frozen BK180.out 1; have hfz5_2 := blk_frozen BK180.out 2))
    go_ret
    exact ⟨by first | rfl | (simp [errW_none, errW_some] <;> rfl) | (simp [*, errW_none, errW_some] <;> rfl), by repeat (first | (with_reducible first | exact HB.out | apply below_alloc | apply pw_below_drewN | apply below_drew1 | refine below_set ?_ GE180.out) | exact HB.out)⟩
  · rw [if_neg c3] at H
    have c3b0 : decide (a1_1 < 0) = false := decide_eq_false c3
    clear c3
    by_cases c6 : a1_2 < a1_1
    · rw [if_pos c6] at H
      have c6b0 : decide (a1_2 < a1_1) = true := decide_eq_true c6
      clear c6
      obtain rfl := Option.some.inj H
      go_enter Try.func49, Try.ntmps49
      go_wp2_with (first | ((with_reducible refine gate_dst (N := 3) rfl ?_); (try (refine gate_guard (by rfl) ?_; dsimp only)); refine box_event ?hg (N := 3) ?hd (cs := #[.int .u8 a1_0, .int .i64 a1_1, .int .i64 a1_2]) (t := 61) ?hr ?_; (case hd => rfl); (case hg => rfl); (case hr => first | (go_simp; done) | (go_simp; rfl)); intro gb180 hg w7 hbox hb; have n0_ := Aside0.mk (below_step (by repeat (first | (with_reducible first | exact HB.out | apply below_alloc | apply pw_below_drewN | apply below_drew1) | exact HB.out)) hb); have n1_ := Aside0.mk (hbox); have n2_ := Aside0.mk ((by rw [hg]; exact (below_size (by repeat (first | (with_reducible first | exact HB.out | apply below_alloc | apply pw_below_drewN | apply below_drew1) | exact HB.out))) : w.heap.size ≤ gb180)); have n3_ := Aside0.mk ((by rw [hg]; exact (below_size (by repeat (first | (with_reducible first | exact HB.out | apply below_alloc | apply pw_below_drewN | apply below_drew1) | exact HB.out))) : w.heap.size ≤ gb180)); clear HB; have HB := n0_; have BK180 := n1_; have GW180 := n2_; have GE180 := n3_; clear n0_ n1_ n2_ n3_; clear hb hbox hg; have hcz8_0 : w7.cell? ⟨gb180, 0, none⟩ = some (.int .u8 a1_0) := (blk_cell BK180.out 0).trans rfl; have hcz8_1 : w7.cell? ⟨gb180, 1, none⟩ = some (.int .i64 a1_1) := (blk_cell BK180.out 1).trans rfl; have hcz8_2 : w7.cell? ⟨gb180, 2, none⟩ = some (.int .i64 a1_2) := (blk_cell BK180.out 2).trans rfl; have hfz8_0 := blk_frozen BK180.out 0; have hfz8_1 := blk_frozen BK180.out 1; have hfz8_2 := blk_frozen BK180.out 2))
      go_ret
      exact ⟨by first | rfl | (simp [errW_none, errW_some] <;> rfl) | (simp [*, errW_none, errW_some] <;> rfl), by repeat (first | (with_reducible first | exact HB.out | apply below_alloc | apply pw_below_drewN | apply below_drew1 | refine below_set ?_ GE180.out) | exact HB.out)⟩
    · rw [if_neg c6] at H
      have c6b0 : decide (a1_2 < a1_1) = false := decide_eq_false c6
      clear c6
      by_cases c9 : a1_2 > (a0.size : Int)
      · rw [if_pos c9] at H
        have c9b0 : decide ((a0.size : Int) < a1_2) = true := decide_eq_true c9
        clear c9
        obtain rfl := Option.some.inj H
        go_enter Try.func49, Try.ntmps49
        go_wp2_with (first | ((with_reducible refine gate_dst (N := 3) rfl ?_); (try (refine gate_guard (by rfl) ?_; dsimp only)); refine box_event ?hg (N := 3) ?hd (cs := #[.int .u8 a1_0, .int .i64 a1_1, .int .i64 a1_2]) (t := 61) ?hr ?_; (case hd => rfl); (case hg => rfl); (case hr => first | (go_simp; done) | (go_simp; rfl)); intro gb180 hg w10 hbox hb; have n0_ := Aside0.mk (below_step (by repeat (first | (with_reducible first | exact HB.out | apply below_alloc | apply pw_below_drewN | apply below_drew1) | exact HB.out)) hb); have n1_ := Aside0.mk (hbox); have n2_ := Aside0.mk ((by rw [hg]; exact (below_size (by repeat (first | (with_reducible first | exact HB.out | apply below_alloc | apply pw_below_drewN | apply below_drew1) | exact HB.out))) : w.heap.size ≤ gb180)); have n3_ := Aside0.mk ((by rw [hg]; exact (below_size (by repeat (first | (with_reducible first | exact HB.out | apply below_alloc | apply pw_below_drewN | apply below_drew1) | exact HB.out))) : w.heap.size ≤ gb180)); clear HB; have HB := n0_; have BK180 := n1_; have GW180 := n2_; have GE180 := n3_; clear n0_ n1_ n2_ n3_; clear hb hbox hg; have hcz11_0 : w10.cell? ⟨gb180, 0, none⟩ = some (.int .u8 a1_0) := (blk_cell BK180.out 0).trans rfl; have hcz11_1 : w10.cell? ⟨gb180, 1, none⟩ = some (.int .i64 a1_1) := (blk_cell BK180.out 1).trans rfl; have hcz11_2 : w10.cell? ⟨gb180, 2, none⟩ = some (.int .i64 a1_2) := (blk_cell BK180.out 2).trans rfl; have hfz11_0 := blk_frozen BK180.out 0; have hfz11_1 := blk_frozen BK180.out 1; have hfz11_2 := blk_frozen BK180.out 2))
        go_ret
        exact ⟨by first | rfl | (simp [errW_none, errW_some] <;> rfl) | (simp [*, errW_none, errW_some] <;> rfl), by repeat (first | (with_reducible first | exact HB.out | apply below_alloc | apply pw_below_drewN | apply below_drew1 | refine below_set ?_ GE180.out) | exact HB.out)⟩
      · rw [if_neg c9] at H
        have c9b0 : decide ((a0.size : Int) < a1_2) = false := decide_eq_false c9
        clear c9
        by_cases c12 : 0 ≤ a1_1
        · rw [if_pos c12] at H
          have c12b0 := eq_true c12
          have c12b1 : decide (0 ≤ a1_1) = true := decide_eq_true c12
          clear c12
          by_cases c13 : a1_1 ≤ a1_2
          · rw [if_pos c13] at H
            have c13b0 := eq_true c13
            have c13b1 : decide (a1_1 ≤ a1_2) = true := decide_eq_true c13
            clear c13
            by_cases c14 : a1_2 ≤ (a0.size : Int)
            · rw [if_pos c14] at H
              have c14b0 := eq_true c14
              have c14b1 : decide (a1_2 ≤ (a0.size : Int)) = true := decide_eq_true c14
              clear c14
              obtain rfl := Option.some.inj H
              go_enter Try.func49, Try.ntmps49
              go_wp2_with (first | ((with_reducible refine gate_dst (N := 3) rfl ?_); (try (refine gate_guard (by rfl) ?_; dsimp only)); refine box_event ?hg (N := 3) ?hd (cs := #[.int .u8 a1_0, .int .i64 a1_1, .int .i64 a1_2]) (t := 61) ?hr ?_; (case hd => rfl); (case hg => rfl); (case hr => first | (go_simp; done) | (go_simp; rfl)); intro gb180 hg w15 hbox hb; have n0_ := Aside0.mk (below_step (by repeat (first | (with_reducible first | exact HB.out | apply below_alloc | apply pw_below_drewN | apply below_drew1) | exact HB.out)) hb); have n1_ := Aside0.mk (hbox); have n2_ := Aside0.mk ((by rw [hg]; exact (below_size (by repeat (first | (with_reducible first | exact HB.out | apply below_alloc | apply pw_below_drewN | apply below_drew1) | exact HB.out))) : w.heap.size ≤ gb180)); have n3_ := Aside0.mk ((by rw [hg]; exact (below_size (by repeat (first | (with_reducible first | exact HB.out | apply below_alloc | apply pw_below_drewN | apply below_drew1) | exact HB.out))) : w.heap.size ≤ gb180)); clear HB; have HB := n0_; have BK180 := n1_; have GW180 := n2_; have GE180 := n3_; clear n0_ n1_ n2_ n3_; clear hb hbox hg; have hcz16_0 : w15.cell? ⟨gb180, 0, none⟩ = some (.int .u8 a1_0) := (blk_cell BK180.out 0).trans rfl; have hcz16_1 : w15.cell? ⟨gb180, 1, none⟩ = some (.int .i64 a1_1) := (blk_cell BK180.out 1).trans rfl; have hcz16_2 : w15.cell? ⟨gb180, 2, none⟩ = some (.int .i64 a1_2) := (blk_cell BK180.out 2).trans rfl; have hfz16_0 := blk_frozen BK180.out 0; have hfz16_1 := blk_frozen BK180.out 1; have hfz16_2 := blk_frozen BK180.out 2))
              go_ret
              exact ⟨by first | rfl | (simp [errW_none, errW_some] <;> rfl) | (simp [*, errW_none, errW_some] <;> rfl), by repeat (first | (with_reducible first | exact HB.out | apply below_alloc | apply pw_below_drewN | apply below_drew1 | refine below_set ?_ GE180.out) | exact HB.out)⟩
            · rw [if_neg c14] at H
              exact absurd H (by simp)
          · rw [if_neg c13] at H
            exact absurd H (by simp)
        · rw [if_neg c12] at H
          exact absurd H (by simp)

end Go.Proofs.Ytodldpdnhcafpaa.F

-- A text of this session's own program (wip/myprint.sh over a changed print tool): functions and their walks
namespace Go.Proofs.Ytodldpdnhcafpaa.F
open Go.RowKit Go.Proofs.YtodldpdnhcafpaaW.PrintWords Go.Proofs.YtodldpdnhcafpaaW.PrintLast Go.Proofs.YtodldpdnhcafpaaW.PrintMore
attribute [local go_sem] max2_int min2_int max_two min_two max_three min_three max_four min_four   -- for this text's walks alone
set_option linter.unusedVariables false
set_option linter.unusedSimpArgs false

/-! ### monikerref4_token: function 63 -/
def monikerref4_token.f (a0 : Int) : Option (Bool) := if a0 = 0 then (some false) else (some (a0 != 1))
set_option maxHeartbeats 8000000 in
set_option maxRecDepth 100000 in
theorem monikerref4_token.calls (a0 : Int) (r : Bool) (w : World) (h : monikerref4_token.f a0 = some r) :
    Calls Try.prog 63 #[.int .u8 a0] w fun e w' => e = .returned (.bool r) ∧ Drawn0 w w' := by
  have H : (if a0 = 0 then (some false) else (some (a0 != 1))) = some r := h
  clear h
  by_cases c2 : a0 = 0
  · rw [if_pos c2] at H
    have c2b0 : (a0 == 0) = true := beq_iff_eq.mpr c2
    have c2b1 : (a0 != 0) = false := bne_eq_false_iff_eq.mpr c2
    clear c2
    obtain rfl := Option.some.inj H
    go_enter Try.func63, Try.ntmps63
    go_wp2
    go_ret
    exact ⟨by first | rfl | (simp; done) | (simp [*]; done), by repeat (first | exact Drawn0.refl _ | apply Drawn0.step)⟩
  · rw [if_neg c2] at H
    have c2b0 : (a0 == 0) = false := beq_eq_false_iff_ne.mpr c2
    have c2b1 : (a0 != 0) = true := bne_iff_ne.mpr c2
    obtain rfl := Option.some.inj H
    go_enter Try.func63, Try.ntmps63
    go_wp2
    go_ret
    exact ⟨by first | rfl | (simp; done) | (simp [*]; done), by repeat (first | exact Drawn0.refl _ | apply Drawn0.step)⟩

end Go.Proofs.Ytodldpdnhcafpaa.F

-- A text of this session's own program (wip/myprint.sh over a changed print tool): functions and their walks
namespace Go.Proofs.Ytodldpdnhcafpaa.F
open Go.RowKit Go.Proofs.YtodldpdnhcafpaaW.PrintWords Go.Proofs.YtodldpdnhcafpaaW.PrintLast Go.Proofs.YtodldpdnhcafpaaW.PrintMore
attribute [local go_sem] max2_int min2_int max_two min_two max_three min_three max_four min_four   -- for this text's walks alone
set_option linter.unusedVariables false
set_option linter.unusedSimpArgs false

/-! ### monikerref4_Tokens: function 54 -/
mutual
def monikerref4_Tokens.l0 : Nat → List (S61) → List Int → Int → Int → Int → Int → Int → Option (List Int)
  | 0, _, _, _, _, _, _, _ => none
  | k + 1, x0, x5, x6, x205000, x205001, x205002, x205003 => if x6 < x205002 then (monikerref4_Tokens.j1 k x0 x5 x6 (decide (x6 < (x0.length : Int))) x205000 x205001 x205002 x205003) else (monikerref4_Tokens.j1 k x0 x5 x6 false x205000 x205001 x205002 x205003)
def monikerref4_Tokens.j1 : Nat → List (S61) → List Int → Int → Bool → Int → Int → Int → Int → Option (List Int)
  | 0, _, _, _, _, _, _, _, _ => none
  | k + 1, x0, x5, x6, x19, x205000, x205001, x205002, x205003 => if x19 = true then (if 0 ≤ x6 then (if x6 < (x0.length : Int) then ((monikerref4_token.f ((rd_T61 x0 x6).f0)).bind fun t206 => (if t206 = true then (if x5.length < 17592186044416 then (monikerref4_Tokens.l0 k x0 (x5 ++ [x6]) (wrap64 (x6 + 1)) x205000 x205001 x205002 x205003) else (none)) else (monikerref4_Tokens.l0 k x0 x5 (wrap64 (x6 + 1)) x205000 x205001 x205002 x205003))) else (none)) else (none)) else (some x5)
end
def monikerref4_Tokens.f (k : Nat) (l0 : List (S61)) (a1_0 : Int) (a1_1 : Int) (a1_2 : Int) (a1_3 : Int) : Option (List Int) := monikerref4_Tokens.l0 k l0 ([] : List Int) (mx a1_1 0) a1_0 a1_1 a1_2 a1_3
set_option maxHeartbeats 8000000 in
set_option maxRecDepth 100000 in
theorem monikerref4_Tokens.calls (k : Nat) (A0 : Option Addr) (c0 : Nat) (l0 : List (S61)) (a1_0 : Int) (a1_1 : Int) (a1_2 : Int) (a1_3 : Int) (r : List Int) (w : World) (hr0 : Kd.C k61 w A0 l0.length l0) (hc0 : l0.length ≤ c0) (h : monikerref4_Tokens.f k l0 a1_0 a1_1 a1_2 a1_3 = some r) :
    Calls Try.prog 54 #[.slice A0 l0.length c0, .agg #[.int .u8 a1_0, .int .i64 a1_1, .int .i64 a1_2, .int .i64 a1_3]] w fun e w' => ∃ v0_ : Value, e = .returned (v0_) ∧ Kd.R (Kd.int .i64) 3 w' w.heap.size (fun _ => True) v0_ r ∧ Below w.heap.size w w' := by
  have hu47 := Try.underlying47
  have HR0 := Aside0.mk hr0
  have HC0 := Aside0.mk hc0
  clear hr0 hc0
  have HB := Aside0.mk (Below.refl w.heap.size w)
  have H : (monikerref4_Tokens.l0 k l0 ([] : List Int) (mx a1_1 0) a1_0 a1_1 a1_2 a1_3) = some r := h
  clear h
  obtain ⟨ji3, hji3⟩ : ∃ j_ : Int, (mx a1_1 0) = j_ := ⟨_, rfl⟩
  replace H : (monikerref4_Tokens.l0 k l0 ([] : List Int) ji3 a1_0 a1_1 a1_2 a1_3) = some r := by first | (rw [hji3] at H; exact H) | (simp only [hji3] at H ⊢; exact H)
  (try (have hji3l : 0 ≤ ji3 := by (rw [← hji3]; unfold mx; (repeat' split) <;> omega)))
  (try (have hji3m : 0 ≤ ji3 := by omega))
  have hji3_ : (if a1_1 < 0 then 0 else a1_1) = ji3 := hji3
  have H' := Aside0.mk H
  clear H
  go_enter Try.func54, Try.ntmps54
  go_wp2_with (first | ((with_reducible refine gate_dst (N := 3) rfl ?_); (try (refine gate_guard (by rfl) ?_; dsimp only)); refine box_event ?hg (N := 3) ?hd (cs := #[.int .u8 a1_0, .int .i64 a1_1, .int .i64 a1_2, .int .i64 a1_3]) (t := 47) ?hr ?_; (case hd => rfl); (case hg => rfl); (case hr => first | (go_simp; done) | (go_simp; rfl)); intro gb204 hg w4 hbox hb; have n0_ := Aside0.mk (below_step (by repeat (first | (with_reducible first | exact HB.out | apply below_alloc | apply pw_below_drewN | apply below_drew1) | exact HB.out)) hb); have n1_ := Aside0.mk (hbox); have n2_ := Aside0.mk ((by rw [hg]; exact (below_size (by repeat (first | (with_reducible first | exact HB.out | apply below_alloc | apply pw_below_drewN | apply below_drew1) | exact HB.out))) : w.heap.size ≤ gb204)); have n3_ := Aside0.mk ((by rw [hg]; exact (below_size (by repeat (first | (with_reducible first | exact HB.out | apply below_alloc | apply pw_below_drewN | apply below_drew1) | exact HB.out))) : w.heap.size ≤ gb204)); clear HB; have HB := n0_; have BK204 := n1_; have GW204 := n2_; have GE204 := n3_; clear n0_ n1_ n2_ n3_; clear hb hbox hg; have hcz5_0 : w4.cell? ⟨gb204, 0, none⟩ = some (.int .u8 a1_0) := (blk_cell BK204.out 0).trans rfl; have hcz5_1 : w4.cell? ⟨gb204, 1, none⟩ = some (.int .i64 a1_1) := (blk_cell BK204.out 1).trans rfl; have hcz5_2 : w4.cell? ⟨gb204, 2, none⟩ = some (.int .i64 a1_2) := (blk_cell BK204.out 2).trans rfl; have hcz5_3 : w4.cell? ⟨gb204, 3, none⟩ = some (.int .i64 a1_3) := (blk_cell BK204.out 3).trans rfl; have hfz5_0 := blk_frozen BK204.out 0; have hfz5_1 := blk_frozen BK204.out 1; have hfz5_2 := blk_frozen BK204.out 2; have hfz5_3 := blk_frozen BK204.out 3))
  go_loopg [5, 6] k (fun kq v5 v6 w' => ∃ (x5_1 : List Int) (x6_1 : Int), v6 = .int .i64 x6_1 ∧ Aside0 (monikerref4_Tokens.l0 kq l0 x5_1 x6_1 a1_0 a1_1 a1_2 a1_3 = some r) ∧ Aside0 (kq ≤ k) ∧ Aside0 (Kd.R (Kd.int .i64) 3 w' w.heap.size (fun _ => True) v5 x5_1) ∧ Aside0 (w'.heap[gb204]? = some (.cells #[.int .u8 a1_0, .int .i64 a1_1, .int .i64 a1_2, .int .i64 a1_3] 47 (0, 0))) ∧ Aside0 (Below w.heap.size w w'))
  case atStart => exact ⟨(([] : List Int)), (ji3), (by first | rfl | (simp; done) | (simp only [← hji3] <;> (first | rfl | simp)) | (simp [*]; done)), H', ⟨Nat.le_refl _⟩, ⟨by first | exact Kd.R_nil _ _ _ _ _ | exact Kd.N_nil _ _ _ _ _ | exact Kd.V_nil _ _ _ _ _ | exact Kd.Q_nil _ _ _ _ _ | exact Kd.S_nil _ _ _ _ _⟩, ⟨by (with_reducible repeat (first | refine blk_drewN ?_ _ | refine blk_drew ?_ | refine blk_alloc ?_ _)); exact BK204.out⟩, ⟨by repeat (first | (with_reducible first | exact HB.out | apply below_alloc | apply pw_below_drewN | apply below_drew1 | refine below_set ?_ GE204.out) | exact HB.out)⟩⟩
  case round =>
    clear H'
    try clear p2
    try clear c5
    try clear hcz5_0
    try clear hcz5_1
    try clear hcz5_2
    try clear hcz5_3
    try clear hfz5_0
    try clear hfz5_1
    try clear hfz5_2
    try clear hfz5_3
    obtain ⟨x5_1, x6_1, rfl, HA, HK1, HO_5, BK204, HB⟩ := hrel
    cases gk with
    | zero => exact absurd HA.out (by simp [monikerref4_Tokens.l0])
    | succ k1 =>
      have H := HA.out
      clear HA
      simp only [monikerref4_Tokens.l0] at H
      have HC6 := Aside0.mk H
      clear H
      go_upto_region 3 with (fail)
      go_cut [19] (fun v19 wc => ∃ (kq : Nat) (x19_5 : Bool), v19 = .bool x19_5 ∧ Aside0 (monikerref4_Tokens.j1 kq l0 x5_1 x6_1 x19_5 a1_0 a1_1 a1_2 a1_3 = some r) ∧ Aside0 (kq ≤ k1) ∧ Aside0 (Kd.R (Kd.int .i64) 3 wc w.heap.size (fun _ => True) u5 x5_1) ∧ Aside0 (wc.heap[gb204]? = some (.cells #[.int .u8 a1_0, .int .i64 a1_1, .int .i64 a1_2, .int .i64 a1_3] 47 (0, 0))) ∧ Aside0 (Below w.heap.size w wc))
      case first =>
        have H := HC6.out
        clear HC6
        by_cases c7 : x6_1 < a1_2
        · rw [if_pos c7] at H
          have c7b0 : decide (x6_1 < a1_2) = true := decide_eq_true c7
          clear c7
          (first | rw [c7b0] | (simp only [i64_w, i32_w]; rw [c7b0]) | skip)
          have H' := Aside0.mk H
          clear H
          have hcz8_0 : wr.cell? ⟨gb204, 0, none⟩ = some (.int .u8 a1_0) := (blk_cell BK204.out 0).trans rfl
          have hcz8_1 : wr.cell? ⟨gb204, 1, none⟩ = some (.int .i64 a1_1) := (blk_cell BK204.out 1).trans rfl
          have hcz8_2 : wr.cell? ⟨gb204, 2, none⟩ = some (.int .i64 a1_2) := (blk_cell BK204.out 2).trans rfl
          have hcz8_3 : wr.cell? ⟨gb204, 3, none⟩ = some (.int .i64 a1_3) := (blk_cell BK204.out 3).trans rfl
          have hfz8_0 := blk_frozen BK204.out 0
          have hfz8_1 := blk_frozen BK204.out 1
          have hfz8_2 := blk_frozen BK204.out 2
          have hfz8_3 := blk_frozen BK204.out 3
          go_wp2
          go_meet
          case rel => exact ⟨_, (decide (x6_1 < (l0.length : Int))), (by first | rfl | (simp; done) | (simp [*]; done)), H', ⟨by have := HK1.out; first | omega | exact Nat.le_refl _⟩, ⟨by (with_reducible repeat (first | apply Kd.R_alloc | apply Kd.R_drewN | apply Kd.R_drew)); exact HO_5.out⟩, ⟨by (with_reducible repeat (first | refine blk_drewN ?_ _ | refine blk_drew ?_ | refine blk_alloc ?_ _)); exact BK204.out⟩, ⟨by repeat (first | (with_reducible first | exact HB.out | apply below_alloc | apply pw_below_drewN | apply below_drew1 | refine below_set ?_ GE204.out) | exact HB.out)⟩⟩
        · rw [if_neg c7] at H
          have c7b0 : decide (x6_1 < a1_2) = false := decide_eq_false c7
          clear c7
          (first | rw [c7b0] | (simp only [i64_w, i32_w]; rw [c7b0]) | skip)
          have H' := Aside0.mk H
          clear H
          have hcz9_0 : wr.cell? ⟨gb204, 0, none⟩ = some (.int .u8 a1_0) := (blk_cell BK204.out 0).trans rfl
          have hcz9_1 : wr.cell? ⟨gb204, 1, none⟩ = some (.int .i64 a1_1) := (blk_cell BK204.out 1).trans rfl
          have hcz9_2 : wr.cell? ⟨gb204, 2, none⟩ = some (.int .i64 a1_2) := (blk_cell BK204.out 2).trans rfl
          have hcz9_3 : wr.cell? ⟨gb204, 3, none⟩ = some (.int .i64 a1_3) := (blk_cell BK204.out 3).trans rfl
          have hfz9_0 := blk_frozen BK204.out 0
          have hfz9_1 := blk_frozen BK204.out 1
          have hfz9_2 := blk_frozen BK204.out 2
          have hfz9_3 := blk_frozen BK204.out 3
          go_wp2
          go_meet
          case rel => exact ⟨_, (false), (by first | rfl | (simp; done) | (simp [*]; done)), H', ⟨by have := HK1.out; first | omega | exact Nat.le_refl _⟩, ⟨by (with_reducible repeat (first | apply Kd.R_alloc | apply Kd.R_drewN | apply Kd.R_drew)); exact HO_5.out⟩, ⟨by (with_reducible repeat (first | refine blk_drewN ?_ _ | refine blk_drew ?_ | refine blk_alloc ?_ _)); exact BK204.out⟩, ⟨by repeat (first | (with_reducible first | exact HB.out | apply below_alloc | apply pw_below_drewN | apply below_drew1 | refine below_set ?_ GE204.out) | exact HB.out)⟩⟩
      case rest =>
        clear HC6
        try clear p2
        try clear c5
        try clear c7
        try clear c7b0
        try clear hcz5_0
        try clear hcz5_1
        try clear hcz5_2
        try clear hcz5_3
        try clear hcz8_0
        try clear hcz8_1
        try clear hcz8_2
        try clear hcz8_3
        try clear hcz9_0
        try clear hcz9_1
        try clear hcz9_2
        try clear hcz9_3
        try clear hfz5_0
        try clear hfz5_1
        try clear hfz5_2
        try clear hfz5_3
        try clear hfz8_0
        try clear hfz8_1
        try clear hfz8_2
        try clear hfz8_3
        try clear hfz9_0
        try clear hfz9_1
        try clear hfz9_2
        try clear hfz9_3
        try clear p2
        obtain ⟨kq, x19_5, rfl, HA, HJ5, HO_5, BK204, HB⟩ := hcut
        cases kq with
        | zero => exact absurd HA.out (by simp [monikerref4_Tokens.j1])
        | succ kj5 =>
          have H := HA.out
          clear HA
          simp only [monikerref4_Tokens.j1] at H
          by_cases c10 : x19_5 = true
          · subst c10
            have H1 : (if 0 ≤ x6_1 then (if x6_1 < (l0.length : Int) then ((monikerref4_token.f ((rd_T61 l0 x6_1).f0)).bind fun t206 => (if t206 = true then (if x5_1.length < 17592186044416 then (monikerref4_Tokens.l0 kj5 l0 (x5_1 ++ [x6_1]) (wrap64 (x6_1 + 1)) a1_0 a1_1 a1_2 a1_3) else (none)) else (monikerref4_Tokens.l0 kj5 l0 x5_1 (wrap64 (x6_1 + 1)) a1_0 a1_1 a1_2 a1_3))) else (none)) else (none)) = some r := by rw [if_pos rfl] at H; exact H
            clear H
            have H := H1
            clear H1
            by_cases c11 : 0 ≤ x6_1
            · rw [if_pos c11] at H
              have c11b0 : decide (0 ≤ x6_1) = true := decide_eq_true c11
              clear c11
              by_cases c12 : x6_1 < (l0.length : Int)
              · rw [if_pos c12] at H
                have c12b0 : decide (x6_1 < (l0.length : Int)) = true := decide_eq_true c12
                clear c12
                replace H := Option.bind_eq_some_iff.mp H
                obtain ⟨t206, A130, H⟩ := H
                replace H : (if t206 = true then (if x5_1.length < 17592186044416 then (monikerref4_Tokens.l0 kj5 l0 (x5_1 ++ [x6_1]) (wrap64 (x6_1 + 1)) a1_0 a1_1 a1_2 a1_3) else (none)) else (monikerref4_Tokens.l0 kj5 l0 x5_1 (wrap64 (x6_1 + 1)) a1_0 a1_1 a1_2 a1_3)) = some r := H
                have A13 := Aside0.mk A130
                clear A130
                by_cases c14 : t206 = true
                · subst c14
                  have H1 : (if x5_1.length < 17592186044416 then (monikerref4_Tokens.l0 kj5 l0 (x5_1 ++ [x6_1]) (wrap64 (x6_1 + 1)) a1_0 a1_1 a1_2 a1_3) else (none)) = some r := by rw [if_pos rfl] at H; exact H
                  clear H
                  have H := H1
                  clear H1
                  by_cases c15 : x5_1.length < 17592186044416
                  · rw [if_pos c15] at H
                    have LMc15 := Aside0.mk c15
                    clear c15
                    obtain ⟨y207, hy207⟩ : ∃ y_ : List Int, y_ = (x5_1 ++ [x6_1]) := ⟨_, rfl⟩
                    replace H : (monikerref4_Tokens.l0 kj5 l0 y207 (wrap64 (x6_1 + 1)) a1_0 a1_1 a1_2 a1_3) = some r := by first | (rw [hy207]; with_reducible exact H) | (have H2_ := (Option.bind_some _ _).symm.trans H; rw [hy207]; with_reducible exact H2_) | (have H2_ := (Option.bind_some _ _).symm.trans H; with_reducible exact H2_) | with_reducible exact H | (rw [hy207]; exact H) | exact H
                    have Ny207 := Aside0.mk hy207
                    clear hy207
                    have H' := Aside0.mk H
                    clear H
                    have p205 : 0 ≤ (x6_1 : Int) := of_decide_eq_true (by first | (with_reducible assumption) | assumption)
                    have q205 : x6_1 < (l0.length : Int) := of_decide_eq_true (by first | (with_reducible assumption) | assumption)
                    obtain ⟨ad205, e205, hx205_0, hx205_1, hx205_2⟩ := at_T61 HR0.out x6_1 p205 q205
                    cases e205
                    replace hx205_0 := (HB.out.cell (World.block_lt_of_cell? w _ hx205_0)).trans hx205_0
                    replace hx205_1 := (HB.out.cell (World.block_lt_of_cell? w _ hx205_1)).trans hx205_1
                    replace hx205_2 := (HB.out.cell (World.block_lt_of_cell? w _ hx205_2)).trans hx205_2
                    replace p205 := eq_true p205
                    replace q205 := eq_true q205
                    go_wp2_with (first | ((with_reducible refine gate_callee (f := 63) rfl ?_); refine goesL_ (some 27) rfl rfl Try.func63 (by kernel_rfl) rfl #[.int .u8 ((rd_T61 l0 x6_1).f0)] rfl (by (try simp only [List.map_toArray, List.map_cons, List.map_nil]); first | done | rfl | (simp only [List.length_drop, List.length_take]; rfl)) ?_; (with_reducible refine (monikerref4_token.calls ((rd_T61 l0 x6_1).f0) true _ A13.out).mono ?_); rintro e w' ⟨rfl, ⟨nd, rfl⟩⟩; refine ⟨_, rfl, ?_⟩) | ((with_reducible refine gate_builtin (b := .append) (xs := #[.tmp 28, .tmp 30]) rfl ?_); (try (refine gate_guard (by rfl) ?_; dsimp only)); at_builtin; refine Kd.R_append (Kd.int .i64) (w0 := w) w.heap.size rfl (.tmp 28) (.tmp 30) 33 3 (.int .i64 0) 8 rfl Try.underlying33 info3 rfl (by decide) (by omega) u5 x5_1 x6_1 [.int .i64 x6_1] (fun _ => True) (fun _ => False) rfl rfl ?aP (fun _ hk => hk.elim) ?aF ?aO ?aB ?aS ?aL ?_; (case aP => exact rfl); (case aB => exact (by repeat (first | (with_reducible first | exact HB.out | apply below_alloc | apply pw_below_drewN | apply below_drew1 | refine below_set ?_ GE204.out) | exact HB.out))); (case aF => exact (fun _ _ => trivial)); (case aO => exact (by (with_reducible repeat (first | apply Kd.R_alloc | apply Kd.R_drewN | apply Kd.R_drew)); exact HO_5.out)); (case aS => exact (below_size (by repeat (first | (with_reducible first | exact HB.out | apply below_alloc | apply pw_below_drewN | apply below_drew1 | refine below_set ?_ GE204.out) | exact HB.out)))); (case aL => have := LMc15.out; omega); intro v208 w16 ho hb hg hat; rw [← Ny207.out] at ho; have n0_ := Aside0.mk (blk_grown (g := gb204) (o := .cells #[.int .u8 a1_0, .int .i64 a1_1, .int .i64 a1_2, .int .i64 a1_3] 47 (0, 0)) (by (with_reducible repeat (first | refine blk_drewN ?_ _ | refine blk_drew ?_ | refine blk_alloc ?_ _)); exact BK204.out) hg (Kd.R_ne HO_5.out BK204.out (by decide))); have n1_ := Aside0.mk (hb); have n2_ := Aside0.mk (ho); clear BK204; clear HB; clear HO_5; have BK204 := n0_; have HB := n1_; have HO209 := n2_; clear n0_ n1_ n2_; clear ho hb hg hat))
                    go_roundg kj5
                    case measure => have := HK1.out; have := HJ5.out; omega
                    case rel => exact ⟨(y207), (wrap64 (x6_1 + 1)), (by first | rfl | (simp; done) | (simp [*]; done)), H', ⟨by have := HK1.out; have := HJ5.out; omega⟩, ⟨by (with_reducible repeat (first | apply Kd.R_alloc | apply Kd.R_drewN | apply Kd.R_drew)); exact HO209.out⟩, ⟨by (with_reducible repeat (first | refine blk_drewN ?_ _ | refine blk_drew ?_ | refine blk_alloc ?_ _)); exact BK204.out⟩, ⟨by repeat (first | (with_reducible first | exact HB.out | apply below_alloc | apply pw_below_drewN | apply below_drew1 | refine below_set ?_ GE204.out) | exact HB.out)⟩⟩
                  · rw [if_neg c15] at H
                    exact absurd H (by simp)
                · replace c14 := Bool.eq_false_iff.mpr c14
                  subst c14
                  have H1 : (monikerref4_Tokens.l0 kj5 l0 x5_1 (wrap64 (x6_1 + 1)) a1_0 a1_1 a1_2 a1_3) = some r := by rw [if_neg (show ¬ (false = true) by decide)] at H; exact H
                  clear H
                  have H := H1
                  clear H1
                  have H' := Aside0.mk H
                  clear H
                  have p205 : 0 ≤ (x6_1 : Int) := of_decide_eq_true (by first | (with_reducible assumption) | assumption)
                  have q205 : x6_1 < (l0.length : Int) := of_decide_eq_true (by first | (with_reducible assumption) | assumption)
                  obtain ⟨ad205, e205, hx205_0, hx205_1, hx205_2⟩ := at_T61 HR0.out x6_1 p205 q205
                  cases e205
                  replace hx205_0 := (HB.out.cell (World.block_lt_of_cell? w _ hx205_0)).trans hx205_0
                  replace hx205_1 := (HB.out.cell (World.block_lt_of_cell? w _ hx205_1)).trans hx205_1
                  replace hx205_2 := (HB.out.cell (World.block_lt_of_cell? w _ hx205_2)).trans hx205_2
                  replace p205 := eq_true p205
                  replace q205 := eq_true q205
                  go_wp2_with (first | ((with_reducible refine gate_callee (f := 63) rfl ?_); refine goesL_ (some 27) rfl rfl Try.func63 (by kernel_rfl) rfl #[.int .u8 ((rd_T61 l0 x6_1).f0)] rfl (by (try simp only [List.map_toArray, List.map_cons, List.map_nil]); first | done | rfl | (simp only [List.length_drop, List.length_take]; rfl)) ?_; (with_reducible refine (monikerref4_token.calls ((rd_T61 l0 x6_1).f0) false _ A13.out).mono ?_); rintro e w' ⟨rfl, ⟨nd, rfl⟩⟩; refine ⟨_, rfl, ?_⟩))
                  go_roundg kj5
                  case measure => have := HK1.out; have := HJ5.out; omega
                  case rel => exact ⟨(x5_1), (wrap64 (x6_1 + 1)), (by first | rfl | (simp; done) | (simp [*]; done)), H', ⟨by have := HK1.out; have := HJ5.out; omega⟩, ⟨by (with_reducible repeat (first | apply Kd.R_alloc | apply Kd.R_drewN | apply Kd.R_drew)); exact HO_5.out⟩, ⟨by (with_reducible repeat (first | refine blk_drewN ?_ _ | refine blk_drew ?_ | refine blk_alloc ?_ _)); exact BK204.out⟩, ⟨by repeat (first | (with_reducible first | exact HB.out | apply below_alloc | apply pw_below_drewN | apply below_drew1 | refine below_set ?_ GE204.out) | exact HB.out)⟩⟩
              · rw [if_neg c12] at H
                exact absurd H (by simp)
            · rw [if_neg c11] at H
              exact absurd H (by simp)
          · replace c10 := Bool.eq_false_iff.mpr c10
            subst c10
            have H1 : (some x5_1) = some r := by rw [if_neg (show ¬ (false = true) by decide)] at H; exact H
            clear H
            have H := H1
            clear H1
            obtain rfl := Option.some.inj H
            go_wp2
            go_ret
            exact ⟨_, by first | rfl | (simp [errW_none, errW_some] <;> rfl) | (simp only [← hji3]; first | rfl | (simp [errW_none, errW_some] <;> rfl)) | (simp [*, errW_none, errW_some] <;> rfl), by (with_reducible repeat (first | apply Kd.R_alloc | apply Kd.R_drewN | apply Kd.R_drew)); exact HO_5.out, by repeat (first | (with_reducible first | exact HB.out | apply below_alloc | apply pw_below_drewN | apply below_drew1 | refine below_set ?_ GE204.out) | exact HB.out)⟩

end Go.Proofs.Ytodldpdnhcafpaa.F

-- A text of this session's own program (wip/myprint.sh over a changed print tool): functions and their walks
namespace Go.Proofs.Ytodldpdnhcafpaa.F
open Go.RowKit Go.Proofs.YtodldpdnhcafpaaW.PrintWords Go.Proofs.YtodldpdnhcafpaaW.PrintLast Go.Proofs.YtodldpdnhcafpaaW.PrintMore
attribute [local go_sem] max2_int min2_int max_two min_two max_three min_three max_four min_four   -- for this text's walks alone
set_option linter.unusedVariables false
set_option linter.unusedSimpArgs false

/-! ### monikerref4_Text: function 30 -/
mutual
def monikerref4_Text.j0 : Nat → ByteArray → List (S61) → Int → Bool → List (S47) → Option (ByteArray)
  | 0, _, _, _, _, _ => none
  | k + 1, x0, x1, x3, x21, x211000 => if x21 = true then (some (⟨#[]⟩ : ByteArray)) else (if 0 ≤ x3 then (if x3 < (x211000.length : Int) then ((monikerref4_Tokens.f k x1 ((rd_T47 x211000 x3).f0) ((rd_T47 x211000 x3).f1) ((rd_T47 x211000 x3).f2) ((rd_T47 x211000 x3).f3)).bind fun t212 => (monikerref4_Text.l0 k x0 x1 t212 (⟨#[]⟩ : ByteArray) 0)) else (none)) else (none))
def monikerref4_Text.l0 : Nat → ByteArray → List (S61) → List Int → ByteArray → Int → Option (ByteArray)
  | 0, _, _, _, _, _ => none
  | k + 1, x0, x1, x9, x10, x11 => if x11 < (x9.length : Int) then (if 0 ≤ x11 then (if 0 ≤ (rd x9 x11) then (if (rd x9 x11) < (x1.length : Int) then ((monikerref4_Word.f x0 ((rd_T61 x1 (rd x9 x11)).f0) ((rd_T61 x1 (rd x9 x11)).f1) ((rd_T61 x1 (rd x9 x11)).f2)).bind fun t217 => (if t217.toList = ([] : List UInt8) then (if x10.size + t217.size ≤ 9223372036854775807 then (monikerref4_Text.l0 k x0 x1 x9 (x10 ++ t217) (wrap64 (x11 + 1))) else (none)) else (if x10.toList = ([] : List UInt8) then (if x10.size + t217.size ≤ 9223372036854775807 then (monikerref4_Text.l0 k x0 x1 x9 (x10 ++ t217) (wrap64 (x11 + 1))) else (none)) else (if x10.size + 1 ≤ 9223372036854775807 then (if (x10 ++ (⟨#[32]⟩ : ByteArray)).size + t217.size ≤ 9223372036854775807 then (monikerref4_Text.l0 k x0 x1 x9 ((x10 ++ (⟨#[32]⟩ : ByteArray)) ++ t217) (wrap64 (x11 + 1))) else (none)) else (none))))) else (none)) else (none)) else (none)) else (some x10)
end
def monikerref4_Text.f (k : Nat) (a0 : ByteArray) (l1 : List (S61)) (l2_0 : List (S47)) (a3 : Int) : Option (ByteArray) := if a3 < 0 then (monikerref4_Text.j0 k a0 l1 a3 true l2_0) else (monikerref4_Text.j0 k a0 l1 a3 (decide (a3 ≥ (l2_0.length : Int))) l2_0)
set_option maxHeartbeats 8000000 in
set_option maxRecDepth 100000 in
theorem monikerref4_Text.calls (k : Nat) (a0 : ByteArray) (A1 : Option Addr) (c1 : Nat) (l1 : List (S61)) (A2_0 : Option Addr) (c2_0 : Nat) (l2_0 : List (S47)) (a3 : Int) (r : ByteArray) (w : World) (hr1 : Kd.C k61 w A1 l1.length l1) (hc1 : l1.length ≤ c1) (hr2_0 : Kd.C k47 w A2_0 l2_0.length l2_0) (hc2_0 : l2_0.length ≤ c2_0) (h : monikerref4_Text.f k a0 l1 l2_0 a3 = some r) :
    Calls Try.prog 30 #[.string a0, .slice A1 l1.length c1, .agg #[.slice A2_0 l2_0.length c2_0], .int .i64 a3] w fun e w' => e = .returned (.string r) ∧ Below w.heap.size w w' := by
  have hu25 := Try.underlying25
  have hu47 := Try.underlying47
  have hu61 := Try.underlying61
  have HR1 := Aside0.mk hr1
  have HC1 := Aside0.mk hc1
  clear hr1 hc1
  have HR2_0 := Aside0.mk hr2_0
  have HC2_0 := Aside0.mk hc2_0
  clear hr2_0 hc2_0
  have HB := Aside0.mk (Below.refl w.heap.size w)
  have H : (if a3 < 0 then (monikerref4_Text.j0 k a0 l1 a3 true l2_0) else (monikerref4_Text.j0 k a0 l1 a3 (decide (a3 ≥ (l2_0.length : Int))) l2_0)) = some r := h
  clear h
  have HC5 := Aside0.mk H
  clear H
  go_enter Try.func30, Try.ntmps30
  go_upto_region 1 with (first | ((with_reducible refine gate_dst (N := 6) rfl ?_); (try (refine gate_guard (by rfl) ?_; dsimp only)); refine box_event ?hg (N := 6) ?hd (cs := #[.slice A2_0 l2_0.length c2_0]) (t := 25) ?hr ?_; (case hd => rfl); (case hg => rfl); (case hr => first | (go_simp; done) | (go_simp; rfl)); intro gb210 hg w6 hbox hb; have n0_ := Aside0.mk (below_step (by repeat (first | (with_reducible first | exact HB.out | apply below_alloc | apply pw_below_drewN | apply below_drew1) | exact HB.out)) hb); have n1_ := Aside0.mk (hbox); have n2_ := Aside0.mk ((by rw [hg]; exact (below_size (by repeat (first | (with_reducible first | exact HB.out | apply below_alloc | apply pw_below_drewN | apply below_drew1) | exact HB.out))) : w.heap.size ≤ gb210)); have n3_ := Aside0.mk ((by rw [hg]; exact (below_size (by repeat (first | (with_reducible first | exact HB.out | apply below_alloc | apply pw_below_drewN | apply below_drew1) | exact HB.out))) : w.heap.size ≤ gb210)); clear HB; have HB := n0_; have BK210 := n1_; have GW210 := n2_; have GE210 := n3_; clear n0_ n1_ n2_ n3_; clear hb hbox hg))
  (try simp only [Act.put, List.setIfInBounds_toArray, List.set_cons_zero, List.set_cons_succ])
  go_cut [21] (fun v21 wc => ∃ (kq : Nat) (x21_4 : Bool), v21 = .bool x21_4 ∧ Aside0 (monikerref4_Text.j0 kq a0 l1 a3 x21_4 l2_0 = some r) ∧ Aside0 (kq ≤ k) ∧ Aside0 (wc.heap[gb210]? = some (.cells #[(.slice A2_0 l2_0.length c2_0)] 25 (0, 0))) ∧ Aside0 (Below w.heap.size w wc))
  case first =>
    have H := HC5.out
    clear HC5
    by_cases c7 : a3 < 0
    · rw [if_pos c7] at H
      have c7b0 : decide (a3 < 0) = true := decide_eq_true c7
      clear c7
      (first | rw [c7b0] | (simp only [i64_w, i32_w]; rw [c7b0]) | skip)
      have H' := Aside0.mk H
      clear H
      go_wp2
      go_meet
      case rel => exact ⟨_, (true), (by first | rfl | (simp; done) | (simp [*]; done)), H', ⟨by first | omega | exact Nat.le_refl _⟩, ⟨by (with_reducible repeat (first | refine blk_drewN ?_ _ | refine blk_drew ?_ | refine blk_alloc ?_ _)); exact BK210.out⟩, ⟨by repeat (first | (with_reducible first | exact HB.out | apply below_alloc | apply pw_below_drewN | apply below_drew1 | refine below_set ?_ GE210.out) | exact HB.out)⟩⟩
    · rw [if_neg c7] at H
      have c7b0 : decide (a3 < 0) = false := decide_eq_false c7
      clear c7
      (first | rw [c7b0] | (simp only [i64_w, i32_w]; rw [c7b0]) | skip)
      have H' := Aside0.mk H
      clear H
      have hcz8_0 : w6.cell? ⟨gb210, 0, none⟩ = some (.slice A2_0 l2_0.length c2_0) := (blk_cell BK210.out 0).trans rfl
      have hfz8_0 := blk_frozen BK210.out 0
      go_wp2
      go_meet
      case rel => exact ⟨_, (decide (a3 ≥ (l2_0.length : Int))), (by first | rfl | (simp; done) | (simp [*]; done)), H', ⟨by first | omega | exact Nat.le_refl _⟩, ⟨by (with_reducible repeat (first | refine blk_drewN ?_ _ | refine blk_drew ?_ | refine blk_alloc ?_ _)); exact BK210.out⟩, ⟨by repeat (first | (with_reducible first | exact HB.out | apply below_alloc | apply pw_below_drewN | apply below_drew1 | refine below_set ?_ GE210.out) | exact HB.out)⟩⟩
  case rest =>
    clear HC5
    try clear c1
    try clear c2
    try clear p2
    try clear c3
    try clear c7
    try clear c7b0
    try clear hcz8_0
    try clear hfz8_0
    obtain ⟨kq, x21_4, rfl, HA, HJ4, BK210, HB⟩ := hcut
    cases kq with
    | zero => exact absurd HA.out (by simp [monikerref4_Text.j0])
    | succ kj4 =>
      have H := HA.out
      clear HA
      simp only [monikerref4_Text.j0] at H
      by_cases c9 : x21_4 = true
      · subst c9
        have H1 : (some (⟨#[]⟩ : ByteArray)) = some r := by rw [if_pos rfl] at H; exact H
        clear H
        have H := H1
        clear H1
        obtain rfl := Option.some.inj H
        go_wp2
        go_ret
        exact ⟨by first | rfl | (simp [errW_none, errW_some] <;> rfl) | (simp [*, errW_none, errW_some] <;> rfl), by repeat (first | (with_reducible first | exact HB.out | apply below_alloc | apply pw_below_drewN | apply below_drew1 | refine below_set ?_ GE210.out) | exact HB.out)⟩
      · replace c9 := Bool.eq_false_iff.mpr c9
        subst c9
        have H1 : (if 0 ≤ a3 then (if a3 < (l2_0.length : Int) then ((monikerref4_Tokens.f kj4 l1 ((rd_T47 l2_0 a3).f0) ((rd_T47 l2_0 a3).f1) ((rd_T47 l2_0 a3).f2) ((rd_T47 l2_0 a3).f3)).bind fun t212 => (monikerref4_Text.l0 kj4 a0 l1 t212 (⟨#[]⟩ : ByteArray) 0)) else (none)) else (none)) = some r := by rw [if_neg (show ¬ (false = true) by decide)] at H; exact H
        clear H
        have H := H1
        clear H1
        by_cases c10 : 0 ≤ a3
        · rw [if_pos c10] at H
          have c10b0 : decide (0 ≤ a3) = true := decide_eq_true c10
          clear c10
          by_cases c11 : a3 < (l2_0.length : Int)
          · rw [if_pos c11] at H
            have c11b0 : decide (a3 < (l2_0.length : Int)) = true := decide_eq_true c11
            clear c11
            replace H := Option.bind_eq_some_iff.mp H
            obtain ⟨t212, A120, H⟩ := H
            replace H : (monikerref4_Text.l0 kj4 a0 l1 t212 (⟨#[]⟩ : ByteArray) 0) = some r := H
            have A12 := Aside0.mk A120
            clear A120
            have H' := Aside0.mk H
            clear H
            have hcz13_0 : wc.cell? ⟨gb210, 0, none⟩ = some (.slice A2_0 l2_0.length c2_0) := (blk_cell BK210.out 0).trans rfl
            have hfz13_0 := blk_frozen BK210.out 0
            have p211 : 0 ≤ (a3 : Int) := of_decide_eq_true (by first | (with_reducible assumption) | assumption)
            have q211 : a3 < (l2_0.length : Int) := of_decide_eq_true (by first | (with_reducible assumption) | assumption)
            obtain ⟨ad211, e211, hx211_0, hx211_1, hx211_2, hx211_3⟩ := at_T47 HR2_0.out a3 p211 q211
            cases e211
            replace hx211_0 := (HB.out.cell (World.block_lt_of_cell? w _ hx211_0)).trans hx211_0
            replace hx211_1 := (HB.out.cell (World.block_lt_of_cell? w _ hx211_1)).trans hx211_1
            replace hx211_2 := (HB.out.cell (World.block_lt_of_cell? w _ hx211_2)).trans hx211_2
            replace hx211_3 := (HB.out.cell (World.block_lt_of_cell? w _ hx211_3)).trans hx211_3
            replace p211 := eq_true p211
            replace q211 := eq_true q211
            go_wp2_with (first | ((with_reducible refine gate_callee (f := 54) rfl ?_); refine goesL_ (some 28) rfl rfl Try.func54 (by kernel_rfl) rfl #[.slice A1 l1.length c1, .agg #[.int .u8 ((rd_T47 l2_0 a3).f0), .int .i64 ((rd_T47 l2_0 a3).f1), .int .i64 ((rd_T47 l2_0 a3).f2), .int .i64 ((rd_T47 l2_0 a3).f3)]] rfl (by (try simp only [List.map_toArray, List.map_cons, List.map_nil]); first | done | rfl | (simp only [List.length_drop, List.length_take]; rfl)) ?_; (with_reducible refine (monikerref4_Tokens.calls kj4 _ _ l1 ((rd_T47 l2_0 a3).f0) ((rd_T47 l2_0 a3).f1) ((rd_T47 l2_0 a3).f2) ((rd_T47 l2_0 a3).f3) t212 _ ?side1 ?side2 A12.out).mono ?_); (case side1 => repeat (first | exact (Kd.C_below HR1.out HB.out) | (with_reducible refine Kd.C_alloc ?_ _) | (with_reducible refine Kd.C_drewN ?_ _) | (with_reducible refine Kd.C_drew ?_))); (case side2 => exact HC1.out); rintro e w14 ⟨v213, rfl, ho0, hb⟩; refine ⟨_, rfl, ?_⟩; have n0_ := Aside0.mk (Kd.R_lower ho0 (below_size (by repeat (first | (with_reducible first | exact HB.out | apply below_alloc | apply pw_below_drewN | apply below_drew1 | refine below_set ?_ GE210.out) | exact HB.out)))); have n1_ := Aside0.mk (blk_below (g := gb210) (o := .cells #[.slice (some ad211) l2_0.length c2_0] 25 (0, 0)) (by (with_reducible repeat (first | refine blk_drewN ?_ _ | refine blk_drew ?_ | refine blk_alloc ?_ _)); exact BK210.out) hb); have n2_ := Aside0.mk (below_step (by repeat (first | (with_reducible first | exact HB.out | apply below_alloc | apply pw_below_drewN | apply below_drew1 | refine below_set ?_ GE210.out) | exact HB.out)) hb); clear BK210; clear HB; have HO214 := n0_; have BK210 := n1_; have HB := n2_; clear n0_ n1_ n2_; (try clear hb); (try clear hb2); (try clear hk); (try clear hi); (try clear ho0)))
            go_loopg [10, 11] kj4 (fun kq v10 v11 w' => ∃ (x10_2 : ByteArray) (x11_2 : Int), v10 = .string x10_2 ∧ v11 = .int .i64 x11_2 ∧ Aside0 (monikerref4_Text.l0 kq a0 l1 t212 x10_2 x11_2 = some r) ∧ Aside0 (kq ≤ kj4) ∧ Aside0 (Kd.R (Kd.int .i64) 3 w' w.heap.size (fun _ => True) v213 t212) ∧ Aside0 (w'.heap[gb210]? = some (.cells #[(.slice (some ad211) l2_0.length c2_0)] 25 (0, 0))) ∧ Aside0 (Below w.heap.size w w'))
            case atStart => exact ⟨((⟨#[]⟩ : ByteArray)), (0), (by first | rfl | (simp; done) | (simp [*]; done)), (by first | rfl | (simp; done) | (simp [*]; done)), H', ⟨Nat.le_refl _⟩, ⟨by (with_reducible repeat (first | apply Kd.R_alloc | apply Kd.R_drewN | apply Kd.R_drew)); exact HO214.out⟩, ⟨by (with_reducible repeat (first | refine blk_drewN ?_ _ | refine blk_drew ?_ | refine blk_alloc ?_ _)); exact BK210.out⟩, ⟨by repeat (first | (with_reducible first | exact HB.out | apply below_alloc | apply pw_below_drewN | apply below_drew1 | refine below_set ?_ GE210.out) | exact HB.out)⟩⟩
            case round =>
              clear H'
              try clear c1
              try clear c2
              try clear p2
              try clear q2
              try clear hx2
              try clear c3
              try clear c5
              try clear c7
              try clear c7b0
              try clear c9
              try clear c10
              try clear c10b0
              try clear c11
              try clear c11b0
              try clear hcz13_0
              try clear hcz8_0
              try clear hfz13_0
              try clear hfz8_0
              try clear hx211_0
              try clear hx211_1
              try clear hx211_2
              try clear hx211_3
              try clear p2
              try clear p211
              try clear q211
              obtain ⟨x10_2, x11_2, rfl, rfl, HA, HK2, HO_9, BK210, HB⟩ := hrel
              cases gk with
              | zero => exact absurd HA.out (by simp [monikerref4_Text.l0])
              | succ k2 =>
                have H := HA.out
                clear HA
                simp only [monikerref4_Text.l0] at H
                by_cases c15 : x11_2 < (t212.length : Int)
                · rw [if_pos c15] at H
                  have c15b0 : decide (x11_2 < (t212.length : Int)) = true := decide_eq_true c15
                  clear c15
                  by_cases c16 : 0 ≤ x11_2
                  · rw [if_pos c16] at H
                    have c16b0 : decide (0 ≤ x11_2) = true := decide_eq_true c16
                    clear c16
                    by_cases c17 : 0 ≤ (rd t212 x11_2)
                    · rw [if_pos c17] at H
                      have c17b0 : decide (0 ≤ (rd t212 x11_2)) = true := decide_eq_true c17
                      clear c17
                      by_cases c18 : (rd t212 x11_2) < (l1.length : Int)
                      · rw [if_pos c18] at H
                        have c18b0 : decide ((rd t212 x11_2) < (l1.length : Int)) = true := decide_eq_true c18
                        clear c18
                        replace H := Option.bind_eq_some_iff.mp H
                        obtain ⟨t217, A190, H⟩ := H
                        replace H : (if t217.toList = ([] : List UInt8) then (if x10_2.size + t217.size ≤ 9223372036854775807 then (monikerref4_Text.l0 k2 a0 l1 t212 (x10_2 ++ t217) (wrap64 (x11_2 + 1))) else (none)) else (if x10_2.toList = ([] : List UInt8) then (if x10_2.size + t217.size ≤ 9223372036854775807 then (monikerref4_Text.l0 k2 a0 l1 t212 (x10_2 ++ t217) (wrap64 (x11_2 + 1))) else (none)) else (if x10_2.size + 1 ≤ 9223372036854775807 then (if (x10_2 ++ (⟨#[32]⟩ : ByteArray)).size + t217.size ≤ 9223372036854775807 then (monikerref4_Text.l0 k2 a0 l1 t212 ((x10_2 ++ (⟨#[32]⟩ : ByteArray)) ++ t217) (wrap64 (x11_2 + 1))) else (none)) else (none)))) = some r := H
                        have A19 := Aside0.mk A190
                        clear A190
                        by_cases c20 : t217.toList = ([] : List UInt8)
                        · rw [if_pos c20] at H
                          have c20b0 : (t217.toList == ([] : List UInt8)) = true := beq_iff_eq.mpr c20
                          have c20b1 : (t217.toList != ([] : List UInt8)) = false := bne_eq_false_iff_eq.mpr c20
                          clear c20
                          by_cases c21 : x10_2.size + t217.size ≤ 9223372036854775807
                          · rw [if_pos c21] at H
                            have c21b0 := eq_true c21
                            have c21b1 : decide (x10_2.size + t217.size ≤ 9223372036854775807) = true := decide_eq_true c21
                            try have c21b2 : (9223372036854775807 < x10_2.size + t217.size) = False := eq_false (Nat.not_lt.2 c21)
                            have H' := Aside0.mk H
                            clear H
                            obtain ⟨Ao22, co22, eo22⟩ := Kd.R_slice HO_9.out
                            subst eo22
                            have p215 : 0 ≤ (x11_2 : Int) := of_decide_eq_true (by first | (with_reducible assumption) | assumption)
                            have q215 : x11_2 < (t212.length : Int) := of_decide_eq_true (by first | (with_reducible assumption) | assumption)
                            obtain ⟨ad215, e215, hx215_0⟩ := Kd.at_int (Kd.R_reads' HO_9.out).2.2 x11_2 p215 q215
                            cases e215
                            replace p215 := eq_true p215
                            replace q215 := eq_true q215
                            have p216 : 0 ≤ ((rd t212 x11_2) : Int) := of_decide_eq_true (by first | (with_reducible assumption) | assumption)
                            have q216 : (rd t212 x11_2) < (l1.length : Int) := of_decide_eq_true (by first | (with_reducible assumption) | assumption)
                            obtain ⟨ad216, e216, hx216_0, hx216_1, hx216_2⟩ := at_T61 HR1.out (rd t212 x11_2) p216 q216
                            cases e216
                            replace hx216_0 := (HB.out.cell (World.block_lt_of_cell? w _ hx216_0)).trans hx216_0
                            replace hx216_1 := (HB.out.cell (World.block_lt_of_cell? w _ hx216_1)).trans hx216_1
                            replace hx216_2 := (HB.out.cell (World.block_lt_of_cell? w _ hx216_2)).trans hx216_2
                            replace p216 := eq_true p216
                            replace q216 := eq_true q216
                            go_wp2_with (first | ((with_reducible refine gate_callee (f := 49) rfl ?_); refine goesL_ (some 43) rfl rfl Try.func49 (by kernel_rfl) rfl #[.string a0, .agg #[.int .u8 ((rd_T61 l1 (rd t212 x11_2)).f0), .int .i64 ((rd_T61 l1 (rd t212 x11_2)).f1), .int .i64 ((rd_T61 l1 (rd t212 x11_2)).f2)]] rfl (by (try simp only [List.map_toArray, List.map_cons, List.map_nil]); first | done | rfl | (simp only [List.length_drop, List.length_take]; rfl)) ?_; (with_reducible refine (monikerref4_Word.calls a0 ((rd_T61 l1 (rd t212 x11_2)).f0) ((rd_T61 l1 (rd t212 x11_2)).f1) ((rd_T61 l1 (rd t212 x11_2)).f2) t217 _ A19.out).mono ?_); rintro e w23 ⟨rfl, hb⟩; refine ⟨_, rfl, ?_⟩; have n0_ := Aside0.mk (Kd.R_below (by (with_reducible repeat (first | apply Kd.R_alloc | apply Kd.R_drewN | apply Kd.R_drew)); exact HO_9.out) hb); have n1_ := Aside0.mk (blk_below (g := gb210) (o := .cells #[.slice (some ad211) l2_0.length c2_0] 25 (0, 0)) (by (with_reducible repeat (first | refine blk_drewN ?_ _ | refine blk_drew ?_ | refine blk_alloc ?_ _)); exact BK210.out) hb); have n2_ := Aside0.mk (below_step (by repeat (first | (with_reducible first | exact HB.out | apply below_alloc | apply pw_below_drewN | apply below_drew1 | refine below_set ?_ GE210.out) | exact HB.out)) hb); clear HO_9; clear BK210; clear HB; have HO_9 := n0_; have BK210 := n1_; have HB := n2_; clear n0_ n1_ n2_; (try clear hb); (try clear hb2); (try clear hk); (try clear hi)))
                            go_roundg k2
                            case measure => have := HJ4.out; have := HK2.out; omega
                            case rel => exact ⟨(x10_2 ++ t217), (wrap64 (x11_2 + 1)), (by first | rfl | (simp; done) | (simp [*]; done)), (by first | rfl | (simp; done) | (simp [*]; done)), H', ⟨by have := HJ4.out; have := HK2.out; omega⟩, ⟨by (with_reducible repeat (first | apply Kd.R_alloc | apply Kd.R_drewN | apply Kd.R_drew)); exact HO_9.out⟩, ⟨by (with_reducible repeat (first | refine blk_drewN ?_ _ | refine blk_drew ?_ | refine blk_alloc ?_ _)); exact BK210.out⟩, ⟨by repeat (first | (with_reducible first | exact HB.out | apply below_alloc | apply pw_below_drewN | apply below_drew1 | refine below_set ?_ GE210.out) | exact HB.out)⟩⟩
                          · rw [if_neg c21] at H
                            exact absurd H (by simp)
                        · rw [if_neg c20] at H
                          have c20b0 : (t217.toList == ([] : List UInt8)) = false := beq_eq_false_iff_ne.mpr c20
                          have c20b1 : (t217.toList != ([] : List UInt8)) = true := bne_iff_ne.mpr c20
                          by_cases c24 : x10_2.toList = ([] : List UInt8)
                          · rw [if_pos c24] at H
                            have c24b0 : (x10_2.toList == ([] : List UInt8)) = true := beq_iff_eq.mpr c24
                            have c24b1 : (x10_2.toList != ([] : List UInt8)) = false := bne_eq_false_iff_eq.mpr c24
                            clear c24
                            by_cases c25 : x10_2.size + t217.size ≤ 9223372036854775807
                            · rw [if_pos c25] at H
                              have c25b0 := eq_true c25
                              have c25b1 : decide (x10_2.size + t217.size ≤ 9223372036854775807) = true := decide_eq_true c25
                              try have c25b2 : (9223372036854775807 < x10_2.size + t217.size) = False := eq_false (Nat.not_lt.2 c25)
                              have H' := Aside0.mk H
                              clear H
                              obtain ⟨Ao26, co26, eo26⟩ := Kd.R_slice HO_9.out
                              subst eo26
                              have p215 : 0 ≤ (x11_2 : Int) := of_decide_eq_true (by first | (with_reducible assumption) | assumption)
                              have q215 : x11_2 < (t212.length : Int) := of_decide_eq_true (by first | (with_reducible assumption) | assumption)
                              obtain ⟨ad215, e215, hx215_0⟩ := Kd.at_int (Kd.R_reads' HO_9.out).2.2 x11_2 p215 q215
                              cases e215
                              replace p215 := eq_true p215
                              replace q215 := eq_true q215
                              have p216 : 0 ≤ ((rd t212 x11_2) : Int) := of_decide_eq_true (by first | (with_reducible assumption) | assumption)
                              have q216 : (rd t212 x11_2) < (l1.length : Int) := of_decide_eq_true (by first | (with_reducible assumption) | assumption)
                              obtain ⟨ad216, e216, hx216_0, hx216_1, hx216_2⟩ := at_T61 HR1.out (rd t212 x11_2) p216 q216
                              cases e216
                              replace hx216_0 := (HB.out.cell (World.block_lt_of_cell? w _ hx216_0)).trans hx216_0
                              replace hx216_1 := (HB.out.cell (World.block_lt_of_cell? w _ hx216_1)).trans hx216_1
                              replace hx216_2 := (HB.out.cell (World.block_lt_of_cell? w _ hx216_2)).trans hx216_2
                              replace p216 := eq_true p216
                              replace q216 := eq_true q216
                              go_wp2_with (first | ((with_reducible refine gate_callee (f := 49) rfl ?_); refine goesL_ (some 43) rfl rfl Try.func49 (by kernel_rfl) rfl #[.string a0, .agg #[.int .u8 ((rd_T61 l1 (rd t212 x11_2)).f0), .int .i64 ((rd_T61 l1 (rd t212 x11_2)).f1), .int .i64 ((rd_T61 l1 (rd t212 x11_2)).f2)]] rfl (by (try simp only [List.map_toArray, List.map_cons, List.map_nil]); first | done | rfl | (simp only [List.length_drop, List.length_take]; rfl)) ?_; (with_reducible refine (monikerref4_Word.calls a0 ((rd_T61 l1 (rd t212 x11_2)).f0) ((rd_T61 l1 (rd t212 x11_2)).f1) ((rd_T61 l1 (rd t212 x11_2)).f2) t217 _ A19.out).mono ?_); rintro e w27 ⟨rfl, hb⟩; refine ⟨_, rfl, ?_⟩; have n0_ := Aside0.mk (Kd.R_below (by (with_reducible repeat (first | apply Kd.R_alloc | apply Kd.R_drewN | apply Kd.R_drew)); exact HO_9.out) hb); have n1_ := Aside0.mk (blk_below (g := gb210) (o := .cells #[.slice (some ad211) l2_0.length c2_0] 25 (0, 0)) (by (with_reducible repeat (first | refine blk_drewN ?_ _ | refine blk_drew ?_ | refine blk_alloc ?_ _)); exact BK210.out) hb); have n2_ := Aside0.mk (below_step (by repeat (first | (with_reducible first | exact HB.out | apply below_alloc | apply pw_below_drewN | apply below_drew1 | refine below_set ?_ GE210.out) | exact HB.out)) hb); clear HO_9; clear BK210; clear HB; have HO_9 := n0_; have BK210 := n1_; have HB := n2_; clear n0_ n1_ n2_; (try clear hb); (try clear hb2); (try clear hk); (try clear hi)))
                              go_roundg k2
                              case measure => have := HJ4.out; have := HK2.out; omega
                              case rel => exact ⟨(x10_2 ++ t217), (wrap64 (x11_2 + 1)), (by first | rfl | (simp; done) | (simp [*]; done)), (by first | rfl | (simp; done) | (simp [*]; done)), H', ⟨by have := HJ4.out; have := HK2.out; omega⟩, ⟨by (with_reducible repeat (first | apply Kd.R_alloc | apply Kd.R_drewN | apply Kd.R_drew)); exact HO_9.out⟩, ⟨by (with_reducible repeat (first | refine blk_drewN ?_ _ | refine blk_drew ?_ | refine blk_alloc ?_ _)); exact BK210.out⟩, ⟨by repeat (first | (with_reducible first | exact HB.out | apply below_alloc | apply pw_below_drewN | apply below_drew1 | refine below_set ?_ GE210.out) | exact HB.out)⟩⟩
                            · rw [if_neg c25] at H
                              exact absurd H (by simp)
                          · rw [if_neg c24] at H
                            have c24b0 : (x10_2.toList == ([] : List UInt8)) = false := beq_eq_false_iff_ne.mpr c24
                            have c24b1 : (x10_2.toList != ([] : List UInt8)) = true := bne_iff_ne.mpr c24
                            by_cases c28 : x10_2.size + 1 ≤ 9223372036854775807
                            · rw [if_pos c28] at H
                              have c28b0 := eq_true c28
                              have c28b1 : decide (x10_2.size + 1 ≤ 9223372036854775807) = true := decide_eq_true c28
                              try have c28b2 : (9223372036854775807 < x10_2.size + 1) = False := eq_false (Nat.not_lt.2 c28)
                              by_cases c29 : (x10_2 ++ (⟨#[32]⟩ : ByteArray)).size + t217.size ≤ 9223372036854775807
                              · rw [if_pos c29] at H
                                have c29b0 := eq_true c29
                                have c29b1 : decide ((x10_2 ++ (⟨#[32]⟩ : ByteArray)).size + t217.size ≤ 9223372036854775807) = true := decide_eq_true c29
                                try have c29b2 : (9223372036854775807 < (x10_2 ++ (⟨#[32]⟩ : ByteArray)).size + t217.size) = False := eq_false (Nat.not_lt.2 c29)
                                have H' := Aside0.mk H
                                clear H
                                obtain ⟨Ao30, co30, eo30⟩ := Kd.R_slice HO_9.out
                                subst eo30
                                have p215 : 0 ≤ (x11_2 : Int) := of_decide_eq_true (by first | (with_reducible assumption) | assumption)
                                have q215 : x11_2 < (t212.length : Int) := of_decide_eq_true (by first | (with_reducible assumption) | assumption)
                                obtain ⟨ad215, e215, hx215_0⟩ := Kd.at_int (Kd.R_reads' HO_9.out).2.2 x11_2 p215 q215
                                cases e215
                                replace p215 := eq_true p215
                                replace q215 := eq_true q215
                                have p216 : 0 ≤ ((rd t212 x11_2) : Int) := of_decide_eq_true (by first | (with_reducible assumption) | assumption)
                                have q216 : (rd t212 x11_2) < (l1.length : Int) := of_decide_eq_true (by first | (with_reducible assumption) | assumption)
                                obtain ⟨ad216, e216, hx216_0, hx216_1, hx216_2⟩ := at_T61 HR1.out (rd t212 x11_2) p216 q216
                                cases e216
                                replace hx216_0 := (HB.out.cell (World.block_lt_of_cell? w _ hx216_0)).trans hx216_0
                                replace hx216_1 := (HB.out.cell (World.block_lt_of_cell? w _ hx216_1)).trans hx216_1
                                replace hx216_2 := (HB.out.cell (World.block_lt_of_cell? w _ hx216_2)).trans hx216_2
                                replace p216 := eq_true p216
                                replace q216 := eq_true q216
                                go_wp2_with (first | ((with_reducible refine gate_callee (f := 49) rfl ?_); refine goesL_ (some 43) rfl rfl Try.func49 (by kernel_rfl) rfl #[.string a0, .agg #[.int .u8 ((rd_T61 l1 (rd t212 x11_2)).f0), .int .i64 ((rd_T61 l1 (rd t212 x11_2)).f1), .int .i64 ((rd_T61 l1 (rd t212 x11_2)).f2)]] rfl (by (try simp only [List.map_toArray, List.map_cons, List.map_nil]); first | done | rfl | (simp only [List.length_drop, List.length_take]; rfl)) ?_; (with_reducible refine (monikerref4_Word.calls a0 ((rd_T61 l1 (rd t212 x11_2)).f0) ((rd_T61 l1 (rd t212 x11_2)).f1) ((rd_T61 l1 (rd t212 x11_2)).f2) t217 _ A19.out).mono ?_); rintro e w31 ⟨rfl, hb⟩; refine ⟨_, rfl, ?_⟩; have n0_ := Aside0.mk (Kd.R_below (by (with_reducible repeat (first | apply Kd.R_alloc | apply Kd.R_drewN | apply Kd.R_drew)); exact HO_9.out) hb); have n1_ := Aside0.mk (blk_below (g := gb210) (o := .cells #[.slice (some ad211) l2_0.length c2_0] 25 (0, 0)) (by (with_reducible repeat (first | refine blk_drewN ?_ _ | refine blk_drew ?_ | refine blk_alloc ?_ _)); exact BK210.out) hb); have n2_ := Aside0.mk (below_step (by repeat (first | (with_reducible first | exact HB.out | apply below_alloc | apply pw_below_drewN | apply below_drew1 | refine below_set ?_ GE210.out) | exact HB.out)) hb); clear HO_9; clear BK210; clear HB; have HO_9 := n0_; have BK210 := n1_; have HB := n2_; clear n0_ n1_ n2_; (try clear hb); (try clear hb2); (try clear hk); (try clear hi)))
                                go_roundg k2
                                case measure => have := HJ4.out; have := HK2.out; omega
                                case rel => exact ⟨((x10_2 ++ (⟨#[32]⟩ : ByteArray)) ++ t217), (wrap64 (x11_2 + 1)), (by first | rfl | (simp; done) | (simp [*]; done)), (by first | rfl | (simp; done) | (simp [*]; done)), H', ⟨by have := HJ4.out; have := HK2.out; omega⟩, ⟨by (with_reducible repeat (first | apply Kd.R_alloc | apply Kd.R_drewN | apply Kd.R_drew)); exact HO_9.out⟩, ⟨by (with_reducible repeat (first | refine blk_drewN ?_ _ | refine blk_drew ?_ | refine blk_alloc ?_ _)); exact BK210.out⟩, ⟨by repeat (first | (with_reducible first | exact HB.out | apply below_alloc | apply pw_below_drewN | apply below_drew1 | refine below_set ?_ GE210.out) | exact HB.out)⟩⟩
                              · rw [if_neg c29] at H
                                exact absurd H (by simp)
                            · rw [if_neg c28] at H
                              exact absurd H (by simp)
                      · rw [if_neg c18] at H
                        exact absurd H (by simp)
                    · rw [if_neg c17] at H
                      exact absurd H (by simp)
                  · rw [if_neg c16] at H
                    exact absurd H (by simp)
                · rw [if_neg c15] at H
                  have c15b0 : decide (x11_2 < (t212.length : Int)) = false := decide_eq_false c15
                  clear c15
                  obtain rfl := Option.some.inj H
                  obtain ⟨Ao32, co32, eo32⟩ := Kd.R_slice HO_9.out
                  subst eo32
                  go_wp2
                  go_ret
                  exact ⟨by first | rfl | (simp [errW_none, errW_some] <;> rfl) | (simp [*, errW_none, errW_some] <;> rfl), by repeat (first | (with_reducible first | exact HB.out | apply below_alloc | apply pw_below_drewN | apply below_drew1 | refine below_set ?_ GE210.out) | exact HB.out)⟩
          · rw [if_neg c11] at H
            exact absurd H (by simp)
        · rw [if_neg c10] at H
          exact absurd H (by simp)

end Go.Proofs.Ytodldpdnhcafpaa.F

namespace Go.Proofs.Ytodldpdnhcafpaa.Q
open Go.RowKit Go.Proofs.YtodldpdnhcafpaaW.PrintWords Go.Proofs.YtodldpdnhcafpaaW.PrintLast Go.Proofs.YtodldpdnhcafpaaW.PrintMore
open Go.Proofs.Ytodldpdnhcafpaa.F Go.Proofs.Ytodldpdnhcafpaa.K
set_option linter.unusedSimpArgs false
set_option linter.unusedVariables false

theorem kw64 {x : Int} (h0 : -9223372036854775808 ≤ x) (h1 : x ≤ 9223372036854775807) : wrap64 x = x := by unfold wrap64; omega
def sizedB (l : List S47) (n : Int) : Bool := decide (0 ≤ n) && (decide (n < (l.length : Int)) && (decide (1 ≤ (rd_T47 l n).f3) && decide ((rd_T47 l n).f3 ≤ (l.length : Int) - n)))
end Go.Proofs.Ytodldpdnhcafpaa.Q

namespace Go.Proofs.Ytodldpdnhcafpaa.Q
open Go.RowKit Go.Proofs.YtodldpdnhcafpaaW.PrintWords Go.Proofs.YtodldpdnhcafpaaW.PrintLast Go.Proofs.YtodldpdnhcafpaaW.PrintMore
open Go.Proofs.Ytodldpdnhcafpaa.F Go.Proofs.Ytodldpdnhcafpaa.K
set_option linter.unusedSimpArgs false
set_option linter.unusedVariables false

/-- Are the kids from x on in order up to en? -/
def ck (l : List S47) (en : Int) : Nat → Int → Bool
  | 0, _ => true
  | d + 1, x => if x < en then (if (rd_T47 l x).f3 < 1 then false else if (rd_T47 l x).f3 > en - x then false else ck l en d (x + (rd_T47 l x).f3)) else true
def C (l : List S47) (x en : Int) : Bool := ck l en l.length x
/-- The nodes from n on, the ends of those around from the innermost on. -/
def pops (n : Int) : List Int → List Int
  | [] => []
  | e :: s => if e = n then pops n s else e :: s
def endOf (l : List S47) : List Int → Int
  | [] => l.length
  | e :: _ => e
def run (l : List S47) : Nat → Int → List Int → Bool
  | 0, _, _ => true
  | f + 1, n, s => if (rd_T47 l n).f0 ≥ 58 then false else if (rd_T47 l n).f3 < 1 then false else if (rd_T47 l n).f3 > endOf l (pops n s) - n then false else run l f (n + 1) ((n + (rd_T47 l n).f3) :: pops n s)

end Go.Proofs.Ytodldpdnhcafpaa.Q

namespace Go.Proofs.Ytodldpdnhcafpaa.Q
open Go.RowKit Go.Proofs.YtodldpdnhcafpaaW.PrintWords Go.Proofs.YtodldpdnhcafpaaW.PrintLast Go.Proofs.YtodldpdnhcafpaaW.PrintMore
open Go.Proofs.Ytodldpdnhcafpaa.F Go.Proofs.Ytodldpdnhcafpaa.K
set_option linter.unusedSimpArgs false
set_option linter.unusedVariables false

theorem tokR_cons (l : List S61) {a b : Int} (h : a < b) : tokR l a b = (if tokB l a = true then [a] else []) ++ tokR l (a + 1) b := by
  have e : (b - a).toNat = (b - (a + 1)).toNat + 1 := by omega
  have e2 : ((fun j : Nat => a + (j : Int)) ∘ Nat.succ) = (fun j : Nat => a + 1 + (j : Int)) := by
    funext j
    show a + ((j + 1 : Nat) : Int) = a + 1 + (j : Int)
    omega
  unfold tokR
  rw [e, List.range_succ_eq_map, List.map_cons, List.map_map, e2, List.filter_cons]
  rw [show a + ((0 : Nat) : Int) = a by omega]
  split <;> simp

theorem token_is (l : List S61) (x : Int) : monikerref4_token.f (rd_T61 l x).f0 = some (tokB l x) := by
  unfold monikerref4_token.f tokB
  by_cases h0 : (rd_T61 l x).f0 = 0
  · rw [if_pos h0, h0]; rfl
  · rw [if_neg h0, decide_eq_false h0]
    by_cases h1 : (rd_T61 l x).f0 = 1
    · rw [h1]; rfl
    · rw [decide_eq_false h1]
      simp [h1]

theorem tokens_loop (l : List S61) (hl : l.length ≤ 8796093022208) (a0 a1 a2 a3 : Int) (d : Nat) : ∀ (pre : List Int) (x : Int), 0 ≤ x → mn a2 (l.length : Int) - x ≤ d → (pre.length : Int) ≤ x →
    Ev (fun k => monikerref4_Tokens.l0 k l pre x a0 a1 a2 a3) (pre ++ tokR l x (mn a2 (l.length : Int))) := by
  have hmn : ∀ x : Int, (x < mn a2 (l.length : Int)) ↔ (x < a2 ∧ x < (l.length : Int)) := fun x => by unfold mn; split <;> omega
  have hend : ∀ (pre : List Int) (x : Int), ¬ x < mn a2 (l.length : Int) → Ev (fun k => monikerref4_Tokens.l0 k l pre x a0 a1 a2 a3) (pre ++ tokR l x (mn a2 (l.length : Int))) := by
    intro pre x hx
    rw [tokR_nil l (Int.not_lt.1 hx), List.append_nil]
    refine Ev.step (f := fun k => monikerref4_Tokens.j1 k l pre x false a0 a1 a2 a3) (fun k => ?_) ?_
    · simp only [monikerref4_Tokens.l0]
      by_cases c : x < a2
      · rw [if_pos c, show decide (x < (l.length : Int)) = false from decide_eq_false (fun h => hx ((hmn x).2 ⟨c, h⟩))]
      · rw [if_neg c]
    · refine Ev.step (fun k => ?_) (Ev.now _)
      simp only [monikerref4_Tokens.j1]
      rw [if_neg (by simp)]
  induction d with
  | zero => intro pre x hx hd _; exact hend pre x (by omega)
  | succ d ih =>
    intro pre x hx hd hp
    by_cases c : x < mn a2 (l.length : Int)
    · obtain ⟨c1, c2⟩ := (hmn x).1 c
      have hw : wrap64 (x + 1) = x + 1 := kw64 (by omega) (by omega)
      have hlim : pre.length < 17592186044416 := by omega
      refine Ev.step (f := fun k => monikerref4_Tokens.j1 k l pre x true a0 a1 a2 a3) (fun k => ?_) ?_
      · simp only [monikerref4_Tokens.l0]
        rw [if_pos c1, decide_eq_true c2]
      · rw [tokR_cons l c]
        by_cases ht : tokB l x = true
        · rw [if_pos ht, ← List.append_assoc]
          refine Ev.step (fun k => ?_) (ih (pre ++ [x]) (x + 1) (by omega) (by omega) (by rw [List.length_append, List.length_singleton]; omega))
          simp only [monikerref4_Tokens.j1]
          rw [if_pos trivial, if_pos hx, if_pos c2, token_is, ht]
          simp only [Option.bind_some, if_true]
          rw [if_pos hlim, hw]
        · rw [if_neg ht, List.nil_append]
          refine Ev.step (fun k => ?_) (ih pre (x + 1) (by omega) (by omega) (by omega))
          simp only [monikerref4_Tokens.j1]
          rw [if_pos trivial, if_pos hx, if_pos c2, token_is, Bool.eq_false_iff.2 ht]
          simp only [Option.bind_some, Bool.false_eq_true, if_false]
          rw [hw]
    · exact hend pre x c

theorem RTokens_is (l : List S61) (hl : l.length ≤ 8796093022208) (a0 a1 a2 a3 : Int) : Ev (fun k => monikerref4_Tokens.f k l a0 a1 a2 a3) (tokR l (mx a1 0) (mn a2 (l.length : Int))) := by
  have h0 : 0 ≤ mx a1 0 := by unfold mx; split <;> omega
  have := tokens_loop l hl a0 a1 a2 a3 (mn a2 (l.length : Int) - mx a1 0).toNat [] (mx a1 0) h0 (by omega) (by simpa using h0)
  exact this

end Go.Proofs.Ytodldpdnhcafpaa.Q

namespace Go.Proofs.Ytodldpdnhcafpaa.Q
open Go.RowKit Go.Proofs.YtodldpdnhcafpaaW.PrintWords Go.Proofs.YtodldpdnhcafpaaW.PrintLast Go.Proofs.YtodldpdnhcafpaaW.PrintMore
open Go.Proofs.Ytodldpdnhcafpaa.F Go.Proofs.Ytodldpdnhcafpaa.K
set_option linter.unusedSimpArgs false
set_option linter.unusedVariables false
theorem ba_ext {a b : ByteArray} (h : a.data = b.data) : a = b := by cases a; cases b; simp_all
theorem str_nil : strOfNums [] = ⟨#[]⟩ := by apply ba_ext; simp [strOfNums]
theorem str_size (xs : List Int) : (strOfNums xs).size = xs.length := by simp [strOfNums, ByteArray.size]
theorem str_append (xs ys : List Int) : strOfNums (xs ++ ys) = strOfNums xs ++ strOfNums ys := by
  apply ba_ext
  rw [ByteArray.data_append]
  simp [strOfNums]
theorem str_bytes (s : ByteArray) : strOfNums (bytesOf s) = s := by
  apply ba_ext
  have e : ((fun n : Int => UInt8.ofNat n.toNat) ∘ fun b : UInt8 => (b.toNat : Int)) = id := by
    funext b
    show UInt8.ofNat ((b.toNat : Int)).toNat = b
    simp
  show (List.map (fun n : Int => UInt8.ofNat n.toNat) (List.map (fun b : UInt8 => (b.toNat : Int)) s.data.toList)).toArray = s.data
  rw [List.map_map, e, List.map_id]
theorem toList_ne (x : ByteArray) : ¬ x.toList = ([] : List UInt8) ↔ 0 < x.size := by
  have e : x.size = x.data.toList.length := Array.length_toList.symm
  rw [ByteArray.toList_eq, e]
  exact List.length_pos_iff.symm
theorem str_toList (xs : List Int) : ((strOfNums xs).toList = ([] : List UInt8)) ↔ xs = [] := by
  have h := toList_ne (strOfNums xs)
  rw [str_size] at h
  constructor
  · intro e
    have : ¬ 0 < xs.length := fun hh => (h.2 hh) e
    exact List.eq_nil_of_length_eq_zero (by omega)
  · intro e
    exact Classical.byContradiction fun hh => by have := h.1 hh; rw [e] at this; exact absurd this (Nat.lt_irrefl 0)
theorem str_snoc (bs : List Int) : strOfNums (bs ++ [32]) = strOfNums bs ++ (⟨#[32]⟩ : ByteArray) := by
  rw [str_append]
  congr 1
theorem rword_is (t : ByteArray) (x : S61) : monikerref4_Word.f t x.f0 x.f1 x.f2 = some (wordB t x) := by
  unfold monikerref4_Word.f wordB
  split
  · rfl
  split
  · rfl
  split
  · rfl
  rw [if_pos (by omega), if_pos (by omega), if_pos (by omega)]

theorem text_loop (t : ByteArray) (l : List S61) (ts : List Int) (hts : ∀ i ∈ ts, 0 ≤ i ∧ i < (l.length : Int)) (htl : ts.length ≤ 8796093022208) (d : Nat) : ∀ (bs : List Int) (i : Int), 0 ≤ i → (ts.length : Int) - i ≤ d → bs.length + (ts.drop i.toNat).length * (t.size + 1) ≤ 140737488355328 →
    Ev (fun k => monikerref4_Text.l0 k t l ts (strOfNums bs) i) (strOfNums ((ts.drop i.toNat).foldl (textStep t l) bs)) := by
  have hend : ∀ (bs : List Int) (i : Int), ¬ i < (ts.length : Int) → Ev (fun k => monikerref4_Text.l0 k t l ts (strOfNums bs) i) (strOfNums ((ts.drop i.toNat).foldl (textStep t l) bs)) := by
    intro bs i hi
    rw [List.drop_eq_nil_of_le (by omega), List.foldl_nil]
    refine Ev.step (fun k => ?_) (Ev.now _)
    simp only [monikerref4_Text.l0]
    rw [if_neg hi]
  induction d with
  | zero => intro bs i h0 hd _; exact hend bs i (by omega)
  | succ d ih =>
    intro bs i h0 hd hb
    by_cases c : i < (ts.length : Int)
    · have hin : i.toNat < ts.length := by omega
      have e : rd ts i = ts[i.toNat] := by simp [rd, List.getD_eq_getElem?_getD, hin]
      have e1 : (i + 1).toNat = i.toNat + 1 := by omega
      have hmem : rd ts i ∈ ts := by rw [e]; exact List.getElem_mem _
      obtain ⟨m0, m1⟩ := hts _ hmem
      have hwj : wrap64 (i + 1) = i + 1 := kw64 (by omega) (by omega)
      have hdr : ts.drop i.toNat = rd ts i :: ts.drop (i + 1).toNat := by rw [e1, List.drop_eq_getElem_cons hin, e]
      rw [hdr, List.length_cons, Nat.succ_mul] at hb
      rw [hdr, List.foldl_cons]
      have hws := wordB_size t (rd_T61 l (rd ts i))
      have hstep : (textStep t l bs (rd ts i)).length ≤ bs.length + (t.size + 1) := by
        have := textB_len t l [rd ts i] bs
        simpa using this
      have ih' := ih (textStep t l bs (rd ts i)) (i + 1) (by omega) (by omega) (by omega)
      refine Ev.step (fun k => ?_) ih'
      simp only [monikerref4_Text.l0]
      rw [if_pos c, if_pos h0, if_pos m0, if_pos m1, rword_is]
      simp only [Option.bind_some]
      unfold textStep
      by_cases ew : (wordB t (rd_T61 l (rd ts i))).toList = ([] : List UInt8)
      · rw [if_pos ew, if_pos ew, if_pos (by rw [str_size]; omega), hwj, str_append, str_bytes]
      · rw [if_neg ew, if_neg ew]
        by_cases eb : bs = []
        · rw [if_pos eb, if_pos ((str_toList bs).2 eb), if_pos (by rw [str_size]; omega), hwj, str_append, str_bytes]
        · rw [if_neg eb, if_neg (fun h => eb ((str_toList bs).1 h)), if_pos (by rw [str_size]; omega), ← str_snoc, if_pos (by rw [str_size, List.length_append, List.length_singleton]; omega), hwj, str_append (bs ++ [32]) (bytesOf _), str_bytes]
    · exact hend bs i c

theorem tokR_in (l : List S61) {a b : Int} (ha : 0 ≤ a) (hb : b ≤ (l.length : Int)) : ∀ i ∈ tokR l a b, 0 ≤ i ∧ i < (l.length : Int) := by
  intro i hi
  unfold tokR at hi
  obtain ⟨h1, _⟩ := List.mem_filter.1 hi
  obtain ⟨j, hj, rfl⟩ := List.mem_map.1 h1
  have := List.mem_range.1 hj
  omega

def textSpec (t : ByteArray) (l : List S61) (ns : List S47) (n : Int) : ByteArray :=
  if n < 0 then ⟨#[]⟩ else if n ≥ (ns.length : Int) then ⟨#[]⟩ else strOfNums (textB t l (tokR l (mx (rd_T47 ns n).f1 0) (mn (rd_T47 ns n).f2 (l.length : Int))))

theorem Text_is (t : ByteArray) (l : List S61) (ns : List S47) (hl : (l.length + 1) * (t.size + 1) ≤ 140737488355328) (hl2 : l.length ≤ 8796093022208) (n : Int) : Ev (fun k => tree_Text.f k t l ns n) (textSpec t l ns n) := by
  unfold tree_Text.f textSpec
  by_cases h1 : n < 0
  · simp only [if_pos h1]; exact Ev.now _
  simp only [if_neg h1]
  by_cases h2 : n ≥ (ns.length : Int)
  · simp only [if_pos h2]; exact Ev.now _
  simp only [if_neg h2]
  rw [if_pos ⟨by omega, hl⟩]
  exact Ev.now _

theorem RText_is (t : ByteArray) (l : List S61) (ns : List S47) (hl : (l.length + 1) * (t.size + 1) ≤ 140737488355328) (hl2 : l.length ≤ 8796093022208) (n : Int) : Ev (fun k => monikerref4_Text.f k t l ns n) (textSpec t l ns n) := by
  have hbad : Ev (fun k => monikerref4_Text.j0 k t l n true ns) (⟨#[]⟩ : ByteArray) := Ev.step (fun k => by simp only [monikerref4_Text.j0]; rw [if_pos trivial]) (Ev.now _)
  unfold monikerref4_Text.f textSpec
  by_cases h1 : n < 0
  · simp only [if_pos h1]; exact hbad
  simp only [if_neg h1]
  by_cases h2 : n ≥ (ns.length : Int)
  · simp only [if_pos h2, decide_eq_true h2]; exact hbad
  simp only [if_neg h2, decide_eq_false h2]
  refine Ev.step (fun k => by simp only [monikerref4_Text.j0]; rw [if_neg (by simp), if_pos (by omega), if_pos (by omega)]) ?_
  refine (RTokens_is l hl2 _ _ _ _).bind ?_
  have h0 : 0 ≤ mx (rd_T47 ns n).f1 0 := by unfold mx; split <;> omega
  have h3 : mn (rd_T47 ns n).f2 (l.length : Int) ≤ (l.length : Int) := by unfold mn; split <;> omega
  have ht : (tokR l (mx (rd_T47 ns n).f1 0) (mn (rd_T47 ns n).f2 (l.length : Int))).length ≤ l.length := by
    refine Nat.le_trans (tokR_len l _ _) ?_
    omega
  have hm : (tokR l (mx (rd_T47 ns n).f1 0) (mn (rd_T47 ns n).f2 (l.length : Int))).length * (t.size + 1) ≤ 140737488355328 := Nat.le_trans (Nat.mul_le_mul_right _ (by omega)) hl
  have := text_loop t l (tokR l (mx (rd_T47 ns n).f1 0) (mn (rd_T47 ns n).f2 (l.length : Int))) (tokR_in l h0 h3) (by omega) _ [] 0 (Int.le_refl _) (by rw [Int.sub_zero]; exact Int.le_refl _) (by simpa using hm)
  rw [str_nil] at this
  exact this
end Go.Proofs.Ytodldpdnhcafpaa.Q

namespace Go.Proofs.Ytodldpdnhcafpaa.O
open Go.ChangeShapes Go.WideShapes Go.Deep Go.Proofs.YtodldpdnhcafpaaW.PrintWords

/-- What a value of type t that came in is, as a Lean value of kind d; and what is known of it. -/
def Opens {α : Type} (P : Program) (t : TypeId) (d : Kd α) (B : α → Prop) : Prop :=
  ∀ {H : Type} {enc : TypeId × Value → H} {w : World} {base : Nat} {spare : Nat → Bool} {held : Bool} {fuel : Nat} {cs : List Value} {x : DataW H × List MemPlace},
    DataW.trod enc P w base spare held fuel t cs = some x → (∀ n ∈ x.1.weights P t, n ≤ reachBytes) → ∃ a, d.K w a cs ∧ B a

theorem opens_int {P : Program} {t : TypeId} {k : IntKind} (hu : P.underlying t = some (.int k)) : Opens P t (Kd.int k) (fun n => (Lit.int k n).wf = true) := fun h _ => by
  obtain ⟨n, rfl, rfl, hw⟩ := DataW.trod_int hu h
  exact ⟨n, rfl, hw⟩
theorem mem_weightsAll {H : Type} {P : Program} {e : TypeId} : ∀ {l : List (DataW H)} {y : DataW H}, y ∈ l → ∀ n ∈ y.weights P e, n ∈ DataW.weightsAll P e l
  | y0 :: l, y, h, n, hn => by
    simp only [DataW.weightsAll, List.mem_append]
    rcases List.mem_cons.1 h with rfl | h
    · exact .inl hn
    · exact .inr (mem_weightsAll h n hn)

/-- A slice that came in, its address and capacity told. -/
theorem open_row {α : Type} {P : Program} {t e : TypeId} {d : Kd α} {B : α → Prop} (hu : P.underlying t = some (.slice e)) (he : Opens P e d B) (hc : P.cellsOf e = d.sz)
    {H : Type} {enc : TypeId × Value → H} {w : World} {base : Nat} {spare : Nat → Bool} {held : Bool} {fuel : Nat} {A : Option Addr} {n c : Nat} {x : DataW H × List MemPlace}
    (h : DataW.trod enc P w base spare held fuel t [.slice A n c] = some x) (hw : ∀ n ∈ x.1.weights P t, n ≤ reachBytes) :
    ∃ xs : List α, xs.length = n ∧ d.C w A n xs ∧ n ≤ c ∧ (A = none → c = 0) ∧ (∀ a ∈ xs, B a) ∧ n * P.bytesOf e ≤ 140737488351232 := by
  rcases open_slice hu h with ⟨hcs, rfl⟩ | ⟨a, len, cap, m, fu, D, Pl, hcs, hb, hl, hm, hmm, rfl, hel⟩
  · simp only [List.cons.injEq, Value.slice.injEq, and_true] at hcs
    obtain ⟨rfl, rfl, rfl⟩ := hcs
    exact ⟨[], rfl, ⟨rfl, by omega, fun h0 => absurd h0 (by omega)⟩, by omega, fun _ => rfl, (fun a ha => by cases ha), by omega⟩
  · simp only [List.cons.injEq, Value.slice.injEq, and_true] at hcs
    obtain ⟨rfl, rfl, rfl⟩ := hcs
    have hlm : n ≤ m := by rw [hmm]; split <;> omega
    have hex : ∀ i, i < n → ∃ v : α, (∃ cs, d.K w v cs ∧ ∀ j u, cs[j]? = some u → w.cell? (a.add (i * d.sz + j)) = some u) ∧ B v := by
      intro i hi
      obtain ⟨cs', hc1, hc2⟩ := hel i (by omega)
      have hmem : D i ∈ (List.range n).map D := List.mem_map.2 ⟨i, List.mem_range.2 hi, rfl⟩
      obtain ⟨v, hv, hB⟩ := he hc2 (fun q hq => hw q (by
        simp only [DataW.weights, hu, List.mem_cons, List.mem_append]
        exact .inr (.inl (mem_weightsAll hmem q hq))))
      refine ⟨v, ⟨cs', hv, fun j u hj => ?_⟩, hB⟩
      obtain ⟨_, hcl, hat⟩ := World.cells?_some hc1
      have hjl : j < cs'.length := (List.getElem?_eq_some_iff.1 hj).1
      have := hat j (by omega)
      rw [hc] at this
      rw [← Go.Deep.add_add, this, hj]
    have key : ∀ k, k ≤ n → ∃ xs : List α, xs.length = k ∧ (∀ j p, xs[j]? = some p → (∃ cs, cs.length = d.sz ∧ d.K w p cs ∧ ∀ i u, cs[i]? = some u → w.cell? (a.add (j * d.sz + i)) = some u) ∧ B p) := by
      intro k
      induction k with
      | zero => intro _; exact ⟨[], rfl, fun j p hj => by simp at hj⟩
      | succ k ih =>
        intro hk
        obtain ⟨xs, hx, hxs⟩ := ih (by omega)
        obtain ⟨v, ⟨cs, hv, hcell⟩, hB⟩ := hex k (by omega)
        refine ⟨xs ++ [v], by simp [hx], fun j p hj => ?_⟩
        rcases Nat.lt_or_ge j k with hjk | hjk
        · rw [List.getElem?_append_left (by omega)] at hj
          exact hxs j p hj
        · have hjl := (List.getElem?_eq_some_iff.1 hj).1
          rw [List.length_append, List.length_singleton] at hjl
          obtain rfl : j = k := by omega
          have hp : v = p := by simpa [List.getElem?_append_right, hx] using hj
          subst hp
          exact ⟨⟨cs, d.K_len hv, hv, hcell⟩, hB⟩
    obtain ⟨xs, hx, hxs⟩ := key n (Nat.le_refl _)
    refine ⟨xs, hx, ⟨hx, by have : maxLen = 9223372036854775807 := rfl; omega, fun _ => ⟨a, rfl, fun j p hj => (hxs j p hj).1⟩⟩, hl, (fun h => by cases h), fun v hv => ?_, ?_⟩
    · obtain ⟨j, hj, rfl⟩ := List.mem_iff_getElem.1 hv
      exact (hxs j _ (List.getElem?_eq_getElem hj)).2
    · have := hw ((((List.range n).map D).length + ((List.range (m - n)).map fun j => D (n + j)).length) * P.bytesOf e) (by
        simp only [DataW.weights, hu]
        exact List.mem_cons_self)
      simp only [List.length_map, List.length_range] at this
      have h2 : n * P.bytesOf e ≤ (n + (m - n)) * P.bytesOf e := Nat.mul_le_mul_right _ (by omega)
      have h3 : reachBytes = 140737488351232 := rfl
      omega

end Go.Proofs.Ytodldpdnhcafpaa.O

namespace Go.Proofs.Ytodldpdnhcafpaa.O
open Go.ChangeShapes Go.WideShapes Go.Deep Go.Proofs.YtodldpdnhcafpaaW.PrintWords Go.Proofs.Ytodldpdnhcafpaa
set_option linter.unusedVariables false

section
variable {H : Type} {enc : TypeId × Value → H}
/-- The wrap of a row with a condition of its specification's own, the reach handed on. -/
theorem returns_upto {a : Assume} {C : Checked} {os : Os} {f : FuncId} {fn : Func} {s : OpenSpec} {k : (H : Type) → List (DataW H) → Bool} (hk : s.cond = some k) {F : Stop.Interp} {conds : List PathCond} {apart fresh handsOn again : Bool}
    (own : ownKnob C.prog.godebug = none) (started : os.Started) (noInit : C.prog.inits.idxOf? f = none) (hfn : C.prog.funcs[f]? = some fn)
    (witness : ∃ (w : World) (tape : Tape) (i : Input), w.os = os ∧ (w.forCall tape i).Shaped C.prog ∧ i.vars = [] ∧ Input.okWide C.prog (w.forCall tape i) .any w.heap.size f i ∧
      s.pre6 enc C.prog fn conds apart (w.forCall tape i).memory i.args ∧ a.holds C.prog (lone (Frame.enter C.prog f i.args .normal) [] (w.forCall tape i)))
    (contract : ∀ (W : World) (base : Nat) (args : Array Value) (ds gs : List (DataW H)) (before : List MemPlace),
      (∀ (j : Nat) t v, fn.params[j]? = some t → args[j]? = some v → Value.okWide C.prog W .any base t v) →
      DataW.Whole enc C.prog fn.params.toList s.vars apart W args.toList ds gs before →
      conds.all (PathCond.test C.prog ⟨fn.params.toList, ds, s.bare.plain.varTypes C.prog, gs⟩) = true → k H (ds ++ gs) = true →
      (DataW.weightsEach C.prog (fn.params.toList ++ s.bare.plain.varTypes C.prog) (ds ++ gs)).all (· ≤ reachBytes) = true →
      a.holds C.prog (lone (Frame.enter C.prog f args .normal) [] W) →
      Calls C.prog f args W fun e W' => ∃ v, e = .returned v ∧ (s.at F).post enc C.prog fn apart fresh handsOn again W args v W') :
    ReturnsInHanded a C os f .any (s.pre6 enc C.prog fn conds apart) ((s.at F).post enc C.prog fn apart fresh handsOn again) := by
  refine returnsInHanded_of_calls own started noInit witness ?_
  intro w tape i _ _ _ hok hpre hholds
  obtain ⟨_, _, _, fn', hfn', _, _, _, _, hval⟩ := hok
  have e : fn' = fn := Option.some.inj (hfn'.symm.trans hfn)
  subst e
  obtain ⟨ds, gs, before, hw, hc, hkk⟩ := (OpenSpec.pre_some hk conds apart _ _).1 hpre.1
  have hw' := DataW.Whole.of_heap (w' := w.forCall tape i) (by rfl) hw
  have hz := hpre.2
  refine (contract (w.forCall tape i) w.heap.size i.args ds gs before hval hw' hc hkk (hz.weights hw) hholds).mono fun e W' ⟨v, he, hp⟩ => ?_
  subst he
  exact ChangeSpec.post_blind hp
end

theorem witnessU {H : Type} {enc : TypeId × Value → H} {C : Checked} {os : Os} {f : FuncId} {fn : Func} {s : OpenSpec} {k : (H : Type) → List (DataW H) → Bool} (hk : s.cond = some k) {conds : List PathCond} {apart : Bool} (modest : Bool) (i : Input) (fuel : Nat)
    (hv : (World.plainHolding C.prog os i).variablesB C.prog = true)
    (hr : ((World.plainHolding C.prog os i).heap.toList.drop C.prog.globals.size).take ((begin C.prog (fun _ _ => 0) default).world.heap.size - C.prog.globals.size) =
      (begin C.prog (fun _ _ => 0) default).world.heap.toList.drop C.prog.globals.size)
    (hok : Input.okWideB C.prog (World.plainHolding C.prog os i) f ⟨#[], i.args, []⟩ = true)
    (hB : (match DataW.whole enc C.prog (World.plainHolding C.prog os i).memory fn.params.toList s.vars apart i.args.toList fuel with
      | some x => conds.all (PathCond.test C.prog ⟨fn.params.toList, x.1, s.bare.plain.varTypes C.prog, x.2.1⟩) && k H (x.1 ++ x.2.1)
      | none => false) = true)
    (hsz : s.bare.sizedB enc C.prog fn apart (World.plainHolding C.prog os i).memory i.args fuel = true) :
    ∃ (w : World) (tape : Tape) (i : Input), w.os = os ∧ (w.forCall tape i).Shaped C.prog ∧ i.vars = [] ∧ Input.okWide C.prog (w.forCall tape i) .any w.heap.size f i ∧
      s.pre6 enc C.prog fn conds apart (w.forCall tape i).memory i.args ∧ ({ modest := modest } : Assume).holds C.prog (lone (Frame.enter C.prog f i.args .normal) [] (w.forCall tape i)) := by
  cases hx : DataW.whole enc C.prog (World.plainHolding C.prog os i).memory fn.params.toList s.vars apart i.args.toList fuel with
  | none => rw [hx] at hB; cases hB
  | some x =>
    rw [hx] at hB
    have h := (Bool.and_eq_true _ _).mp hB
    exact OpenSpec.witness hk modest i fuel hv hr hok hx h.1 h.2 hsz

/-- As Opens; and the value is no heavier than the reading's bulk. -/
def OpensU {α : Type} (P : Program) (t : TypeId) (d : Kd α) (B : α → Prop) (m : α → Nat) : Prop :=
  ∀ {H : Type} {enc : TypeId × Value → H} {w : World} {base : Nat} {spare : Nat → Bool} {held : Bool} {fuel : Nat} {cs : List Value} {x : DataW H × List MemPlace},
    DataW.trod enc P w base spare held fuel t cs = some x → (∀ n ∈ x.1.weights P t, n ≤ reachBytes) → ∃ a, d.K w a cs ∧ B a ∧ m a ≤ Rows.uptoBulk x.1

theorem opens_stringU {P : Program} {t : TypeId} (hu : P.underlying t = some .string) : OpensU P t Kd.string (fun s => s.size ≤ 140737488351232) (fun s => s.size + 1) := fun h hw => by
  obtain ⟨s, rfl, rfl, _⟩ := DataW.trod_string hu h
  have e : s.data.toList.length = s.size := by rw [Array.length_toList]; rfl
  refine ⟨s, rfl, ?_, by simp only [Rows.uptoBulk]; omega⟩
  have := hw s.data.toList.length (by simp [DataW.weights])
  rw [e] at this
  exact this

theorem bulkAll_snoc {H : Type} : ∀ (l : List (DataW H)) (d : DataW H), Rows.uptoBulkAll (l ++ [d]) = Rows.uptoBulkAll l + Rows.uptoBulk d
  | [], d => by simp [Rows.uptoBulkAll]
  | x :: l, d => by simp only [List.cons_append, Rows.uptoBulkAll, bulkAll_snoc l d]; omega
def sumM {α : Type} (m : α → Nat) : List α → Nat
  | [] => 0
  | a :: l => m a + sumM m l
theorem sumM_snoc {α : Type} (m : α → Nat) : ∀ (l : List α) (a : α), sumM m (l ++ [a]) = sumM m l + m a
  | [], a => by simp [sumM]
  | x :: l, a => by simp only [List.cons_append, sumM, sumM_snoc m l a]; omega

theorem open_rowU {α : Type} {P : Program} {t e : TypeId} {d : Kd α} {B : α → Prop} {M : α → Nat} (hu : P.underlying t = some (.slice e)) (he : OpensU P e d B M) (hc : P.cellsOf e = d.sz)
    {H : Type} {enc : TypeId × Value → H} {w : World} {base : Nat} {spare : Nat → Bool} {held : Bool} {fuel : Nat} {A : Option Addr} {n c : Nat} {x : DataW H × List MemPlace}
    (h : DataW.trod enc P w base spare held fuel t [.slice A n c] = some x) (hw : ∀ n ∈ x.1.weights P t, n ≤ reachBytes) :
    ∃ xs : List α, xs.length = n ∧ d.C w A n xs ∧ n ≤ c ∧ (A = none → c = 0) ∧ (∀ a ∈ xs, B a) ∧ n * P.bytesOf e ≤ 140737488351232 ∧ sumM M xs + 1 ≤ Rows.uptoBulk x.1 := by
  rcases open_slice hu h with ⟨hcs, rfl⟩ | ⟨a, len, cap, m, fu, D, Pl, hcs, hb, hl, hm, hmm, rfl, hel⟩
  · simp only [List.cons.injEq, Value.slice.injEq, and_true] at hcs
    obtain ⟨rfl, rfl, rfl⟩ := hcs
    exact ⟨[], rfl, ⟨rfl, by omega, fun h0 => absurd h0 (by omega)⟩, by omega, fun _ => rfl, (fun a ha => by cases ha), by omega, by simp [sumM, Rows.uptoBulk]⟩
  · simp only [List.cons.injEq, Value.slice.injEq, and_true] at hcs
    obtain ⟨rfl, rfl, rfl⟩ := hcs
    have hlm : n ≤ m := by rw [hmm]; split <;> omega
    have hex : ∀ i, i < n → ∃ v : α, (∃ cs, d.K w v cs ∧ ∀ j u, cs[j]? = some u → w.cell? (a.add (i * d.sz + j)) = some u) ∧ B v ∧ M v ≤ Rows.uptoBulk (D i) := by
      intro i hi
      obtain ⟨cs', hc1, hc2⟩ := hel i (by omega)
      have hmem : D i ∈ (List.range n).map D := List.mem_map.2 ⟨i, List.mem_range.2 hi, rfl⟩
      obtain ⟨v, hv, hB, hM⟩ := he hc2 (fun q hq => hw q (by
        simp only [DataW.weights, hu, List.mem_cons, List.mem_append]
        exact .inr (.inl (mem_weightsAll hmem q hq))))
      refine ⟨v, ⟨cs', hv, fun j u hj => ?_⟩, hB, hM⟩
      obtain ⟨_, hcl, hat⟩ := World.cells?_some hc1
      have hjl : j < cs'.length := (List.getElem?_eq_some_iff.1 hj).1
      have := hat j (by omega)
      rw [hc] at this
      rw [← Go.Deep.add_add, this, hj]
    have key : ∀ k, k ≤ n → ∃ xs : List α, xs.length = k ∧ (∀ j p, xs[j]? = some p → (∃ cs, cs.length = d.sz ∧ d.K w p cs ∧ ∀ i u, cs[i]? = some u → w.cell? (a.add (j * d.sz + i)) = some u) ∧ B p) ∧ sumM M xs ≤ Rows.uptoBulkAll ((List.range k).map D) := by
      intro k
      induction k with
      | zero => intro _; exact ⟨[], rfl, fun j p hj => by simp at hj, by simp [sumM]⟩
      | succ k ih =>
        intro hk
        obtain ⟨xs, hx, hxs, hsum⟩ := ih (by omega)
        obtain ⟨v, ⟨cs, hv, hcell⟩, hB, hM⟩ := hex k (by omega)
        refine ⟨xs ++ [v], by simp [hx], fun j p hj => ?_, ?_⟩
        · rcases Nat.lt_or_ge j k with hjk | hjk
          · rw [List.getElem?_append_left (by omega)] at hj
            exact hxs j p hj
          · have hjl := (List.getElem?_eq_some_iff.1 hj).1
            rw [List.length_append, List.length_singleton] at hjl
            obtain rfl : j = k := by omega
            have hp : v = p := by simpa [List.getElem?_append_right, hx] using hj
            subst hp
            exact ⟨⟨cs, d.K_len hv, hv, hcell⟩, hB⟩
        · rw [sumM_snoc, List.range_succ, List.map_append, List.map_cons, List.map_nil, bulkAll_snoc]
          omega
    obtain ⟨xs, hx, hxs, hsum⟩ := key n (Nat.le_refl _)
    refine ⟨xs, hx, ⟨hx, by have : maxLen = 9223372036854775807 := rfl; omega, fun _ => ⟨a, rfl, fun j p hj => (hxs j p hj).1⟩⟩, hl, (fun h => by cases h), fun v hv => ?_, ?_, ?_⟩
    · obtain ⟨j, hj, rfl⟩ := List.mem_iff_getElem.1 hv
      exact (hxs j _ (List.getElem?_eq_getElem hj)).2
    · have := hw ((((List.range n).map D).length + ((List.range (m - n)).map fun j => D (n + j)).length) * P.bytesOf e) (by
        simp only [DataW.weights, hu]
        exact List.mem_cons_self)
      simp only [List.length_map, List.length_range] at this
      have h2 : n * P.bytesOf e ≤ (n + (m - n)) * P.bytesOf e := Nat.mul_le_mul_right _ (by omega)
      have h3 : reachBytes = 140737488351232 := rfl
      omega
    · simp only [Rows.uptoBulk]
      omega
end Go.Proofs.Ytodldpdnhcafpaa.O

namespace Go.Proofs.Ytodldpdnhcafpaa.H
open Go.ChangeShapes Go.WideShapes Go.Deep Go.Proofs.YtodldpdnhcafpaaW.PrintWords Go.Proofs.Ytodldpdnhcafpaa.F

theorem cells3 : Try.prog.cellsOf 3 = 1 := by kernel_rfl
theorem cells9 : Try.prog.cellsOf 9 = 1 := by kernel_rfl
theorem cells22 : Try.prog.cellsOf 22 = 1 := by kernel_rfl
theorem cells23 : Try.prog.cellsOf 23 = 1 := by kernel_rfl
theorem cells25 : Try.prog.cellsOf 25 = 1 := by kernel_rfl
theorem cells27 : Try.prog.cellsOf 27 = 3 := by kernel_rfl
theorem cells45 : Try.prog.cellsOf 45 = 1 := by kernel_rfl
theorem cells59 : Try.prog.cellsOf 59 = 1 := by kernel_rfl
theorem bytes61 : Try.prog.bytesOf 61 = 24 := by kernel_rfl
theorem bytes47 : Try.prog.bytesOf 47 = 32 := by kernel_rfl
def B61 (x : S61) : Prop := (Lit.int .u8 x.f0).wf = true ∧ (Lit.int .i64 x.f1).wf = true ∧ (Lit.int .i64 x.f2).wf = true
theorem cells61 : Try.prog.cellsOf 61 = 3 := by kernel_rfl
theorem opens61 : O.Opens Try.prog 61 k61 B61 := by
  intro H enc w base spare held fuel cs x h hw
  obtain ⟨ys, n, rfl, rfl, hlen, hyl, hf⟩ := DataW.trod_struct Try.underlying61 h
  rw [cells61] at hlen
  obtain ⟨c0, c1, c2, rfl⟩ : ∃ c0 c1 c2, cs = [c0, c1, c2] := by
    match cs, hlen with
    | [c0, c1, c2], _ => exact ⟨c0, c1, c2, rfl⟩
  obtain ⟨y0, y1, y2, rfl⟩ : ∃ y0 y1 y2, ys = [y0, y1, y2] := by
    match ys, hyl with
    | [y0, y1, y2], _ => exact ⟨y0, y1, y2, rfl⟩
  have f0 := hf 0 { name := "Kind", type := 59, offset := 0, embedded := false, tag := "", pkgPath := "", byteOffset := 0 } rfl
  have f1 := hf 1 { name := "From", type := 3, offset := 1, embedded := false, tag := "", pkgPath := "", byteOffset := 8 } rfl
  have f2 := hf 2 { name := "To", type := 3, offset := 2, embedded := false, tag := "", pkgPath := "", byteOffset := 16 } rfl
  simp only [cells3, cells59, List.drop_zero, List.drop_succ_cons, List.take_succ_cons, List.take_zero, List.getElem?_cons_zero, List.getElem?_cons_succ] at f0 f1 f2
  have hq : ∀ (j : Nat) (t : TypeId) (d : DataW H), [59, 3, 3][j]? = some t → [y0.1, y1.1, y2.1][j]? = some d → ∀ n ∈ d.weights Try.prog t, n ≤ reachBytes := by
    intro j t d h1 h2 q hq
    refine hw q ?_
    simp only [DataW.weights, Try.underlying61]
    exact DataW.weights_mem_each (j := j) h1 h2 q hq
  obtain ⟨a0, e0, w0⟩ := O.opens_int Try.underlying59 f0 (hq 0 _ _ rfl rfl)
  obtain rfl : c0 = .int .u8 a0 := (List.cons.inj e0).1
  obtain ⟨a1, e1, w1⟩ := O.opens_int Try.underlying3 f1 (hq 1 _ _ rfl rfl)
  obtain rfl : c1 = .int .i64 a1 := (List.cons.inj e1).1
  obtain ⟨a2, e2, w2⟩ := O.opens_int Try.underlying3 f2 (hq 2 _ _ rfl rfl)
  obtain rfl : c2 = .int .i64 a2 := (List.cons.inj e2).1
  exact ⟨⟨a0, a1, a2⟩, k61_mk w _, w0, w1, w2⟩
def B47 (x : S47) : Prop := (Lit.int .u8 x.f0).wf = true ∧ (Lit.int .i64 x.f1).wf = true ∧ (Lit.int .i64 x.f2).wf = true ∧ (Lit.int .i64 x.f3).wf = true
theorem cells47 : Try.prog.cellsOf 47 = 4 := by kernel_rfl
theorem opens47 : O.Opens Try.prog 47 k47 B47 := by
  intro H enc w base spare held fuel cs x h hw
  obtain ⟨ys, n, rfl, rfl, hlen, hyl, hf⟩ := DataW.trod_struct Try.underlying47 h
  rw [cells47] at hlen
  obtain ⟨c0, c1, c2, c3, rfl⟩ : ∃ c0 c1 c2 c3, cs = [c0, c1, c2, c3] := by
    match cs, hlen with
    | [c0, c1, c2, c3], _ => exact ⟨c0, c1, c2, c3, rfl⟩
  obtain ⟨y0, y1, y2, y3, rfl⟩ : ∃ y0 y1 y2 y3, ys = [y0, y1, y2, y3] := by
    match ys, hyl with
    | [y0, y1, y2, y3], _ => exact ⟨y0, y1, y2, y3, rfl⟩
  have f0 := hf 0 { name := "Kind", type := 45, offset := 0, embedded := false, tag := "", pkgPath := "", byteOffset := 0 } rfl
  have f1 := hf 1 { name := "First", type := 3, offset := 1, embedded := false, tag := "", pkgPath := "", byteOffset := 8 } rfl
  have f2 := hf 2 { name := "End", type := 3, offset := 2, embedded := false, tag := "", pkgPath := "", byteOffset := 16 } rfl
  have f3 := hf 3 { name := "Size", type := 3, offset := 3, embedded := false, tag := "", pkgPath := "", byteOffset := 24 } rfl
  simp only [cells3, cells45, List.drop_zero, List.drop_succ_cons, List.take_succ_cons, List.take_zero, List.getElem?_cons_zero, List.getElem?_cons_succ] at f0 f1 f2 f3
  have hq : ∀ (j : Nat) (t : TypeId) (d : DataW H), [45, 3, 3, 3][j]? = some t → [y0.1, y1.1, y2.1, y3.1][j]? = some d → ∀ n ∈ d.weights Try.prog t, n ≤ reachBytes := by
    intro j t d h1 h2 q hq
    refine hw q ?_
    simp only [DataW.weights, Try.underlying47]
    exact DataW.weights_mem_each (j := j) h1 h2 q hq
  obtain ⟨a0, e0, w0⟩ := O.opens_int Try.underlying45 f0 (hq 0 _ _ rfl rfl)
  obtain rfl : c0 = .int .u8 a0 := (List.cons.inj e0).1
  obtain ⟨a1, e1, w1⟩ := O.opens_int Try.underlying3 f1 (hq 1 _ _ rfl rfl)
  obtain rfl : c1 = .int .i64 a1 := (List.cons.inj e1).1
  obtain ⟨a2, e2, w2⟩ := O.opens_int Try.underlying3 f2 (hq 2 _ _ rfl rfl)
  obtain rfl : c2 = .int .i64 a2 := (List.cons.inj e2).1
  obtain ⟨a3, e3, w3⟩ := O.opens_int Try.underlying3 f3 (hq 3 _ _ rfl rfl)
  obtain rfl : c3 = .int .i64 a3 := (List.cons.inj e3).1
  exact ⟨⟨a0, a1, a2, a3⟩, k47_mk w _, w0, w1, w2, w3⟩

theorem slice_cells {P : Program} {t e : TypeId} (hu : P.underlying t = some (.slice e)) {H : Type} {enc : TypeId × Value → H} {w : World} {base : Nat} {spare : Nat → Bool} {held : Bool} {fuel : Nat} {cs : List Value} {x : DataW H × List MemPlace}
    (h : DataW.trod enc P w base spare held fuel t cs = some x) : ∃ A n c, cs = [.slice A n c] := by
  rcases open_slice hu h with ⟨hcs, _⟩ | ⟨a, len, cap, m, fu, D, Pl, hcs, _⟩
  · exact ⟨_, _, _, hcs⟩
  · exact ⟨_, _, _, hcs⟩

end Go.Proofs.Ytodldpdnhcafpaa.H

namespace Go.Proofs.Ytodldpdnhcafpaa.H
open Go.ChangeShapes Go.WideShapes Go.Deep Go.Proofs.YtodldpdnhcafpaaW.PrintWords Go.Proofs.Ytodldpdnhcafpaa.F Go.Proofs.Ytodldpdnhcafpaa
theorem sumM_one {α : Type} : ∀ l : List α, O.sumM (fun _ => 1) l = l.length
  | [] => rfl
  | a :: l => by simp only [O.sumM, sumM_one l, List.length_cons]; omega
theorem opens61U : O.OpensU Try.prog 61 k61 B61 (fun _ => 1) := by
  intro H enc w base spare held fuel cs x h hw
  obtain ⟨a, ha, hb⟩ := opens61 h hw
  refine ⟨a, ha, hb, ?_⟩
  obtain ⟨ys, n, _, rfl, _⟩ := DataW.trod_struct Try.underlying61 h
  simp only [Rows.uptoBulk]
  omega
/-- A Forest that came in; and what the reading weighs at least. -/
theorem open27U {H : Type} {enc : TypeId × Value → H} {W : World} {base b0 : Nat} {r : Reach} {spare : Nat → Bool} {held : Bool} {v : Value} {d : DataW H} {p : List MemPlace} (hv : Value.okWide Try.prog W r b0 27 v) (h : DataW.Trod enc Try.prog W base spare held 27 v d p) (hw : ∀ n ∈ d.weights Try.prog 27, n ≤ reachBytes) :
    ∃ (t : ByteArray) (A1 : Option Addr) (c1 : Nat) (ps : List S61) (A2 : Option Addr) (c2 : Nat) (ns : List S47), v = .agg #[.string t, .slice A1 ps.length c1, .slice A2 ns.length c2] ∧ t.size ≤ 140737488351232 ∧
      Kd.C k61 W A1 ps.length ps ∧ ps.length ≤ c1 ∧ (A1 = none → c1 = 0) ∧ (∀ x ∈ ps, B61 x) ∧ ps.length * 24 ≤ 140737488351232 ∧ Kd.C k47 W A2 ns.length ns ∧ ns.length ≤ c2 ∧ (A2 = none → c2 = 0) ∧ (∀ x ∈ ns, B47 x) ∧ ns.length * 32 ≤ 140737488351232 ∧ t.size + ps.length ≤ Rows.uptoBulk d := by
  obtain ⟨cs, rfl, hsz⟩ := okWide_struct Try.underlying27 hv
  rw [cells27] at hsz
  obtain ⟨l⟩ := cs
  obtain ⟨c0, c1, c2, rfl⟩ : ∃ a b c, l = [a, b, c] := by
    match l, hsz with
    | [a, b, c], _ => exact ⟨a, b, c, rfl⟩
  obtain ⟨fuel, hf⟩ := h
  obtain ⟨ys, n, _, hd, _, hyl, hg⟩ := DataW.trod_struct Try.underlying27 hf
  obtain ⟨y0, y1, y2, rfl⟩ : ∃ a b c, ys = [a, b, c] := by
    match ys, hyl with
    | [a, b, c], _ => exact ⟨a, b, c, rfl⟩
  obtain ⟨rfl, rfl⟩ := Prod.mk.inj hd
  have f0 := hg 0 { name := "Text", type := 9, offset := 0, embedded := false, tag := "", pkgPath := "", byteOffset := 0 } rfl
  have f1 := hg 1 { name := "Pieces", type := 22, offset := 1, embedded := false, tag := "", pkgPath := "", byteOffset := 16 } rfl
  have f2 := hg 2 { name := "Tree", type := 25, offset := 2, embedded := false, tag := "", pkgPath := "", byteOffset := 40 } rfl
  simp only [Value.cells, cells9, cells22, cells25, List.drop_zero, List.drop_succ_cons, List.take_succ_cons, List.take_zero, List.getElem?_cons_zero, List.getElem?_cons_succ] at f0 f1 f2
  have hq : ∀ (j : Nat) (t : TypeId) (d : DataW H), [9, 22, 25][j]? = some t → [y0.1, y1.1, y2.1][j]? = some d → ∀ n ∈ d.weights Try.prog t, n ≤ reachBytes := by
    intro j t d h1 h2 q hq
    refine hw q ?_
    simp only [DataW.weights, Try.underlying27]
    exact DataW.weights_mem_each (j := j) h1 h2 q hq
  obtain ⟨t, e0, ht, mt⟩ := O.opens_stringU Try.underlying9 f0 (hq 0 _ _ rfl rfl)
  obtain rfl : c0 = .string t := (List.cons.inj e0).1
  obtain ⟨A1, n1, k1, e1⟩ := slice_cells Try.underlying22 f1
  obtain rfl : c1 = .slice A1 n1 k1 := (List.cons.inj e1).1
  obtain ⟨ps, rfl, p1, p2, p3, p4, p5, mp⟩ := O.open_rowU Try.underlying22 opens61U cells61 f1 (hq 1 _ _ rfl rfl)
  obtain ⟨zs, n', _, hz, _, hzl, hg2⟩ := DataW.trod_struct Try.underlying25 f2
  obtain ⟨z0, rfl⟩ : ∃ a, zs = [a] := by
    match zs, hzl with
    | [a], _ => exact ⟨a, rfl⟩
  have f3 := hg2 0 { name := "Nodes", type := 23, offset := 0, embedded := false, tag := "", pkgPath := "", byteOffset := 0 } rfl
  simp only [cells23, List.drop_zero, List.take_succ_cons, List.take_zero, List.getElem?_cons_zero] at f3
  obtain ⟨A2, n2, k2, e2⟩ := slice_cells Try.underlying23 f3
  obtain rfl : c2 = .slice A2 n2 k2 := (List.cons.inj e2).1
  have hq3 : ∀ n ∈ z0.1.weights Try.prog 23, n ≤ reachBytes := by
    intro q hq1
    refine hq 2 _ _ rfl rfl q ?_
    rw [hz]
    simp only [List.map_cons, List.map_nil, DataW.weights, Try.underlying25]
    exact DataW.weights_mem_each (j := 0) (ts := [23]) (ds := [z0.1]) rfl rfl q hq1
  obtain ⟨ns, rfl, q1, q2, q3, q4, q5⟩ := O.open_row Try.underlying23 opens47 cells47 f3 hq3
  have hbk : t.size + ps.length ≤ Rows.uptoBulk (DataW.agg [y0.1, y1.1, y2.1]) := by
    rw [sumM_one] at mp
    simp only [Rows.uptoBulk, Rows.uptoBulkAll]
    simp only at mt mp
    generalize Rows.uptoBulk y0.1 = z0 at mt ⊢
    generalize Rows.uptoBulk y1.1 = z1 at mp ⊢
    generalize Rows.uptoBulk y2.1 = z2
    omega
  rw [bytes61] at p5
  rw [bytes47] at q5
  exact ⟨t, A1, k1, ps, A2, k2, ns, rfl, ht, p1, p2, p3, p4, p5, q1, q2, q3, q4, q5, hbk⟩
end Go.Proofs.Ytodldpdnhcafpaa.H

namespace Go.Proofs.Ytodldpdnhcafpaa.H
open Go.RowKit Go.Proofs.YtodldpdnhcafpaaW.PrintWords Go.Proofs.YtodldpdnhcafpaaW.PrintLast Go.Proofs.YtodldpdnhcafpaaW.PrintMore
open Go.Proofs.Ytodldpdnhcafpaa.F
set_option linter.unusedVariables false
set_option linter.unusedSimpArgs false
theorem Reps.app {α : Type} {R : α → List Value → Prop} {size : Nat} {ps qs : List α} {cs ds : List Value} (h : Reps R size ps cs) (k : Reps R size qs ds) : Reps R size (ps ++ qs) (cs ++ ds) := by
  refine ⟨by rw [List.length_append, h.1, k.1, List.length_append, Nat.add_mul], fun j q hq => ?_⟩
  rcases Nat.lt_or_ge j ps.length with hj | hj
  · rw [List.getElem?_append_left hj] at hq
    have h1 : j * size + size ≤ cs.length := by rw [h.1, ← Nat.succ_mul]; exact Nat.mul_le_mul_right _ hj
    have h2 := h.2 j q hq
    rw [List.drop_append_of_le_length (by omega), List.take_append_of_le_length (by rw [List.length_drop]; omega)]
    exact h2
  · rw [List.getElem?_append_right hj] at hq
    have h2 := k.2 _ q hq
    have e : j * size = cs.length + (j - ps.length) * size := by rw [h.1, ← Nat.add_mul]; congr 1; omega
    rw [e, List.drop_append, List.drop_eq_nil_of_le (by omega), List.nil_append, Nat.add_sub_cancel_left]
    exact h2

theorem row_cells61 {w : World} {A : Option Addr} {l : List S61} (hr : Kd.C k61 w A l.length l) :
    ∃ inner, Reps (k61.K w) 3 l inner ∧ (A = none → l.length = 0) ∧ ∀ ad, A = some ad → ∀ j u, inner[j]? = some u → w.cell? (ad.add j) = some u := by
  cases A with
  | none =>
    have h0 : l.length = 0 := by
      rcases Nat.eq_zero_or_pos l.length with h | h
      · exact h
      · obtain ⟨ad, e, _⟩ := hr.2.2 h
        cases e
    obtain rfl := List.eq_nil_of_length_eq_zero h0
    exact ⟨[], Reps.none _ _, fun _ => h0, (fun ad e => by cases e)⟩
  | some ad =>
    obtain ⟨inner, h1, h2⟩ := ReadsRow.inner_ (R := k61.K w) (size := 3) hr
    exact ⟨inner, h1, (fun e => by cases e), fun ad2 e => by cases e; exact h2⟩
theorem row_one61 {w : World} {l : List S61} {inner : List Value} (h : Reps (k61.K w) 3 l inner) : ∀ u ∈ inner, u.oneCell' = true := by
  intro u hu
  obtain ⟨i, hi, rfl⟩ := List.mem_iff_getElem.1 hu
  have hj : i / 3 < l.length := by have := h.1; omega
  have hk := h.2 (i / 3) (l[i / 3]'hj) (List.getElem?_eq_getElem hj)
  refine k61.K_one hk _ ?_
  rw [List.mem_iff_getElem]
  refine ⟨i % 3, by rw [List.length_take, List.length_drop]; have := h.1; omega, ?_⟩
  rw [List.getElem_take, List.getElem_drop]
  congr 1
  omega
def marks61 : List S61 := [⟨0, -5, -6⟩, ⟨77, 0, 0⟩]
def mcells61 : List Value := [.int .u8 0, .int .i64 (-5), .int .i64 (-6), .int .u8 77, .int .i64 0, .int .i64 0]
theorem mcell61 (w2 : World) (j : Nat) (u : Value) (hu : mcells61[j]? = some u) : (w2.alloc (.cells mcells61.toArray 61)).cell? ((⟨w2.heap.size, 0, none⟩ : Addr).add j) = some u := by
  rw [add_plain, World.cell?_alloc_new]; simpa using hu
theorem mcells61_one : ∀ u ∈ mcells61, u.oneCell' = true := by simp [mcells61, Value.oneCell']
theorem reps_marks61 (w : World) : Reps (k61.K w) 3 marks61 mcells61 := by
  refine ⟨rfl, fun j p hj => ?_⟩
  match j, hj with
  | 0, hj => cases hj; exact k61_mk w _
  | 1, hj => cases hj; exact k61_mk w _
  | j + 2, hj => simp [marks61] at hj
theorem C_of_own61 {w w3 : World} {base g c : Nat} {l : List S61} {inner : List Value} (hR : Reps (k61.K w) 3 l inner) (h : w3.ownsRow base 61 3 (.slice (some ⟨g, 0, none⟩) (l.length + 2) c) (l.length + 2) (inner ++ mcells61)) :
    Kd.C k61 w3 (some ⟨g, 0, none⟩) (l.length + 2) (l ++ marks61) := by
  have hk : ∀ (p : S61) cs, k61.K w p cs → k61.K w3 p cs := fun p cs h => by rw [k61_open h]; exact k61_mk w3 p
  obtain ⟨A, c', he, hrow⟩ := own_reads_row (R := k61.K w3) (ps := l ++ marks61) h (Reps.app (Reps.imp_ hR hk) (reps_marks61 w3)) (by simp [marks61])
  injection he with h1 _ _
  subst h1
  exact hrow
theorem C_lent61 {w : World} {A : Option Addr} {l : List S61} (h : Kd.C k61 w A (l.length + 2) (l ++ marks61)) : Kd.C k61 w A l.length l := by
  have h' : Kd.C k61 w A (l ++ marks61).length (l ++ marks61) := by rw [List.length_append]; exact h
  have h2 := Kd.C_take (m := l.length) h' (by simp)
  simpa using h2

theorem row_cells47 {w : World} {A : Option Addr} {l : List S47} (hr : Kd.C k47 w A l.length l) :
    ∃ inner, Reps (k47.K w) 4 l inner ∧ (A = none → l.length = 0) ∧ ∀ ad, A = some ad → ∀ j u, inner[j]? = some u → w.cell? (ad.add j) = some u := by
  cases A with
  | none =>
    have h0 : l.length = 0 := by
      rcases Nat.eq_zero_or_pos l.length with h | h
      · exact h
      · obtain ⟨ad, e, _⟩ := hr.2.2 h
        cases e
    obtain rfl := List.eq_nil_of_length_eq_zero h0
    exact ⟨[], Reps.none _ _, fun _ => h0, (fun ad e => by cases e)⟩
  | some ad =>
    obtain ⟨inner, h1, h2⟩ := ReadsRow.inner_ (R := k47.K w) (size := 4) hr
    exact ⟨inner, h1, (fun e => by cases e), fun ad2 e => by cases e; exact h2⟩
theorem row_one47 {w : World} {l : List S47} {inner : List Value} (h : Reps (k47.K w) 4 l inner) : ∀ u ∈ inner, u.oneCell' = true := by
  intro u hu
  obtain ⟨i, hi, rfl⟩ := List.mem_iff_getElem.1 hu
  have hj : i / 4 < l.length := by have := h.1; omega
  have hk := h.2 (i / 4) (l[i / 4]'hj) (List.getElem?_eq_getElem hj)
  refine k47.K_one hk _ ?_
  rw [List.mem_iff_getElem]
  refine ⟨i % 4, by rw [List.length_take, List.length_drop]; have := h.1; omega, ?_⟩
  rw [List.getElem_take, List.getElem_drop]
  congr 1
  omega
def marks47 : List S47 := [⟨99, -3, 0, -4⟩, ⟨0, 0, 12345, 0⟩]
def mcells47 : List Value := [.int .u8 99, .int .i64 (-3), .int .i64 0, .int .i64 (-4), .int .u8 0, .int .i64 0, .int .i64 12345, .int .i64 0]
theorem mcell47 (w2 : World) (j : Nat) (u : Value) (hu : mcells47[j]? = some u) : (w2.alloc (.cells mcells47.toArray 47)).cell? ((⟨w2.heap.size, 0, none⟩ : Addr).add j) = some u := by
  rw [add_plain, World.cell?_alloc_new]; simpa using hu
theorem mcells47_one : ∀ u ∈ mcells47, u.oneCell' = true := by simp [mcells47, Value.oneCell']
theorem reps_marks47 (w : World) : Reps (k47.K w) 4 marks47 mcells47 := by
  refine ⟨rfl, fun j p hj => ?_⟩
  match j, hj with
  | 0, hj => cases hj; exact k47_mk w _
  | 1, hj => cases hj; exact k47_mk w _
  | j + 2, hj => simp [marks47] at hj
theorem C_of_own47 {w w3 : World} {base g c : Nat} {l : List S47} {inner : List Value} (hR : Reps (k47.K w) 4 l inner) (h : w3.ownsRow base 47 4 (.slice (some ⟨g, 0, none⟩) (l.length + 2) c) (l.length + 2) (inner ++ mcells47)) :
    Kd.C k47 w3 (some ⟨g, 0, none⟩) (l.length + 2) (l ++ marks47) := by
  have hk : ∀ (p : S47) cs, k47.K w p cs → k47.K w3 p cs := fun p cs h => by rw [k47_open h]; exact k47_mk w3 p
  obtain ⟨A, c', he, hrow⟩ := own_reads_row (R := k47.K w3) (ps := l ++ marks47) h (Reps.app (Reps.imp_ hR hk) (reps_marks47 w3)) (by simp [marks47])
  injection he with h1 _ _
  subst h1
  exact hrow
theorem C_lent47 {w : World} {A : Option Addr} {l : List S47} (h : Kd.C k47 w A (l.length + 2) (l ++ marks47)) : Kd.C k47 w A l.length l := by
  have h' : Kd.C k47 w A (l ++ marks47).length (l ++ marks47) := by rw [List.length_append]; exact h
  have h2 := Kd.C_take (m := l.length) h' (by simp)
  simpa using h2

theorem own_set1 {w : World} {base n : Nat} {e : TypeId} {size : Nat} {v : Value} {xs : List Value} {g : Nat} (h : w.ownsRow base e size v n xs) (hne : v.ownBlock ≠ some g) (j : Nat) (u : Value) : (w.setCell ⟨g, j, none⟩ u).ownsRow base e size v n xs :=
  own_move h (fun k hk => Below.heap_setCell w ⟨g, j, none⟩ u k (by rintro rfl; exact hne hk))
theorem own_set3 {w : World} {base n : Nat} {e : TypeId} {size : Nat} {v : Value} {xs : List Value} {g : Nat} (h : w.ownsRow base e size v n xs) (hne : v.ownBlock ≠ some g) (i j k : Nat) (u u' u'' : Value) : (((w.setCell ⟨g, i, none⟩ u).setCell ⟨g, j, none⟩ u').setCell ⟨g, k, none⟩ u'').ownsRow base e size v n xs :=
  own_set1 (own_set1 (own_set1 h hne i u) hne j u') hne k u''
section
variable {P : Program} {ops : Array Oper} {rest : List Oper} {o : Oper} {a : Act} {Q : Exit → Act → World → Prop}
/-- make([]T, 0, n), the block a letter. -/
theorem make_g {W : World} (hg : o.guard = none) (l c : Operand) (t : TypeId) (hop : o.op = Op.makeSlice t l c) (base : Nat) (e : TypeId) (i : TypeInfo) (z : Value) (size : Nat) (h1 : P.underlying t = some (.slice e)) (h2 : P.info? e = some i) (h3 : i.zero = some z) (h4 : i.size = size)
    (kl kc : IntKind) (C : Int) (n : Nat) (hl : a.eval l = .int kl 0) (hc : a.eval c = .int kc C) (hC : C = (n : Int)) (b2 : i.bytes * n ≤ 281474976710656) (b3 : n ≤ maxLen) (b4 : base ≤ W.heap.size)
    (hK : ∀ g w', W.heap.size ≤ g → w'.ownsRow base e size (.slice (some ⟨g, 0, none⟩) 0 n) 0 [] → W.grownBy w' none → wpList P ops Q rest (a.put o.dst (.slice (some ⟨g, 0, none⟩) 0 n)) w') :
    wpList P ops Q (o :: rest) a W :=
  wpList_make_own W hg l c t hop base e i z size h1 h2 h3 h4 kl kc C n hl hc hC b2 b3 b4 (hK _ · (Nat.le_refl _))
end
 
def LentPost (t : ByteArray) (ps : List S61) (ns : List S47) (w : World) (e : Ending) (w' : World) : Prop :=
  ∃ A B, e = .returned (.agg #[.string t, .slice A ps.length (ps.length + 2), .slice B ns.length (ns.length + 2)]) ∧ Kd.C k61 w' A (ps.length + 2) (ps ++ marks61) ∧ Kd.C k47 w' B (ns.length + 2) (ns ++ marks47) ∧ Below w.heap.size w w'

set_option maxHeartbeats 2000000 in
theorem lent_calls (t : ByteArray) (A1 : Option Addr) (c1 : Nat) (ps : List S61) (A2 : Option Addr) (c2 : Nat) (ns : List S47) (w : World)
    (hr1 : Kd.C k61 w A1 ps.length ps) (hc1 : ps.length ≤ c1) (hn1 : A1 = none → c1 = 0) (hb1 : ps.length * 24 ≤ 140737488351232)
    (hr2 : Kd.C k47 w A2 ns.length ns) (hc2 : ns.length ≤ c2) (hn2 : A2 = none → c2 = 0) (hb2 : ns.length * 32 ≤ 140737488351232) :
    Calls Try.prog 18 #[.agg #[.string t, .slice A1 ps.length c1, .slice A2 ns.length c2]] w (LentPost t ps ns w) := by
  have hu61 := Try.underlying61
  have hu47 := Try.underlying47
  have hu27 := Try.underlying27
  have hu25 := Try.underlying25
  obtain ⟨i, hi, hz0, hz1, hz2⟩ := info_parts info61
  obtain ⟨i', hi', hz0', hz1', hz2'⟩ := info_parts info47
  obtain ⟨inner, hR, hA, hcell⟩ := row_cells61 hr1
  obtain ⟨inner', hR', hA', hcell'⟩ := row_cells47 hr2
  have HR := Aside0.mk hR
  have hlen : inner.length = ps.length * 3 := hR.1
  have HL := Aside0.mk hlen
  have HC := Aside0.mk hcell
  have HN := Aside0.mk hn1
  have HA := Aside0.mk hA
  have HY := Aside0.mk hz2
  have HI := Aside0.mk hi
  have HZ0 := Aside0.mk hz0
  have HZ1 := Aside0.mk hz1
  have HR' := Aside0.mk hR'
  have hlen' : inner'.length = ns.length * 4 := hR'.1
  have HL' := Aside0.mk hlen'
  have HC' := Aside0.mk hcell'
  have HN' := Aside0.mk hn2
  have HA' := Aside0.mk hA'
  have HY' := Aside0.mk hz2'
  have HI' := Aside0.mk hi'
  have HZ0' := Aside0.mk hz0'
  have HZ1' := Aside0.mk hz1'
  clear hR hcell hr1 hn1 hA hlen hz2 hi hz0 hz1 hR' hcell' hr2 hn2 hA' hlen' hz2' hi' hz0' hz1'
  have hl : ps.length ≤ 5864062014634 := by omega
  have hl' : ns.length ≤ 4398046510976 := by omega
  go_enter Try.func18, Try.ntmps18
  go_wp2_with (first
    | ((with_reducible refine gate_dst (N := 1) rfl ?_); refine box_event ?hg (N := 1) ?hd (cs := #[.string t, .slice A1 ps.length c1, .slice A2 ns.length c2]) (t := 27) ?hr ?_; (case hd => rfl); (case hg => rfl); (case hr => first | (go_simp; done) | (go_simp; rfl)); intro gb1 hge w1 hbox hb; have BK1 := Aside0.mk hbox; have HB := Aside0.mk hb; clear hbox hge hb; have hx0 : w1.cell? ⟨gb1, 0, none⟩ = some (.string t) := (blk_cell BK1.out 0).trans rfl; have hx1 : w1.cell? ⟨gb1, 1, none⟩ = some (.slice A1 ps.length c1) := (blk_cell BK1.out 1).trans rfl; have hx2 : w1.cell? ⟨gb1, 2, none⟩ = some (.slice A2 ns.length c2) := (blk_cell BK1.out 2).trans rfl)
    | ((with_reducible refine gate_dst (N := 2) rfl ?_); refine box_event ?hg (N := 2) ?hd (cs := #[.string ⟨#[]⟩, .slice none 0 0, .slice none 0 0]) (t := 27) ?hr ?_; (case hd => rfl); (case hg => rfl); (case hr => first | (go_simp; done) | (go_simp; rfl)); intro gb2 hge w2 hbox hb; have BK2 := Aside0.mk hbox; have GE2 := Aside0.mk (show w.heap.size ≤ gb2 by rw [hge]; exact HB.out.size); clear hx0 hx1 hx2; have n0_ := Aside0.mk (blk_below BK1.out hb); have n1_ := Aside0.mk (below_step HB.out hb); clear BK1; clear HB; have BK1 := n0_; have HB := n1_; clear n0_ n1_; clear hbox hge hb; have hx0 : w2.cell? ⟨gb1, 0, none⟩ = some (.string t) := (blk_cell BK1.out 0).trans rfl; have hx1 : w2.cell? ⟨gb1, 1, none⟩ = some (.slice A1 ps.length c1) := (blk_cell BK1.out 1).trans rfl; have hx2 : w2.cell? ⟨gb1, 2, none⟩ = some (.slice A2 ns.length c2) := (blk_cell BK1.out 2).trans rfl)
    | ((with_reducible refine gate_dst (N := 9) rfl ?_); refine make_g rfl _ _ 22 rfl w.heap.size 61 i _ 3 Try.underlying22 HI.out HZ0.out HZ1.out _ _ _ (ps.length + 2) rfl rfl (by first | rfl | (simp; done) | omega) (by rw [HY.out]; omega) (by unfold maxLen; omega) HB.out.size ?_; intro ga w3 hge hown hg; have HOa := Aside0.mk hown; have NE1ga := Aside0.mk (Nat.ne_of_lt (Nat.lt_of_lt_of_le (blk_lt BK1.out) hge)); have NE2ga := Aside0.mk (Nat.ne_of_lt (Nat.lt_of_lt_of_le (blk_lt BK2.out) hge)); have GEga := Aside0.mk (Nat.le_trans HB.out.size hge); clear hx0 hx1 hx2; have n0_ := Aside0.mk (blk_grown BK1.out hg (by simp)); have n1_ := Aside0.mk (blk_grown BK2.out hg (by simp)); have n2_ := Aside0.mk (HB.out.grown hg HB.out.size (by simp)); clear BK1; clear BK2; clear HB; have BK1 := n0_; have BK2 := n1_; have HB := n2_; clear n0_ n1_ n2_; clear hown hg hge; have hx0 : w3.cell? ⟨gb1, 0, none⟩ = some (.string t) := (blk_cell BK1.out 0).trans rfl; have hx1 : w3.cell? ⟨gb1, 1, none⟩ = some (.slice A1 ps.length c1) := (blk_cell BK1.out 1).trans rfl; have hx2 : w3.cell? ⟨gb1, 2, none⟩ = some (.slice A2 ns.length c2) := (blk_cell BK1.out 2).trans rfl)
    | ((with_reducible refine gate_dst (N := 13) rfl ?_); refine wpList_append_fits_any _ rfl _ _ 22 rfl w.heap.size 61 i 3 Try.underlying22 HI.out HZ1.out ga 0 (ps.length + 2) [] rfl HOa.out A1 ps.length c1 inner rfl HL.out (fun e => ⟨HA.out e, HN.out e⟩) (fun ad e j u hu => pw_cell_below HB.out (HC.out ad e j u hu)) (row_one61 HR.out) (by omega) ?_; intro w4 hown hg; simp only [Nat.zero_add, List.nil_append] at hown; clear HOa; have HOa := Aside0.mk hown; clear hx0 hx1 hx2; have n0_ := Aside0.mk (blk_grown BK1.out hg (by simpa using NE1ga.out)); have n1_ := Aside0.mk (blk_grown BK2.out hg (by simpa using NE2ga.out)); have n2_ := Aside0.mk (HB.out.grown hg HB.out.size (by rintro k ⟨⟩; exact GEga.out)); clear BK1; clear BK2; clear HB; have BK1 := n0_; have BK2 := n1_; have HB := n2_; clear n0_ n1_ n2_; clear hown hg; have hx0 : w4.cell? ⟨gb1, 0, none⟩ = some (.string t) := (blk_cell BK1.out 0).trans rfl; have hx1 : w4.cell? ⟨gb1, 1, none⟩ = some (.slice A1 ps.length c1) := (blk_cell BK1.out 1).trans rfl; have hx2 : w4.cell? ⟨gb1, 2, none⟩ = some (.slice A2 ns.length c2) := (blk_cell BK1.out 2).trans rfl; rw [Nat.zero_add])
    | ((with_reducible refine gate_dst (N := 18) rfl ?_); refine wpList_append_fits _ rfl _ _ 22 rfl w.heap.size 61 i 3 Try.underlying22 HI.out HZ1.out ga ps.length (ps.length + 2) inner rfl (HOa.out.alloc _) ⟨w4.heap.size, 0, none⟩ 2 2 mcells61 rfl rfl (fun j u hu => mcell61 w4 j u hu) mcells61_one (by omega) ?_; intro w5 hown hg; clear HOa; have HOa := Aside0.mk hown; clear hx0 hx1 hx2; have n0_ := Aside0.mk (blk_grown (blk_alloc BK1.out (.cells mcells61.toArray 61)) hg (by simpa using NE1ga.out)); have n1_ := Aside0.mk (blk_grown (blk_alloc BK2.out (.cells mcells61.toArray 61)) hg (by simpa using NE2ga.out)); have n2_ := Aside0.mk ((below_alloc HB.out (.cells mcells61.toArray 61)).grown hg (below_alloc HB.out (.cells mcells61.toArray 61)).size (by rintro k ⟨⟩; exact GEga.out)); clear BK1; clear BK2; clear HB; have BK1 := n0_; have BK2 := n1_; have HB := n2_; clear n0_ n1_ n2_; clear hown hg; have hx0 : w5.cell? ⟨gb1, 0, none⟩ = some (.string t) := (blk_cell BK1.out 0).trans rfl; have hx1 : w5.cell? ⟨gb1, 1, none⟩ = some (.slice A1 ps.length c1) := (blk_cell BK1.out 1).trans rfl; have hx2 : w5.cell? ⟨gb1, 2, none⟩ = some (.slice A2 ns.length c2) := (blk_cell BK1.out 2).trans rfl)
    | ((with_reducible refine gate_dst (N := 24) rfl ?_); refine make_g rfl _ _ 23 rfl w.heap.size 47 i' _ 4 Try.underlying23 HI'.out HZ0'.out HZ1'.out _ _ _ (ns.length + 2) rfl rfl (by first | rfl | (simp; done) | omega) (by rw [HY'.out]; omega) (by unfold maxLen; omega) HB.out.size ?_; intro gc w6 hge hown hg; have HOb := Aside0.mk hown; have NE1gc := Aside0.mk (Nat.ne_of_lt (Nat.lt_of_lt_of_le (blk_lt BK1.out) hge)); have NE2gc := Aside0.mk (Nat.ne_of_lt (Nat.lt_of_lt_of_le (blk_lt BK2.out) hge)); have GEgc := Aside0.mk (Nat.le_trans HB.out.size hge); have NEa := Aside0.mk (Nat.ne_of_lt (Nat.lt_of_lt_of_le (own_lt HOa.out ga rfl) hge)); clear hx0 hx1 hx2; have n0_ := Aside0.mk (blk_grown BK1.out hg (by simp)); have n1_ := Aside0.mk (blk_grown BK2.out hg (by simp)); have n2_ := Aside0.mk (HB.out.grown hg HB.out.size (by simp)); have n3_ := Aside0.mk (HOa.out.kept hg (.inr (by simp [Value.ownBlock]))); clear BK1; clear BK2; clear HB; clear HOa; have BK1 := n0_; have BK2 := n1_; have HB := n2_; have HOa := n3_; clear n0_ n1_ n2_ n3_; clear hown hg hge; have hx0 : w6.cell? ⟨gb1, 0, none⟩ = some (.string t) := (blk_cell BK1.out 0).trans rfl; have hx1 : w6.cell? ⟨gb1, 1, none⟩ = some (.slice A1 ps.length c1) := (blk_cell BK1.out 1).trans rfl; have hx2 : w6.cell? ⟨gb1, 2, none⟩ = some (.slice A2 ns.length c2) := (blk_cell BK1.out 2).trans rfl)
    | ((with_reducible refine gate_dst (N := 29) rfl ?_); refine wpList_append_fits_any _ rfl _ _ 23 rfl w.heap.size 47 i' 4 Try.underlying23 HI'.out HZ1'.out gc 0 (ns.length + 2) [] rfl HOb.out A2 ns.length c2 inner' rfl HL'.out (fun e => ⟨HA'.out e, HN'.out e⟩) (fun ad e j u hu => pw_cell_below HB.out (HC'.out ad e j u hu)) (row_one47 HR'.out) (by omega) ?_; intro w7 hown hg; simp only [Nat.zero_add, List.nil_append] at hown; clear HOb; have HOb := Aside0.mk hown; clear hx0 hx1 hx2; have n0_ := Aside0.mk (blk_grown BK1.out hg (by simpa using NE1gc.out)); have n1_ := Aside0.mk (blk_grown BK2.out hg (by simpa using NE2gc.out)); have n2_ := Aside0.mk (HB.out.grown hg HB.out.size (by rintro k ⟨⟩; exact GEgc.out)); have n3_ := Aside0.mk (HOa.out.kept hg (.inr (by simpa [Value.ownBlock] using NEa.out))); clear BK1; clear BK2; clear HB; clear HOa; have BK1 := n0_; have BK2 := n1_; have HB := n2_; have HOa := n3_; clear n0_ n1_ n2_ n3_; clear hown hg; have hx0 : w7.cell? ⟨gb1, 0, none⟩ = some (.string t) := (blk_cell BK1.out 0).trans rfl; have hx1 : w7.cell? ⟨gb1, 1, none⟩ = some (.slice A1 ps.length c1) := (blk_cell BK1.out 1).trans rfl; have hx2 : w7.cell? ⟨gb1, 2, none⟩ = some (.slice A2 ns.length c2) := (blk_cell BK1.out 2).trans rfl; rw [Nat.zero_add])
    | ((with_reducible refine gate_dst (N := 34) rfl ?_); refine wpList_append_fits _ rfl _ _ 23 rfl w.heap.size 47 i' 4 Try.underlying23 HI'.out HZ1'.out gc ns.length (ns.length + 2) inner' rfl (HOb.out.alloc _) ⟨w7.heap.size, 0, none⟩ 2 2 mcells47 rfl rfl (fun j u hu => mcell47 w7 j u hu) mcells47_one (by omega) ?_; intro w8 hown hg; clear HOb; have HOb := Aside0.mk hown; clear hx0 hx1 hx2; have n0_ := Aside0.mk (blk_grown (blk_alloc BK1.out (.cells mcells47.toArray 47)) hg (by simpa using NE1gc.out)); have n1_ := Aside0.mk (blk_grown (blk_alloc BK2.out (.cells mcells47.toArray 47)) hg (by simpa using NE2gc.out)); have n2_ := Aside0.mk ((below_alloc HB.out (.cells mcells47.toArray 47)).grown hg (below_alloc HB.out (.cells mcells47.toArray 47)).size (by rintro k ⟨⟩; exact GEgc.out)); have n3_ := Aside0.mk ((HOa.out.alloc (.cells mcells47.toArray 47)).kept hg (.inr (by simpa [Value.ownBlock] using NEa.out))); clear BK1; clear BK2; clear HB; clear HOa; have BK1 := n0_; have BK2 := n1_; have HB := n2_; have HOa := n3_; clear n0_ n1_ n2_ n3_; clear hown hg; have hx0 : w8.cell? ⟨gb1, 0, none⟩ = some (.string t) := (blk_cell BK1.out 0).trans rfl; have hx1 : w8.cell? ⟨gb1, 1, none⟩ = some (.slice A1 ps.length c1) := (blk_cell BK1.out 1).trans rfl; have hx2 : w8.cell? ⟨gb1, 2, none⟩ = some (.slice A2 ns.length c2) := (blk_cell BK1.out 2).trans rfl; have hy0 : w8.cell? ⟨gb2, 0, none⟩ = some (.string ⟨#[]⟩) := (blk_cell BK2.out 0).trans rfl; have hz0 := blk_frozen BK2.out 0; have hy1 : w8.cell? ⟨gb2, 1, none⟩ = some (.slice none 0 0) := (blk_cell BK2.out 1).trans rfl; have hz1 := blk_frozen BK2.out 1; have hy2 : w8.cell? ⟨gb2, 2, none⟩ = some (.slice none 0 0) := (blk_cell BK2.out 2).trans rfl; have hz2 := blk_frozen BK2.out 2))
  go_region
  go_wp2
  have hfin : ((((w8.setCell ⟨gb2, 0, none⟩ (.string t)).setCell ⟨gb2, 1, none⟩ (.slice (some ⟨ga, 0, none⟩) ps.length (ps.length + 2))).setCell ⟨gb2, 2, none⟩ (.slice (some ⟨gc, 0, none⟩) ns.length (ns.length + 2))).drew).heap[gb2]? = some (.cells #[.string t, .slice (some ⟨ga, 0, none⟩) ps.length (ps.length + 2), .slice (some ⟨gc, 0, none⟩) ns.length (ns.length + 2)] 27 (0, 0)) := by
    refine blk_drew ?_
    refine blk_put (cs := #[.string t, .slice (some ⟨ga, 0, none⟩) ps.length (ps.length + 2), .slice none 0 0]) ?_ 2 _ rfl
    refine blk_put (cs := #[.string t, .slice none 0 0, .slice none 0 0]) ?_ 1 _ rfl
    refine blk_put (cs := #[.string ⟨#[]⟩, .slice none 0 0, .slice none 0 0]) ?_ 0 _ rfl
    exact BK2.out
  refine bodyPost_ret (results_cell_row rfl _ _ gb2 27 #[.string t, .slice (some ⟨ga, 0, none⟩) ps.length (ps.length + 2), .slice (some ⟨gc, 0, none⟩) ns.length (ns.length + 2)] (0, 0) _ rfl hfin Try.underlying27 rfl (by kernel_rfl)) rfl ?_
  have hb8 : Below w.heap.size w ((((w8.setCell ⟨gb2, 0, none⟩ (.string t)).setCell ⟨gb2, 1, none⟩ (.slice (some ⟨ga, 0, none⟩) ps.length (ps.length + 2))).setCell ⟨gb2, 2, none⟩ (.slice (some ⟨gc, 0, none⟩) ns.length (ns.length + 2))).drew) := by
    refine below_drew ?_
    refine below_set ?_ GE2.out
    refine below_set ?_ GE2.out
    refine below_set ?_ GE2.out
    exact HB.out
  have na : (some gb2 : Option Nat) ≠ some ga := by simpa using NE2ga.out
  have nc : (some gb2 : Option Nat) ≠ some gc := by simpa using NE2gc.out
  have ra := (own_set3 HOa.out (by simpa [Value.ownBlock] using Ne.symm na) 0 1 2 (.string t) (.slice (some ⟨ga, 0, none⟩) ps.length (ps.length + 2)) (.slice (some ⟨gc, 0, none⟩) ns.length (ns.length + 2))).drew
  have rc := (own_set3 HOb.out (by simpa [Value.ownBlock] using Ne.symm nc) 0 1 2 (.string t) (.slice (some ⟨ga, 0, none⟩) ps.length (ps.length + 2)) (.slice (some ⟨gc, 0, none⟩) ns.length (ns.length + 2))).drew
  exact ⟨_, _, rfl, C_of_own61 HR.out ra, C_of_own47 HR'.out rc, hb8⟩
end Go.Proofs.Ytodldpdnhcafpaa.H

-- A text of this session's own program (wip/myprint.sh over a changed print tool): functions and their walks
namespace Go.Proofs.Ytodldpdnhcafpaa.F
open Go.RowKit Go.Proofs.YtodldpdnhcafpaaW.PrintWords Go.Proofs.YtodldpdnhcafpaaW.PrintLast Go.Proofs.YtodldpdnhcafpaaW.PrintMore
attribute [local go_sem] max2_int min2_int max_two min_two max_three min_three max_four min_four   -- for this text's walks alone
set_option linter.unusedVariables false
set_option linter.unusedSimpArgs false

theorem eqA61 (d : Nat) (w : World) (x0 y0 : Int) (x1 y1 : Int) (x2 y2 : Int) :
    (Op.equalIn (d + 2) 61 (.agg #[.int .u8 x0, .int .i64 x1, .int .i64 x2]) (.agg #[.int .u8 y0, .int .i64 y1, .int .i64 y2])).run Try.prog w = .ok (x0 == y0 && (x1 == y1 && (x2 == y2))) w := by
  refine eqA_of Try.underlying61 (by kernel_rfl) ?_
  refine eqf_cons (by rfl) (by go_simp; rfl) (by go_simp; rfl) (by go_simp) ?_
  refine eqf_cons (by rfl) (by go_simp; rfl) (by go_simp; rfl) (by go_simp) ?_
  exact eqf_last (by rfl) (by go_simp; rfl) (by go_simp; rfl) (by go_simp)
end Go.Proofs.Ytodldpdnhcafpaa.F

-- A text of this session's own program (wip/myprint.sh over a changed print tool): functions and their walks
namespace Go.Proofs.Ytodldpdnhcafpaa.F
open Go.RowKit Go.Proofs.YtodldpdnhcafpaaW.PrintWords Go.Proofs.YtodldpdnhcafpaaW.PrintLast Go.Proofs.YtodldpdnhcafpaaW.PrintMore
attribute [local go_sem] max2_int min2_int max_two min_two max_three min_three max_four min_four   -- for this text's walks alone
set_option linter.unusedVariables false
set_option linter.unusedSimpArgs false

attribute [local go_sem high] eqA61
/-! ### monikerplain_SameTokens: function 46 -/
def monikerplain_SameTokens.l0 : Nat → List (S61) → List (S61) → Int → Int → Option (Bool)
  | 0, _, _, _, _ => none
  | k + 1, x0, x1, x12, x13 => if x13 < x12 then (if 0 ≤ x13 then (if x13 < (x0.length : Int) then (if x13 < (x1.length : Int) then (if (!(((rd_T61 x0 x13).f0) == ((rd_T61 x1 x13).f0)) || (!(((rd_T61 x0 x13).f1) == ((rd_T61 x1 x13).f1)) || (!(((rd_T61 x0 x13).f2) == ((rd_T61 x1 x13).f2))))) = true then (some false) else (monikerplain_SameTokens.l0 k x0 x1 x12 (wrap64 (x13 + 1)))) else (none)) else (none)) else (none)) else (some true)
def monikerplain_SameTokens.f (k : Nat) (l0 : List (S61)) (l1 : List (S61)) : Option (Bool) := if (l0.length : Int) = (l1.length : Int) then (monikerplain_SameTokens.l0 k l0 l1 (l0.length : Int) 0) else (some false)
set_option maxHeartbeats 8000000 in
set_option maxRecDepth 100000 in
theorem monikerplain_SameTokens.calls (k : Nat) (A0 : Option Addr) (c0 : Nat) (l0 : List (S61)) (A1 : Option Addr) (c1 : Nat) (l1 : List (S61)) (r : Bool) (w : World) (hr0 : Kd.C k61 w A0 l0.length l0) (hc0 : l0.length ≤ c0) (hr1 : Kd.C k61 w A1 l1.length l1) (hc1 : l1.length ≤ c1) (h : monikerplain_SameTokens.f k l0 l1 = some r) :
    Calls Try.prog 46 #[.slice A0 l0.length c0, .slice A1 l1.length c1] w fun e w' => e = .returned (.bool r) ∧ Drawn0 w w' := by
  have hu61 := Try.underlying61
  have HR0 := Aside0.mk hr0
  have HC0 := Aside0.mk hc0
  clear hr0 hc0
  have HR1 := Aside0.mk hr1
  have HC1 := Aside0.mk hc1
  clear hr1 hc1
  have H : (if (l0.length : Int) = (l1.length : Int) then (monikerplain_SameTokens.l0 k l0 l1 (l0.length : Int) 0) else (some false)) = some r := h
  clear h
  by_cases c3 : (l0.length : Int) = (l1.length : Int)
  · rw [if_pos c3] at H
    have c3b0 : ((l0.length : Int) == (l1.length : Int)) = true := beq_iff_eq.mpr c3
    have c3b1 : ((l0.length : Int) != (l1.length : Int)) = false := bne_eq_false_iff_eq.mpr c3
    have c3b2 : (l0.length == l1.length) = true := by first | simpa using c3 | (simp at c3 ⊢; omega)
    clear c3
    have H' := Aside0.mk H
    clear H
    go_enter Try.func46, Try.ntmps46
    go_wp2
    repeat (go_quiet (fail); try go_wp2)
    go_loopg [13] k (fun kq v13 w' => ∃ (x13_1 : Int), v13 = .int .i64 x13_1 ∧ Aside0 (monikerplain_SameTokens.l0 kq l0 l1 (l0.length : Int) x13_1 = some r) ∧ Aside0 (kq ≤ k) ∧ Drawn0 w w')
    case atStart => exact ⟨(0), (by first | rfl | (simp; done) | (simp [*]; done)), H', ⟨Nat.le_refl _⟩, by repeat (first | exact Drawn0.refl _ | apply Drawn0.step)⟩
    case round =>
      clear H'
      try clear c1
      try clear p2
      try clear c3
      try clear c3b0
      try clear c3b1
      try clear c3b2
      obtain ⟨x13_1, rfl, HA, HK1, ⟨m1, rfl⟩⟩ := hrel
      cases gk with
      | zero => exact absurd HA.out (by simp [monikerplain_SameTokens.l0])
      | succ k1 =>
        have H := HA.out
        clear HA
        simp only [monikerplain_SameTokens.l0] at H
        by_cases c4 : x13_1 < (l0.length : Int)
        · rw [if_pos c4] at H
          have c4b0 : decide (x13_1 < (l0.length : Int)) = true := decide_eq_true c4
          clear c4
          by_cases c5 : 0 ≤ x13_1
          · rw [if_pos c5] at H
            have c5b0 : decide (0 ≤ x13_1) = true := decide_eq_true c5
            clear c5
            by_cases c6 : x13_1 < (l0.length : Int)
            · rw [if_pos c6] at H
              have c6b0 : decide (x13_1 < (l0.length : Int)) = true := decide_eq_true c6
              clear c6
              by_cases c7 : x13_1 < (l1.length : Int)
              · rw [if_pos c7] at H
                have c7b0 : decide (x13_1 < (l1.length : Int)) = true := decide_eq_true c7
                clear c7
                by_cases c8 : (!(((rd_T61 l0 x13_1).f0) == ((rd_T61 l1 x13_1).f0)) || (!(((rd_T61 l0 x13_1).f1) == ((rd_T61 l1 x13_1).f1)) || (!(((rd_T61 l0 x13_1).f2) == ((rd_T61 l1 x13_1).f2))))) = true
                · rw [if_pos c8] at H
                  have c8b0 : (!(((rd_T61 l0 x13_1).f0) == ((rd_T61 l1 x13_1).f0)) || (!(((rd_T61 l0 x13_1).f1) == ((rd_T61 l1 x13_1).f1)) || (!(((rd_T61 l0 x13_1).f2) == ((rd_T61 l1 x13_1).f2))))) = true := c8
                  clear c8
                  obtain rfl := Option.some.inj H
                  have p145 : 0 ≤ (x13_1 : Int) := of_decide_eq_true (by first | (with_reducible assumption) | assumption)
                  have q145 : x13_1 < (l0.length : Int) := of_decide_eq_true (by first | (with_reducible assumption) | assumption)
                  obtain ⟨ad145, e145, hx145_0, hx145_1, hx145_2⟩ := at_T61 HR0.out x13_1 p145 q145
                  cases e145
                  replace p145 := eq_true p145
                  replace q145 := eq_true q145
                  have p146 : 0 ≤ (x13_1 : Int) := of_decide_eq_true (by first | (with_reducible assumption) | assumption)
                  have q146 : x13_1 < (l1.length : Int) := of_decide_eq_true (by first | (with_reducible assumption) | assumption)
                  obtain ⟨ad146, e146, hx146_0, hx146_1, hx146_2⟩ := at_T61 HR1.out x13_1 p146 q146
                  cases e146
                  replace p146 := eq_true p146
                  replace q146 := eq_true q146
                  go_wp2
                  repeat (go_quiet (fail); try go_wp2)
                  go_ret
                  exact ⟨by first | rfl | (simp; done) | (simp [*]; done), by repeat (first | exact Drawn0.refl _ | apply Drawn0.step)⟩
                · rw [if_neg c8] at H
                  have c8b0 : (!(((rd_T61 l0 x13_1).f0) == ((rd_T61 l1 x13_1).f0)) || (!(((rd_T61 l0 x13_1).f1) == ((rd_T61 l1 x13_1).f1)) || (!(((rd_T61 l0 x13_1).f2) == ((rd_T61 l1 x13_1).f2))))) = false := by simpa using c8
                  clear c8
                  have H' := Aside0.mk H
                  clear H
                  have p145 : 0 ≤ (x13_1 : Int) := of_decide_eq_true (by first | (with_reducible assumption) | assumption)
                  have q145 : x13_1 < (l0.length : Int) := of_decide_eq_true (by first | (with_reducible assumption) | assumption)
                  obtain ⟨ad145, e145, hx145_0, hx145_1, hx145_2⟩ := at_T61 HR0.out x13_1 p145 q145
                  cases e145
                  replace p145 := eq_true p145
                  replace q145 := eq_true q145
                  have p146 : 0 ≤ (x13_1 : Int) := of_decide_eq_true (by first | (with_reducible assumption) | assumption)
                  have q146 : x13_1 < (l1.length : Int) := of_decide_eq_true (by first | (with_reducible assumption) | assumption)
                  obtain ⟨ad146, e146, hx146_0, hx146_1, hx146_2⟩ := at_T61 HR1.out x13_1 p146 q146
                  cases e146
                  replace p146 := eq_true p146
                  replace q146 := eq_true q146
                  go_wp2
                  repeat (go_quiet (fail); try go_wp2)
                  go_roundg k1
                  case measure => have := HK1.out; omega
                  case rel => exact ⟨(wrap64 (x13_1 + 1)), (by first | rfl | (simp; done) | (simp [*]; done)), H', ⟨by have := HK1.out; omega⟩, by repeat (first | exact Drawn0.refl _ | apply Drawn0.step)⟩
              · rw [if_neg c7] at H
                exact absurd H (by simp)
            · rw [if_neg c6] at H
              exact absurd H (by simp)
          · rw [if_neg c5] at H
            exact absurd H (by simp)
        · rw [if_neg c4] at H
          have c4b0 : decide (x13_1 < (l0.length : Int)) = false := decide_eq_false c4
          clear c4
          obtain rfl := Option.some.inj H
          go_wp2
          repeat (go_quiet (fail); try go_wp2)
          go_ret
          exact ⟨by first | rfl | (simp; done) | (simp [*]; done), by repeat (first | exact Drawn0.refl _ | apply Drawn0.step)⟩
  · rw [if_neg c3] at H
    have c3b0 : ((l0.length : Int) == (l1.length : Int)) = false := beq_eq_false_iff_ne.mpr c3
    have c3b1 : ((l0.length : Int) != (l1.length : Int)) = true := bne_iff_ne.mpr c3
    have c3b2 : (l0.length == l1.length) = false := by first | simpa using c3 | (simp at c3 ⊢; omega)
    obtain rfl := Option.some.inj H
    go_enter Try.func46, Try.ntmps46
    go_wp2
    repeat (go_quiet (fail); try go_wp2)
    go_ret
    exact ⟨by first | rfl | (simp; done) | (simp [*]; done), by repeat (first | exact Drawn0.refl _ | apply Drawn0.step)⟩

end Go.Proofs.Ytodldpdnhcafpaa.F

-- A text of this session's own program (wip/myprint.sh over a changed print tool): functions and their walks
namespace Go.Proofs.Ytodldpdnhcafpaa.F
open Go.RowKit Go.Proofs.YtodldpdnhcafpaaW.PrintWords Go.Proofs.YtodldpdnhcafpaaW.PrintLast Go.Proofs.YtodldpdnhcafpaaW.PrintMore
attribute [local go_sem] max2_int min2_int max_two min_two max_three min_three max_four min_four   -- for this text's walks alone
set_option linter.unusedVariables false
set_option linter.unusedSimpArgs false

theorem eqA47 (d : Nat) (w : World) (x0 y0 : Int) (x1 y1 : Int) (x2 y2 : Int) (x3 y3 : Int) :
    (Op.equalIn (d + 2) 47 (.agg #[.int .u8 x0, .int .i64 x1, .int .i64 x2, .int .i64 x3]) (.agg #[.int .u8 y0, .int .i64 y1, .int .i64 y2, .int .i64 y3])).run Try.prog w = .ok (x0 == y0 && (x1 == y1 && (x2 == y2 && (x3 == y3)))) w := by
  refine eqA_of Try.underlying47 (by kernel_rfl) ?_
  refine eqf_cons (by rfl) (by go_simp; rfl) (by go_simp; rfl) (by go_simp) ?_
  refine eqf_cons (by rfl) (by go_simp; rfl) (by go_simp; rfl) (by go_simp) ?_
  refine eqf_cons (by rfl) (by go_simp; rfl) (by go_simp; rfl) (by go_simp) ?_
  exact eqf_last (by rfl) (by go_simp; rfl) (by go_simp; rfl) (by go_simp)
end Go.Proofs.Ytodldpdnhcafpaa.F

-- A text of this session's own program (wip/myprint.sh over a changed print tool): functions and their walks
namespace Go.Proofs.Ytodldpdnhcafpaa.F
open Go.RowKit Go.Proofs.YtodldpdnhcafpaaW.PrintWords Go.Proofs.YtodldpdnhcafpaaW.PrintLast Go.Proofs.YtodldpdnhcafpaaW.PrintMore
attribute [local go_sem] max2_int min2_int max_two min_two max_three min_three max_four min_four   -- for this text's walks alone
set_option linter.unusedVariables false
set_option linter.unusedSimpArgs false

attribute [local go_sem high] eqA47
/-! ### monikerplain_SameTree: function 47 -/
def monikerplain_SameTree.l0 : Nat → Int → Int → List (S47) → List (S47) → Option (Bool)
  | 0, _, _, _, _ => none
  | k + 1, x15, x16, x148000, x149000 => if x16 < x15 then (if 0 ≤ x16 then (if x16 < (x148000.length : Int) then (if x16 < (x149000.length : Int) then (if (!(((rd_T47 x148000 x16).f0) == ((rd_T47 x149000 x16).f0)) || (!(((rd_T47 x148000 x16).f1) == ((rd_T47 x149000 x16).f1)) || (!(((rd_T47 x148000 x16).f2) == ((rd_T47 x149000 x16).f2)) || (!(((rd_T47 x148000 x16).f3) == ((rd_T47 x149000 x16).f3)))))) = true then (some false) else (monikerplain_SameTree.l0 k x15 (wrap64 (x16 + 1)) x148000 x149000)) else (none)) else (none)) else (none)) else (some true)
def monikerplain_SameTree.f (k : Nat) (l0_0 : List (S47)) (l1_0 : List (S47)) : Option (Bool) := if (l0_0.length : Int) = (l1_0.length : Int) then (monikerplain_SameTree.l0 k (l0_0.length : Int) 0 l0_0 l1_0) else (some false)
set_option maxHeartbeats 8000000 in
set_option maxRecDepth 100000 in
theorem monikerplain_SameTree.calls (k : Nat) (A0_0 : Option Addr) (c0_0 : Nat) (l0_0 : List (S47)) (A1_0 : Option Addr) (c1_0 : Nat) (l1_0 : List (S47)) (r : Bool) (w : World) (hr0_0 : Kd.C k47 w A0_0 l0_0.length l0_0) (hc0_0 : l0_0.length ≤ c0_0) (hr1_0 : Kd.C k47 w A1_0 l1_0.length l1_0) (hc1_0 : l1_0.length ≤ c1_0) (h : monikerplain_SameTree.f k l0_0 l1_0 = some r) :
    Calls Try.prog 47 #[.agg #[.slice A0_0 l0_0.length c0_0], .agg #[.slice A1_0 l1_0.length c1_0]] w fun e w' => e = .returned (.bool r) ∧ Below w.heap.size w w' := by
  have hu25 := Try.underlying25
  have hu47 := Try.underlying47
  have HR0_0 := Aside0.mk hr0_0
  have HC0_0 := Aside0.mk hc0_0
  clear hr0_0 hc0_0
  have HR1_0 := Aside0.mk hr1_0
  have HC1_0 := Aside0.mk hc1_0
  clear hr1_0 hc1_0
  have HB := Aside0.mk (Below.refl w.heap.size w)
  have H : (if (l0_0.length : Int) = (l1_0.length : Int) then (monikerplain_SameTree.l0 k (l0_0.length : Int) 0 l0_0 l1_0) else (some false)) = some r := h
  clear h
  by_cases c3 : (l0_0.length : Int) = (l1_0.length : Int)
  · rw [if_pos c3] at H
    have c3b0 : ((l0_0.length : Int) == (l1_0.length : Int)) = true := beq_iff_eq.mpr c3
    have c3b1 : ((l0_0.length : Int) != (l1_0.length : Int)) = false := bne_eq_false_iff_eq.mpr c3
    have c3b2 : (l0_0.length == l1_0.length) = true := by first | simpa using c3 | (simp at c3 ⊢; omega)
    clear c3
    have H' := Aside0.mk H
    clear H
    go_enter Try.func47, Try.ntmps47
    go_wp2_with (first | ((with_reducible refine gate_dst (N := 2) rfl ?_); refine box_event ?hg (N := 2) ?hd (cs := #[.slice A0_0 l0_0.length c0_0]) (t := 25) ?hr ?_; (case hd => rfl); (case hg => rfl); (case hr => first | (go_simp; done) | (go_simp; rfl)); intro gb147 hg w4 hbox hb; have n0_ := Aside0.mk (below_step (by repeat (first | (with_reducible first | exact HB.out | apply below_alloc | apply pw_below_drewN | apply below_drew1) | exact HB.out)) hb); have n1_ := Aside0.mk (hbox); have n2_ := Aside0.mk ((by rw [hg]; exact (below_size (by repeat (first | (with_reducible first | exact HB.out | apply below_alloc | apply pw_below_drewN | apply below_drew1) | exact HB.out))) : w.heap.size ≤ gb147)); have n3_ := Aside0.mk ((by rw [hg]; exact (below_size (by repeat (first | (with_reducible first | exact HB.out | apply below_alloc | apply pw_below_drewN | apply below_drew1) | exact HB.out))) : w.heap.size ≤ gb147)); clear HB; have HB := n0_; have BK147 := n1_; have GW147 := n2_; have GE147 := n3_; clear n0_ n1_ n2_ n3_; clear hb hbox hg) | ((with_reducible refine gate_dst (N := 3) rfl ?_); refine box_event ?hg (N := 3) ?hd (cs := #[.slice A1_0 l1_0.length c1_0]) (t := 25) ?hr ?_; (case hd => rfl); (case hg => rfl); (case hr => first | (go_simp; done) | (go_simp; rfl)); intro gb148 hg w5 hbox hb; have n0_ := Aside0.mk (blk_below (g := gb147) (o := .cells #[.slice A0_0 l0_0.length c0_0] 25 (0, 0)) (by (with_reducible repeat (first | refine blk_drewN ?_ _ | refine blk_drew ?_ | refine blk_alloc ?_ _)); exact BK147.out) hb); have n1_ := Aside0.mk (below_step (by repeat (first | (with_reducible first | exact HB.out | apply below_alloc | apply pw_below_drewN | apply below_drew1 | refine below_set ?_ GE147.out) | exact HB.out)) hb); have n2_ := Aside0.mk (hbox); have n3_ := Aside0.mk ((by rw [hg]; exact (below_size (by repeat (first | (with_reducible first | exact HB.out | apply below_alloc | apply pw_below_drewN | apply below_drew1 | refine below_set ?_ GE147.out) | exact HB.out))) : w.heap.size ≤ gb148)); have n4_ := Aside0.mk ((by rw [hg]; exact (below_size (by repeat (first | (with_reducible first | exact HB.out | apply below_alloc | apply pw_below_drewN | apply below_drew1 | refine below_set ?_ GE147.out) | exact HB.out))) : w.heap.size ≤ gb148)); have n5_ := Aside0.mk ((by rw [hg]; exact Nat.ne_of_lt (blk_lt (g := gb147) (o := .cells #[.slice A0_0 l0_0.length c0_0] 25 (0, 0)) (by (with_reducible repeat (first | refine blk_drewN ?_ _ | refine blk_drew ?_ | refine blk_alloc ?_ _)); exact BK147.out)) : gb147 ≠ gb148)); have n6_ := Aside0.mk ((by rw [hg]; exact Nat.ne_of_gt (blk_lt (g := gb147) (o := .cells #[.slice A0_0 l0_0.length c0_0] 25 (0, 0)) (by (with_reducible repeat (first | refine blk_drewN ?_ _ | refine blk_drew ?_ | refine blk_alloc ?_ _)); exact BK147.out)) : gb148 ≠ gb147)); clear BK147; clear HB; have BK147 := n0_; have HB := n1_; have BK148 := n2_; have GW148 := n3_; have GE148 := n4_; have NB147_148 := n5_; have NB148_147 := n6_; clear n0_ n1_ n2_ n3_ n4_ n5_ n6_; clear hb hbox hg; have hnb6 := NB147_148.out; have hnc6 := NB148_147.out; have hcz7_0 : w5.cell? ⟨gb147, 0, none⟩ = some (.slice A0_0 l0_0.length c0_0) := (blk_cell BK147.out 0).trans rfl; have hfz7_0 := blk_frozen BK147.out 0; have hcz8_0 : w5.cell? ⟨gb148, 0, none⟩ = some (.slice A1_0 l1_0.length c1_0) := (blk_cell BK148.out 0).trans rfl; have hfz8_0 := blk_frozen BK148.out 0))
    repeat (go_quiet (first | ((with_reducible refine gate_dst (N := 2) rfl ?_); refine box_event ?hg (N := 2) ?hd (cs := #[.slice A0_0 l0_0.length c0_0]) (t := 25) ?hr ?_; (case hd => rfl); (case hg => rfl); (case hr => first | (go_simp; done) | (go_simp; rfl)); intro gb147 hg w4 hbox hb; have n0_ := Aside0.mk (below_step (by repeat (first | (with_reducible first | exact HB.out | apply below_alloc | apply pw_below_drewN | apply below_drew1) | exact HB.out)) hb); have n1_ := Aside0.mk (hbox); have n2_ := Aside0.mk ((by rw [hg]; exact (below_size (by repeat (first | (with_reducible first | exact HB.out | apply below_alloc | apply pw_below_drewN | apply below_drew1) | exact HB.out))) : w.heap.size ≤ gb147)); have n3_ := Aside0.mk ((by rw [hg]; exact (below_size (by repeat (first | (with_reducible first | exact HB.out | apply below_alloc | apply pw_below_drewN | apply below_drew1) | exact HB.out))) : w.heap.size ≤ gb147)); clear HB; have HB := n0_; have BK147 := n1_; have GW147 := n2_; have GE147 := n3_; clear n0_ n1_ n2_ n3_; clear hb hbox hg) | ((with_reducible refine gate_dst (N := 3) rfl ?_); refine box_event ?hg (N := 3) ?hd (cs := #[.slice A1_0 l1_0.length c1_0]) (t := 25) ?hr ?_; (case hd => rfl); (case hg => rfl); (case hr => first | (go_simp; done) | (go_simp; rfl)); intro gb148 hg w5 hbox hb; have n0_ := Aside0.mk (blk_below (g := gb147) (o := .cells #[.slice A0_0 l0_0.length c0_0] 25 (0, 0)) (by (with_reducible repeat (first | refine blk_drewN ?_ _ | refine blk_drew ?_ | refine blk_alloc ?_ _)); exact BK147.out) hb); have n1_ := Aside0.mk (below_step (by repeat (first | (with_reducible first | exact HB.out | apply below_alloc | apply pw_below_drewN | apply below_drew1 | refine below_set ?_ GE147.out) | exact HB.out)) hb); have n2_ := Aside0.mk (hbox); have n3_ := Aside0.mk ((by rw [hg]; exact (below_size (by repeat (first | (with_reducible first | exact HB.out | apply below_alloc | apply pw_below_drewN | apply below_drew1 | refine below_set ?_ GE147.out) | exact HB.out))) : w.heap.size ≤ gb148)); have n4_ := Aside0.mk ((by rw [hg]; exact (below_size (by repeat (first | (with_reducible first | exact HB.out | apply below_alloc | apply pw_below_drewN | apply below_drew1 | refine below_set ?_ GE147.out) | exact HB.out))) : w.heap.size ≤ gb148)); have n5_ := Aside0.mk ((by rw [hg]; exact Nat.ne_of_lt (blk_lt (g := gb147) (o := .cells #[.slice A0_0 l0_0.length c0_0] 25 (0, 0)) (by (with_reducible repeat (first | refine blk_drewN ?_ _ | refine blk_drew ?_ | refine blk_alloc ?_ _)); exact BK147.out)) : gb147 ≠ gb148)); have n6_ := Aside0.mk ((by rw [hg]; exact Nat.ne_of_gt (blk_lt (g := gb147) (o := .cells #[.slice A0_0 l0_0.length c0_0] 25 (0, 0)) (by (with_reducible repeat (first | refine blk_drewN ?_ _ | refine blk_drew ?_ | refine blk_alloc ?_ _)); exact BK147.out)) : gb148 ≠ gb147)); clear BK147; clear HB; have BK147 := n0_; have HB := n1_; have BK148 := n2_; have GW148 := n3_; have GE148 := n4_; have NB147_148 := n5_; have NB148_147 := n6_; clear n0_ n1_ n2_ n3_ n4_ n5_ n6_; clear hb hbox hg; have hnb6 := NB147_148.out; have hnc6 := NB148_147.out; have hcz7_0 : w5.cell? ⟨gb147, 0, none⟩ = some (.slice A0_0 l0_0.length c0_0) := (blk_cell BK147.out 0).trans rfl; have hfz7_0 := blk_frozen BK147.out 0; have hcz8_0 : w5.cell? ⟨gb148, 0, none⟩ = some (.slice A1_0 l1_0.length c1_0) := (blk_cell BK148.out 0).trans rfl; have hfz8_0 := blk_frozen BK148.out 0)); try go_wp2_with (first | ((with_reducible refine gate_dst (N := 2) rfl ?_); refine box_event ?hg (N := 2) ?hd (cs := #[.slice A0_0 l0_0.length c0_0]) (t := 25) ?hr ?_; (case hd => rfl); (case hg => rfl); (case hr => first | (go_simp; done) | (go_simp; rfl)); intro gb147 hg w4 hbox hb; have n0_ := Aside0.mk (below_step (by repeat (first | (with_reducible first | exact HB.out | apply below_alloc | apply pw_below_drewN | apply below_drew1) | exact HB.out)) hb); have n1_ := Aside0.mk (hbox); have n2_ := Aside0.mk ((by rw [hg]; exact (below_size (by repeat (first | (with_reducible first | exact HB.out | apply below_alloc | apply pw_below_drewN | apply below_drew1) | exact HB.out))) : w.heap.size ≤ gb147)); have n3_ := Aside0.mk ((by rw [hg]; exact (below_size (by repeat (first | (with_reducible first | exact HB.out | apply below_alloc | apply pw_below_drewN | apply below_drew1) | exact HB.out))) : w.heap.size ≤ gb147)); clear HB; have HB := n0_; have BK147 := n1_; have GW147 := n2_; have GE147 := n3_; clear n0_ n1_ n2_ n3_; clear hb hbox hg) | ((with_reducible refine gate_dst (N := 3) rfl ?_); refine box_event ?hg (N := 3) ?hd (cs := #[.slice A1_0 l1_0.length c1_0]) (t := 25) ?hr ?_; (case hd => rfl); (case hg => rfl); (case hr => first | (go_simp; done) | (go_simp; rfl)); intro gb148 hg w5 hbox hb; have n0_ := Aside0.mk (blk_below (g := gb147) (o := .cells #[.slice A0_0 l0_0.length c0_0] 25 (0, 0)) (by (with_reducible repeat (first | refine blk_drewN ?_ _ | refine blk_drew ?_ | refine blk_alloc ?_ _)); exact BK147.out) hb); have n1_ := Aside0.mk (below_step (by repeat (first | (with_reducible first | exact HB.out | apply below_alloc | apply pw_below_drewN | apply below_drew1 | refine below_set ?_ GE147.out) | exact HB.out)) hb); have n2_ := Aside0.mk (hbox); have n3_ := Aside0.mk ((by rw [hg]; exact (below_size (by repeat (first | (with_reducible first | exact HB.out | apply below_alloc | apply pw_below_drewN | apply below_drew1 | refine below_set ?_ GE147.out) | exact HB.out))) : w.heap.size ≤ gb148)); have n4_ := Aside0.mk ((by rw [hg]; exact (below_size (by repeat (first | (with_reducible first | exact HB.out | apply below_alloc | apply pw_below_drewN | apply below_drew1 | refine below_set ?_ GE147.out) | exact HB.out))) : w.heap.size ≤ gb148)); have n5_ := Aside0.mk ((by rw [hg]; exact Nat.ne_of_lt (blk_lt (g := gb147) (o := .cells #[.slice A0_0 l0_0.length c0_0] 25 (0, 0)) (by (with_reducible repeat (first | refine blk_drewN ?_ _ | refine blk_drew ?_ | refine blk_alloc ?_ _)); exact BK147.out)) : gb147 ≠ gb148)); have n6_ := Aside0.mk ((by rw [hg]; exact Nat.ne_of_gt (blk_lt (g := gb147) (o := .cells #[.slice A0_0 l0_0.length c0_0] 25 (0, 0)) (by (with_reducible repeat (first | refine blk_drewN ?_ _ | refine blk_drew ?_ | refine blk_alloc ?_ _)); exact BK147.out)) : gb148 ≠ gb147)); clear BK147; clear HB; have BK147 := n0_; have HB := n1_; have BK148 := n2_; have GW148 := n3_; have GE148 := n4_; have NB147_148 := n5_; have NB148_147 := n6_; clear n0_ n1_ n2_ n3_ n4_ n5_ n6_; clear hb hbox hg; have hnb6 := NB147_148.out; have hnc6 := NB148_147.out; have hcz7_0 : w5.cell? ⟨gb147, 0, none⟩ = some (.slice A0_0 l0_0.length c0_0) := (blk_cell BK147.out 0).trans rfl; have hfz7_0 := blk_frozen BK147.out 0; have hcz8_0 : w5.cell? ⟨gb148, 0, none⟩ = some (.slice A1_0 l1_0.length c1_0) := (blk_cell BK148.out 0).trans rfl; have hfz8_0 := blk_frozen BK148.out 0)))
    go_loopg [16] k (fun kq v16 w' => ∃ (x16_1 : Int), v16 = .int .i64 x16_1 ∧ Aside0 (monikerplain_SameTree.l0 kq (l0_0.length : Int) x16_1 l0_0 l1_0 = some r) ∧ Aside0 (kq ≤ k) ∧ Aside0 (w'.heap[gb147]? = some (.cells #[(.slice A0_0 l0_0.length c0_0)] 25 (0, 0))) ∧ Aside0 (w'.heap[gb148]? = some (.cells #[(.slice A1_0 l1_0.length c1_0)] 25 (0, 0))) ∧ Aside0 (Below w.heap.size w w'))
    case atStart => exact ⟨(0), (by first | rfl | (simp; done) | (simp [*]; done)), H', ⟨Nat.le_refl _⟩, ⟨by (with_reducible repeat (first | refine blk_drewN ?_ _ | refine blk_drew ?_ | refine blk_alloc ?_ _)); exact BK147.out⟩, ⟨by (with_reducible repeat (first | refine blk_drewN ?_ _ | refine blk_drew ?_ | refine blk_alloc ?_ _)); exact BK148.out⟩, ⟨by repeat (first | (with_reducible first | exact HB.out | apply below_alloc | apply pw_below_drewN | apply below_drew1 | refine below_set ?_ GE147.out | refine below_set ?_ GE148.out) | exact HB.out)⟩⟩
    case round =>
      clear H'
      try clear c1
      try clear p2
      try clear c3
      try clear c3b0
      try clear c3b1
      try clear c3b2
      try clear c4
      try clear c6
      try clear hcz7_0
      try clear hcz8_0
      try clear hfz7_0
      try clear hfz8_0
      obtain ⟨x16_1, rfl, HA, HK1, BK147, BK148, HB⟩ := hrel
      cases gk with
      | zero => exact absurd HA.out (by simp [monikerplain_SameTree.l0])
      | succ k1 =>
        have H := HA.out
        clear HA
        simp only [monikerplain_SameTree.l0] at H
        by_cases c9 : x16_1 < (l0_0.length : Int)
        · rw [if_pos c9] at H
          have c9b0 : decide (x16_1 < (l0_0.length : Int)) = true := decide_eq_true c9
          clear c9
          by_cases c10 : 0 ≤ x16_1
          · rw [if_pos c10] at H
            have c10b0 : decide (0 ≤ x16_1) = true := decide_eq_true c10
            clear c10
            by_cases c11 : x16_1 < (l0_0.length : Int)
            · rw [if_pos c11] at H
              have c11b0 : decide (x16_1 < (l0_0.length : Int)) = true := decide_eq_true c11
              clear c11
              by_cases c12 : x16_1 < (l1_0.length : Int)
              · rw [if_pos c12] at H
                have c12b0 : decide (x16_1 < (l1_0.length : Int)) = true := decide_eq_true c12
                clear c12
                by_cases c13 : (!(((rd_T47 l0_0 x16_1).f0) == ((rd_T47 l1_0 x16_1).f0)) || (!(((rd_T47 l0_0 x16_1).f1) == ((rd_T47 l1_0 x16_1).f1)) || (!(((rd_T47 l0_0 x16_1).f2) == ((rd_T47 l1_0 x16_1).f2)) || (!(((rd_T47 l0_0 x16_1).f3) == ((rd_T47 l1_0 x16_1).f3)))))) = true
                · rw [if_pos c13] at H
                  have c13b0 : (!(((rd_T47 l0_0 x16_1).f0) == ((rd_T47 l1_0 x16_1).f0)) || (!(((rd_T47 l0_0 x16_1).f1) == ((rd_T47 l1_0 x16_1).f1)) || (!(((rd_T47 l0_0 x16_1).f2) == ((rd_T47 l1_0 x16_1).f2)) || (!(((rd_T47 l0_0 x16_1).f3) == ((rd_T47 l1_0 x16_1).f3)))))) = true := c13
                  clear c13
                  obtain rfl := Option.some.inj H
                  have hnb14 := NB147_148.out
                  have hnc14 := NB148_147.out
                  have hcz15_0 : wr.cell? ⟨gb147, 0, none⟩ = some (.slice A0_0 l0_0.length c0_0) := (blk_cell BK147.out 0).trans rfl
                  have hfz15_0 := blk_frozen BK147.out 0
                  have p149 : 0 ≤ (x16_1 : Int) := of_decide_eq_true (by first | (with_reducible assumption) | assumption)
                  have q149 : x16_1 < (l0_0.length : Int) := of_decide_eq_true (by first | (with_reducible assumption) | assumption)
                  obtain ⟨ad149, e149, hx149_0, hx149_1, hx149_2, hx149_3⟩ := at_T47 HR0_0.out x16_1 p149 q149
                  cases e149
                  replace hx149_0 := (HB.out.cell (World.block_lt_of_cell? w _ hx149_0)).trans hx149_0
                  replace hx149_1 := (HB.out.cell (World.block_lt_of_cell? w _ hx149_1)).trans hx149_1
                  replace hx149_2 := (HB.out.cell (World.block_lt_of_cell? w _ hx149_2)).trans hx149_2
                  replace hx149_3 := (HB.out.cell (World.block_lt_of_cell? w _ hx149_3)).trans hx149_3
                  replace p149 := eq_true p149
                  replace q149 := eq_true q149
                  have hcz16_0 : wr.cell? ⟨gb148, 0, none⟩ = some (.slice A1_0 l1_0.length c1_0) := (blk_cell BK148.out 0).trans rfl
                  have hfz16_0 := blk_frozen BK148.out 0
                  have p150 : 0 ≤ (x16_1 : Int) := of_decide_eq_true (by first | (with_reducible assumption) | assumption)
                  have q150 : x16_1 < (l1_0.length : Int) := of_decide_eq_true (by first | (with_reducible assumption) | assumption)
                  obtain ⟨ad150, e150, hx150_0, hx150_1, hx150_2, hx150_3⟩ := at_T47 HR1_0.out x16_1 p150 q150
                  cases e150
                  replace hx150_0 := (HB.out.cell (World.block_lt_of_cell? w _ hx150_0)).trans hx150_0
                  replace hx150_1 := (HB.out.cell (World.block_lt_of_cell? w _ hx150_1)).trans hx150_1
                  replace hx150_2 := (HB.out.cell (World.block_lt_of_cell? w _ hx150_2)).trans hx150_2
                  replace hx150_3 := (HB.out.cell (World.block_lt_of_cell? w _ hx150_3)).trans hx150_3
                  replace p150 := eq_true p150
                  replace q150 := eq_true q150
                  go_wp2
                  repeat (go_quiet (fail); try go_wp2)
                  go_ret
                  exact ⟨by first | rfl | (simp [errW_none, errW_some] <;> rfl) | (simp [*, errW_none, errW_some] <;> rfl), by repeat (first | (with_reducible first | exact HB.out | apply below_alloc | apply pw_below_drewN | apply below_drew1 | refine below_set ?_ GE147.out | refine below_set ?_ GE148.out) | exact HB.out)⟩
                · rw [if_neg c13] at H
                  have c13b0 : (!(((rd_T47 l0_0 x16_1).f0) == ((rd_T47 l1_0 x16_1).f0)) || (!(((rd_T47 l0_0 x16_1).f1) == ((rd_T47 l1_0 x16_1).f1)) || (!(((rd_T47 l0_0 x16_1).f2) == ((rd_T47 l1_0 x16_1).f2)) || (!(((rd_T47 l0_0 x16_1).f3) == ((rd_T47 l1_0 x16_1).f3)))))) = false := by simpa using c13
                  clear c13
                  have H' := Aside0.mk H
                  clear H
                  have hnb17 := NB147_148.out
                  have hnc17 := NB148_147.out
                  have hcz18_0 : wr.cell? ⟨gb147, 0, none⟩ = some (.slice A0_0 l0_0.length c0_0) := (blk_cell BK147.out 0).trans rfl
                  have hfz18_0 := blk_frozen BK147.out 0
                  have p149 : 0 ≤ (x16_1 : Int) := of_decide_eq_true (by first | (with_reducible assumption) | assumption)
                  have q149 : x16_1 < (l0_0.length : Int) := of_decide_eq_true (by first | (with_reducible assumption) | assumption)
                  obtain ⟨ad149, e149, hx149_0, hx149_1, hx149_2, hx149_3⟩ := at_T47 HR0_0.out x16_1 p149 q149
                  cases e149
                  replace hx149_0 := (HB.out.cell (World.block_lt_of_cell? w _ hx149_0)).trans hx149_0
                  replace hx149_1 := (HB.out.cell (World.block_lt_of_cell? w _ hx149_1)).trans hx149_1
                  replace hx149_2 := (HB.out.cell (World.block_lt_of_cell? w _ hx149_2)).trans hx149_2
                  replace hx149_3 := (HB.out.cell (World.block_lt_of_cell? w _ hx149_3)).trans hx149_3
                  replace p149 := eq_true p149
                  replace q149 := eq_true q149
                  have hcz19_0 : wr.cell? ⟨gb148, 0, none⟩ = some (.slice A1_0 l1_0.length c1_0) := (blk_cell BK148.out 0).trans rfl
                  have hfz19_0 := blk_frozen BK148.out 0
                  have p150 : 0 ≤ (x16_1 : Int) := of_decide_eq_true (by first | (with_reducible assumption) | assumption)
                  have q150 : x16_1 < (l1_0.length : Int) := of_decide_eq_true (by first | (with_reducible assumption) | assumption)
                  obtain ⟨ad150, e150, hx150_0, hx150_1, hx150_2, hx150_3⟩ := at_T47 HR1_0.out x16_1 p150 q150
                  cases e150
                  replace hx150_0 := (HB.out.cell (World.block_lt_of_cell? w _ hx150_0)).trans hx150_0
                  replace hx150_1 := (HB.out.cell (World.block_lt_of_cell? w _ hx150_1)).trans hx150_1
                  replace hx150_2 := (HB.out.cell (World.block_lt_of_cell? w _ hx150_2)).trans hx150_2
                  replace hx150_3 := (HB.out.cell (World.block_lt_of_cell? w _ hx150_3)).trans hx150_3
                  replace p150 := eq_true p150
                  replace q150 := eq_true q150
                  go_wp2
                  repeat (go_quiet (fail); try go_wp2)
                  go_roundg k1
                  case measure => have := HK1.out; omega
                  case rel => exact ⟨(wrap64 (x16_1 + 1)), (by first | rfl | (simp; done) | (simp [*]; done)), H', ⟨by have := HK1.out; omega⟩, ⟨by (with_reducible repeat (first | refine blk_drewN ?_ _ | refine blk_drew ?_ | refine blk_alloc ?_ _)); exact BK147.out⟩, ⟨by (with_reducible repeat (first | refine blk_drewN ?_ _ | refine blk_drew ?_ | refine blk_alloc ?_ _)); exact BK148.out⟩, ⟨by repeat (first | (with_reducible first | exact HB.out | apply below_alloc | apply pw_below_drewN | apply below_drew1 | refine below_set ?_ GE147.out | refine below_set ?_ GE148.out) | exact HB.out)⟩⟩
              · rw [if_neg c12] at H
                exact absurd H (by simp)
            · rw [if_neg c11] at H
              exact absurd H (by simp)
          · rw [if_neg c10] at H
            exact absurd H (by simp)
        · rw [if_neg c9] at H
          have c9b0 : decide (x16_1 < (l0_0.length : Int)) = false := decide_eq_false c9
          clear c9
          obtain rfl := Option.some.inj H
          go_wp2
          repeat (go_quiet (fail); try go_wp2)
          go_ret
          exact ⟨by first | rfl | (simp [errW_none, errW_some] <;> rfl) | (simp [*, errW_none, errW_some] <;> rfl), by repeat (first | (with_reducible first | exact HB.out | apply below_alloc | apply pw_below_drewN | apply below_drew1 | refine below_set ?_ GE147.out | refine below_set ?_ GE148.out) | exact HB.out)⟩
  · rw [if_neg c3] at H
    have c3b0 : ((l0_0.length : Int) == (l1_0.length : Int)) = false := beq_eq_false_iff_ne.mpr c3
    have c3b1 : ((l0_0.length : Int) != (l1_0.length : Int)) = true := bne_iff_ne.mpr c3
    have c3b2 : (l0_0.length == l1_0.length) = false := by first | simpa using c3 | (simp at c3 ⊢; omega)
    obtain rfl := Option.some.inj H
    go_enter Try.func47, Try.ntmps47
    go_wp2_with (first | ((with_reducible refine gate_dst (N := 2) rfl ?_); refine box_event ?hg (N := 2) ?hd (cs := #[.slice A0_0 l0_0.length c0_0]) (t := 25) ?hr ?_; (case hd => rfl); (case hg => rfl); (case hr => first | (go_simp; done) | (go_simp; rfl)); intro gb147 hg w20 hbox hb; have n0_ := Aside0.mk (below_step (by repeat (first | (with_reducible first | exact HB.out | apply below_alloc | apply pw_below_drewN | apply below_drew1) | exact HB.out)) hb); have n1_ := Aside0.mk (hbox); have n2_ := Aside0.mk ((by rw [hg]; exact (below_size (by repeat (first | (with_reducible first | exact HB.out | apply below_alloc | apply pw_below_drewN | apply below_drew1) | exact HB.out))) : w.heap.size ≤ gb147)); have n3_ := Aside0.mk ((by rw [hg]; exact (below_size (by repeat (first | (with_reducible first | exact HB.out | apply below_alloc | apply pw_below_drewN | apply below_drew1) | exact HB.out))) : w.heap.size ≤ gb147)); clear HB; have HB := n0_; have BK147 := n1_; have GW147 := n2_; have GE147 := n3_; clear n0_ n1_ n2_ n3_; clear hb hbox hg) | ((with_reducible refine gate_dst (N := 3) rfl ?_); refine box_event ?hg (N := 3) ?hd (cs := #[.slice A1_0 l1_0.length c1_0]) (t := 25) ?hr ?_; (case hd => rfl); (case hg => rfl); (case hr => first | (go_simp; done) | (go_simp; rfl)); intro gb148 hg w21 hbox hb; have n0_ := Aside0.mk (blk_below (g := gb147) (o := .cells #[.slice A0_0 l0_0.length c0_0] 25 (0, 0)) (by (with_reducible repeat (first | refine blk_drewN ?_ _ | refine blk_drew ?_ | refine blk_alloc ?_ _)); exact BK147.out) hb); have n1_ := Aside0.mk (below_step (by repeat (first | (with_reducible first | exact HB.out | apply below_alloc | apply pw_below_drewN | apply below_drew1 | refine below_set ?_ GE147.out) | exact HB.out)) hb); have n2_ := Aside0.mk (hbox); have n3_ := Aside0.mk ((by rw [hg]; exact (below_size (by repeat (first | (with_reducible first | exact HB.out | apply below_alloc | apply pw_below_drewN | apply below_drew1 | refine below_set ?_ GE147.out) | exact HB.out))) : w.heap.size ≤ gb148)); have n4_ := Aside0.mk ((by rw [hg]; exact (below_size (by repeat (first | (with_reducible first | exact HB.out | apply below_alloc | apply pw_below_drewN | apply below_drew1 | refine below_set ?_ GE147.out) | exact HB.out))) : w.heap.size ≤ gb148)); have n5_ := Aside0.mk ((by rw [hg]; exact Nat.ne_of_lt (blk_lt (g := gb147) (o := .cells #[.slice A0_0 l0_0.length c0_0] 25 (0, 0)) (by (with_reducible repeat (first | refine blk_drewN ?_ _ | refine blk_drew ?_ | refine blk_alloc ?_ _)); exact BK147.out)) : gb147 ≠ gb148)); have n6_ := Aside0.mk ((by rw [hg]; exact Nat.ne_of_gt (blk_lt (g := gb147) (o := .cells #[.slice A0_0 l0_0.length c0_0] 25 (0, 0)) (by (with_reducible repeat (first | refine blk_drewN ?_ _ | refine blk_drew ?_ | refine blk_alloc ?_ _)); exact BK147.out)) : gb148 ≠ gb147)); clear BK147; clear HB; have BK147 := n0_; have HB := n1_; have BK148 := n2_; have GW148 := n3_; have GE148 := n4_; have NB147_148 := n5_; have NB148_147 := n6_; clear n0_ n1_ n2_ n3_ n4_ n5_ n6_; clear hb hbox hg; have hnb22 := NB147_148.out; have hnc22 := NB148_147.out; have hcz23_0 : w21.cell? ⟨gb147, 0, none⟩ = some (.slice A0_0 l0_0.length c0_0) := (blk_cell BK147.out 0).trans rfl; have hfz23_0 := blk_frozen BK147.out 0; have hcz24_0 : w21.cell? ⟨gb148, 0, none⟩ = some (.slice A1_0 l1_0.length c1_0) := (blk_cell BK148.out 0).trans rfl; have hfz24_0 := blk_frozen BK148.out 0))
    repeat (go_quiet (first | ((with_reducible refine gate_dst (N := 2) rfl ?_); refine box_event ?hg (N := 2) ?hd (cs := #[.slice A0_0 l0_0.length c0_0]) (t := 25) ?hr ?_; (case hd => rfl); (case hg => rfl); (case hr => first | (go_simp; done) | (go_simp; rfl)); intro gb147 hg w20 hbox hb; have n0_ := Aside0.mk (below_step (by repeat (first | (with_reducible first | exact HB.out | apply below_alloc | apply pw_below_drewN | apply below_drew1) | exact HB.out)) hb); have n1_ := Aside0.mk (hbox); have n2_ := Aside0.mk ((by rw [hg]; exact (below_size (by repeat (first | (with_reducible first | exact HB.out | apply below_alloc | apply pw_below_drewN | apply below_drew1) | exact HB.out))) : w.heap.size ≤ gb147)); have n3_ := Aside0.mk ((by rw [hg]; exact (below_size (by repeat (first | (with_reducible first | exact HB.out | apply below_alloc | apply pw_below_drewN | apply below_drew1) | exact HB.out))) : w.heap.size ≤ gb147)); clear HB; have HB := n0_; have BK147 := n1_; have GW147 := n2_; have GE147 := n3_; clear n0_ n1_ n2_ n3_; clear hb hbox hg) | ((with_reducible refine gate_dst (N := 3) rfl ?_); refine box_event ?hg (N := 3) ?hd (cs := #[.slice A1_0 l1_0.length c1_0]) (t := 25) ?hr ?_; (case hd => rfl); (case hg => rfl); (case hr => first | (go_simp; done) | (go_simp; rfl)); intro gb148 hg w21 hbox hb; have n0_ := Aside0.mk (blk_below (g := gb147) (o := .cells #[.slice A0_0 l0_0.length c0_0] 25 (0, 0)) (by (with_reducible repeat (first | refine blk_drewN ?_ _ | refine blk_drew ?_ | refine blk_alloc ?_ _)); exact BK147.out) hb); have n1_ := Aside0.mk (below_step (by repeat (first | (with_reducible first | exact HB.out | apply below_alloc | apply pw_below_drewN | apply below_drew1 | refine below_set ?_ GE147.out) | exact HB.out)) hb); have n2_ := Aside0.mk (hbox); have n3_ := Aside0.mk ((by rw [hg]; exact (below_size (by repeat (first | (with_reducible first | exact HB.out | apply below_alloc | apply pw_below_drewN | apply below_drew1 | refine below_set ?_ GE147.out) | exact HB.out))) : w.heap.size ≤ gb148)); have n4_ := Aside0.mk ((by rw [hg]; exact (below_size (by repeat (first | (with_reducible first | exact HB.out | apply below_alloc | apply pw_below_drewN | apply below_drew1 | refine below_set ?_ GE147.out) | exact HB.out))) : w.heap.size ≤ gb148)); have n5_ := Aside0.mk ((by rw [hg]; exact Nat.ne_of_lt (blk_lt (g := gb147) (o := .cells #[.slice A0_0 l0_0.length c0_0] 25 (0, 0)) (by (with_reducible repeat (first | refine blk_drewN ?_ _ | refine blk_drew ?_ | refine blk_alloc ?_ _)); exact BK147.out)) : gb147 ≠ gb148)); have n6_ := Aside0.mk ((by rw [hg]; exact Nat.ne_of_gt (blk_lt (g := gb147) (o := .cells #[.slice A0_0 l0_0.length c0_0] 25 (0, 0)) (by (with_reducible repeat (first | refine blk_drewN ?_ _ | refine blk_drew ?_ | refine blk_alloc ?_ _)); exact BK147.out)) : gb148 ≠ gb147)); clear BK147; clear HB; have BK147 := n0_; have HB := n1_; have BK148 := n2_; have GW148 := n3_; have GE148 := n4_; have NB147_148 := n5_; have NB148_147 := n6_; clear n0_ n1_ n2_ n3_ n4_ n5_ n6_; clear hb hbox hg; have hnb22 := NB147_148.out; have hnc22 := NB148_147.out; have hcz23_0 : w21.cell? ⟨gb147, 0, none⟩ = some (.slice A0_0 l0_0.length c0_0) := (blk_cell BK147.out 0).trans rfl; have hfz23_0 := blk_frozen BK147.out 0; have hcz24_0 : w21.cell? ⟨gb148, 0, none⟩ = some (.slice A1_0 l1_0.length c1_0) := (blk_cell BK148.out 0).trans rfl; have hfz24_0 := blk_frozen BK148.out 0)); try go_wp2_with (first | ((with_reducible refine gate_dst (N := 2) rfl ?_); refine box_event ?hg (N := 2) ?hd (cs := #[.slice A0_0 l0_0.length c0_0]) (t := 25) ?hr ?_; (case hd => rfl); (case hg => rfl); (case hr => first | (go_simp; done) | (go_simp; rfl)); intro gb147 hg w20 hbox hb; have n0_ := Aside0.mk (below_step (by repeat (first | (with_reducible first | exact HB.out | apply below_alloc | apply pw_below_drewN | apply below_drew1) | exact HB.out)) hb); have n1_ := Aside0.mk (hbox); have n2_ := Aside0.mk ((by rw [hg]; exact (below_size (by repeat (first | (with_reducible first | exact HB.out | apply below_alloc | apply pw_below_drewN | apply below_drew1) | exact HB.out))) : w.heap.size ≤ gb147)); have n3_ := Aside0.mk ((by rw [hg]; exact (below_size (by repeat (first | (with_reducible first | exact HB.out | apply below_alloc | apply pw_below_drewN | apply below_drew1) | exact HB.out))) : w.heap.size ≤ gb147)); clear HB; have HB := n0_; have BK147 := n1_; have GW147 := n2_; have GE147 := n3_; clear n0_ n1_ n2_ n3_; clear hb hbox hg) | ((with_reducible refine gate_dst (N := 3) rfl ?_); refine box_event ?hg (N := 3) ?hd (cs := #[.slice A1_0 l1_0.length c1_0]) (t := 25) ?hr ?_; (case hd => rfl); (case hg => rfl); (case hr => first | (go_simp; done) | (go_simp; rfl)); intro gb148 hg w21 hbox hb; have n0_ := Aside0.mk (blk_below (g := gb147) (o := .cells #[.slice A0_0 l0_0.length c0_0] 25 (0, 0)) (by (with_reducible repeat (first | refine blk_drewN ?_ _ | refine blk_drew ?_ | refine blk_alloc ?_ _)); exact BK147.out) hb); have n1_ := Aside0.mk (below_step (by repeat (first | (with_reducible first | exact HB.out | apply below_alloc | apply pw_below_drewN | apply below_drew1 | refine below_set ?_ GE147.out) | exact HB.out)) hb); have n2_ := Aside0.mk (hbox); have n3_ := Aside0.mk ((by rw [hg]; exact (below_size (by repeat (first | (with_reducible first | exact HB.out | apply below_alloc | apply pw_below_drewN | apply below_drew1 | refine below_set ?_ GE147.out) | exact HB.out))) : w.heap.size ≤ gb148)); have n4_ := Aside0.mk ((by rw [hg]; exact (below_size (by repeat (first | (with_reducible first | exact HB.out | apply below_alloc | apply pw_below_drewN | apply below_drew1 | refine below_set ?_ GE147.out) | exact HB.out))) : w.heap.size ≤ gb148)); have n5_ := Aside0.mk ((by rw [hg]; exact Nat.ne_of_lt (blk_lt (g := gb147) (o := .cells #[.slice A0_0 l0_0.length c0_0] 25 (0, 0)) (by (with_reducible repeat (first | refine blk_drewN ?_ _ | refine blk_drew ?_ | refine blk_alloc ?_ _)); exact BK147.out)) : gb147 ≠ gb148)); have n6_ := Aside0.mk ((by rw [hg]; exact Nat.ne_of_gt (blk_lt (g := gb147) (o := .cells #[.slice A0_0 l0_0.length c0_0] 25 (0, 0)) (by (with_reducible repeat (first | refine blk_drewN ?_ _ | refine blk_drew ?_ | refine blk_alloc ?_ _)); exact BK147.out)) : gb148 ≠ gb147)); clear BK147; clear HB; have BK147 := n0_; have HB := n1_; have BK148 := n2_; have GW148 := n3_; have GE148 := n4_; have NB147_148 := n5_; have NB148_147 := n6_; clear n0_ n1_ n2_ n3_ n4_ n5_ n6_; clear hb hbox hg; have hnb22 := NB147_148.out; have hnc22 := NB148_147.out; have hcz23_0 : w21.cell? ⟨gb147, 0, none⟩ = some (.slice A0_0 l0_0.length c0_0) := (blk_cell BK147.out 0).trans rfl; have hfz23_0 := blk_frozen BK147.out 0; have hcz24_0 : w21.cell? ⟨gb148, 0, none⟩ = some (.slice A1_0 l1_0.length c1_0) := (blk_cell BK148.out 0).trans rfl; have hfz24_0 := blk_frozen BK148.out 0)))
    go_ret
    exact ⟨by first | rfl | (simp [errW_none, errW_some] <;> rfl) | (simp [*, errW_none, errW_some] <;> rfl), by repeat (first | (with_reducible first | exact HB.out | apply below_alloc | apply pw_below_drewN | apply below_drew1 | refine below_set ?_ GE147.out | refine below_set ?_ GE148.out) | exact HB.out)⟩

end Go.Proofs.Ytodldpdnhcafpaa.F

namespace Go.Proofs.Ytodldpdnhcafpaa.Q
open Go.RowKit Go.Proofs.YtodldpdnhcafpaaW.PrintWords Go.Proofs.YtodldpdnhcafpaaW.PrintLast Go.Proofs.YtodldpdnhcafpaaW.PrintMore
open Go.Proofs.Ytodldpdnhcafpaa.F

theorem SameTokens_loop (l : List S61) (hl : l.length ≤ 9223372036854775807) (d : Nat) : ∀ i, i ≤ l.length → l.length - i = d →
    Ev (fun k => monikerplain_SameTokens.l0 k l l (l.length : Int) (i : Int)) true := by
  induction d with
  | zero =>
    intro i h1 h2
    refine ⟨1, fun n hn => ?_⟩
    obtain ⟨k, rfl⟩ : ∃ m, n = m + 1 := ⟨n - 1, by omega⟩
    simp only [monikerplain_SameTokens.l0]
    rw [if_neg (by omega)]
  | succ d ih =>
    intro i h1 h2
    obtain ⟨K, hK⟩ := ih (i + 1) (by omega) (by omega)
    refine ⟨K + 1, fun n hn => ?_⟩
    obtain ⟨k, rfl⟩ : ∃ m, n = m + 1 := ⟨n - 1, by omega⟩
    simp only [monikerplain_SameTokens.l0]
    rw [if_pos (by omega), if_pos (by omega), if_pos (by omega), if_pos (by omega), if_neg (by simp), show wrap64 ((i : Int) + 1) = ((i + 1 : Nat) : Int) by unfold wrap64; omega]
    exact hK k (by omega)
theorem SameTokens_is (l : List S61) (hl : l.length ≤ 9223372036854775807) : Ev (fun k => monikerplain_SameTokens.f k l l) true := by
  unfold monikerplain_SameTokens.f
  simp only [↓reduceIte]
  exact SameTokens_loop l hl l.length 0 (by omega) (by omega)

theorem SameTree_loop (l : List S47) (hl : l.length ≤ 9223372036854775807) (d : Nat) : ∀ i, i ≤ l.length → l.length - i = d →
    Ev (fun k => monikerplain_SameTree.l0 k (l.length : Int) (i : Int) l l) true := by
  induction d with
  | zero =>
    intro i h1 h2
    refine ⟨1, fun n hn => ?_⟩
    obtain ⟨k, rfl⟩ : ∃ m, n = m + 1 := ⟨n - 1, by omega⟩
    simp only [monikerplain_SameTree.l0]
    rw [if_neg (by omega)]
  | succ d ih =>
    intro i h1 h2
    obtain ⟨K, hK⟩ := ih (i + 1) (by omega) (by omega)
    refine ⟨K + 1, fun n hn => ?_⟩
    obtain ⟨k, rfl⟩ : ∃ m, n = m + 1 := ⟨n - 1, by omega⟩
    simp only [monikerplain_SameTree.l0]
    rw [if_pos (by omega), if_pos (by omega), if_pos (by omega), if_pos (by omega), if_neg (by simp), show wrap64 ((i : Int) + 1) = ((i + 1 : Nat) : Int) by unfold wrap64; omega]
    exact hK k (by omega)
theorem SameTree_is (l : List S47) (hl : l.length ≤ 9223372036854775807) : Ev (fun k => monikerplain_SameTree.f k l l) true := by
  unfold monikerplain_SameTree.f
  simp only [↓reduceIte]
  exact SameTree_loop l hl l.length 0 (by omega) (by omega)
end Go.Proofs.Ytodldpdnhcafpaa.Q

namespace Go.Proofs.Ytodldpdnhcafpaa.H
open Go.RowKit Go.Proofs.YtodldpdnhcafpaaW.PrintWords Go.Proofs.YtodldpdnhcafpaaW.PrintLast Go.Proofs.YtodldpdnhcafpaaW.PrintMore
open Go.Proofs.Ytodldpdnhcafpaa.F
attribute [local go_sem high] eqA61 eqA47
set_option linter.unusedVariables false
set_option linter.unusedSimpArgs false

set_option maxHeartbeats 4000000 in
set_option maxRecDepth 100000 in
theorem kept_calls (t t' : ByteArray) (A B A1 A2 : Option Addr) (c1 c2 : Nat) (ps : List S61) (ns : List S47) (w : World) (hL1 : Kd.C k61 w A (ps.length + 2) (ps ++ marks61)) (hL2 : Kd.C k47 w B (ns.length + 2) (ns ++ marks47))
    (hr1 : Kd.C k61 w A1 ps.length ps) (hc1 : ps.length ≤ c1) (hr2 : Kd.C k47 w A2 ns.length ns) (hc2 : ns.length ≤ c2) (hl1 : ps.length ≤ 5864062014805) (hl2 : ns.length ≤ 4398046511104) :
    Calls Try.prog 21 #[.agg #[.string t, .slice A ps.length (ps.length + 2), .slice B ns.length (ns.length + 2)], .agg #[.string t', .slice A1 ps.length c1, .slice A2 ns.length c2]] w fun e w' => e = .returned (.bool true) ∧ Below w.heap.size w w' := by
  have hu61 := Try.underlying61
  have hu47 := Try.underlying47
  have hu27 := Try.underlying27
  have hu25 := Try.underlying25
  obtain ⟨k1, hk1⟩ := (Q.SameTokens_is ps (by omega)).rounds
  obtain ⟨k2, hk2⟩ := (Q.SameTree_is ns (by omega)).rounds
  have r0 : rd_T61 (ps ++ marks61) (ps.length : Int) = ⟨0, -5, -6⟩ := by simp [rd_T61, marks61]
  have r1 : rd_T61 (ps ++ marks61) ((ps.length : Int) + 1) = ⟨77, 0, 0⟩ := by
    rw [rd_T61, show ((ps.length : Int) + 1).toNat = ps.length + 1 by omega]; simp [marks61]
  have s0 : rd_T47 (ns ++ marks47) (ns.length : Int) = ⟨99, -3, 0, -4⟩ := by simp [rd_T47, marks47]
  have s1 : rd_T47 (ns ++ marks47) ((ns.length : Int) + 1) = ⟨0, 0, 12345, 0⟩ := by
    rw [rd_T47, show ((ns.length : Int) + 1).toNat = ns.length + 1 by omega]; simp [marks47]
  obtain ⟨a, e0, x00, x01, x02⟩ := at_T61 hL1 (ps.length : Int) (by omega) (by omega)
  subst e0
  obtain ⟨_, e1, x10, x11, x12⟩ := at_T61 hL1 ((ps.length : Int) + 1) (by omega) (by omega)
  cases e1
  obtain ⟨b, e0, y00, y01, y02, y03⟩ := at_T47 hL2 (ns.length : Int) (by omega) (by omega)
  subst e0
  obtain ⟨_, e1, y10, y11, y12, y13⟩ := at_T47 hL2 ((ns.length : Int) + 1) (by omega) (by omega)
  cases e1
  rw [r0] at x00 x01 x02
  rw [r1] at x10 x11 x12
  rw [s0] at y00 y01 y02 y03
  rw [s1] at y10 y11 y12 y13
  clear r0 r1 s0 s1
  simp only [Int.toNat_natCast] at x00 x01 x02 y00 y01 y02 y03
  rw [show ((ps.length : Int) + 1).toNat = ps.length + 1 by omega] at x10 x11 x12
  rw [show ((ns.length : Int) + 1).toNat = ns.length + 1 by omega] at y10 y11 y12 y13
  have p00w := Aside0.mk x00
  have p01w := Aside0.mk x01
  have p02w := Aside0.mk x02
  have p10w := Aside0.mk x10
  have p11w := Aside0.mk x11
  have p12w := Aside0.mk x12
  have m00w := Aside0.mk y00
  have m01w := Aside0.mk y01
  have m02w := Aside0.mk y02
  have m03w := Aside0.mk y03
  have m10w := Aside0.mk y10
  have m11w := Aside0.mk y11
  have m12w := Aside0.mk y12
  have m13w := Aside0.mk y13
  clear x00 x01 x02 x10 x11 x12 y00 y01 y02 y03 y10 y11 y12 y13
  have HS1 := Aside0.mk (C_lent61 hL1)
  have HS2 := Aside0.mk (C_lent47 hL2)
  have HR1 := Aside0.mk hr1
  have HR2 := Aside0.mk hr2
  have HC1 := Aside0.mk hc1
  have HC2 := Aside0.mk hc2
  have HK1 := Aside0.mk hk1
  have HK2 := Aside0.mk hk2
  clear hL1 hL2 hr1 hr2 hc1 hc2 hk1 hk2
  go_enter Try.func21, Try.ntmps21
  go_wp2_with (first
    | ((with_reducible refine gate_dst (N := 2) rfl ?_); refine box_event ?hg (N := 2) ?hd (cs := #[.string t, .slice (some a) ps.length (ps.length + 2), .slice (some b) ns.length (ns.length + 2)]) (t := 27) ?hr ?_; (case hd => rfl); (case hg => rfl); (case hr => first | (go_simp; done) | (go_simp; rfl)); intro gb1 hge w1 hbox hb; have BK1 := Aside0.mk hbox; have HB := Aside0.mk hb; clear hbox hge hb)
    | ((with_reducible refine gate_dst (N := 3) rfl ?_); refine box_event ?hg (N := 3) ?hd (cs := #[.string t', .slice A1 ps.length c1, .slice A2 ns.length c2]) (t := 27) ?hr ?_; (case hd => rfl); (case hg => rfl); (case hr => first | (go_simp; done) | (go_simp; rfl)); intro gb2 hge w2 hbox hb; have BK2 := Aside0.mk hbox; have n0_ := Aside0.mk (blk_below BK1.out hb); have n1_ := Aside0.mk (below_step HB.out hb); clear BK1; clear HB; have BK1 := n0_; have HB := n1_; clear n0_ n1_; clear hbox hge hb; have hxgb10 : w2.cell? ⟨gb1, 0, none⟩ = some (.string t) := (blk_cell BK1.out 0).trans rfl; have hxgb11 : w2.cell? ⟨gb1, 1, none⟩ = some (.slice (some a) ps.length (ps.length + 2)) := (blk_cell BK1.out 1).trans rfl; have hxgb12 : w2.cell? ⟨gb1, 2, none⟩ = some (.slice (some b) ns.length (ns.length + 2)) := (blk_cell BK1.out 2).trans rfl; have hxgb20 : w2.cell? ⟨gb2, 0, none⟩ = some (.string t') := (blk_cell BK2.out 0).trans rfl; have hxgb21 : w2.cell? ⟨gb2, 1, none⟩ = some (.slice A1 ps.length c1) := (blk_cell BK2.out 1).trans rfl; have hxgb22 : w2.cell? ⟨gb2, 2, none⟩ = some (.slice A2 ns.length c2) := (blk_cell BK2.out 2).trans rfl)
    | ((with_reducible refine gate_callee (f := 46) rfl ?_); refine goesL_ (some 11) rfl rfl Try.func46 (by kernel_rfl) rfl #[.slice (some a) ps.length (ps.length + 2), .slice A1 ps.length c1] rfl (by (try simp only [List.map_toArray, List.map_cons, List.map_nil]); first | done | rfl) ?_; (with_reducible refine (monikerplain_SameTokens.calls k1 _ _ ps _ _ ps true _ (Kd.C_below HS1.out HB.out) (by omega) (Kd.C_below HR1.out HB.out) HC1.out HK1.out).mono ?_); rintro e w' ⟨rfl, ⟨nd, rfl⟩⟩; refine ⟨_, rfl, ?_⟩)
    )
  refine (monikerplain_SameTree.calls k2 _ _ ns _ _ ns true _ (Kd.C_drewN (Kd.C_below HS2.out HB.out) _) (by omega) (Kd.C_drewN (Kd.C_below HR2.out HB.out) _) HC2.out HK2.out).mono ?_
  rintro e w3 ⟨rfl, hb⟩
  clear hxgb10 hxgb11 hxgb12 hxgb20 hxgb21 hxgb22
  have n0_ := Aside0.mk (blk_below (blk_drewN BK1.out nd) hb)
  have n1_ := Aside0.mk (blk_below (blk_drewN BK2.out nd) hb)
  have n2_ := Aside0.mk (below_step (pw_below_drewN HB.out nd) hb)
  clear BK1
  clear BK2
  clear HB
  have BK1 := n0_
  have BK2 := n1_
  have HB := n2_
  clear n0_ n1_ n2_
  clear hb
  have hxgb10 : w3.cell? ⟨gb1, 0, none⟩ = some (.string t) := (blk_cell BK1.out 0).trans rfl
  have hxgb11 : w3.cell? ⟨gb1, 1, none⟩ = some (.slice (some a) ps.length (ps.length + 2)) := (blk_cell BK1.out 1).trans rfl
  have hxgb12 : w3.cell? ⟨gb1, 2, none⟩ = some (.slice (some b) ns.length (ns.length + 2)) := (blk_cell BK1.out 2).trans rfl
  have hxgb20 : w3.cell? ⟨gb2, 0, none⟩ = some (.string t') := (blk_cell BK2.out 0).trans rfl
  have hxgb21 : w3.cell? ⟨gb2, 1, none⟩ = some (.slice A1 ps.length c1) := (blk_cell BK2.out 1).trans rfl
  have hxgb22 : w3.cell? ⟨gb2, 2, none⟩ = some (.slice A2 ns.length c2) := (blk_cell BK2.out 2).trans rfl
  have p00 := pw_cell_below HB.out p00w.out
  have p01 := pw_cell_below HB.out p01w.out
  have p02 := pw_cell_below HB.out p02w.out
  have p10 := pw_cell_below HB.out p10w.out
  have p11 := pw_cell_below HB.out p11w.out
  have p12 := pw_cell_below HB.out p12w.out
  have m00 := pw_cell_below HB.out m00w.out
  have m01 := pw_cell_below HB.out m01w.out
  have m02 := pw_cell_below HB.out m02w.out
  have m03 := pw_cell_below HB.out m03w.out
  have m10 := pw_cell_below HB.out m10w.out
  have m11 := pw_cell_below HB.out m11w.out
  have m12 := pw_cell_below HB.out m12w.out
  have m13 := pw_cell_below HB.out m13w.out
  go_wp2_with fail


  go_ret
  exact ⟨rfl, HB.out⟩
end Go.Proofs.Ytodldpdnhcafpaa.H

namespace Go.Proofs.Ytodldpdnhcafpaa.L
open Go.RowKit Go.Proofs.YtodldpdnhcafpaaW.PrintWords Go.Proofs.YtodldpdnhcafpaaW.PrintLast Go.Proofs.YtodldpdnhcafpaaW.PrintMore
open Go.Proofs.Ytodldpdnhcafpaa.F Go.Proofs.Ytodldpdnhcafpaa.H

/-- What the law's walk holds of the world: the two forests' boxes and rows. -/
structure Hold (t : ByteArray) (A1 A2 A B : Option Addr) (c1 c2 : Nat) (ps : List S61) (ns : List S47) (g1 g2 : Nat) (w w' : World) : Prop where
  b1 : w'.heap[g1]? = some (.cells #[.string t, .slice A1 ps.length c1, .slice A2 ns.length c2] 27 (0, 0))
  b2 : w'.heap[g2]? = some (.cells #[.string t, .slice A ps.length (ps.length + 2), .slice B ns.length (ns.length + 2)] 27 (0, 0))
  r1 : Kd.C k61 w' A1 ps.length ps
  r2 : Kd.C k47 w' A2 ns.length ns
  l1 : Kd.C k61 w' A (ps.length + 2) (ps ++ marks61)
  l2 : Kd.C k47 w' B (ns.length + 2) (ns ++ marks47)
  be : Below w.heap.size w w'
theorem Hold.below {t : ByteArray} {A1 A2 A B : Option Addr} {c1 c2 : Nat} {ps : List S61} {ns : List S47} {g1 g2 : Nat} {w w' w'' : World} (h : Hold t A1 A2 A B c1 c2 ps ns g1 g2 w w') (hb : Below w'.heap.size w' w'') : Hold t A1 A2 A B c1 c2 ps ns g1 g2 w w'' :=
  ⟨blk_below h.b1 hb, blk_below h.b2 hb, Kd.C_below h.r1 hb, Kd.C_below h.r2 hb, Kd.C_below h.l1 hb, Kd.C_below h.l2 hb, below_step h.be hb⟩
theorem Hold.drew {t : ByteArray} {A1 A2 A B : Option Addr} {c1 c2 : Nat} {ps : List S61} {ns : List S47} {g1 g2 : Nat} {w w' : World} (h : Hold t A1 A2 A B c1 c2 ps ns g1 g2 w w') : Hold t A1 A2 A B c1 c2 ps ns g1 g2 w w'.drew :=
  h.below (below_drew (Below.refl _ _))

end Go.Proofs.Ytodldpdnhcafpaa.L
