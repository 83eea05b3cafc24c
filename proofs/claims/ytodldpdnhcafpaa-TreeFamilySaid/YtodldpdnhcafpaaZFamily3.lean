/- The law TreeFamily of package monikerlaw holds of the given program: called with any arguments that can be read as data it returns true, and its arguments read behind the call as before. Conditions: those of the given row, no others. -/
import Derived.Test.YtodldpdnhcafpaaZFamily2
import Derived.Maps.Own
import Derived.Maps.OwnOps
import Derived.Maps.OwnIn
import Derived.Maps.Views
import Derived.Test.YtodldpdnhcafpaaRows
import Derived.WalkKit
import Derived.ProofKit
import Derived.OpenShut
import Derived.ShutString
import Derived.ChangeOld
import Derived.Below
import Derived.SizedLaws
-- Walk, where skip has a state of its own: asked behind each number
namespace Go.Proofs.Ytodldpdnhcafpaa.K
open Go.RowKit Go.Shelf Go.Proofs.YtodldpdnhcafpaaW.PrintWords Go.Proofs.YtodldpdnhcafpaaW.PrintLast Go.Proofs.YtodldpdnhcafpaaW.PrintMore
open Go.Proofs.Ytodldpdnhcafpaa.F
attribute [local go_sem] Oper.semAt_some max2_int min2_int max_two min_two
set_option linter.unusedVariables false
set_option linter.unusedSimpArgs false

set_option maxRecDepth 100000 in
set_option maxHeartbeats 2000000 in
theorem walk1_asked (n : Nat) (hn : 1 ≤ n) (lp b1 b2 b3 : Nat) (w0 : World) (A : Option Addr) (c : Nat) (l : List S47) (m : Int) (g : Nat) (lb : Array Value) (sk : Int → Bool) (eg : ∀ args W, (callFunc g args).run Try.prog W = .ok (.enter g args) W) (hl : l.length ≤ 4398046511104) (hc : Kd.C k47 w0 A l.length l) (hlc : l.length ≤ c) (J : Bool → List (Nd l) → World → Prop)
    (hJ : ∀ ph s X Y, J ph s X → Below X.heap.size X Y → J ph s Y)
    (hY : ∀ pre (x : Nd l) W, J false pre W → pre.length < l.length → YieldAt Fence.wide (n - 1) Try.prog lp #[.int .i64 x.1] W fun e W' => e = .returned (.bool true) ∧ J true (pre ++ [x]) W' ∧ KpW w0.heap.size b1 b2 b3 W W')
    (hS : ∀ pre (x : Nd l) W, J true (pre ++ [x]) W → pre.length < l.length → Calls Try.prog g (#[.int .i64 x.1] ++ lb) W fun e W' => e = .returned (.bool (sk x.1)) ∧ J false (pre ++ [x]) W' ∧ KpW w0.heap.size b1 b2 b3 W W')
    (W : World) (hW : Below w0.heap.size w0 W) (h1 : W.heap[b1]? = some (.cells #[.slice A l.length c] 25 (0, 0))) (h2 : W.heap[b2]? = some (.cells #[.int .i64 m] 3 (0, 0))) (h3 : W.heap[b3]? = some (.cells #[.func (.func g) #[] lb] 40 (0, 0))) (h0 : J false [] W) :
    CallsIn Fence.wide n Try.prog 50 #[.func (.yield lp) #[] #[], .pointer (some ⟨b1, 0, none⟩), .pointer (some ⟨b2, 0, none⟩), .pointer (some ⟨b3, 0, none⟩)] W fun e W' => (∃ v, e = .returned v) ∧
      ∃ ys : List (Nd l), valsN ys = walkOf l sk m ∧ J false ys W' := by
  have hu23 := Try.underlying23
  have hu25 := Try.underlying25
  have hu40 := Try.underlying40
  have hu47 := Try.underlying47
  have q1 : W.cell? ⟨b1, 0, none⟩ = some (.slice A l.length c) := (blk_cell h1 0).trans rfl
  have q2 : W.cell? ⟨b2, 0, none⟩ = some (.int .i64 m) := (blk_cell h2 0).trans rfl
  obtain ⟨wl, hwl⟩ : ∃ wl, walkOf l sk m = wl := ⟨_, rfl⟩
  rw [hwl]
  refine callsIn_of_wp Try.func50 rfl trivial ?_ rfl
  simp only [Try.ntmps50, List.size_toArray, List.length_cons, List.length_nil, Nat.reduceAdd, Nat.reduceSub, Array.replicate_succ, Array.replicate_zero, List.push_toArray, List.append_toArray, List.nil_append, List.cons_append]
  gi_wp2
  refine ⟨trivial, ?_⟩
  cases hs : Q.sizedB l m with
  | false =>
    have hwo : wl = [] := by rw [← hwl]; unfold walkOf; rw [hs]; rfl
    subst hwo
    refine (callsIn_wide.2 (tree_sized.calls A c l m false W (Kd.C_below hc hW) hlc (by rw [Q.sized_is l hl m, hs]))).mono ?_
    rintro e w1 ⟨rfl, hb1⟩
    have h01 := hJ _ _ _ _ h0 hb1
    gi_wp2
    refine bodyPost_ret (results_none rfl _ _ _) rfl ?_
    exact ⟨⟨_, rfl⟩, [], rfl, h01⟩
  | true =>
    refine (callsIn_wide.2 (tree_sized.calls A c l m true W (Kd.C_below hc hW) hlc (by rw [Q.sized_is l hl m, hs]))).mono ?_
    rintro e w1 ⟨rfl, hb1⟩
    have hW1 : Below w0.heap.size w0 w1 := hW.trans (hb1.mono hW.size)
    have h01 := hJ _ _ _ _ h0 hb1
    have g1 := blk_below h1 hb1
    have g2 := blk_below h2 hb1
    have g3 := blk_below h3 hb1
    clear q1 q2 h0 h1 h2 h3 hW hb1
    have hs' := hs
    unfold Q.sizedB at hs'
    simp only [Bool.and_eq_true, decide_eq_true_eq] at hs'
    obtain ⟨s1, s2, s3, s4⟩ := hs'
    obtain ⟨ad, rfl, y0, y1, y2, y3⟩ := at_T47 (Kd.C_below hc hW1) m s1 s2
    have q1 : w1.cell? ⟨b1, 0, none⟩ = some (.slice (some ad) l.length c) := (blk_cell g1 0).trans rfl
    have q2 : w1.cell? ⟨b2, 0, none⟩ = some (.int .i64 m) := (blk_cell g2 0).trans rfl
    have hw : wrap64 (m + (rd_T47 l m).f3) = m + (rd_T47 l m).f3 := by unfold wrap64; omega
    have hwo : walkL l sk (m + (rd_T47 l m).f3) l.length m = wl := by rw [← hwl]; unfold walkOf; rw [if_pos hs]
    clear hs hwl
    obtain ⟨en, hen⟩ : ∃ en, m + (rd_T47 l m).f3 = en := ⟨_, rfl⟩
    have hel : en ≤ (l.length : Int) := by omega
    have hme : m < en := by omega
    gi_wp2
    refine wpIn_wide.2 ?_
    go_quiet (fail)
    simp only [hw, hen] at hwo ⊢
    have q2' : (w1.drewN nq).cell? ⟨b2, 0, none⟩ = some (.int .i64 m) := q2
    gi_wp2
    have hd0 : Below w0.heap.size w0 (w1.drewN nq) := pw_below_drewN hW1 nq
    have hj0 : J false [] (w1.drewN nq) := hJ _ _ _ _ h01 (pw_below_drewN (Below.refl _ _) nq)
    have k1 : (w1.drewN nq).heap[b1]? = some (.cells #[.slice (some ad) l.length c] 25 (0, 0)) := blk_drewN g1 nq
    have k3 : (w1.drewN nq).heap[b3]? = some (.cells #[.func (.func g) #[] lb] 40 (0, 0)) := blk_drewN g3 nq
    generalize w1.drewN nq = w2 at hd0 hj0 k1 k3 ⊢
    clear q1 q2 q2' g1 g2 g3 h01 hW1 y0 y1 y2 y3 hw
    gi_loopw [6, 7] (fun v6 v7 wr => ∃ (x : Int) (d : Nat) (pre : List (Nd l)), v6 = .int .i64 x ∧ m ≤ x ∧ x ≤ en ∧ (pre.length : Int) ≤ x - m ∧ en - x ≤ d ∧ valsN pre ++ walkL l sk en d x = wl ∧ J false pre wr ∧ Below w0.heap.size w0 wr ∧ wr.heap[b1]? = some (.cells #[.slice (some ad) l.length c] 25 (0, 0)) ∧ wr.heap[b3]? = some (.cells #[.func (.func g) #[] lb] 40 (0, 0))) (fun v6 v7 _ => (en - intOf v6).toNat)
    case atStart => exact ⟨m, l.length, [], rfl, Int.le_refl _, by omega, by simp, by omega, by simpa [valsN] using hwo, hj0, hd0, k1, k3⟩
    case round =>
      obtain ⟨x, d, pre, rfl, hx, hxe, hpl, hxd, hpre, hJs, hB, r1, r3⟩ := hrel
      by_cases hlt : x < en
      · have hx0 : 0 ≤ x := by omega
        have hxl : x < (l.length : Int) := by omega
        obtain ⟨d, rfl⟩ : ∃ e, d = e + 1 := ⟨d - 1, by omega⟩
        simp only [walkL] at hpre
        rw [if_pos hlt] at hpre
        obtain ⟨fn, tmps, assign, body, hy, hR⟩ := hY pre ⟨x, hx0, hxl⟩ wr hJs (by omega)
        dsimp only at hy
        have hsn : valsN (pre ++ [(⟨x, hx0, hxl⟩ : Nd l)]) = valsN pre ++ [x] := by simp [valsN]
        gi_wp2
        refine hR.mono ?_
        rintro e W3 ⟨rfl, hJ3, hk3⟩
        · have hB3 := hB.trans hk3.1
          have t1 := hk3.2.1.trans r1
          have t3 := hk3.2.2.2.trans r3
          have q3 : W3.cell? ⟨b3, 0, none⟩ = some (.func (.func g) #[] lb) := (blk_cell t3 0).trans rfl
          have hw1 : wrap64 (x + 1) = x + 1 := by unfold wrap64; omega
          have hpl3 : (((pre ++ [(⟨x, hx0, hxl⟩ : Nd l)]).length : Nat) : Int) = (pre.length : Int) + 1 := by rw [List.length_append, List.length_singleton]; rfl
          · have nn := fn_nil W3 g lb
            gi_wp2
            refine ⟨trivial, ?_⟩
            refine (callsIn_wide.2 (hS pre ⟨x, hx0, hxl⟩ W3 hJ3 (by omega))).mono ?_
            rintro e W4 ⟨rfl, hJ4, hk4⟩
            have hB4 := hB3.trans hk4.1
            have v1 := hk4.2.1.trans t1
            have v3 := hk4.2.2.2.trans t3
            dsimp only
            cases hq : sk x with
            | false =>
              rw [hq] at hpre
              simp only [Bool.false_eq_true, if_false] at hpre
              gi_wp2
              go_roundw
              case rel => exact ⟨x + 1, d, pre ++ [⟨x, hx0, hxl⟩], rfl, by omega, by omega, by rw [hpl3]; omega, by omega, by rw [hsn, List.append_assoc]; exact hpre, hJ4, hB4, v1, v3⟩
              case measure => simp only [intOf]; omega
            | true =>
              rw [hq] at hpre
              simp only [if_true] at hpre
              obtain ⟨ad', ea, z0, z1, z2, z3⟩ := at_T47 (Kd.C_below hc hB4) x hx0 hxl
              cases ea
              have q1 : W4.cell? ⟨b1, 0, none⟩ = some (.slice (some ad) l.length c) := (blk_cell v1 0).trans rfl
              have hw3 : wrap64 (en - x) = en - x := by unfold wrap64; omega
              have hdone : ∀ X, valsN pre ++ [x] = X → valsN (pre ++ [(⟨x, hx0, hxl⟩ : Nd l)]) = X := fun X h => by rw [hsn]; exact h
              by_cases c1 : (rd_T47 l x).f3 < 1
              · rw [if_pos c1] at hpre
                gi_wp2
                refine bodyPost_ret (results_none rfl _ _ _) rfl ?_
                exact ⟨⟨_, rfl⟩, _, hdone _ hpre, hJ4⟩
              · rw [if_neg c1] at hpre
                by_cases c2 : (rd_T47 l x).f3 > en - x
                · rw [if_pos c2] at hpre
                  gi_wp2
                  all_goals (refine bodyPost_ret (results_none rfl _ _ _) rfl ?_)
                  all_goals exact ⟨⟨_, rfl⟩, _, hdone _ hpre, hJ4⟩
                · rw [if_neg c2] at hpre
                  have hw4 : wrap64 (x + (rd_T47 l x).f3) = x + (rd_T47 l x).f3 := by unfold wrap64; omega
                  gi_wp2
                  go_roundw
                  case rel => exact ⟨x + (rd_T47 l x).f3, d, pre ++ [⟨x, hx0, hxl⟩], rfl, by omega, by omega, by rw [hpl3]; omega, by omega, by rw [hsn, List.append_assoc]; exact hpre, hJ4, hB4, v1, v3⟩
                  case measure => simp only [intOf]; omega
      · gi_wp2
        go_end0
        refine ⟨⟨_, rfl⟩, pre, ?_, hJs⟩
        rw [← hpre]
        cases d with
        | zero => simp [walkL]
        | succ d => simp only [walkL]; rw [if_neg (by omega), List.append_nil]

/-- What an iterator gives that asks a function behind each number. -/
def SeqAsk {α : Type} (n : Nat) (P : Program) (gf : Nat) (lb : Array Value) (g2 : Nat) (lb2 : Array Value) (enc : α → Value) (sk : α → Bool) (Kp : World → World → Prop) (S : List α → Prop) (M : Nat) (w : World) : Prop :=
  ∀ (l : Nat) (J : Bool → List α → World → Prop) (W : World), Below w.heap.size w W → (∀ ph, AbidesFrom W.heap.size (J ph)) →
    (∀ pre x W1, J false pre W1 → pre.length < M → YieldAt Fence.wide (n - 1) P l #[enc x] W1 fun e W' => e = .returned (.bool true) ∧ J true (pre ++ [x]) W' ∧ Kp W1 W') →
    (∀ pre x W1, J true (pre ++ [x]) W1 → pre.length < M → Calls P g2 (#[enc x] ++ lb2) W1 fun e W' => e = .returned (.bool (sk x)) ∧ J false (pre ++ [x]) W' ∧ Kp W1 W') →
    J false [] W →
    CallsIn Fence.wide n P gf (#[.func (.yield l) #[] #[]] ++ lb) W fun e W' => (∃ v, e = .returned v) ∧ ∃ xs, S xs ∧ J false xs W'
theorem walk_asks (b1 b2 b3 : Nat) (w0 w : World) (A : Option Addr) (c : Nat) (l : List S47) (m : Int) (g : Nat) (lb : Array Value) (sk : Int → Bool) (eg : ∀ args W, (callFunc g args).run Try.prog W = .ok (.enter g args) W) (hl : l.length ≤ 4398046511104) (hc : Kd.C k47 w0 A l.length l) (hlc : l.length ≤ c)
    (hW : Below w0.heap.size w0 w) (h1 : w.heap[b1]? = some (.cells #[.slice A l.length c] 25 (0, 0))) (h2 : w.heap[b2]? = some (.cells #[.int .i64 m] 3 (0, 0))) (h3 : w.heap[b3]? = some (.cells #[.func (.func g) #[] lb] 40 (0, 0))) :
    SeqAsk 2 Try.prog 50 #[.pointer (some ⟨b1, 0, none⟩), .pointer (some ⟨b2, 0, none⟩), .pointer (some ⟨b3, 0, none⟩)] g lb (fun x : Nd l => .int .i64 x.1) (fun x => sk x.1) (KpW w0.heap.size b1 b2 b3) (fun ys => valsN ys = walkOf l sk m) l.length w :=
  fun lp J W hb hJ hY hS h0 => walk1_asked 2 (by omega) lp b1 b2 b3 w0 A c l m g lb sk eg hl hc hlc J (fun ph s X Y h hb => hJ ph s X Y none h ⟨hb.os, hb.tape, hb.output, hb.size, fun k hk _ => hb.block k hk⟩ (fun r e => by cases e)) hY hS W (hW.trans (hb.mono hW.size)) (blk_below h1 hb) (blk_below h2 hb) (blk_below h3 hb) h0

/-- The loop over such an iterator. -/
theorem rfS {P : Program} {α : Type} {g : Operand} {p s : Tmp} {assign body : Code} {Q : Exit → Act → World → Prop} {a : Act} {w : World} {gf : Nat} {lb : Array Value} {g2 : Nat} {lb2 : Array Value} {sk : α → Bool}
    (hg : a.eval g = .func (.func gf) #[] lb) (eg : ∀ args w, (callFunc gf args).run P w = .ok (.enter gf args) w)
    {enc : α → Value} {Kp : World → World → Prop} {S : List α → Prop} {M : Nat} (hseq : SeqAsk 2 P gf lb g2 lb2 enc sk Kp S M w)
    (hKt : ∀ {A B C : World}, Kp A B → Kp B C → Kp A C) (hKb : ∀ (W : World) (l : Nat) (o o' : Obj), w.heap.size ≤ l → W.heap[l]? = some o → o.isCells = false → o.isWalk = false → Kp W (W.putObj l o'))
    (I : Bool → List α → World → Prop) (hI : ∀ ph, OwnFrom w.heap.size (I ph)) (h0 : I false [] w)
    (hassign : ∀ (l : Nat) (x : α) (W : World) (K : Act → World → Prop), K { tmps := (a.tmps.setIfInBounds p (enc x)).setIfInBounds s (enc x), defers := [] } W →
      assign.wpIn (Fence.wide.inRound l) 1 P (Exit.then K (fun _ _ _ => False)) { tmps := a.tmps.setIfInBounds p (enc x), defers := [] } W)
    (hbody : ∀ (l : Nat) (pre : List α) (x : α) (W : World), I false pre W → pre.length < M → body.wpIn (Fence.wide.inRound l) 1 P (ownPostG w.heap.size Kp (I true) (fun _ _ _ => False) (pre ++ [x]) W) { tmps := (a.tmps.setIfInBounds p (enc x)).setIfInBounds s (enc x), defers := [] } W)
    (hskip : ∀ (pre : List α) (x : α) (W : World), I true (pre ++ [x]) W → pre.length < M → Calls P g2 (#[enc x] ++ lb2) W fun e W' => e = .returned (.bool (sk x)) ∧ KeepsFrom w.heap.size W W' ∧ Kp W W' ∧ I false (pre ++ [x]) W')
    (hdone : ∀ (D : Nat) (xs : List α) (W : World), w.heap.size ≤ D → S xs → I false xs W → W.heap[D]? = some (.deferred (some [])) → Q .normal { a with defers := { target := .collected D, args := #[] } :: a.defers } W) :
    (Code.rangeFunc g #[p] assign body).wp P Q a w := by
  refine (wpIn_wide (n := 3)).1 (wpIn_rangeFunc ?_)
  intro fn hfn
  obtain ⟨rec, hrec⟩ : ∃ rec : LoopState → Option Code → Loop, rec = fun st pe => { state := st, pending := pe, fn, tmps := a.tmps, params := #[p], assign, body, defers := w.heap.size } := ⟨_, rfl⟩
  obtain ⟨W1, hW1⟩ : ∃ W1, (w.alloc (.deferred (some []))).alloc (.loop (rec .ready none)) = W1 := ⟨_, rfl⟩
  have hL1 : W1.heap[w.heap.size + 1]? = some (.loop (rec .ready none)) := by
    rw [← hW1]
    have := World.alloc_heap_new (w.alloc (.deferred (some []))) (.loop (rec .ready none))
    rwa [World.size_alloc] at this
  have hK1 : W1.heap[w.heap.size]? = some (.deferred (some [])) := by
    rw [← hW1]
    exact (Below.heap_alloc _ _ _ (by simp)).trans (World.alloc_heap_new w _)
  have hI1 : I false [] W1 := by rw [← hW1]; exact (hI _).alloc _ ((hI _).alloc _ h0)
  have hb1 : Below w.heap.size w W1 := by
    rw [← hW1]
    exact ((Below.refl _ w).alloc (Nat.le_refl _) _).alloc (by simp) _
  have hsz1 : w.heap.size ≤ W1.heap.size := hb1.size
  refine ⟨w.heap.size + 1, [{ target := .collected w.heap.size, args := #[] }], W1, { target := .fn (.func gf) lb, args := #[.func (.yield (w.heap.size + 1)) #[] #[]] }, W1, gf,
    #[.func (.yield (w.heap.size + 1)) #[] #[]] ++ lb, W1, ?_, ?_, fun _ _ => trivial, ?_, fun _ => by omega, ?_⟩
  · rw [← hW1, hrec]; exact run_enterLoop_outer _ _ _ _ _
  · simp only [resolve, hg]
    simp [go_sem]
  · simp [invoke, go_sem, eg]
  · refine (hseq (w.heap.size + 1) (fun ph pre W => I ph pre W ∧ W.heap[w.heap.size + 1]? = some (.loop (rec .ready none)) ∧ W.heap[w.heap.size]? = some (.deferred (some []))) W1 hb1
      (fun ph s A B row hs hg' hr => ⟨hI ph s A B row hs.1 hg' (fun r e => by obtain ⟨hB, o, ho, hw⟩ := hr r e; exact ⟨by omega, o, ho, Obj.not_cells_of_walk hw⟩), (grownBy_keeps hg' (fun r e => (hr r e).2) hs.2.1 rfl).trans hs.2.1, (grownBy_keeps hg' (fun r e => (hr r e).2) hs.2.2 rfl).trans hs.2.2⟩)
      ?_ ?_ ⟨hI1, hL1, hK1⟩).mono ?_
    · rintro pre x W ⟨hi, hl, hk⟩ hlen
      have hlt : w.heap.size + 1 < W.heap.size := (Array.getElem?_eq_some_iff.1 hl).1
      have hy := run_yield (P := P) (args := #[enc x]) hl (by rw [hrec]; rfl)
      rw [hrec] at hy
      have hass := hassign (w.heap.size + 1) x W
      refine ⟨fn, _, assign, body, hy, roundIn_of_wpIn hfn ?_⟩
      have hst : ∀ t : Array Value, (#[p].zip #[enc x]).foldl (fun t (q : Tmp × Value) => t.setIfInBounds q.1 q.2) t = t.setIfInBounds p (enc x) := fun t => by simp
      have hgoal := hass (fun a₁ w₁ => ∃ w₂, (Instr.beginRound (w.heap.size + 1)).run P w₁ = .ok () w₂ ∧ body.wpIn (Fence.wide.inRound (w.heap.size + 1)) 1 P (roundPost P (w.heap.size + 1) (fun e W' => e = .returned (.bool true) ∧ (I true (pre ++ [x]) W' ∧ W'.heap[w.heap.size + 1]? = some (.loop (rec .ready none)) ∧ W'.heap[w.heap.size]? = some (.deferred (some []))) ∧ Kp W W')) a₁ w₂) ⟨_, run_beginRound hl (by rw [hrec]), ?_⟩
      · simpa using hgoal
      have hl2 : (W.putObj (w.heap.size + 1) (.loop { rec .ready none with state := .busy })).heap[w.heap.size + 1]? = some (.loop { rec .ready none with state := .busy }) := World.putObj_heap_same hlt
      have hk2 : (W.putObj (w.heap.size + 1) (.loop { rec .ready none with state := .busy })).heap[w.heap.size]? = some (.deferred (some [])) := (World.putObj_heap_other (by omega)).trans hk
      have hw2 : Kp W (W.putObj (w.heap.size + 1) (.loop { rec .ready none with state := .busy })) := hKb _ _ _ _ (by omega) hl rfl rfl
      refine wpIn_mono (hbody _ pre x _ ((hI _).putObj _ hi (by omega) hl rfl) hlen) ?_
      rintro e a3 W3 hp
      cases e with
      | normal =>
        obtain ⟨hk3, hkp3, hi3⟩ := hp
        have hl3 := hk3.same _ _ (by omega) hl2 rfl
        have hr := run_endRound (P := P) none hl3
        have hl4 : (W3.putObj (w.heap.size + 1) (.loop (rec .ready none))).heap[w.heap.size + 1]? = some (.loop (rec .ready none)) := World.putObj_heap_same (Array.getElem?_eq_some_iff.1 hl3).1
        refine ⟨.bool true, W3.putObj (w.heap.size + 1) (.loop (rec .ready none)), ?_, rfl, ⟨(hI _).putObj _ hi3 (by omega) hl3 rfl, hl4, (World.putObj_heap_other (by omega)).trans (hk3.same _ _ (Nat.le_refl _) hk2 rfl)⟩, hKt (hKt hw2 hkp3) (hKb _ _ _ _ (by omega) hl3 rfl rfl)⟩
        rw [hrec] at hr ⊢
        exact hr
      | ret => exact hp.2.elim
      | exit id => exact hp.2.elim
      | goto t => exact hp.2.elim
      | panic ch => exact hp.elim
      | outgrown => exact hp.elim
    · rintro pre x W ⟨hi, hl, hk⟩ hlen
      refine (hskip pre x W hi hlen).mono ?_
      rintro e W' ⟨he, hkf, hkp, hi'⟩
      exact ⟨he, ⟨hi', hkf.same _ _ (by omega) hl rfl, hkf.same _ _ (Nat.le_refl _) hk rfl⟩, hkp⟩
    · rintro e W2 ⟨⟨v, rfl⟩, xs, hS, hi, hl, hk⟩
      refine ⟨none, W2.putObj (w.heap.size + 1) (.loop { rec .ready none with state := .exhausted }), ?_, ?_⟩
      · have := run_endLoop (P := P) hl (by rw [hrec]; simp)
        rw [hrec] at this ⊢
        exact this
      · exact hdone _ xs _ (Nat.le_refl _) hS ((hI _).putObj _ hi (by omega) hl rfl) ((World.putObj_heap_other (by omega)).trans hk)
end Go.Proofs.Ytodldpdnhcafpaa.K

-- TreeFamily: the law (17); made by wip/mklfamily.py
namespace Go.Proofs.Ytodldpdnhcafpaa.L
open Go.RowKit Go.Shelf Go.Proofs.YtodldpdnhcafpaaW.PrintWords Go.Proofs.YtodldpdnhcafpaaW.PrintLast Go.Proofs.YtodldpdnhcafpaaW.PrintMore
open Go.Proofs.Ytodldpdnhcafpaa.F Go.Proofs.Ytodldpdnhcafpaa.H Go.Proofs.Ytodldpdnhcafpaa.K
attribute [local go_sem] Oper.semAt_some
set_option linter.unusedVariables false
set_option linter.unusedSimpArgs false

/-- What lies still. -/
structure Fam (t : ByteArray) (A1 A2 : Option Addr) (c1 m1 c2 m2 : Nat) (g2 g4 g5 : Nat) (W : World) : Prop where
  b2 : W.heap[g2]? = some (.cells #[.string t, .slice A1 m1 c1, .slice A2 m2 c2] 27 (0, 0))
  b4 : W.heap[g4]? = some (.cells #[.bool false] 4 (0, 0))
  b5 : W.heap[g5]? = some (.cells #[.slice A2 m2 c2] 25 (0, 0))
theorem Fam.below {t : ByteArray} {A1 A2 : Option Addr} {c1 m1 c2 m2 g2 g4 g5 : Nat} {W W' : World} (h : Fam t A1 A2 c1 m1 c2 m2 g2 g4 g5 W) (hb : Below W.heap.size W W') : Fam t A1 A2 c1 m1 c2 m2 g2 g4 g5 W' := ⟨blk_below h.b2 hb, blk_below h.b4 hb, blk_below h.b5 hb⟩
theorem fn38F (W : World) (lb : Array Value) : (binOp BinOp.eql 38 (Value.func (.func 50) #[] lb) Value.nilFunc).run Try.prog W = .ok (.bool false) W := by
  first | rfl | (simp [binOp, go_sem, Try.underlying38]; done)
/-- The way out: the result lies in a cell. -/
theorem fam_out (w : World) (g4 : Nat) (b : Bool) (tmps : Array Value) (h4 : tmps.getD 4 undef = .pointer (some ⟨g4, 0, none⟩)) (ds : List Nat) (W : World) (hd : ∀ D ∈ ds, w.heap.size ≤ D ∧ W.heap[D]? = some (.deferred (some []))) (hn : ds.Nodup)
    (hb : W.heap[g4]? = some (.cells #[.bool b] 4 (0, 0))) (hB : Below w.heap.size w W) :
    LeavesInM Fence.wide 3 Try.prog Try.f17 tmps (fun e w' => e = .returned (.bool b) ∧ Below w.heap.size w w') (ds.map F.mark) .returning W :=
  out_marks w (fun W => W.heap[g4]? = some (.cells #[.bool b] 4 (0, 0)) ∧ Below w.heap.size w W)
    (fun W D h h1 h2 => ⟨(World.putObj_heap_other (fun e => by rw [e] at h; rw [h.1] at h2; cases h2)).trans h.1, h.2.grown (grownBy_putObj' W D _) h.2.size (fun k e => by cases e; exact h1)⟩)
    (fun W h => ⟨.bool b, by
      have hc : W.cell? ⟨g4, 0, none⟩ = some (.bool b) := (blk_cell h.1 0).trans rfl
      have hres : Try.f17.results = #[.cell 4 4] := rfl
      unfold results
      rw [hres]
      simp only [Array.mapM_eq_mapM_toList, List.mapM_cons, List.mapM_nil] <;> simp [h4] <;> go_simp, rfl, h.2⟩) ds W hd hn ⟨hb, hB⟩
theorem walk_all {l : List S47} (hg : Q.Good l) {n : Int} (h0 : 0 ≤ n) (h1 : n < (l.length : Int)) : ((walkOf l (fun _ => false) n).length : Int) = Q.En l n - n ∧ ∀ i (h : i < (walkOf l (fun _ => false) n).length), (walkOf l (fun _ => false) n)[i] = n + (i : Int) := by
  have h := hg n h0 h1
  rw [Q.kspec_C, Bool.and_eq_true] at h
  obtain ⟨g1, g2, _, _⟩ := Q.good_at hg h0 h1
  have e : walkOf l (fun _ => false) n = walkL l (fun _ => false) (n + (rd_T47 l n).f3) l.length n := by unfold walkOf; rw [if_pos h.1]
  rw [e]
  unfold Q.En at *
  exact ⟨Q.walk_plain_len l _ _ n (by omega) (by omega), Q.walk_plain l _ _ n (by omega)⟩
theorem keeps_cell {B g : Nat} {W : World} (v : Value) : KeepsFrom B W (W.setCell ⟨g, 0, none⟩ v) := (KeepsOthers.setCell _ _ _).from _
def family_walk.T35 : Bool × List (List Nat × List Nat) := (true, [([], []), ([], []), ([1], [1]), ([0, 2, 2], [0, 2]), ([3, 3, 0, 1, 2, 3], [3])])
def family_walk.B35 : List Nat := [0, 0, 2, 7, 15]
theorem family_walk.tab35 : rtab .any (opsOf Try.f17 35) = family_walk.T35 := by kernel_rfl
theorem family_walk.bits35 : waitsOk family_walk.T35.2 family_walk.B35 = true := by kernel_rfl
theorem ownsMap_below {w w' : World} {k : TypeId} {R : Value → Option (DataW Unit × List MemPlace)} {b n : Nat} {D : DataW Unit} (h : w.ownsMap Try.prog k R b n D) (hb : Below w.heap.size w w') : w'.ownsMap Try.prog k R b n D := by
  have hlt := h.lt
  obtain ⟨es, clock, hx, F, hs, hD⟩ := h
  exact ⟨es, clock, (hb.block b hlt).trans hx, F, hs, hD⟩
/-- How often each number has been given so far. -/
def GivenM (gm : Nat) (ys : List Int) (W : World) : Prop := ∃ D : DataW Unit, W.ownsMap Try.prog 3 (plainElem (H := Unit) Try.prog 3) gm ys.length D ∧ Go.Maps.IsMap D ∧ ∀ n : Int, D.atKey (.int .i64 n) (.lit (.int .i64 0)) = .lit (.int .i64 (ys.count n : Int))
theorem GivenM.below {gm : Nat} {ys : List Int} {W W' : World} (h : GivenM gm ys W) (hb : Below W.heap.size W W') : GivenM gm ys W' := by
  obtain ⟨D, h1, h2, h3⟩ := h
  exact ⟨D, ownsMap_below h1 hb, h2, h3⟩
theorem GivenM.own {α : Type} {gm B : Nat} (hB : gm < B) (f : List α → List Int) : OwnFrom B (fun pre W => GivenM gm (f pre) W) := by
  rintro s A A' row ⟨D, h1, h2, h3⟩ hg hr
  exact ⟨D, h1.kept hg (fun e => by have := (hr gm e.symm).1; omega), h2, h3⟩
theorem given_step {D : DataW Unit} {ys : List Int} {y : Int} (hD : Go.Maps.IsMap D) (h : ∀ n : Int, D.atKey (.int .i64 n) (.lit (.int .i64 0)) = .lit (.int .i64 (ys.count n : Int))) (n : Int) :
    (D.put (.int .i64 y) (.lit (.int .i64 ((ys.count y : Int) + 1)))).atKey (.int .i64 n) (.lit (.int .i64 0)) = .lit (.int .i64 ((ys ++ [y]).count n : Int)) := by
  by_cases e : n = y
  · subst e
    rw [Go.Maps.atKey_put_same (k := .int .i64 n) hD trivial]
    simp
  · rw [Go.Maps.atKey_put_other (by simpa using e), h n]
    have : ¬ y = n := fun h => e h.symm
    simp [List.count_append, List.count_cons, this]
theorem given_count {ns : List S47} (hg : Q.Good ns) (h0 : 0 < ns.length) (hz : (rd_T47 ns 0).f3 = (ns.length : Int)) (sk : Int → Bool) (i : Nat) (hi : i < ns.length) : ((walkOf ns sk 0).count (i : Int) : Int) = if (i : Int) < Q.hidOf ns sk i then 0 else 1 := by
  have hnd : (walkOf ns sk 0).Nodup := by
    unfold walkOf
    split
    · exact (Q.walkL_rises sk _ _ _).imp (fun h => Int.ne_of_lt h)
    · exact List.nodup_nil
  by_cases c : (i : Int) < Q.hidOf ns sk i
  · rw [if_pos c]
    have : (i : Int) ∉ walkOf ns sk 0 := fun h => (Q.walk_given hg h0 hz sk i hi).1 h c
    rw [List.count_eq_zero_of_not_mem this]
    rfl
  · rw [if_neg c]
    have hm := (Q.walk_given hg h0 hz sk i hi).2 c
    rw [List.Nodup.count hnd, if_pos hm]
    rfl
theorem law3F : Go.Maps.Keyed Try.prog 3 := Go.Maps.int_keyed Try.underlying3
theorem zero3F (w : World) : (zeroValue 3).run Try.prog w = .ok (.int .i64 0) w := by kernel_rfl
set_option maxHeartbeats 8000000 in
set_option maxRecDepth 100000 in
theorem family_walk (t : ByteArray) (A1 : Option Addr) (c1 : Nat) (ps : List S61) (A2 : Option Addr) (c2 : Nat) (ns : List S47) (bits : Int) (w : World)
    (hs : t.size ≤ 140737488351232) (hr1 : Kd.C k61 w A1 ps.length ps) (hc1 : ps.length ≤ c1) (hn1 : A1 = none → c1 = 0) (hB1 : ∀ x ∈ ps, B61 x) (hb1 : ps.length * 24 ≤ 140737488351232)
    (hr2 : Kd.C k47 w A2 ns.length ns) (hc2 : ns.length ≤ c2) (hn2 : A2 = none → c2 = 0) (hB2 : ∀ x ∈ ns, B47 x) (hb2 : ns.length * 32 ≤ 140737488351232)
    (hw2 : (Lit.int .u64 bits).wf = true) :
    Calls Try.prog 17 #[.agg #[.string t, .slice A1 ps.length c1, .slice A2 ns.length c2], .int .u64 bits] w fun e w' => e = .returned (.bool true) ∧ Below w.heap.size w w' := by
  have hu3 := Try.underlying3
  have hu25 := Try.underlying25
  have hu27 := Try.underlying27
  have hu33 := Try.underlying33
  have hu36 := Try.underlying36
  have hu38 := Try.underlying38
  have hu40 := Try.underlying40
  have hnl : ns.length ≤ 4398046511104 := by omega
  obtain ⟨v, hv⟩ : ∃ v, Q.validB ns (ps.length : Int) = v := ⟨_, rfl⟩
  have hu8 : ∀ x ∈ ns, 0 ≤ x.f0 ∧ x.f0 ≤ 255 := fun x hx => by
    have h := (hB2 x hx).1
    simp [Lit.wf, IntKind.min, IntKind.max, IntKind.bits, IntKind.signed] at h
    omega
  obtain ⟨k1, hk1⟩ := (Q.RValid_is ns hnl hu8 (ps.length : Int)).rounds
  obtain ⟨k2, hk2⟩ := (Q.Valid_is ns hnl (ps.length : Int)).rounds
  rw [hv] at hk1 hk2
  have HVV := Aside0.mk hv
  have HK1 := Aside0.mk hk1
  have HK2 := Aside0.mk hk2
  have HNL := Aside0.mk hnl
  have HPL := Aside0.mk (show ps.length ≤ 8796093022208 by omega)
  have HR2 := Aside0.mk hr2
  have HC2 := Aside0.mk hc2
  clear hr1 hr2 hc1 hc2 hn1 hn2 hB1 hB2 hu8 hk1 hk2 hw2 hv hb1 hb2 hs hnl
  have HB := Aside0.mk (Below.refl w.heap.size w)
  refine (callsIn_wide (n := 3)).1 ?_
  refine callsIn_of_wp_marks Try.func17 rfl trivial ?_ rfl
  simp only [Try.ntmps17, List.size_toArray, List.length_cons, List.length_nil, Nat.reduceAdd, Nat.reduceSub, Array.replicate_succ, Array.replicate_zero, List.push_toArray, List.append_toArray, List.nil_append, List.cons_append]
  refine wpIn_wide.2 ?_
  go_upto_region 2 with (first | ((with_reducible refine gate_dst (N := 2) rfl ?_); refine box_event ?hg2 (N := 2) ?hd2 (cs := #[.string t, .slice A1 ps.length c1, .slice A2 ns.length c2]) (t := 27) ?hr2 ?_; (case hd2 => rfl); (case hg2 => rfl); (case hr2 => first | (go_simp; done) | (go_simp; rfl)); intro g2 hg w1 hbox hb; have n0_ := Aside0.mk (below_step HB.out hb); have BK2 := Aside0.mk hbox; have G2 := Aside0.mk (show w.heap.size ≤ g2 by rw [hg]; exact Nat.le_refl _); clear HB hb hbox hg; have HB := n0_; clear n0_) | ((with_reducible refine gate_dst (N := 4) rfl ?_); refine box_event ?hg4 (N := 4) ?hd4 (cs := #[.bool false]) (t := 4) ?hr4 ?_; (case hd4 => rfl); (case hg4 => rfl); (case hr4 => first | (go_simp; done) | (go_simp; rfl)); intro g4 hg w2 hbox hb; have n0_ := Aside0.mk (below_step HB.out hb); have n1_ := Aside0.mk (blk_below BK2.out hb); have BK4 := Aside0.mk hbox; have G4 := Aside0.mk (show w.heap.size ≤ g4 by rw [hg]; exact HB.out.size); clear HB BK2 hb hbox hg; have HB := n0_; have BK2 := n1_; clear n0_ n1_; have hz1 : w2.cell? ⟨g2, 1, none⟩ = some (.slice A1 ps.length c1) := (blk_cell BK2.out 1).trans rfl; have hz2 : w2.cell? ⟨g2, 2, none⟩ = some (.slice A2 ns.length c2) := (blk_cell BK2.out 2).trans rfl))
  have hb5 : (w2.alloc (.cells #[.slice A2 ns.length c2] 25)).heap[w2.heap.size]? = some (.cells #[.slice A2 ns.length c2] 25 (0, 0)) := blk_new w2 _
  have hbl := below_alloc (Below.refl w2.heap.size w2) (.cells #[.slice A2 ns.length c2] 25)
  have hF0 : Fam t A1 A2 c1 ps.length c2 ns.length g2 g4 w2.heap.size (w2.alloc (.cells #[.slice A2 ns.length c2] 25)) := ⟨blk_below BK2.out hbl, blk_below BK4.out hbl, hb5⟩
  have hB0 := below_step HB.out hbl
  have g5w : w.heap.size ≤ w2.heap.size := HB.out.size
  clear HB BK2 BK4 hb5 hbl hz1 hz2
  generalize w2.alloc (.cells #[.slice A2 ns.length c2] 25) = w3 at hF0 hB0 ⊢
  generalize w2.heap.size = g5 at hF0 g5w ⊢
  have HF0 := Aside0.mk hF0
  have HB := Aside0.mk hB0
  have G5 := Aside0.mk g5w
  clear hF0 hB0 g5w
  have x1 : w3.cell? ⟨g2, 1, none⟩ = some (.slice A1 ps.length c1) := (blk_cell HF0.out.b2 1).trans rfl
  have x5 : w3.cell? ⟨g5, 0, none⟩ = some (.slice A2 ns.length c2) := (blk_cell HF0.out.b5 0).trans rfl
  go_wp2_with (fail)
  refine (monikerref4_Valid.calls k1 A2 c2 ns (ps.length : Int) v _ (Kd.C_below HR2.out HB.out) HC2.out HK1.out).mono ?_
  rintro e w4 ⟨rfl, hb⟩
  have HF1 := Aside0.mk (HF0.out.below hb)
  have n0_ := Aside0.mk (below_step HB.out hb)
  clear HB HF0 x1 x5 hb
  have HB := n0_
  clear n0_
  have x1 : w4.cell? ⟨g2, 1, none⟩ = some (.slice A1 ps.length c1) := (blk_cell HF1.out.b2 1).trans rfl
  have x4 : w4.cell? ⟨g4, 0, none⟩ = some (.bool false) := (blk_cell HF1.out.b4 0).trans rfl
  have x5 : w4.cell? ⟨g5, 0, none⟩ = some (.slice A2 ns.length c2) := (blk_cell HF1.out.b5 0).trans rfl
  cases v with
  | false =>
    go_wp2_with (fail)
    refine (tree_Valid.calls k2 A2 c2 ns (ps.length : Int) false _ (Kd.C_below HR2.out HB.out) HC2.out HK2.out).mono ?_
    rintro e w5 ⟨rfl, hb⟩
    have hF2 := HF1.out.below hb
    have hB2 := below_step HB.out hb
    have z4 : w5.cell? ⟨g4, 0, none⟩ = some (.bool false) := (blk_cell hF2.b4 0).trans rfl
    have f4 := blk_frozen hF2.b4 0
    have HF2 := Aside0.mk hF2
    have HB2 := Aside0.mk hB2
    clear hF2 hB2 hb x1 x4 x5
    go_wp2_with (fail)
    refine fam_out w g4 true _ rfl [] _ (fun D h => by cases h) List.nodup_nil (blk_put HF2.out.b4 0 _ rfl) (below_set HB2.out G4.out)
  | true =>
    obtain ⟨hG, hl0, hz⟩ := Q.good_of HVV.out
    have HG := Aside0.mk hG
    have HL0 := Aside0.mk hl0
    have HZ := Aside0.mk hz
    obtain ⟨ku, hku⟩ := (Q.Up_is ns HNL.out 0).rounds
    rw [Q.up_zero] at hku
    have HU := Aside0.mk hku
    clear hG hl0 hz hku
    go_wp2_with (fail)
    refine (tree_Up.calls ku A2 c2 ns 0 (-1) _ (Kd.C_below HR2.out HB.out) HC2.out HU.out).mono ?_
    rintro e w5 ⟨rfl, hb⟩
    have HF2 := Aside0.mk (HF1.out.below hb)
    have n0_ := Aside0.mk (below_step HB.out hb)
    clear HB HF1 x1 x4 x5 hb HU
    have HB := n0_
    clear n0_
    have x5 : w5.cell? ⟨g5, 0, none⟩ = some (.slice A2 ns.length c2) := (blk_cell HF2.out.b5 0).trans rfl
    go_wp2_with (fail)
    clear x5
    refine name_loop ?_
    intro Lcode hL
    refine name_post ?_
    intro Qpost hQ
    refine wp_loop_rounds (ns.length + 1) ?_
    have key : ∀ (d : Nat) (x s : Int) (ds : List Nat) (u7 u8 u9 u10 u11 u12 u13 u41 u42 u43 u44 u45 u46 u47 u48 u49 u50 u51 u52 u53 u54 u55 u56 u57 u58 u59 u60 u61 u62 u63 u64 u65 u66 u67 u68 u69 u70 u71 u72 u73 u74 u75 u76 u77 u78 u79 u80 u81 u82 u83 u84 u85 u86 u87 u88 u89 u90 u91 u92 u93 u94 u95 u96 u97 u98 u99 u100 u101 u102 u103 u104 u105 u106 u107 u108 u109 : Value) (W : World), 0 ≤ x → x ≤ (ns.length : Int) → (ns.length : Int) - x = d → s = (Q.sumK ns x.toNat 0 : Int) →
        (∀ D ∈ ds, w.heap.size ≤ D ∧ W.heap[D]? = some (.deferred (some []))) → ds.Nodup → Fam t A1 A2 c1 ps.length c2 ns.length g2 g4 g5 W → Below w.heap.size w W →
        Code.rounds Try.prog Lcode Qpost (d + 1) { tmps := #[.agg #[.string t, .slice A1 ps.length c1, .slice A2 ns.length c2], .int .u64 bits, .pointer (some ⟨g2, 0, none⟩), undef, .pointer (some ⟨g4, 0, none⟩), .pointer (some ⟨g5, 0, none⟩), .int .i64 s, u7, u8, u9, u10, u11, u12, u13, undef, undef, undef, undef, undef, undef, .pointer (some ⟨g2, 2, none⟩), .agg #[.slice A2 ns.length c2], .agg #[.slice A2 ns.length c2], .pointer (some ⟨g2, 1, none⟩), .slice A1 ps.length c1, .int .i64 (ps.length : Int), .bool true, .bool false, undef, undef, undef, undef, undef, undef, .agg #[.slice A2 ns.length c2], .int .i64 (-1), .bool false, .pointer (some ⟨g5, 0, none⟩), .slice A2 ns.length c2, .int .i64 (ns.length : Int), .int .i64 x, u41, u42, u43, u44, u45, u46, u47, u48, u49, u50, u51, u52, u53, u54, u55, u56, u57, u58, u59, u60, u61, u62, u63, u64, u65, u66, u67, u68, u69, u70, u71, u72, u73, u74, u75, u76, u77, u78, u79, u80, u81, u82, u83, u84, u85, u86, u87, u88, u89, u90, u91, u92, u93, u94, u95, u96, u97, u98, u99, u100, u101, u102, u103, u104, u105, u106, u107, u108, u109, undef, undef, undef, undef, undef, undef, undef, undef, undef, undef, undef, undef, undef, undef, undef, undef, undef, undef, undef, undef, undef, undef, undef, undef, undef, undef, undef, undef, undef, undef, undef, undef, undef, undef, undef, undef, undef, undef, undef, undef, undef, undef, undef, undef, undef, undef], defers := ds.map F.mark } W := by
      intro d
      induction d with
      | zero =>
        intro x s ds u7 u8 u9 u10 u11 u12 u13 u41 u42 u43 u44 u45 u46 u47 u48 u49 u50 u51 u52 u53 u54 u55 u56 u57 u58 u59 u60 u61 u62 u63 u64 u65 u66 u67 u68 u69 u70 u71 u72 u73 u74 u75 u76 u77 u78 u79 u80 u81 u82 u83 u84 u85 u86 u87 u88 u89 u90 u91 u92 u93 u94 u95 u96 u97 u98 u99 u100 u101 u102 u103 u104 u105 u106 u107 u108 u109 W h0 hx hd hs hm hn hF hB
        rw [rounds_succ]
        have hge : (x < (ns.length : Int)) = False := eq_false (by omega)
        rw [← hL]
        subst hQ
        have HM := Aside0.mk hm
        have HN := Aside0.mk hn
        have HFW := Aside0.mk hF
        have HBW := Aside0.mk hB
        have HS := Aside0.mk (show s = (ns.length : Int) - 1 by
          rw [hs, show x.toNat = ns.length by omega]
          exact Q.sumK_all HG.out HL0.out HZ.out)
        clear hL hd hm hn hF hB HB HF2 hs
        have hmm := @run_makeMap Try.prog
        have hu65 := Try.underlying65
        have x5 : W.cell? ⟨g5, 0, none⟩ = some (.slice A2 ns.length c2) := (blk_cell HFW.out.b5 0).trans rfl
        go_upto_region 35 with (fail)
        clear x5
        have hbl := below_alloc (below_alloc (Below.refl W.heap.size W) (.map #[] 0)) (.cells #[.map (some W.heap.size)] 65)
        have hfa := HFW.out.below hbl
        have hba := below_step HBW.out hbl
        have hma := marks_below HM.out hbl
        have hsz : (W.alloc (.map #[] 0)).heap.size = W.heap.size + 1 := World.size_alloc _ _
        have hmp : ((W.alloc (.map #[] 0)).alloc (.cells #[.map (some W.heap.size)] 65)).ownsMap Try.prog 3 (plainElem (H := Unit) Try.prog 3) W.heap.size 0 (.map []) := (World.ownsMap_made W Try.prog 3 _).alloc _
        have hb15 : ((W.alloc (.map #[] 0)).alloc (.cells #[.map (some W.heap.size)] 65)).heap[W.heap.size + 1]? = some (.cells #[.map (some W.heap.size)] 65 (0, 0)) := by rw [← hsz]; exact blk_new _ _
        have hgm := HBW.out.size
        have hltm : g2 < W.heap.size ∧ g4 < W.heap.size ∧ g5 < W.heap.size ∧ ∀ D ∈ ds, D < W.heap.size := ⟨blk_lt HFW.out.b2, blk_lt HFW.out.b4, blk_lt HFW.out.b5, fun D hD => blk_lt (HM.out D hD).2⟩
        clear hbl hsz HFW HBW HM
        generalize (W.alloc (.map #[] 0)).alloc (.cells #[.map (some W.heap.size)] 65) = w7 at hfa hba hma hmp hb15 ⊢
        obtain ⟨g15, hg15⟩ : ∃ g, W.heap.size + 1 = g := ⟨_, rfl⟩
        have hne15 : W.heap.size < g15 := by omega
        rw [hg15] at hb15 ⊢
        clear hg15
        generalize W.heap.size = gm at hmp hb15 hgm hltm hne15 ⊢
        have HF7 := Aside0.mk hfa
        have HB7 := Aside0.mk hba
        have M7 := Aside0.mk hma
        have MP := Aside0.mk hmp
        have B15 := Aside0.mk hb15
        have GM := Aside0.mk hgm
        have LM := Aside0.mk hltm
        have N15 := Aside0.mk hne15
        clear hfa hba hma hmp hb15 hgm hltm hne15 hmm
        refine start_n (n := 5) (S := fun w' => Below w7.heap.size w7 w') (ds := []) #[false, false, false, false, false] (by kernel_rfl) rfl rfl (below_drew (Below.refl _ _)) (fun hHeld => ?_)
        refine with_tabW family_walk.tab35 family_walk.bits35 (fun HT_ HW_ => ?_)
        generalize w7.drew = wa at hHeld ⊢
        refine pure_ (i := 1) (N := some 112) (v := ?_) (a' := ?_) #[false, true, false, false, false] rfl rfl (any_of HT_.out (by kernel_rfl)) (fun _ _ _ h => h) (Or.inl ⟨by rfl, ?_⟩) ?_ ?_
        rotate_left
        · intro w'
          go_simp
          with_reducible rfl
        rotate_left
        · simp only [Act.put, List.setIfInBounds_toArray, List.set_cons_zero, List.set_cons_succ, i64_w, i32_w]
          rfl
        refine take_ (i := 0) (N := some 111) (v := ?_) (a' := ?_) #[true, true, false, false, false] rfl rfl (take_ofW HT_.out HW_.out (by kernel_rfl)) (fun _ _ _ h => h) (Or.inl ⟨by rfl, ?_⟩) hHeld ?_ ?_
        rotate_left
        · intro w' hS
          have x5 : w'.cell? ⟨g5, 0, none⟩ = some (.slice A2 ns.length c2) := (blk_cell (blk_below HF7.out.b5 hS) 0).trans rfl
          clear hS
          go_simp
          with_reducible rfl
        rotate_left
        · simp only [Act.put, List.setIfInBounds_toArray, List.set_cons_zero, List.set_cons_succ, i64_w, i32_w]
          rfl
        refine one_ (i := 2) (N := some 113) #[true, true, true, false, false] rfl rfl (one_of HT_.out (by kernel_rfl)) (by decide) (fun K hK => ?_)
        refine goes_ Try.func26 (by kernel_rfl) rfl #[.int .u64 bits] (by rfl) rfl rfl (by (try simp only [List.map_toArray, List.map_cons, List.map_nil]); first | done | rfl) ?_
        refine (chosen.calls bits _).mono ?_
        rintro e w' ⟨bc, rfl, hbc, gbc, hb⟩
        refine ⟨_, rfl, ?_⟩
        have hH := below_step hHeld hb
        have HBC := Aside0.mk (hbc)
        clear hHeld hb hbc gbc
        refine hK.out _ _ hH (fun hHeld => ?_)
        clear hH
        clear hK K
        refine norm_ (a' := ?_) ?_ ?_
        rotate_left
        · show Act.put _ (some 113) _ = _
          simp only [Act.put, List.setIfInBounds_toArray, List.set_cons_zero, List.set_cons_succ, i64_w, i32_w]
          rfl
        refine one_ (i := 3) (N := some 114) #[true, true, true, true, false] rfl rfl (one_of HT_.out (by kernel_rfl)) (by decide) (fun K hK => ?_)
        refine goes_ Try.func25 (by kernel_rfl) rfl #[.agg #[.slice A2 ns.length c2], .int .i64 0, .func (.func 52) #[] #[.pointer (some ⟨bc, 0, none⟩)]] (by rfl) rfl rfl (by (try simp only [List.map_toArray, List.map_cons, List.map_nil]); first | done | rfl) ?_
        refine (walk.calls A2 ns.length c2 0 _ (.inr ⟨52, _, rfl⟩) _).mono ?_
        rintro e w' ⟨p1, p2, p3, rfl, hp1, hp2, hp3, gp1, gp2, gp3, hb⟩
        refine ⟨_, rfl, ?_⟩
        have hH := below_step hHeld hb
        have n_HBC := Aside0.mk (blk_below HBC.out hb)
        clear HBC
        have HBC := n_HBC
        clear n_HBC
        have HP1 := Aside0.mk (hp1)
        have HP2 := Aside0.mk (hp2)
        have HP3 := Aside0.mk (hp3)
        clear hHeld hb hp1 hp2 hp3 gp1 gp2 gp3
        refine hK.out _ _ hH (fun hHeld => ?_)
        clear hH
        clear hK K
        refine norm_ (a' := ?_) ?_ ?_
        rotate_left
        · show Act.put _ (some 114) _ = _
          simp only [Act.put, List.setIfInBounds_toArray, List.set_cons_zero, List.set_cons_succ, i64_w, i32_w]
          rfl
        refine pure_ (i := 4) (N := some 16) (v := ?_) (a' := ?_) #[true, true, true, true, true] rfl rfl (any_of HT_.out (by kernel_rfl)) (fun _ _ _ h => h) (Or.inl ⟨by rfl, ?_⟩) ?_ ?_
        rotate_left
        · intro w'
          go_simp
          with_reducible rfl
        rotate_left
        · simp only [Act.put, List.setIfInBounds_toArray, List.set_cons_zero, List.set_cons_succ, i64_w, i32_w]
          rfl
        refine done_ (done_of HT_.out (by kernel_rfl)) ?_
        rw [onlyN_normal]
        have n0_ := Aside0.mk (HF7.out.below hHeld)
        have n1_ := Aside0.mk (below_step HB7.out hHeld)
        have n2_ := Aside0.mk (marks_below M7.out hHeld)
        have n3_ := Aside0.mk (ownsMap_below MP.out hHeld)
        have n4_ := Aside0.mk (blk_below B15.out hHeld)
        clear HF7 HB7 M7 MP B15 hHeld
        have HF8 := n0_
        have HB8 := n1_
        have M8 := n2_
        have MP8 := n3_
        have B15 := n4_
        clear n0_ n1_ n2_ n3_ n4_
        have nn := fn38F w' #[.pointer (some ⟨p1, 0, none⟩), .pointer (some ⟨p2, 0, none⟩), .pointer (some ⟨p3, 0, none⟩)]
        go_wp2_with (fail)
        clear nn
        have HW8 := Aside0.mk (show gm < w'.heap.size ∧ g15 < w'.heap.size ∧ bc < w'.heap.size ∧ p1 < w'.heap.size ∧ p2 < w'.heap.size ∧ p3 < w'.heap.size from ⟨MP8.out.lt, blk_lt B15.out, blk_lt HBC.out, blk_lt HP1.out, blk_lt HP2.out, blk_lt HP3.out⟩)
        have NEM := Aside0.mk (show ∀ k, (∃ cs t, w'.heap[k]? = some (.cells cs t (0, 0))) → k ≠ gm from fun k hk e => by
          obtain ⟨cs, t, hk⟩ := hk
          obtain ⟨es, clock, hx, _⟩ := MP8.out
          rw [e, hx] at hk
          cases hk)
        refine rfS (gf := 50) (lb := #[.pointer (some ⟨p1, 0, none⟩), .pointer (some ⟨p2, 0, none⟩), .pointer (some ⟨p3, 0, none⟩)]) (p := 118) (s := 17) rfl (enters_of Try.func50 (by kernel_rfl) rfl)
          (walk_asks p1 p2 p3 w w' A2 c2 ns 0 52 #[.pointer (some ⟨bc, 0, none⟩)] (chB bits) (enters_of Try.func52 (by kernel_rfl) rfl) HNL.out HR2.out HC2.out HB8.out HP1.out HP2.out HP3.out)
          KpW.trans (KpW_b HB8.out.size HW8.out.2.2.2.1 HW8.out.2.2.2.2.1 HW8.out.2.2.2.2.2)
          (fun _ pre W' => GivenM gm (valsN pre) W' ∧ KeepB w' gm W' ∧ Below w.heap.size w W')
          (fun _ => OwnFrom.and (GivenM.own HW8.out.1 _) (OwnFrom.and (keepB_own w' gm) (ownFrom_below (Nat.le_refl _) HB8.out.size)))
          ⟨⟨.map [], MP8.out, Go.Maps.isMap_empty, fun n => by rfl⟩, KeepB.refl _ _, HB8.out⟩ ?assign ?body ?skip ?done
        case assign =>
          intro lp y W K hK
          simp only [List.setIfInBounds_toArray, List.set_cons_zero, List.set_cons_succ] at hK ⊢
          gi_wp2
          exact hK
        case skip =>
          rintro pre y W9 ⟨hg, hk9, hB9⟩ hlt
          refine (chosen1.calls bits y.1 bc W9 (hk9.blk HBC.out (NEM.out _ ⟨_, _, HBC.out⟩))).mono ?_
          rintro e W' ⟨rfl, hb⟩
          exact ⟨rfl, keeps_below hb _, ⟨hb.mono hB9.size, hb.block _ (by have := HW8.out; have := hk9.1; omega), hb.block _ (by have := HW8.out; have := hk9.1; omega), hb.block _ (by have := HW8.out; have := hk9.1; omega)⟩, hg.below hb, hk9.trans hb.size (fun k a b => hb.block k (Nat.lt_of_lt_of_le a hk9.1)), below_step hB9 hb⟩
        case body =>
          rintro lp pre y W9 ⟨⟨D, hown, hD, hat⟩, hk9, hB9⟩ hlt
          simp only [List.setIfInBounds_toArray, List.set_cons_zero, List.set_cons_succ]
          have c15 : W9.cell? ⟨g15, 0, none⟩ = some (.map (some gm)) := (blk_cell (hk9.blk B15.out (NEM.out _ ⟨_, _, B15.out⟩)) 0).trans rfl
          have HOWN := Aside0.mk hown
          have HD' := Aside0.mk hD
          have HAT := Aside0.mk hat
          have HK9 := Aside0.mk hk9
          have HB9 := Aside0.mk hB9
          have HLT := Aside0.mk hlt
          have HKY := Aside0.mk (show keyOf Try.prog 3 (.int .i64 y.1) = some (.int .i64 y.1) from Go.Maps.keyOf_int_mk Try.underlying3 (by have := y.2; have := HNL.out; simp [Lit.wf, IntKind.min, IntKind.max, IntKind.bits, IntKind.signed]; omega))
          clear hown hD hat hk9 hB9 hlt
          have hcl : (valsN pre).length ≤ 4398046511104 := by have : (valsN pre).length = pre.length := by simp [valsN]
                                                              have := HNL.out; have := HLT.out; omega
          have HCL := Aside0.mk hcl
          clear hcl
          gi_wp2_with (first
            | (gi_at_lookup; refine wpListIn_lookup_own_int _ rfl _ _ 65 rfl 3 3 .i64 law3F Try.underlying65 Try.underlying3 (zero3F _) gm _ D rfl HOWN.out _ _ rfl HKY.out ?_; intro c hat hwc; have HC := Aside0.mk hat; have HWC := Aside0.mk hwc; clear hat hwc)
            | (gi_at_mapUpdate; refine wpListIn_mapUpdate_own _ rfl _ _ _ 65 rfl 3 3 law3F Try.underlying65 _ gm _ D rfl HOWN.out (by unfold maxLen; have := HCL.out; omega) _ _ _ rfl rfl HKY.out _ [] (plainElem_int Try.underlying3 (wrap64_wf _)) ?_; intro w1 hown1 hgrow1; have HO1 := Aside0.mk hown1; have HG1 := Aside0.mk hgrow1; clear hown1 hgrow1))
          have hce : c = ((valsN pre).count y.1 : Int) := by
            have h := HC.out
            rw [HAT.out] at h
            simpa [eq_comm] using h
          have hcm : (valsN pre).count y.1 ≤ 4398046511104 := Nat.le_trans List.count_le_length HCL.out
          have hcw : wrap64 (c + 1) = ((valsN pre).count y.1 : Int) + 1 := by rw [hce]; unfold wrap64; omega
          have hO := HO1.out
          rw [hcw] at hO
          have hvl : valsN (pre ++ [y]) = valsN pre ++ [y.1] := by simp [valsN]
          have far : ∀ k, k < W9.heap.size → k ≠ gm → w1.heap[k]? = W9.heap[k]? := fun k a b => HG1.out.block k a (fun e => by cases e; exact b rfl)
          have hw9 : w'.heap.size ≤ W9.heap.size := HK9.out.1
          refine ⟨⟨HG1.out.size, fun k o hk h0 _ => (far k (blk_lt h0) (by have := HW8.out.1; omega)).trans h0⟩, ⟨(Below.refl w.heap.size W9).grown HG1.out HB9.out.size (fun k e => by cases e; exact GM.out), far _ (by have := HW8.out; omega) (NEM.out _ ⟨_, _, HP1.out⟩), far _ (by have := HW8.out; omega) (NEM.out _ ⟨_, _, HP2.out⟩), far _ (by have := HW8.out; omega) (NEM.out _ ⟨_, _, HP3.out⟩)⟩, ?_, HK9.out.trans HG1.out.size (fun k a b => far k (by omega) b), HB9.out.grown HG1.out HB9.out.size (fun k e => by cases e; exact GM.out)⟩
          rw [hvl]
          refine ⟨_, ?_, HD'.out.put _ _, given_step HD'.out HAT.out⟩
          rw [List.length_append, List.length_singleton]
          exact hO
        case done =>
          rintro D2 ys W9 hD2 hys ⟨hg, hk9, hB9⟩ hKD
          rw [hys] at hg
          have HGV := Aside0.mk hg
          have HF9 := Aside0.mk (show Fam t A1 A2 c1 ps.length c2 ns.length g2 g4 g5 W9 from ⟨hk9.blk HF8.out.b2 (NEM.out _ ⟨_, _, HF8.out.b2⟩), hk9.blk HF8.out.b4 (NEM.out _ ⟨_, _, HF8.out.b4⟩), hk9.blk HF8.out.b5 (NEM.out _ ⟨_, _, HF8.out.b5⟩)⟩)
          have B15' := Aside0.mk (hk9.blk B15.out (NEM.out _ ⟨_, _, B15.out⟩))
          have M9 := Aside0.mk (show ∀ D' ∈ D2 :: ds, w.heap.size ≤ D' ∧ W9.heap[D']? = some (.deferred (some [])) from fun D' hD' => by
            rcases List.mem_cons.1 hD' with rfl | hD'
            · exact ⟨by have := HB8.out.size; omega, hKD⟩
            · exact ⟨(M8.out D' hD').1, hk9.blk (M8.out D' hD').2 (by have := LM.out.2.2.2 D' hD'; omega)⟩)
          have N9 := Aside0.mk (show (D2 :: ds).Nodup from List.nodup_cons.2 ⟨fun h => by have := blk_lt (M8.out D2 h).2; omega, HN.out⟩)
          have HB9 := Aside0.mk hB9
          clear hg hys hk9 hB9 hKD hD2 HF8 B15 M8 HB8 MP8 HBC HP1 HP2 HP3
          have x5 : W9.cell? ⟨g5, 0, none⟩ = some (.slice A2 ns.length c2) := (blk_cell HF9.out.b5 0).trans rfl
          go_wp2_with (fail)
          clear x5
          go_loopg [14, 126] (ns.length) (fun gk v14 v126 w' => ∃ i : Nat, v14 = .int .i64 (Q.hidOf ns (chB bits) i) ∧ v126 = .int .i64 (i : Int) ∧ Aside0 (i ≤ ns.length ∧ ns.length - i ≤ gk) ∧ Aside0 (GivenM gm (walkOf ns (chB bits) 0) w') ∧ Aside0 (w'.heap[g15]? = some (.cells #[.map (some gm)] 65 (0, 0))) ∧ Aside0 (Fam t A1 A2 c1 ps.length c2 ns.length g2 g4 g5 w') ∧ Aside0 (∀ D ∈ D2 :: ds, w.heap.size ≤ D ∧ w'.heap[D]? = some (.deferred (some []))) ∧ Aside0 (Below w.heap.size w w'))
          case atStart => exact ⟨0, rfl, rfl, ⟨⟨Nat.zero_le _, Nat.le_refl _⟩⟩, HGV, B15', HF9, M9, HB9⟩
          case round =>
            clear HGV B15' HF9 M9 HB9
            obtain ⟨i, rfl, rfl, HI, HGV, HB15, HFL, HML, HBL⟩ := hrel
            by_cases hi : i < ns.length
            · have HIL := Aside0.mk hi
              have k1_ : ((i : Int) < (ns.length : Int)) = True := eq_true (by omega)
              have HKY := Aside0.mk (show keyOf Try.prog 3 (.int .i64 (i : Int)) = some (.int .i64 (i : Int)) from Go.Maps.keyOf_int_mk Try.underlying3 (by have := HNL.out; simp [Lit.wf, IntKind.min, IntKind.max, IntKind.bits, IntKind.signed]; omega))
              have hcn := given_count HG.out HL0.out HZ.out (chB bits) i hi
              obtain ⟨hd, hhd⟩ : ∃ h, Q.hidOf ns (chB bits) i = h := ⟨_, rfl⟩
              have hnx : Q.hidOf ns (chB bits) (i + 1) = if (i : Int) < hd then hd else if chB bits (i : Int) = true then Q.En ns i else hd := by rw [← hhd]; rfl
              have hgd := Q.good_at HG.out (n := (i : Int)) (by omega) (by omega)
              rw [hhd] at hcn ⊢
              clear hi hhd
              by_cases ch : (i : Int) < hd
              · rw [if_pos ch] at hcn hnx
                have HCN := Aside0.mk hcn
                have HHD := Aside0.mk hnx
                have k2_ : ((i : Int) < hd) = True := eq_true ch
                clear hcn hnx ch hgd
                obtain ⟨D, hown, hD, hat⟩ := HGV.out
                have HOWN := Aside0.mk hown
                have HAT := Aside0.mk (show D.atKey (.int .i64 (i : Int)) (.lit (.int .i64 0)) = .lit (.int .i64 0) by rw [hat, HCN.out])
                clear hown hD hat
                have c15 : wr.cell? ⟨g15, 0, none⟩ = some (.map (some gm)) := (blk_cell HB15.out 0).trans rfl
                go_wp2_with (first | (at_lookup; refine wpList_lookup_own_int _ rfl _ _ 65 rfl 3 3 .i64 law3F Try.underlying65 Try.underlying3 (zero3F _) gm _ D rfl HOWN.out _ _ rfl HKY.out ?_; intro c hat hwc; have hcc : c = 0 := (by rw [HAT.out] at hat; simpa [eq_comm] using hat); subst hcc; clear hat hwc))
                go_roundg (ns.length - (i + 1))
                case measure => have := HI.out; have := HIL.out; omega
                case rel => exact ⟨i + 1, by rw [HHD.out], by rw [show wrap64 ((i : Int) + 1) = ((i + 1 : Nat) : Int) by unfold wrap64; have := HIL.out; have := HNL.out; omega], ⟨⟨by have := HIL.out; omega, by omega⟩⟩, HGV, HB15, HFL, HML, HBL⟩
              · rw [if_neg ch] at hcn hnx
                have HCN := Aside0.mk hcn
                have HHD := Aside0.mk hnx
                have HGD := Aside0.mk hgd
                have k2_ : ((i : Int) < hd) = False := eq_false ch
                clear hcn hnx ch hgd
                have EG : ∀ args W, (callFunc 52 args).run Try.prog W = .ok (.enter 52 args) W := fun args W => enters_ Try.func52 (by kernel_rfl) rfl args W
                go_wp2_with (fail)
                refine (chosen.calls bits _).mono ?_
                rintro e wa ⟨bc2, rfl, hbc, gbc, hb⟩
                have HBC := Aside0.mk hbc
                clear hbc gbc
                have n0_ := Aside0.mk (HGV.out.below hb)
                have n1_ := Aside0.mk (blk_below HB15.out hb)
                have n2_ := Aside0.mk (HFL.out.below hb)
                have n3_ := Aside0.mk (marks_below HML.out hb)
                have n4_ := Aside0.mk (below_step HBL.out hb)
                clear HGV HB15 HFL HML HBL hb
                have HGV := n0_
                have HB15 := n1_
                have HFL := n2_
                have HML := n3_
                have HBL := n4_
                clear n0_ n1_ n2_ n3_ n4_
                go_wp2_with (fail)
                refine (chosen1.calls bits (i : Int) bc2 _ HBC.out).mono ?_
                rintro e wb ⟨rfl, hb⟩
                clear HBC
                have n0_ := Aside0.mk (HGV.out.below hb)
                have n1_ := Aside0.mk (blk_below HB15.out hb)
                have n2_ := Aside0.mk (HFL.out.below hb)
                have n3_ := Aside0.mk (marks_below HML.out hb)
                have n4_ := Aside0.mk (below_step HBL.out hb)
                clear HGV HB15 HFL HML HBL hb
                have HGV := n0_
                have HB15 := n1_
                have HFL := n2_
                have HML := n3_
                have HBL := n4_
                clear n0_ n1_ n2_ n3_ n4_
                clear EG
                by_cases cc : chB bits (i : Int) = true
                · have HHE := Aside0.mk HHD.out
                  clear HHD
                  have HHD := Aside0.mk (show Q.hidOf ns (chB bits) (i + 1) = Q.En ns i by rw [HHE.out, if_pos cc])
                  clear HHE
                  obtain ⟨ad, e2, hx0, hx1, hx2, hx3⟩ := at_T47 (Kd.C_below HR2.out HBL.out) (i : Int) (by omega) (by have := HIL.out; omega)
                  subst e2
                  have k3_ : (0 ≤ (i : Int)) = True := eq_true (by omega)
                  have k4_ : (i < ns.length) = True := eq_true HIL.out
                  have hx3' := hx3
                  simp only [Int.toNat_natCast] at hx3'
                  clear hx0 hx1 hx2
                  have x5 : wb.cell? ⟨g5, 0, none⟩ = some (.slice (some ad) ns.length c2) := (blk_cell HFL.out.b5 0).trans rfl
                  have hwe : wrap64 ((i : Int) + (rd_T47 ns i).f3) = Q.En ns i := by have := HGD.out.2.1; have := HGD.out.1; have := HNL.out; unfold Q.En at *; unfold wrap64; omega
                  rw [cc]
                  obtain ⟨D, hown, hD, hat⟩ := HGV.out
                  have HOWN := Aside0.mk hown
                  have HAT := Aside0.mk (show D.atKey (.int .i64 (i : Int)) (.lit (.int .i64 0)) = .lit (.int .i64 1) by rw [hat, HCN.out])
                  clear hown hD hat
                  have c15 : wb.cell? ⟨g15, 0, none⟩ = some (.map (some gm)) := (blk_cell HB15.out 0).trans rfl
                  go_wp2_with (first | (at_lookup; refine wpList_lookup_own_int _ rfl _ _ 65 rfl 3 3 .i64 law3F Try.underlying65 Try.underlying3 (zero3F _) gm _ D rfl HOWN.out _ _ rfl HKY.out ?_; intro c hat hwc; have hcc : c = 1 := (by rw [HAT.out] at hat; simpa [eq_comm] using hat); subst hcc; clear hat hwc))
                  go_roundg (ns.length - (i + 1))
                  case measure => have := HI.out; have := HIL.out; omega
                  case rel => exact ⟨i + 1, by rw [HHD.out], by rw [show wrap64 ((i : Int) + 1) = ((i + 1 : Nat) : Int) by unfold wrap64; have := HIL.out; have := HNL.out; omega], ⟨⟨by have := HIL.out; omega, by omega⟩⟩, HGV, HB15, HFL, HML, HBL⟩
                · have hcf : chB bits (i : Int) = false := by simpa using cc
                  have HHE := Aside0.mk HHD.out
                  clear HHD
                  have HHD := Aside0.mk (show Q.hidOf ns (chB bits) (i + 1) = hd by rw [HHE.out, if_neg cc])
                  clear HHE cc
                  rw [hcf]
                  clear hcf
                  obtain ⟨D, hown, hD, hat⟩ := HGV.out
                  have HOWN := Aside0.mk hown
                  have HAT := Aside0.mk (show D.atKey (.int .i64 (i : Int)) (.lit (.int .i64 0)) = .lit (.int .i64 1) by rw [hat, HCN.out])
                  clear hown hD hat
                  have c15 : wb.cell? ⟨g15, 0, none⟩ = some (.map (some gm)) := (blk_cell HB15.out 0).trans rfl
                  go_wp2_with (first | (at_lookup; refine wpList_lookup_own_int _ rfl _ _ 65 rfl 3 3 .i64 law3F Try.underlying65 Try.underlying3 (zero3F _) gm _ D rfl HOWN.out _ _ rfl HKY.out ?_; intro c hat hwc; have hcc : c = 1 := (by rw [HAT.out] at hat; simpa [eq_comm] using hat); subst hcc; clear hat hwc))
                  go_roundg (ns.length - (i + 1))
                  case measure => have := HI.out; have := HIL.out; omega
                  case rel => exact ⟨i + 1, by rw [HHD.out], by rw [show wrap64 ((i : Int) + 1) = ((i + 1 : Nat) : Int) by unfold wrap64; have := HIL.out; have := HNL.out; omega], ⟨⟨by have := HIL.out; omega, by omega⟩⟩, HGV, HB15, HFL, HML, HBL⟩
            · have k1_ : ((i : Int) < (ns.length : Int)) = False := eq_false (by omega)
              clear hi
              have x5 : wr.cell? ⟨g5, 0, none⟩ = some (.slice A2 ns.length c2) := (blk_cell HFL.out.b5 0).trans rfl
              have x4 : wr.cell? ⟨g4, 0, none⟩ = some (.bool false) := (blk_cell HFL.out.b4 0).trans rfl
              have f4 := blk_frozen HFL.out.b4 0
              have hss := HS.out
              subst hss
              have hwl : wrap64 ((ns.length : Int) - 1) = (ns.length : Int) - 1 := by unfold wrap64; have := HNL.out; have := HL0.out; omega
              go_wp2_with (fail)
              exact fam_out w g4 true _ rfl (D2 :: ds) _ (marks_set HML.out HFL.out.b4) N9.out (blk_put HFL.out.b4 0 _ rfl) (below_set HBL.out G4.out)
      | succ d ih =>
        intro x s ds u7 u8 u9 u10 u11 u12 u13 u41 u42 u43 u44 u45 u46 u47 u48 u49 u50 u51 u52 u53 u54 u55 u56 u57 u58 u59 u60 u61 u62 u63 u64 u65 u66 u67 u68 u69 u70 u71 u72 u73 u74 u75 u76 u77 u78 u79 u80 u81 u82 u83 u84 u85 u86 u87 u88 u89 u90 u91 u92 u93 u94 u95 u96 u97 u98 u99 u100 u101 u102 u103 u104 u105 u106 u107 u108 u109 W h0 hx hd hs hm hn hF hB
        rw [rounds_succ]
        generalize hR : Code.rounds Try.prog Lcode Qpost (d + 1) = Rnext
        have hlt : (x < (ns.length : Int)) = True := eq_true (by omega)
        have HX := Aside0.mk (show 0 ≤ x ∧ x < (ns.length : Int) by omega)
        have IH := Aside0.mk ih
        have HM := Aside0.mk hm
        have HN := Aside0.mk hn
        have HFW := Aside0.mk hF
        have HBW := Aside0.mk hB
        have HRN := Aside0.mk hR
        have HQQ := Aside0.mk hQ
        have HD := Aside0.mk hd
        have HS := Aside0.mk hs
        rw [← hL]
        have HLL := Aside0.mk hL
        clear ih hm hn hF hB hR hQ hL hd h0 hx hs HB HF2
        have x5 : W.cell? ⟨g5, 0, none⟩ = some (.slice A2 ns.length c2) := (blk_cell HFW.out.b5 0).trans rfl
        have hw1 : wrap64 (x + 1) = x + 1 := by unfold wrap64; have := HX.out; have := HNL.out; omega
        obtain ⟨kk, hkk⟩ := (Q.Kids_is ns HNL.out x).rounds
        have HKK := Aside0.mk hkk
        clear hkk
        go_wp2_with (fail)
        refine (tree_Kids.calls kk A2 c2 ns x (Q.kidsOf ns x) _ (Kd.C_below HR2.out HBW.out) HC2.out HKK.out).mono ?_
        rintro e w6 ⟨vk, rfl, hvk, hb⟩
        obtain ⟨Ak, ck, rfl, hck, hCk⟩ := Kd.R_reads hvk
        have HCK := Aside0.mk hCk
        have HF3 := Aside0.mk (HFW.out.below hb)
        have HB3 := Aside0.mk (below_step HBW.out hb)
        have M3 := Aside0.mk (marks_below HM.out hb)
        clear HFW HBW HM hb x5 hvk hck hCk HKK
        go_wp2_with (fail)
        have HG4 := Aside0.mk (Q.good_at HG.out HX.out.1 HX.out.2)
        have HKI := Aside0.mk (fun k (hk : k ∈ Q.kidsOf ns x) => And.intro (Q.kid_in HG.out HX.out.1 HX.out.2 hk) (Q.up_kid HG.out HX.out.1 HX.out.2 hk))
        have HSK := Aside0.mk (show s = (Q.sumK ns x.toNat 0 : Int) ∧ s + ((Q.kidsOf ns x).length : Int) = (Q.sumK ns (x + 1).toNat 0 : Int) ∧ s + ((Q.kidsOf ns x).length : Int) ≤ (ns.length : Int) - 1 by
          have h1 := Q.sumK_all HG.out HL0.out HZ.out
          have h2 := Q.sumK_add ns x.toNat 1 0
          have h3 := Q.sumK_add ns (x + 1).toNat (ns.length - (x + 1).toNat) 0
          rw [show (x + 1).toNat + (ns.length - (x + 1).toNat) = ns.length by have := HX.out; omega] at h3
          have e1 : (x + 1).toNat = x.toNat + 1 := by have := HX.out; omega
          have e2 : (0 : Int) + (x.toNat : Int) = x := by have := HX.out; omega
          have e3 : Q.sumK ns 1 x = (Q.kidsOf ns x).length := by simp [Q.sumK]
          rw [e2, e3, ← e1] at h2
          have := HS.out
          refine ⟨HS.out, ?_, ?_⟩ <;> omega)
        obtain ⟨ks, hks⟩ : ∃ ks, Q.kidsOf ns x = ks := ⟨_, rfl⟩
        rw [hks] at HKI HSK HCK HG4 ⊢
        have HKE := Aside0.mk hks
        clear hks
        go_loopg [6, 8, 49] (ks.length) (fun gk v6 v8 v49 w' => ∃ (j e : Int), v6 = .int .i64 (s + j) ∧ v8 = .int .i64 e ∧ v49 = .int .i64 j ∧ Aside0 (0 ≤ j ∧ j ≤ (ks.length : Int) ∧ ((ks.length : Int) - j).toNat ≤ gk) ∧ Aside0 (x < e ∧ e ≤ Q.En ns x ∧ ∃ f : Nat, Q.En ns x - e ≤ (f : Int) ∧ ks.drop j.toNat = Q.kl ns (Q.En ns x) f e) ∧ Aside0 (Kd.C (Kd.int .i64) w' Ak ks.length ks) ∧ Aside0 (Fam t A1 A2 c1 ps.length c2 ns.length g2 g4 g5 w') ∧ Aside0 (Below w.heap.size w w') ∧ Aside0 (∀ D ∈ ds, w.heap.size ≤ D ∧ w'.heap[D]? = some (.deferred (some []))))
        case atStart =>
          exact ⟨0, x + 1, by rw [Int.add_zero], rfl, rfl, ⟨⟨Int.le_refl _, by omega, by omega⟩⟩, ⟨⟨by omega, by have := HG4.out.1; unfold Q.En; omega, ns.length, by have := HG4.out.2.1; have := HX.out; omega, HG4.out.2.2.2⟩⟩, HCK, HF3, HB3, M3⟩
        case round =>
          clear HCK HF3 HB3 M3
          obtain ⟨j, en, rfl, rfl, rfl, HJ, HE, HCK, HFR, HBR, HMR⟩ := hrel
          by_cases hj : j < (ks.length : Int)
          · have hj0 := HJ.out.1
            have hjn : j.toNat < ks.length := by omega
            have hrd : rd ks j = ks[j.toNat] := by simp [rd, List.getD_eq_getElem?_getD, hjn]
            have hek : rd ks j = en ∧ ∃ f' : Nat, Q.En ns x - (en + (rd_T47 ns en).f3) ≤ (f' : Int) ∧ ks.drop (j + 1).toNat = Q.kl ns (Q.En ns x) f' (en + (rd_T47 ns en).f3) := by
              obtain ⟨he1, he2, f, he3, he4⟩ := HE.out
              rw [List.drop_eq_getElem_cons hjn] at he4
              rcases Q.kl_head ns (Q.En ns x) en f he3 with ⟨h, _⟩ | ⟨f', rfl, h1, h2⟩
              · rw [h] at he4; cases he4
              · rw [h2] at he4
                injection he4 with i1 i2
                have g1 : 1 ≤ (rd_T47 ns en).f3 := by
                  have := (Q.good_at HG.out (n := en) (by have := HX.out; omega) (by have := HG4.out.2.1; omega)).1
                  exact this
                exact ⟨hrd.trans i1, f', by omega, by rw [show (j + 1).toNat = j.toNat + 1 by omega]; exact i2⟩
            have hmem : rd ks j ∈ ks := by rw [hrd]; exact List.getElem_mem _
            have HM5 := Aside0.mk (HKI.out _ hmem)
            have HEK := Aside0.mk hek.2
            have HPK := Aside0.mk (show pick ks j = rd ks j by unfold pick; rw [if_pos ⟨hj0, hj⟩]; rfl)
            obtain ⟨adm, em, hxm⟩ := Kd.at_int HCK.out j hj0 hj
            subst em
            have hen := hek.1
            rw [hen] at HM5 HPK hxm
            have k1_ : (0 ≤ j) = True := eq_true hj0
            have k2_ : (j < (ks.length : Int)) = True := eq_true hj
            have HJL := Aside0.mk hj
            obtain ⟨kd, hkd⟩ := (Q.Kid_is ns HNL.out x j).rounds
            rw [HKE.out, HPK.out] at hkd
            have HKD := Aside0.mk hkd
            obtain ⟨ku, hku⟩ := (Q.Up_is ns HNL.out en).rounds
            rw [HM5.out.2] at hku
            have HKU := Aside0.mk hku
            clear hmem hjn hj0 hj hrd hek hen hkd hku
            have x5 : wr.cell? ⟨g5, 0, none⟩ = some (.slice A2 ns.length c2) := (blk_cell HFR.out.b5 0).trans rfl
            go_wp2_with (fail)
            refine (tree_Kid.calls kd A2 c2 ns x j en _ (Kd.C_below HR2.out HBR.out) HC2.out HKD.out).mono ?_
            rintro e wu ⟨rfl, hb⟩
            clear x5 hxm
            have n0_ := Aside0.mk (Kd.C_below HCK.out hb)
            have n1_ := Aside0.mk (HFR.out.below hb)
            have n2_ := Aside0.mk (below_step HBR.out hb)
            have n3_ := Aside0.mk (marks_below HMR.out hb)
            clear HCK HFR HBR HMR hb
            have HCK := n0_
            have HFR := n1_
            have HBR := n2_
            have HMR := n3_
            clear n0_ n1_ n2_ n3_
            have x5 : wu.cell? ⟨g5, 0, none⟩ = some (.slice A2 ns.length c2) := (blk_cell HFR.out.b5 0).trans rfl
            go_wp2_with (fail)
            refine (tree_Up.calls ku A2 c2 ns en x _ (Kd.C_below HR2.out HBR.out) HC2.out HKU.out).mono ?_
            rintro e wv ⟨rfl, hb⟩
            clear x5
            have n0_ := Aside0.mk (Kd.C_below HCK.out hb)
            have n1_ := Aside0.mk (HFR.out.below hb)
            have n2_ := Aside0.mk (below_step HBR.out hb)
            have n3_ := Aside0.mk (marks_below HMR.out hb)
            clear HCK HFR HBR HMR hb
            have HCK := n0_
            have HFR := n1_
            have HBR := n2_
            have HMR := n3_
            clear n0_ n1_ n2_ n3_
            obtain ⟨ad, e2, hx0, hx1, hx2, hx3⟩ := at_T47 (Kd.C_below HR2.out HBR.out) en (by have := HX.out; have := HM5.out.1; omega) (by have := HM5.out.1; have := HG4.out.2.1; omega)
            subst e2
            have k3_ : (0 ≤ en) = True := eq_true (by have := HX.out; have := HM5.out.1; omega)
            have k4_ : (en < (ns.length : Int)) = True := eq_true (by have := HM5.out.1; have := HG4.out.2.1; omega)
            have x5 : wv.cell? ⟨g5, 0, none⟩ = some (.slice (some ad) ns.length c2) := (blk_cell HFR.out.b5 0).trans rfl
            clear hx0 hx1 hx2
            have HSZ := Aside0.mk (show 1 ≤ (rd_T47 ns en).f3 ∧ en + (rd_T47 ns en).f3 ≤ Q.En ns x ∧ Q.En ns x ≤ (ns.length : Int) ∧ x < en from ⟨(Q.good_at HG.out (n := en) (by have := HX.out; have := HM5.out.1; omega) (by have := HM5.out.1; have := HG4.out.2.1; omega)).1, HM5.out.1.2.2.1, HG4.out.2.1, HM5.out.1.1⟩)
            have hwj : wrap64 (j + 1) = j + 1 := by unfold wrap64; have := HJ.out; have := HJL.out; have := HSK.out; have := HS.out; have := HNL.out; omega
            have hws : wrap64 (s + j + 1) = s + (j + 1) := by unfold wrap64; have := HJ.out; have := HJL.out; have := HSK.out; have := HS.out; have := HNL.out; omega
            have hwe : wrap64 (en + (rd_T47 ns en).f3) = en + (rd_T47 ns en).f3 := by unfold wrap64; have := HSZ.out; have := HX.out; have := HNL.out; omega
            go_wp2_with (fail)
            go_roundg ((ks.length : Int) - (j + 1)).toNat
            case measure => have := HJ.out; have := HJL.out; omega
            case rel => exact ⟨j + 1, en + (rd_T47 ns en).f3, by rw [hws], by rw [hwe], by rw [hwj], ⟨⟨by have := HJ.out; omega, by have := HJL.out; omega, by omega⟩⟩, ⟨⟨by have := HSZ.out; omega, HSZ.out.2.1, HEK.out⟩⟩, HCK, HFR, HBR, HMR⟩
          · have k2_ : (j < (ks.length : Int)) = False := eq_false hj
            have hjk : j = (ks.length : Int) := by have := HJ.out; omega
            have hee : en = Q.En ns x := by
              obtain ⟨he1, he2, f, he3, he4⟩ := HE.out
              rcases Q.kl_head ns (Q.En ns x) en f he3 with ⟨_, h⟩ | ⟨f', rfl, h1, h2⟩
              · omega
              · rw [h2, List.drop_eq_nil_of_le (by omega)] at he4
                cases he4
            subst hjk
            subst hee
            clear hj HE HJ HCK
            obtain ⟨ad, e2, hx0, hx1, hx2, hx3⟩ := at_T47 (Kd.C_below HR2.out HBR.out) x HX.out.1 HX.out.2
            subst e2
            have k3_ : (0 ≤ x) = True := eq_true HX.out.1
            clear hx0 hx1 hx2
            have x5 : wr.cell? ⟨g5, 0, none⟩ = some (.slice (some ad) ns.length c2) := (blk_cell HFR.out.b5 0).trans rfl
            have hwe : wrap64 (x + (rd_T47 ns x).f3) = Q.En ns x := by have := HG4.out.2.1; have := HG4.out.1; have := HX.out; have := HNL.out; unfold Q.En at *; unfold wrap64; omega
            go_upto_region 22 with (fail)
            clear x5 hx3 hwe
            have hbl := below_alloc (Below.refl wr.heap.size wr) (.cells #[.int .i64 x] 3)
            have hfa := HFR.out.below hbl
            have hba := below_step HBR.out hbl
            have hma := marks_below HMR.out hbl
            have hb11 : (wr.alloc (.cells #[.int .i64 x] 3)).heap[wr.heap.size]? = some (.cells #[.int .i64 x] 3 (0, 0)) := blk_new wr _
            have hge11 := HBR.out.size
            have hlt11 : g2 < wr.heap.size ∧ g4 < wr.heap.size ∧ g5 < wr.heap.size ∧ ∀ D ∈ ds, D < wr.heap.size := ⟨blk_lt HFR.out.b2, blk_lt HFR.out.b4, blk_lt HFR.out.b5, fun D hD => blk_lt (HMR.out D hD).2⟩
            clear hbl HFR HBR HMR
            generalize wr.alloc (.cells #[.int .i64 x] 3) = w7 at hfa hba hma hb11 ⊢
            generalize wr.heap.size = g11 at hb11 hge11 hlt11 ⊢
            have HFR := Aside0.mk hfa
            have HBR := Aside0.mk hba
            have HMR := Aside0.mk hma
            have B11 := Aside0.mk hb11
            have G11 := Aside0.mk hge11
            have L11 := Aside0.mk hlt11
            clear hfa hba hma hb11 hge11 hlt11
            have x5 : w7.cell? ⟨g5, 0, none⟩ = some (.slice (some ad) ns.length c2) := (blk_cell HFR.out.b5 0).trans rfl
            go_wp2_with (fail)
            refine (walk.calls (some ad) ns.length c2 x _ (.inl rfl) _).mono ?_
            rintro e w8 ⟨a1, a2, a3, rfl, ha1, ha2, ha3, ga1, ga2, ga3, hb⟩
            clear x5
            have n0_ := Aside0.mk (HFR.out.below hb)
            have n1_ := Aside0.mk (below_step HBR.out hb)
            have n2_ := Aside0.mk (marks_below HMR.out hb)
            have n3_ := Aside0.mk (blk_below B11.out hb)
            have HA1 := Aside0.mk ha1
            have HA2 := Aside0.mk ha2
            have HA3 := Aside0.mk ha3
            have GA := Aside0.mk (show g11 < a1 ∧ g11 < a2 ∧ g11 < a3 by have := blk_lt B11.out; omega)
            clear HFR HBR HMR B11 hb ha1 ha2 ha3 ga1 ga2 ga3
            have HFR := n0_
            have HBR := n1_
            have HMR := n2_
            have B11 := n3_
            clear n0_ n1_ n2_ n3_
            have nn := fn38F w8 #[.pointer (some ⟨a1, 0, none⟩), .pointer (some ⟨a2, 0, none⟩), .pointer (some ⟨a3, 0, none⟩)]
            go_wp2_with (fail)
            clear nn
            have HW8 := Aside0.mk (show g2 < w8.heap.size ∧ g4 < w8.heap.size ∧ g5 < w8.heap.size ∧ g11 < w8.heap.size ∧ a1 < w8.heap.size ∧ a2 < w8.heap.size ∧ a3 < w8.heap.size from ⟨blk_lt HFR.out.b2, blk_lt HFR.out.b4, blk_lt HFR.out.b5, blk_lt B11.out, blk_lt HA1.out, blk_lt HA2.out, blk_lt HA3.out⟩)
            refine rf1 (gf := 50) (lb := #[.pointer (some ⟨a1, 0, none⟩), .pointer (some ⟨a2, 0, none⟩), .pointer (some ⟨a3, 0, none⟩)]) (p := 100) (s := 13) rfl (enters_of Try.func50 (by kernel_rfl) rfl) (walk_stops 2 (by omega) a1 a2 a3 w w8 (some ad) c2 ns x _ (fun _ => false) HNL.out HR2.out HC2.out (nil_skip w) HBR.out HA1.out HA2.out HA3.out) KpW.trans (KpW_b HBR.out.size HW8.out.2.2.2.2.1 HW8.out.2.2.2.2.2.1 HW8.out.2.2.2.2.2.2)
              (fun pre W' => W'.heap[g11]? = some (.cells #[.int .i64 (x + (pre.length : Int))] 3 (0, 0)) ∧ KeepB w8 g11 W' ∧ Below w.heap.size w W')
              (fun c pre W' => ∃ i : Nat, ∃ h : i < (valsN pre).length, (valsN pre)[i] ≠ x + (i : Int))
              (OwnFrom.and (fun _ _ _ _ h hg hr => blk_own h hg (fun r e => (hr r e).2)) (OwnFrom.and (keepB_own w8 g11) (ownFrom_below (Nat.le_refl _) HBR.out.size)))
              (fun _ _ _ _ _ hs _ _ => hs)
              ⟨by simpa using B11.out, KeepB.refl _ _, HBR.out⟩ ?assign ?body ?done ?stop
            case assign =>
              intro lp y W K hK
              simp only [List.setIfInBounds_toArray, List.set_cons_zero, List.set_cons_succ] at hK ⊢
              gi_wp2
              exact hK
            case stop =>
              rintro D2 c pre W9 hD2 hsp ⟨i, hi, hne⟩ hKD
              obtain ⟨rest, hrest⟩ := hsp
              have h2 := (walk_all HG.out HX.out.1 HX.out.2).2 i (by rw [← hrest, List.length_append]; omega)
              refine absurd ?_ hne
              rw [← h2]
              simp only [← hrest]
              rw [List.getElem_append_left hi]
            case body =>
              rintro lp pre y W9 ⟨h11, hk9, hB9⟩ hlt2
              simp only [List.setIfInBounds_toArray, List.set_cons_zero, List.set_cons_succ]
              have c11 : W9.cell? ⟨g11, 0, none⟩ = some (.int .i64 (x + (pre.length : Int))) := (blk_cell h11 0).trans rfl
              have f11 := blk_frozen h11 0
              have h4 := hk9.blk HFR.out.b4 (by have := L11.out; omega)
              have c4 : W9.cell? ⟨g4, 0, none⟩ = some (.bool false) := (blk_cell h4 0).trans rfl
              have f4 := blk_frozen h4 0
              have H11 := Aside0.mk h11
              have HK9 := Aside0.mk hk9
              have HB9 := Aside0.mk hB9
              have HLT := Aside0.mk hlt2
              clear h11 hk9 hB9 hlt2 h4
              by_cases hy : y.1 = x + (pre.length : Int)
              · have z1 : (y.1 != x + (pre.length : Int)) = false := by rw [hy]; simp
                have hwy : wrap64 (x + (pre.length : Int) + 1) = x + (pre.length : Int) + 1 := by unfold wrap64; have := HX.out; have := HLT.out; have := HNL.out; omega
                clear hy
                gi_wp2
                have hpl : (((pre ++ [y]).length : Nat) : Int) = (pre.length : Int) + 1 := by rw [List.length_append, List.length_singleton]; rfl
                refine ⟨keeps_cell _, ⟨(Below.refl w.heap.size W9).setCell (p := ⟨g11, 0, none⟩) G11.out _, Below.heap_setCell W9 ⟨g11, 0, none⟩ _ a1 (Nat.ne_of_gt GA.out.1), Below.heap_setCell W9 ⟨g11, 0, none⟩ _ a2 (Nat.ne_of_gt GA.out.2.1), Below.heap_setCell W9 ⟨g11, 0, none⟩ _ a3 (Nat.ne_of_gt GA.out.2.2)⟩, ?_, HK9.out.trans (by rw [World.size_setCell]; exact Nat.le_refl _) (fun k a b => Below.heap_setCell W9 ⟨g11, 0, none⟩ _ k b), below_set HB9.out G11.out⟩
                rw [hpl, ← Int.add_assoc]
                first | exact blk_put H11.out 0 _ rfl | (rw [← hwy]; exact blk_put H11.out 0 _ rfl)
              · have z1 : (y.1 != x + (pre.length : Int)) = true := by simp [hy]
                have HY := Aside0.mk hy
                clear hy
                gi_wp2
                exact ⟨keeps_cell _, pre.length, by simp [valsN], by have := HY.out; simpa [valsN] using this⟩
            case done =>
              rintro D2 ys W9 hD2 hys ⟨h11, hk9, hB9⟩ hKD
              have hyl : x + (ys.length : Int) = Q.En ns x := by
                have h1 := (walk_all HG.out HX.out.1 HX.out.2).1
                rw [← hys] at h1
                simp only [valsN, List.length_map] at h1
                omega
              rw [hyl] at h11
              have c11 : W9.cell? ⟨g11, 0, none⟩ = some (.int .i64 (Q.En ns x)) := (blk_cell h11 0).trans rfl
              have HF9 := Aside0.mk (show Fam t A1 (some ad) c1 ps.length c2 ns.length g2 g4 g5 W9 from ⟨hk9.blk HFR.out.b2 (by have := L11.out; omega), hk9.blk HFR.out.b4 (by have := L11.out; omega), hk9.blk HFR.out.b5 (by have := L11.out; omega)⟩)
              have M9 := Aside0.mk (show ∀ D' ∈ D2 :: ds, w.heap.size ≤ D' ∧ W9.heap[D']? = some (.deferred (some [])) from fun D' hD' => by
                rcases List.mem_cons.1 hD' with rfl | hD'
                · exact ⟨by have := HBR.out.size; omega, hKD⟩
                · exact ⟨(HMR.out D' hD').1, hk9.blk (HMR.out D' hD').2 (by have := L11.out.2.2.2 D' hD'; omega)⟩)
              have N9 := Aside0.mk (show (D2 :: ds).Nodup from List.nodup_cons.2 ⟨fun h => by have := blk_lt (HMR.out D2 h).2; omega, HN.out⟩)
              have HB9 := Aside0.mk hB9
              clear hyl hys hk9 hB9 hKD hD2
              go_wp2_with (fail)
              clear c11
              rw [← HRN.out, show wrap64 (x + 1) = x + 1 by unfold wrap64; have := HX.out; have := HNL.out; omega]
              exact IH.out (x + 1) (s + (ks.length : Int)) (D2 :: ds) _ _ _ _ _ _ _ _ _ _ _ _ _ _ _ _ _ _ _ _ _ _ _ _ _ _ _ _ _ _ _ _ _ _ _ _ _ _ _ _ _ _ _ _ _ _ _ _ _ _ _ _ _ _ _ _ _ _ _ _ _ _ _ _ _ _ _ _ _ _ _ _ _ _ _ _ W9 (by have := HX.out; omega) (by have := HX.out; omega) (by have := HD.out; omega) HSK.out.2.1 M9.out N9.out HF9.out HB9.out
    exact key ns.length 0 0 [] _ _ _ _ _ _ _ _ _ _ _ _ _ _ _ _ _ _ _ _ _ _ _ _ _ _ _ _ _ _ _ _ _ _ _ _ _ _ _ _ _ _ _ _ _ _ _ _ _ _ _ _ _ _ _ _ _ _ _ _ _ _ _ _ _ _ _ _ _ _ _ _ _ _ _ _ w5 (Int.le_refl _) (by omega) (by omega) (by simp [Q.sumK]) (fun D h => by cases h) List.nodup_nil HF2.out HB.out
end Go.Proofs.Ytodldpdnhcafpaa.L


namespace Go.Proofs.Ytodldpdnhcafpaa.treeFamily
open Go.ChangeShapes Go.WideShapes Go.ChangeAt Go.RowKit Go.Proofs.Ytodldpdnhcafpaa
open Go.ChangeMaps (open_string shut_string)
set_option linter.unusedVariables false
theorem own : ownKnob Try.prog.godebug = none := by kernel_rfl
theorem laidOut : laidOutB Try.prog = true := by kernel_rfl
set_option maxRecDepth 100000 in
theorem lifted (os : Os) (started : os.Started) (H : Type) (enc : TypeId × Value → H) :
    ReturnsInHanded {} Try.checked os 17 .any (Rows.treeFamilySpec.pre6 enc Try.prog Try.f17 Rows.treeFamilyRow.domain false) (Rows.treeFamilySpec.post enc Try.prog Try.f17 false true false false) := by
  refine returnsInHanded_of_change_sized (C := Try.checked) own started (by kernel_rfl) Try.func17
    (ChangeSpec.witness6 (enc := enc) (C := Try.checked) false ⟨#[], #[.agg #[.string ByteArray.empty, .slice none 0 0, .slice none 0 0], .int .u64 0], []⟩ 8 (by kernel_rfl) (by kernel_rfl) (by kernel_rfl) (by kernel_rfl)) ?_
  intro W base args ds gs before hval0 hW hcnd hsz0 _
  have hsz : (DataW.weightsEach Try.prog (Try.f17.params.toList ++ Rows.treeFamilySpec.plain.varTypes Try.prog) (ds ++ gs)).all (· ≤ reachBytes) = true := hsz0
  have hval : ∀ (j : Nat) t v, Try.f17.params[j]? = some t → args[j]? = some v → Value.okWide Try.prog W .any base t v := hval0
  have hW' := hW
  obtain ⟨p, q, hA0, hV, rfl, hfz, hnd⟩ := hW
  have hA : DataW.TrodAll enc Try.prog W 0 (fun _ => true) true Try.f17.params.toList args.toList ds p := hA0
  rw [Try.params17] at hA hval hsz
  obtain ⟨v0, vs0, d0, ds0, p0, q0, hargs, rfl, rfl, h0, r0⟩ := trodAll_cons hA
  obtain ⟨v1, vs1, d1, ds1, p1, q1, rfl, rfl, rfl, h1, r1⟩ := trodAll_cons r0
  obtain ⟨rfl, rfl, rfl⟩ := trodAll_nil r1
  obtain rfl : args = #[v0, v1] := by cases args; simp_all
  obtain ⟨rfl, rfl⟩ := trodVars_none hV
  have k0 := h0
  have lt0 : ∀ x ∈ p0, x.block < W.heap.size := by obtain ⟨m, hm⟩ := k0; exact DataW.trod_lt m _ _ _ hm
  have hq0 : ∀ n ∈ DataW.weights Try.prog 27 d0, n ≤ reachBytes := fun n hn => of_decide_eq_true (List.all_eq_true.1 hsz n (DataW.weights_mem_each (j := 0) rfl rfl n hn))
  obtain ⟨t0, A0, c0, l0, B0, e0, m0, rfl, hf0_0, hf0_1, hf0_2, hf0_3, hf0_4, hf0_5, hf0_6, hf0_7, hf0_8, hf0_9, hf0_10⟩ := Go.Proofs.Ytodldpdnhcafpaa.H.open27 (hval 0 27 v0 rfl rfl) h0 hq0
  obtain ⟨a1, rfl, rfl, rfl, w1⟩ := open_int Try.underlying36 (hval 1 36 v1 rfl rfl) h1
  clear hA0 hval0 hsz0 hsz
  refine (Go.Proofs.Ytodldpdnhcafpaa.L.family_walk t0 A0 c0 l0 B0 e0 m0 a1 W hf0_0 hf0_1 hf0_2 hf0_3 hf0_4 hf0_5 hf0_6 hf0_7 hf0_8 hf0_9 hf0_10 w1).mono fun e W' ⟨he, bel⟩ => ?_
  subst he
  exact ⟨_, rfl, _, _, _, [], _, [], hW', trodAll_mk1 (shut_bool Try.underlying4 _), (trodAll_cons_mk (Below.trod laidOut (by kernel_rfl) (of_decide_eq_true (by kernel_rfl)) k0 bel lt0) (trodAll_cons_mk (shut_int Try.underlying36 w1) trodAll_mk0)), rfl, bel.frame _, fun h => by cases h⟩
theorem over : Rows.treeFamilyRow.holds Try.pinned (OpenSpec.ofChange Rows.treeFamilySpec) :=
  OpenClaim.holds_of_wide 17 Try.f17 rfl rfl rfl rfl rfl rfl rfl ⟨rfl, rfl, rfl, rfl, rfl⟩ rfl rfl rfl rfl rfl (by kernel_rfl) Try.func17 (by kernel_rfl)
    (of_decide_eq_true (by kernel_rfl)) (by unfold Func.isWrapper; first | (rw [if_pos (by decide +kernel)]; kernel_rfl) | (rw [if_neg (by decide +kernel)]; exact ⟨rfl, rfl⟩))
    (fun os started H enc _ => lifted os started H enc)
theorem proved : Rows.TreeFamilySaid := over
#print axioms proved
end Go.Proofs.Ytodldpdnhcafpaa.treeFamily
namespace Go.Proofs.Ytodldpdnhcafpaa
/-- The row, under a short name, for the claim. -/
theorem treeFamily_holds : Rows.TreeFamilySaid := treeFamily.proved
end Go.Proofs.Ytodldpdnhcafpaa
