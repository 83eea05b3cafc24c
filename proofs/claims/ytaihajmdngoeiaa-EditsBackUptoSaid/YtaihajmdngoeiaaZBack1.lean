/- Texts of the proof of one law (Back), part 1: functions printed as Lean functions with their walks, and what is proved of them. Conditions: those of each theorem. -/
import Derived.Test.YtaihajmdngoeiaaZBack0
-- written (47), walked by hand
namespace Go.Proofs.Ytaihajmdngoeiaa.F
open Go.RowKit Go.Proofs.YtaihajmdngoeiaaW.PrintWords Go.Proofs.YtaihajmdngoeiaaW.PrintLast Go.Proofs.YtaihajmdngoeiaaW.PrintMore
open Go.Proofs.Ytaihajmdngoeiaa.Q
set_option linter.unusedVariables false
set_option linter.unusedSimpArgs false

/-- What a group makes of the places between two. -/
def writG (fs : List S67) (hi : Int) : List S42 → Int → List Int
  | [], x => putG fs x hi
  | e :: t, x => putG fs x e.f0 ++ bytesOf e.f2 ++ writG fs hi t e.f1
/-- Between the rounds of written. -/
structure WW (w wr : World) (gF gO : Nat) (A : Option Addr) (n c : Nat) (vr : Value) (out : List Int) : Prop where
  hf : wr.heap[gF]? = some (.cells #[.slice A n c] 65 (0, 0))
  hb : wr.heap[gO]? = some (.cells #[vr] 53 (0, 0))
  hr : Kd.R (Kd.int .u8) 5 wr w.heap.size (fun k => k ≠ gF ∧ k ≠ gO) vr out
  be : Below w.heap.size w wr

set_option maxRecDepth 100000 in
set_option maxHeartbeats 20000000 in
theorem written.calls (first : List S67) (second : List S42) (A1 : Option Addr) (c1 : Nat) (A2 : Option Addr) (c2 : Nat) (lo hi : Int) (w : World)
    (hr1 : Kd.C k67 w A1 first.length first) (hr2 : Kd.C k42 w A2 second.length second)
    (hp : ∀ p ∈ first, 0 ≤ p.f0 ∧ p.f0 ≤ 5000000000000000000 ∧ p.f3.size ≤ 1048576) (hq : ∀ e ∈ second, (0 ≤ e.f0 ∧ e.f0 ≤ 5000000000000000000) ∧ 0 ≤ e.f1 ∧ e.f1 ≤ 5000000000000000000)
    (hlo : 0 ≤ lo ∧ lo ≤ 5000000000000000000) (hhi : 0 ≤ hi ∧ hi ≤ 5000000000000000000) (hl1 : first.length ≤ 1000000000) (hl2 : second.length ≤ 1000000000)
    (hl : (writG first hi second lo).length ≤ 140737488355328) :
    Calls Try.prog 47 #[.slice A1 first.length c1, .slice A2 second.length c2, .int .i64 lo, .int .i64 hi] w fun e w' => e = .returned (.string (strOfNums (writG first hi second lo))) ∧ Below w.heap.size w w' := by
  have hu65 := Try.underlying65
  have hu22 := Try.underlying22
  have HR1 := Aside0.mk hr1
  have HR2 := Aside0.mk hr2
  have HP := Aside0.mk hp
  have HQ := Aside0.mk hq
  have HLO := Aside0.mk hlo
  have HHI := Aside0.mk hhi
  have HL1 := Aside0.mk hl1
  have HL2 := Aside0.mk hl2
  have HL := Aside0.mk hl
  clear hr1 hr2 hp hq hlo hhi hl1 hl2 hl
  have HB := Aside0.mk (Below.refl w.heap.size w)
  go_enter Try.func47, Try.ntmps47
  go_upto_region 1 with (first | ((with_reducible refine gate_dst (N := 4) rfl ?_); refine box_event ?hg4 (N := 4) ?hd4 (cs := #[.slice A1 first.length c1]) (t := 65) ?hr4 ?_; (case hd4 => rfl); (case hg4 => rfl); (case hr4 => first | (go_simp; done) | (go_simp; rfl)); intro gF hg wF hbox hb; have n0_ := Aside0.mk (below_step HB.out hb); have n1_ := Aside0.mk hbox; have GE4 := Aside0.mk (show w.heap.size ≤ gF by rw [hg]; exact Nat.le_refl _); clear HB; have HB := n0_; have BK4 := n1_; clear n0_ n1_ hb hbox hg))
  go_upto_region 2 with (fail)
  obtain ⟨gO, hgO⟩ : ∃ g, wF.heap.size = g := ⟨_, rfl⟩
  obtain ⟨W1, hW1⟩ : ∃ W, W = wF.alloc (Obj.cells #[Value.slice none 0 0] 53) := ⟨_, rfl⟩
  rw [← hW1, hgO]
  have hne : gF ≠ gO := by have := blk_lt BK4.out; omega
  have hWW : WW w W1 gF gO A1 first.length c1 (.slice none 0 0) [] := by
    rw [hW1]
    exact ⟨blk_alloc BK4.out _, by rw [← hgO]; exact blk_new _ _, Kd.R_nil _ _ _ _ _, below_alloc HB.out _⟩
  have HWW := Aside0.mk hWW
  have HNE := Aside0.mk hne
  have GEO := Aside0.mk (show w.heap.size ≤ gO by have := GE4.out; have := blk_lt BK4.out; omega)
  clear hWW hne hW1 hgO BK4 HB
  have EG : ∀ args W, (callFunc 49 args).run Try.prog W = .ok (.enter 49 args) W := fun args W => enters_ Try.func49 (by kernel_rfl) rfl args W
  have EG' := Aside0.mk EG
  clear EG
  go_wp2
  go_loopg [11, 18] second.length (fun kq v11 v18 w' => ∃ (i : Nat) (x : Int) (o : List Int) (vr : Value), v11 = .int .i64 x ∧ v18 = .int .i64 (i : Int) ∧ Aside0 (i + kq = second.length) ∧ Aside0 (0 ≤ x ∧ x ≤ 5000000000000000000) ∧ Aside0 (WW w w' gF gO A1 first.length c1 vr o) ∧ Aside0 (o ++ writG first hi (second.drop i) x = writG first hi second lo))
  case atStart => exact ⟨0, lo, [], _, rfl, rfl, ⟨by omega⟩, HLO, HWW, ⟨by simp⟩⟩
  case round =>
    clear HWW HLO
    obtain ⟨i, x, o, vr, rfl, rfl, HI, HX, HQW, HS⟩ := hrel
    obtain ⟨Av, cv, ev⟩ := Kd.R_slice HQW.out.hr
    subst ev
    by_cases hi0 : i < second.length
    · have d1 : decide ((i : Int) < (second.length : Int)) = true := decide_eq_true (by omega)
      have d2 : decide (i < second.length) = true := decide_eq_true hi0
      obtain ⟨ad, e9, hx0, hx1, hx2⟩ := at_T42 (Kd.C_below HR2.out HQW.out.be) (i : Int) (by omega) (by omega)
      have HII := Aside0.mk hi0
      have p9 : (0 ≤ (i : Int)) = True := eq_true (by omega)
      have q9 : ((i : Int) < (second.length : Int)) = True := eq_true (by omega)
      have q8 : (i < second.length) = True := eq_true hi0
      clear hi0
      subst e9
      obtain ⟨e, hpd⟩ : ∃ p, rd_T42 second (i : Int) = p := ⟨_, rfl⟩
      rw [hpd] at hx0 hx1 hx2
      simp only [Int.toNat_natCast] at hx0 hx1 hx2
      rw [rd_T42, Int.toNat_natCast, List.getD_eq_getElem?_getD, List.getElem?_eq_getElem HII.out] at hpd
      have hgetE : second[i]'HII.out = e := hpd
      have hdrop : writG first hi (second.drop i) x = putG first x e.f0 ++ bytesOf e.f2 ++ writG first hi (second.drop (i + 1)) e.f1 := by
        rw [List.drop_eq_getElem_cons HII.out, hgetE]
        rfl
      have hmem : e ∈ second := by rw [← hgetE]; exact List.getElem_mem _
      have HE := Aside0.mk (HQ.out e hmem)
      have hss := HS.out
      rw [hdrop] at hss
      have hll := congrArg List.length hss
      simp only [List.length_append] at hll
      have HSS := Aside0.mk hss
      have HLL := Aside0.mk hll
      clear hpd hgetE hdrop hmem hss hll HS
      go_upto_region 7 with (fail)
      obtain ⟨gE, hgE⟩ : ∃ g, wr.heap.size = g := ⟨_, rfl⟩
      obtain ⟨W2, hW2⟩ : ∃ W, W = wr.alloc (Obj.cells #[Value.int IntKind.i64 e.f0, Value.int IntKind.i64 e.f1, Value.string e.f2] 42) := ⟨_, rfl⟩
      rw [← hW2, hgE]
      have hBE : W2.heap[gE]? = some (.cells #[.int .i64 e.f0, .int .i64 e.f1, .string e.f2] 42 (0, 0)) := by rw [hW2, ← hgE]; exact blk_new _ _
      have hWW : WW w W2 gF gO A1 first.length c1 (.slice Av o.length cv) o := by
        rw [hW2]
        exact ⟨blk_alloc HQW.out.hf _, blk_alloc HQW.out.hb _, Kd.R_alloc HQW.out.hr _, below_alloc HQW.out.be _⟩
      have hlt : ∀ k, (Value.slice Av o.length cv).ownBlock = some k → k < gE := by
        intro k hk
        rw [← hgE]
        exact Kd.R_lt HQW.out.hr k hk
      have hgOE : gO < gE := by rw [← hgE]; exact blk_lt HQW.out.hb
      have hgFE : gF < gE := by rw [← hgE]; exact blk_lt HQW.out.hf
      have m0 : W2.cell? ⟨gE, 0, none⟩ = some (.int .i64 e.f0) := (blk_cell hBE 0).trans rfl
      have BE := Aside0.mk hBE
      have HWW := Aside0.mk hWW
      have HLT := Aside0.mk hlt
      have HOE := Aside0.mk hgOE
      have HFE := Aside0.mk hgFE
      clear hBE hWW hlt hgOE hgFE hW2 hgE hx0 hx1 hx2 p9 q9 q8 d1 d2 HQW
      have EG := EG'.out
      go_wp2_with (fail)
      refine (put1.calls first A1 c1 x e.f0 gF gO (.slice Av o.length cv) o w W2 HWW.out.hf HR1.out HWW.out.hb HWW.out.hr HWW.out.be GEO.out GE4.out HNE.out HP.out HX.out HE.out.1 ?hl HL1.out).mono ?_
      case hl => have h1 := HLL.out; have h2 := HL.out; omega
      rintro e' w3 ⟨⟨xv, rfl⟩, vr3, hPW⟩
      obtain ⟨o3, ho3⟩ : ∃ z, o ++ putG first x e.f0 = z := ⟨_, rfl⟩
      rw [ho3] at hPW
      have hss0 := HSS.out
      rw [← List.append_assoc, ← List.append_assoc, ho3] at hss0
      have HS3 := Aside0.mk hss0
      have HO3 := Aside0.mk (show o3.length = o.length + (putG first x e.f0).length by rw [← ho3, List.length_append])
      clear ho3 hss0 HSS
      obtain ⟨A3, c3, e3⟩ := Kd.R_slice hPW.hr
      subst e3
      have hgE3 : w3.heap[gE]? = some (.cells #[.int .i64 e.f0, .int .i64 e.f1, .string e.f2] 42 (0, 0)) := (hPW.fr gE (blk_lt BE.out) (by have := HOE.out; omega) (fun eq => by have := HLT.out gE eq.symm; omega)).trans BE.out
      have hgF3 : w3.heap[gF]? = some (.cells #[.slice A1 first.length c1] 65 (0, 0)) := (hPW.fr gF (blk_lt HWW.out.hf) HNE.out (fun eq => (HWW.out.hr.1 _ eq.symm).1 rfl)).trans HWW.out.hf
      have hne3 : some gE ≠ (Value.slice A3 o3.length c3).ownBlock := by
        rcases hPW.hat with q | ⟨b, q, hq⟩
        · rw [q]; intro eq; have := HLT.out gE eq.symm; omega
        · rw [q]; intro eq; injection eq with eq; have := blk_lt BE.out; omega
      have HP3 := Aside0.mk hPW
      have HE3 := Aside0.mk hgE3
      have HF3 := Aside0.mk hgF3
      have HN3 := Aside0.mk hne3
      clear hPW hgE3 hgF3 hne3 EG m0
      have m3 : w3.cell? ⟨gO, 0, none⟩ = some (.slice A3 o3.length c3) := (blk_cell HP3.out.hb 0).trans rfl
      have m4 : w3.cell? ⟨gE, 2, none⟩ = some (.string e.f2) := (blk_cell HE3.out 2).trans rfl
      go_wp2_with (first | ((at_builtin); refine str_append (w0 := w) w.heap.size rfl (.tmp 27) (.tmp 29) 53 9 5 rfl Try.underlying53 Try.underlying9 info5' (.slice A3 o3.length c3) o3 e.f2 (fun k => k ≠ gF ∧ k ≠ gO) ?aF rfl rfl ?aO ?aB ?aS ?aL ?_; (case aF => exact (fun k hk => ⟨by have := blk_lt HF3.out; omega, by have := blk_lt HP3.out.hb; omega⟩)); (case aO => exact HP3.out.hr); (case aB => exact HP3.out.be); (case aS => exact HP3.out.be.size); (case aL => have h1 := HLL.out; have h2 := HL.out; have h3 := HO3.out; rw [bytesOf_length] at h1; omega); intro v1 w7 ho hb1 hg1 hat1; obtain ⟨A4, c4, e4⟩ := Kd.R_slice ho; subst e4; have HO4 := Aside0.mk ho; have HB4 := Aside0.mk hb1; have BO4 := Aside0.mk (blk_grown HP3.out.hb hg1 (fun q => (HP3.out.hr.1 _ q.symm).2 rfl)); have BF4 := Aside0.mk (blk_grown HF3.out hg1 (fun q => (HP3.out.hr.1 _ q.symm).1 rfl)); have BE4 := Aside0.mk (blk_grown HE3.out hg1 HN3.out); clear ho hb1 hg1 hat1 m3 m4; have m3 : w7.cell? ⟨gO, 0, none⟩ = some (.slice A3 o3.length c3) := (blk_cell BO4.out 0).trans rfl; have m3f := blk_frozen BO4.out 0; have m4 : ∀ u, (w7.setCell ⟨gO, 0, none⟩ u).cell? ⟨gE, 1, none⟩ = some (.int .i64 e.f1) := fun u => (blk_cell ((Below.heap_setCell _ _ _ _ (show gE ≠ gO by have := HOE.out; omega)).trans BE4.out) 1).trans rfl))
      go_roundg (second.length - i - 1)
      case measure => have := HI.out; have := HII.out; omega
      case rel =>
        refine ⟨i + 1, e.f1, o3 ++ bytesOf e.f2, (.slice A4 (o3.length + (bytesOf e.f2).length) c4), ?_, ?_, ⟨by have := HI.out; have := HII.out; omega⟩, ⟨HE.out.2⟩, ⟨?_⟩, HS3⟩
        · rfl
        · show Value.int .i64 (wrap64 ((i : Int) + 1)) = _
          rw [w64 (by omega) (by have := HII.out; have := HL2.out; omega)]
          rfl
        · refine ⟨?_, ?_, ?_, ?_⟩
          · exact (Below.heap_setCell _ _ _ _ HNE.out).trans BF4.out
          · exact blk_put BO4.out 0 _ rfl
          · have q := Kd.R_far (p := ⟨gO, 0, none⟩) HO4.out (fun k hk => hk.2) (.slice A4 (o3 ++ bytesOf e.f2).length c4)
            simpa only [List.length_append] using q
          · exact below_set HB4.out GEO.out
    · have d1 : decide ((i : Int) < (second.length : Int)) = false := decide_eq_false (by omega)
      have d2 : decide (i < second.length) = false := decide_eq_false hi0
      have HNI := Aside0.mk hi0
      clear hi0
      have EG := EG'.out
      have hend : writG first hi (second.drop i) x = putG first x hi := by
        rw [List.drop_eq_nil_of_le (by have := HNI.out; omega)]
        rfl
      have hss := HS.out
      rw [hend] at hss
      have hll := congrArg List.length hss
      simp only [List.length_append] at hll
      go_wp2_with (fail)
      refine (put1.calls first A1 c1 x hi gF gO (.slice Av o.length cv) o w wr HQW.out.hf HR1.out HQW.out.hb HQW.out.hr HQW.out.be GEO.out GE4.out HNE.out HP.out HX.out HHI.out ?hl HL1.out).mono ?_
      case hl => have h2 := HL.out; omega
      rintro e' w3 ⟨⟨xv, rfl⟩, vr3, hPW⟩
      rw [hss] at hPW
      have HP3 := Aside0.mk hPW
      clear hPW hss hll hend EG
      have hcv := own_string (P := Try.prog) Try.underlying53 Try.underlying5 Try.underlying9 (Kd.own_of_R HP3.out.hr)
      obtain ⟨A3, c3, e3⟩ := Kd.R_slice HP3.out.hr
      subst e3
      have m3 : w3.cell? ⟨gO, 0, none⟩ = some (.slice A3 (writG first hi second lo).length c3) := (blk_cell HP3.out.hb 0).trans rfl
      go_wp2
      go_ret
      exact ⟨rfl, HP3.out.be⟩
end Go.Proofs.Ytaihajmdngoeiaa.F

namespace Go.Proofs.Ytaihajmdngoeiaa.Q
open Go.RowKit Go.Proofs.YtaihajmdngoeiaaW.PrintWords Go.Proofs.YtaihajmdngoeiaaW.PrintLast Go.Proofs.YtaihajmdngoeiaaW.PrintMore
open Go.Proofs.Ytaihajmdngoeiaa.F
set_option linter.unusedVariables false
set_option linter.unusedSimpArgs false

theorem grw_ed (e : S42) : grw (edOf e) = grow e := by
  unfold grw edOf grow
  have : e.f2.data.toList.length = e.f2.size := by simp
  show (e.f2.data.toList.length : Int) - (e.f1 - e.f0) = _
  rw [this]
/-- The program's gathering: where it stands. -/
structure GS where
  lo : Int
  hi : Int
  sh : Int
  first : List S67
  second : List S42
  a : List S42
  b : List S42
def P67 (x : Int) (e : S42) : S67 := ⟨x, e.f0, e.f1, e.f2⟩
def takesA (lo hi sh : Int) (e : S42) (b : List S42) : Bool :=
  (decide (lo < 0) && (match b with | [] => true | f :: _ => decide (e.f0 + sh ≤ f.f0))) || (decide (0 ≤ lo) && decide (e.f0 + sh ≤ hi))
def nextA (s : GS) (e : S42) (r : List S42) : GS :=
  ⟨if s.lo < 0 then e.f0 + s.sh else s.lo, max s.hi (e.f0 + s.sh + e.f2.size), s.sh + grow e, s.first ++ [P67 (e.f0 + s.sh) e], s.second, r, s.b⟩
def nextB (s : GS) (f : S42) (t : List S42) : GS := ⟨if s.lo < 0 then f.f0 else s.lo, max s.hi f.f1, s.sh, s.first, s.second ++ [f], s.a, t⟩
def stepB (s : GS) : Option GS := match s.b with
  | [] => none
  | f :: t => if s.lo < 0 ∨ f.f0 ≤ s.hi then some (nextB s f t) else none
def stepG (s : GS) : Option GS := match s.a with
  | [] => stepB s
  | e :: r => if takesA s.lo s.hi s.sh e s.b = true then some (nextA s e r) else stepB s
def gS : Nat → GS → GS
  | 0, s => s
  | k + 1, s => match stepG s with
    | none => s
    | some s' => gS k s'
def place : Int → List S42 → List S67
  | _, [] => []
  | sh, e :: r => P67 (e.f0 + sh) e :: place (sh + grow e) r
theorem place_snoc : ∀ (l : List S42) (sh : Int) (e : S42), place sh (l ++ [e]) = place sh l ++ [P67 (e.f0 + (sh + sumG l)) e]
  | [], sh, e => by simp [place, sumG]
  | x :: l, sh, e => by
    simp only [List.cons_append, place, sumG, place_snoc l]
    rw [show sh + grow x + sumG l = sh + (grow x + sumG l) by omega]
theorem gS_gatL (sh0 : Int) : ∀ (k : Nat) (s : GS) (A1 : List S42), 0 ≤ s.lo → s.first = place sh0 A1 → s.sh = sh0 + sumG A1 →
    ∃ A2, (gS k s).first = place sh0 A2 ∧ (gS k s).sh = sh0 + sumG A2 ∧ (gS k s).lo = s.lo ∧
      gatL k s.hi (A1.map edOf) (s.second.map edOf) (s.a.map edOf) (s.b.map edOf) s.sh = ((gS k s).hi, A2.map edOf, (gS k s).second.map edOf, (gS k s).a.map edOf, (gS k s).b.map edOf)
  | 0, s, A1, h0, h1, h2 => ⟨A1, h1, h2, rfl, by simp only [gatL]; rfl⟩
  | k + 1, s, A1, h0, h1, h2 => by
    obtain ⟨lo, hi, sh, first, second, a, b⟩ := s
    simp only at h0 h1 h2
    have n0 : ¬ lo < 0 := by omega
    -- taken from b
    have hB : ∀ (a : List S42), (∀ e r, a = e :: r → ¬ e.f0 + sh ≤ hi) → ∃ A2, (match stepB ⟨lo, hi, sh, first, second, a, b⟩ with | none => (⟨lo, hi, sh, first, second, a, b⟩ : GS) | some s' => gS k s').first = place sh0 A2 ∧ (match stepB ⟨lo, hi, sh, first, second, a, b⟩ with | none => (⟨lo, hi, sh, first, second, a, b⟩ : GS) | some s' => gS k s').sh = sh0 + sumG A2 ∧ (match stepB ⟨lo, hi, sh, first, second, a, b⟩ with | none => (⟨lo, hi, sh, first, second, a, b⟩ : GS) | some s' => gS k s').lo = lo ∧
        gatL (k + 1) hi (A1.map edOf) (second.map edOf) (a.map edOf) (b.map edOf) sh = ((match stepB ⟨lo, hi, sh, first, second, a, b⟩ with | none => (⟨lo, hi, sh, first, second, a, b⟩ : GS) | some s' => gS k s').hi, A2.map edOf, (match stepB ⟨lo, hi, sh, first, second, a, b⟩ with | none => (⟨lo, hi, sh, first, second, a, b⟩ : GS) | some s' => gS k s').second.map edOf, (match stepB ⟨lo, hi, sh, first, second, a, b⟩ with | none => (⟨lo, hi, sh, first, second, a, b⟩ : GS) | some s' => gS k s').a.map edOf, (match stepB ⟨lo, hi, sh, first, second, a, b⟩ with | none => (⟨lo, hi, sh, first, second, a, b⟩ : GS) | some s' => gS k s').b.map edOf) := by
      intro a hna
      have hg : ∀ (Y : Int × List Ed × List Ed × List Ed × List Ed), (match b.map edOf with | [] => (hi, A1.map edOf, second.map edOf, a.map edOf, b.map edOf) | f :: s => if f.a ≤ hi then gatL k (max hi f.b) (A1.map edOf) (second.map edOf ++ [f]) (a.map edOf) s sh else (hi, A1.map edOf, second.map edOf, a.map edOf, b.map edOf)) = Y → gatL (k + 1) hi (A1.map edOf) (second.map edOf) (a.map edOf) (b.map edOf) sh = Y := by
        intro Y hY
        rw [← hY]
        cases a with
        | nil => cases b <;> simp only [List.map_nil, List.map_cons, gatL]
        | cons e r =>
          have hne := hna e r rfl
          have : ¬ (edOf e).a + sh ≤ hi := hne
          cases b with
          | nil => simp only [List.map_nil, List.map_cons, gatL, if_neg this]
          | cons f t => simp only [List.map_nil, List.map_cons, gatL, if_neg this]
      cases b with
      | nil => exact ⟨A1, h1, h2, rfl, hg _ rfl⟩
      | cons f t =>
        by_cases hf : f.f0 ≤ hi
        · have e1 : stepB ⟨lo, hi, sh, first, second, a, f :: t⟩ = some (nextB ⟨lo, hi, sh, first, second, a, f :: t⟩ f t) := by
            show (if lo < 0 ∨ f.f0 ≤ hi then some _ else none) = _
            rw [if_pos (Or.inr hf)]
          simp only [e1]
          obtain ⟨A2, i1, i2, i3, i4⟩ := gS_gatL sh0 k (nextB ⟨lo, hi, sh, first, second, a, f :: t⟩ f t) A1 (by show 0 ≤ if lo < 0 then f.f0 else lo; rw [if_neg n0]; exact h0) h1 h2
          refine ⟨A2, i1, i2, by rw [i3]; show (if lo < 0 then f.f0 else lo) = lo; rw [if_neg n0], hg _ ?_⟩
          simp only [List.map_cons]
          rw [if_pos (show (edOf f).a ≤ hi from hf), ← i4]
          show gatL k (max hi f.f1) _ _ _ _ _ = gatL k (max hi f.f1) _ ((second ++ [f]).map edOf) _ _ _
          rw [List.map_append]
          rfl
        · have e1 : stepB ⟨lo, hi, sh, first, second, a, f :: t⟩ = none := by
            show (if lo < 0 ∨ f.f0 ≤ hi then some _ else none) = _
            rw [if_neg (by omega)]
          simp only [e1]
          refine ⟨A1, h1, h2, trivial, hg _ ?_⟩
          simp only [List.map_cons]
          rw [if_neg (show ¬ (edOf f).a ≤ hi from hf)]
    cases a with
    | nil =>
      have := hB [] (fun e r h => by cases h)
      exact this
    | cons e r =>
      by_cases he : e.f0 + sh ≤ hi
      · have e1 : stepG ⟨lo, hi, sh, first, second, e :: r, b⟩ = some (nextA ⟨lo, hi, sh, first, second, e :: r, b⟩ e r) := by
          show (if takesA lo hi sh e b = true then some _ else _) = _
          rw [if_pos]
          unfold takesA
          rw [decide_eq_true h0, decide_eq_true he]
          simp
        simp only [gS, e1]
        obtain ⟨A2, i1, i2, i3, i4⟩ := gS_gatL sh0 k (nextA ⟨lo, hi, sh, first, second, e :: r, b⟩ e r) (A1 ++ [e]) (by show 0 ≤ if lo < 0 then e.f0 + sh else lo; rw [if_neg n0]; exact h0)
          (by show first ++ [P67 (e.f0 + sh) e] = _; rw [place_snoc, h1, h2]) (by show sh + grow e = _; rw [sumG_append, h2]; simp only [sumG]; omega)
        refine ⟨A2, i1, i2, by rw [i3]; show (if lo < 0 then e.f0 + sh else lo) = lo; rw [if_neg n0], ?_⟩
        rw [← i4]
        simp only [List.map_cons, gatL]
        rw [if_pos (show (edOf e).a + sh ≤ hi from he), grw_ed]
        show gatL k (max hi (e.f0 + sh + (e.f2.data.toList.length : Int))) _ _ _ _ _ = gatL k (max hi (e.f0 + sh + (e.f2.size : Int))) ((A1 ++ [e]).map edOf) _ _ _ _
        rw [List.map_append, show e.f2.data.toList.length = e.f2.size by simp]
        rfl
      · have e1 : stepG ⟨lo, hi, sh, first, second, e :: r, b⟩ = stepB ⟨lo, hi, sh, first, second, e :: r, b⟩ := by
          show (if takesA lo hi sh e b = true then some _ else _) = _
          rw [if_neg]
          unfold takesA
          rw [decide_eq_false n0, decide_eq_false he]
          simp
        simp only [gS, e1]
        exact hB (e :: r) (fun e' r' h => by cases h; exact he)
end Go.Proofs.Ytaihajmdngoeiaa.Q

namespace Go.Proofs.Ytaihajmdngoeiaa.Q
open Go.RowKit Go.Proofs.YtaihajmdngoeiaaW.PrintWords Go.Proofs.YtaihajmdngoeiaaW.PrintLast Go.Proofs.YtaihajmdngoeiaaW.PrintMore
open Go.Proofs.Ytaihajmdngoeiaa.F
set_option linter.unusedVariables false
set_option linter.unusedSimpArgs false

theorem stepG_a (lo hi sh : Int) (fi : List S67) (se : List S42) (e : S42) (r b : List S42) : stepG ⟨lo, hi, sh, fi, se, e :: r, b⟩ = if takesA lo hi sh e b = true then some (nextA ⟨lo, hi, sh, fi, se, e :: r, b⟩ e r) else stepB ⟨lo, hi, sh, fi, se, e :: r, b⟩ := rfl
/-- A group from its first edit on. -/
theorem gS_gat0 (sh : Int) (a b : List S42) (hne : ¬ (a = [] ∧ b = [])) (ha : ∀ e r, a = e :: r → 0 ≤ e.f0 + sh) (hb : ∀ f t, b = f :: t → 0 ≤ f.f0) :
    ∃ A2, (gS (a.length + b.length + 1) ⟨-1, 0, sh, [], [], a, b⟩).first = place sh A2 ∧ (gS (a.length + b.length + 1) ⟨-1, 0, sh, [], [], a, b⟩).sh = sh + sumG A2 ∧
      gat0 sh (a.map edOf) (b.map edOf) = ((gS (a.length + b.length + 1) ⟨-1, 0, sh, [], [], a, b⟩).lo, ((gS (a.length + b.length + 1) ⟨-1, 0, sh, [], [], a, b⟩).hi, A2.map edOf, (gS (a.length + b.length + 1) ⟨-1, 0, sh, [], [], a, b⟩).second.map edOf, (gS (a.length + b.length + 1) ⟨-1, 0, sh, [], [], a, b⟩).a.map edOf, (gS (a.length + b.length + 1) ⟨-1, 0, sh, [], [], a, b⟩).b.map edOf)) := by
  have n1 : (-1 : Int) < 0 := by decide
  have hA : ∀ (k : Nat) (e : S42) (r b : List S42), 0 ≤ e.f0 + sh → ∃ A2, (gS k (nextA ⟨-1, 0, sh, [], [], e :: r, b⟩ e r)).first = place sh A2 ∧ (gS k (nextA ⟨-1, 0, sh, [], [], e :: r, b⟩ e r)).sh = sh + sumG A2 ∧ (gS k (nextA ⟨-1, 0, sh, [], [], e :: r, b⟩ e r)).lo = e.f0 + sh ∧
      gatL k (max 0 ((edOf e).a + sh + (edOf e).t.length)) [edOf e] [] (r.map edOf) (b.map edOf) (sh + grw (edOf e)) = ((gS k (nextA ⟨-1, 0, sh, [], [], e :: r, b⟩ e r)).hi, A2.map edOf, (gS k (nextA ⟨-1, 0, sh, [], [], e :: r, b⟩ e r)).second.map edOf, (gS k (nextA ⟨-1, 0, sh, [], [], e :: r, b⟩ e r)).a.map edOf, (gS k (nextA ⟨-1, 0, sh, [], [], e :: r, b⟩ e r)).b.map edOf) := by
    intro k e r b h0
    obtain ⟨A2, i1, i2, i3, i4⟩ := gS_gatL sh k (nextA ⟨-1, 0, sh, [], [], e :: r, b⟩ e r) [e] (by show 0 ≤ if (-1 : Int) < 0 then e.f0 + sh else -1; rw [if_pos n1]; exact h0) rfl (by show sh + grow e = _; simp [sumG])
    refine ⟨A2, i1, i2, by rw [i3]; show (if (-1 : Int) < 0 then e.f0 + sh else -1) = _; rw [if_pos n1], ?_⟩
    rw [← i4, grw_ed]
    show gatL k (max 0 (e.f0 + sh + (e.f2.data.toList.length : Int))) _ _ _ _ _ = gatL k (max 0 (e.f0 + sh + (e.f2.size : Int))) _ _ _ _ _
    rw [show e.f2.data.toList.length = e.f2.size by simp]
    rfl
  have hB : ∀ (k : Nat) (f : S42) (t a : List S42), 0 ≤ f.f0 → ∃ A2, (gS k (nextB ⟨-1, 0, sh, [], [], a, f :: t⟩ f t)).first = place sh A2 ∧ (gS k (nextB ⟨-1, 0, sh, [], [], a, f :: t⟩ f t)).sh = sh + sumG A2 ∧ (gS k (nextB ⟨-1, 0, sh, [], [], a, f :: t⟩ f t)).lo = f.f0 ∧
      gatL k (max 0 (edOf f).b) [] [edOf f] (a.map edOf) (t.map edOf) sh = ((gS k (nextB ⟨-1, 0, sh, [], [], a, f :: t⟩ f t)).hi, A2.map edOf, (gS k (nextB ⟨-1, 0, sh, [], [], a, f :: t⟩ f t)).second.map edOf, (gS k (nextB ⟨-1, 0, sh, [], [], a, f :: t⟩ f t)).a.map edOf, (gS k (nextB ⟨-1, 0, sh, [], [], a, f :: t⟩ f t)).b.map edOf) := by
    intro k f t a h0
    obtain ⟨A2, i1, i2, i3, i4⟩ := gS_gatL sh k (nextB ⟨-1, 0, sh, [], [], a, f :: t⟩ f t) [] (by show 0 ≤ if (-1 : Int) < 0 then f.f0 else -1; rw [if_pos n1]; exact h0) rfl (by show sh = _; simp [sumG])
    exact ⟨A2, i1, i2, by rw [i3]; show (if (-1 : Int) < 0 then f.f0 else -1) = _; rw [if_pos n1], i4⟩
  have sB : ∀ (k : Nat) (f : S42) (t a : List S42), stepB ⟨-1, 0, sh, [], [], a, f :: t⟩ = some (nextB ⟨-1, 0, sh, [], [], a, f :: t⟩ f t) := fun k f t a => by
    show (if (-1 : Int) < 0 ∨ f.f0 ≤ 0 then some _ else none) = _
    rw [if_pos (Or.inl n1)]
  cases a with
  | nil =>
    cases b with
    | nil => exact absurd ⟨rfl, rfl⟩ hne
    | cons f t =>
      have e1 : gS (([] : List S42).length + (f :: t).length + 1) ⟨-1, 0, sh, [], [], [], f :: t⟩ = gS (t.length + 1) (nextB ⟨-1, 0, sh, [], [], [], f :: t⟩ f t) := by
        show gS (0 + (t.length + 1) + 1) _ = _
        rw [Nat.zero_add]
        show (match stepB ⟨-1, 0, sh, [], [], [], f :: t⟩ with | none => (⟨-1, 0, sh, [], [], [], f :: t⟩ : GS) | some s' => gS (t.length + 1) s') = _
        rw [sB 0]
      rw [e1]
      obtain ⟨A2, i1, i2, i3, i4⟩ := hB (t.length + 1) f t [] (hb f t rfl)
      refine ⟨A2, i1, i2, ?_⟩
      rw [i3, ← i4]
      simp only [List.map_nil, List.map_cons, gat0, List.length_map]
      rfl
  | cons e r =>
    cases b with
    | nil =>
      have e1 : gS ((e :: r).length + ([] : List S42).length + 1) ⟨-1, 0, sh, [], [], e :: r, []⟩ = gS (r.length + 1) (nextA ⟨-1, 0, sh, [], [], e :: r, []⟩ e r) := by
        show (match stepG ⟨-1, 0, sh, [], [], e :: r, []⟩ with | none => (⟨-1, 0, sh, [], [], e :: r, []⟩ : GS) | some s' => gS (r.length + 1) s') = _
        have : stepG ⟨-1, 0, sh, [], [], e :: r, []⟩ = some (nextA ⟨-1, 0, sh, [], [], e :: r, []⟩ e r) := by
          rw [stepG_a, if_pos (by unfold takesA; simp)]
        rw [this]
      rw [e1]
      obtain ⟨A2, i1, i2, i3, i4⟩ := hA (r.length + 1) e r [] (ha e r rfl)
      refine ⟨A2, i1, i2, ?_⟩
      rw [i3, ← i4]
      simp only [List.map_nil, List.map_cons, gat0, List.length_map]
      rfl
    | cons f t =>
      by_cases c : e.f0 + sh ≤ f.f0
      · have e1 : gS ((e :: r).length + (f :: t).length + 1) ⟨-1, 0, sh, [], [], e :: r, f :: t⟩ = gS (r.length + (t.length + 1) + 1) (nextA ⟨-1, 0, sh, [], [], e :: r, f :: t⟩ e r) := by
          rw [show (e :: r).length + (f :: t).length + 1 = (r.length + (t.length + 1) + 1) + 1 by simp only [List.length_cons]; omega]
          show (match stepG ⟨-1, 0, sh, [], [], e :: r, f :: t⟩ with | none => (⟨-1, 0, sh, [], [], e :: r, f :: t⟩ : GS) | some s' => gS (r.length + (t.length + 1) + 1) s') = _
          have : stepG ⟨-1, 0, sh, [], [], e :: r, f :: t⟩ = some (nextA ⟨-1, 0, sh, [], [], e :: r, f :: t⟩ e r) := by
            rw [stepG_a, if_pos (by unfold takesA; simp [c])]
          rw [this]
        rw [e1]
        obtain ⟨A2, i1, i2, i3, i4⟩ := hA (r.length + (t.length + 1) + 1) e r (f :: t) (ha e r rfl)
        refine ⟨A2, i1, i2, ?_⟩
        rw [i3, ← i4]
        simp only [List.map_cons, gat0, List.length_map]
        rw [if_pos (show (edOf e).a + sh ≤ (edOf f).a from c)]
        rfl
      · have e1 : gS ((e :: r).length + (f :: t).length + 1) ⟨-1, 0, sh, [], [], e :: r, f :: t⟩ = gS ((r.length + 1) + t.length + 1) (nextB ⟨-1, 0, sh, [], [], e :: r, f :: t⟩ f t) := by
          rw [show (e :: r).length + (f :: t).length + 1 = ((r.length + 1) + t.length + 1) + 1 by simp only [List.length_cons]; omega]
          show (match stepG ⟨-1, 0, sh, [], [], e :: r, f :: t⟩ with | none => (⟨-1, 0, sh, [], [], e :: r, f :: t⟩ : GS) | some s' => gS ((r.length + 1) + t.length + 1) s') = _
          have : stepG ⟨-1, 0, sh, [], [], e :: r, f :: t⟩ = some (nextB ⟨-1, 0, sh, [], [], e :: r, f :: t⟩ f t) := by
            rw [stepG_a, if_neg (by unfold takesA; simp [c]), sB 0]
          rw [this]
        rw [e1]
        obtain ⟨A2, i1, i2, i3, i4⟩ := hB ((r.length + 1) + t.length + 1) f t (e :: r) (hb f t rfl)
        refine ⟨A2, i1, i2, ?_⟩
        rw [i3, ← i4]
        simp only [List.map_cons, gat0, List.length_map]
        rw [if_neg (show ¬ (edOf e).a + sh ≤ (edOf f).a from c)]
        rfl
def ints (l : List UInt8) : List Int := l.map fun b => (b.toNat : Int)
theorem bytesOf_mk (l : List UInt8) : bytesOf ⟨l.toArray⟩ = ints l := by unfold bytesOf ints; simp
theorem put_ints (x y : Int) : ∀ (A : List S42) (sh : Int), putG (place sh A) x y = ints (putS (fsOf sh (A.map edOf)) x y)
  | [], sh => rfl
  | e :: r, sh => by
    simp only [place, putG, List.map_cons, fsOf, putS, put_ints x y r, grw_ed]
    have hl : e.f2.data.toList.length = e.f2.size := by simp
    have hx : mxx x (e.f0 + sh) = max x (e.f0 + sh) := by unfold mxx; split <;> omega
    have hy : mnn y (e.f0 + sh + (e.f2.size : Int)) = min y (e.f0 + sh + (e.f2.size : Int)) := by unfold mnn; split <;> omega
    have key : bytesOf (putOne (P67 (e.f0 + sh) e) x y) = ints (if max x ((edOf e).a + sh) < min y ((edOf e).a + sh + ((edOf e).t.length : Int)) then ((edOf e).t.drop (max x ((edOf e).a + sh) - ((edOf e).a + sh)).toNat).take (min y ((edOf e).a + sh + ((edOf e).t.length : Int)) - max x ((edOf e).a + sh)).toNat else []) := by
      show bytesOf (if mxx x (e.f0 + sh) < mnn y (e.f0 + sh + (e.f2.size : Int)) then e.f2.extract (mxx x (e.f0 + sh) - (e.f0 + sh)).toNat (mnn y (e.f0 + sh + (e.f2.size : Int)) - (e.f0 + sh)).toNat else ⟨#[]⟩) = ints (if max x (e.f0 + sh) < min y (e.f0 + sh + (e.f2.data.toList.length : Int)) then (e.f2.data.toList.drop (max x (e.f0 + sh) - (e.f0 + sh)).toNat).take (min y (e.f0 + sh + (e.f2.data.toList.length : Int)) - max x (e.f0 + sh)).toNat else [])
      rw [hx, hy, hl]
      by_cases c : max x (e.f0 + sh) < min y (e.f0 + sh + (e.f2.size : Int))
      · rw [if_pos c, if_pos c]
        unfold bytesOf ints
        congr 1
        rw [ByteArray.data_extract, Array.toList_extract, List.extract_eq_take_drop]
        congr 1
        omega
      · rw [if_neg c, if_neg c]
        rfl
    rw [key]
    unfold ints
    rw [← List.map_append]
theorem writ_ints (sh : Int) (A : List S42) (hi : Int) : ∀ (ss : List S42) (x : Int), writG (place sh A) hi ss x = ints (writS x (ss.map edOf) (fsOf sh (A.map edOf)) hi)
  | [], x => put_ints x hi A sh
  | e :: t, x => by
    simp only [writG, List.map_cons, writS, put_ints, writ_ints sh A hi t e.f1]
    unfold ints
    rw [List.map_append, List.map_append, List.append_assoc]
    rfl
theorem writ_str (sh : Int) (A : List S42) (hi : Int) (ss : List S42) (x : Int) : strOfNums (writG (place sh A) hi ss x) = ⟨(writS x (ss.map edOf) (fsOf sh (A.map edOf)) hi).toArray⟩ := by
  rw [writ_ints, ← bytesOf_mk, sn_bytes]
end Go.Proofs.Ytaihajmdngoeiaa.Q

-- (*composer).group (41): what lies in memory between its steps, and the bounds
namespace Go.Proofs.Ytaihajmdngoeiaa.F
open Go.RowKit Go.Proofs.YtaihajmdngoeiaaW.PrintWords Go.Proofs.YtaihajmdngoeiaaW.PrintLast Go.Proofs.YtaihajmdngoeiaaW.PrintMore
open Go.Proofs.Ytaihajmdngoeiaa.Q
set_option linter.unusedVariables false
set_option linter.unusedSimpArgs false

/-- The composer's box. -/
def CBx (w0 W : World) (g : Nat) (a b : List S42) (sh : Int) (vo : Value) : Prop := ∃ Aa ca Ab cb, W.heap[g]? = some (.cells #[.slice Aa a.length ca, .slice Ab b.length cb, .int .i64 sh, vo] 58 (0, 0)) ∧ Kd.C k42 w0 Aa a.length a ∧ a.length ≤ ca ∧ Kd.C k42 w0 Ab b.length b ∧ b.length ≤ cb
/-- The places of what is left of the first list lie in the text between. -/
def Pl (n m sh : Int) (a : List S42) : Prop := ∀ A e B, a = A ++ e :: B → 0 ≤ e.f0 + (sh + sumG A) ∧ e.f0 + (sh + sumG A) + e.f2.size ≤ m ∧ 0 ≤ e.f0 ∧ e.f0 ≤ e.f1 ∧ e.f1 ≤ n
theorem Pl.tail {n m sh : Int} {e : S42} {r : List S42} (h : Pl n m sh (e :: r)) : Pl n m (sh + grow e) r := by
  intro A x B hr
  have := h (e :: A) x B (by rw [hr]; rfl)
  simp only [sumG] at this
  rw [show sh + grow e + sumG A = sh + (grow e + sumG A) by omega]
  exact this
theorem Pl.head {n m sh : Int} {e : S42} {r : List S42} (h : Pl n m sh (e :: r)) : 0 ≤ e.f0 + sh ∧ e.f0 + sh + e.f2.size ≤ m ∧ 0 ≤ e.f0 ∧ e.f0 ≤ e.f1 ∧ e.f1 ≤ n := by
  have := h [] e r rfl
  simpa [sumG] using this
/-- The bounds between the rounds of group. -/
structure SR (n m : Int) (s : GS) : Prop where
  pa : Pl n m s.sh s.a
  pb : ∀ f ∈ s.b, 0 ≤ f.f0 ∧ f.f0 ≤ f.f1 ∧ f.f1 ≤ m
  fp : ∀ p ∈ s.first, 0 ≤ p.f0 ∧ p.f0 ≤ 5000000000000000000 ∧ p.f3.size ≤ 1048576
  sp : ∀ e ∈ s.second, (0 ≤ e.f0 ∧ e.f0 ≤ 5000000000000000000) ∧ 0 ≤ e.f1 ∧ e.f1 ≤ 5000000000000000000
  sa : ∀ e ∈ s.a, e.f2.size ≤ 1048576
  sl : -1 ≤ s.lo ∧ s.lo ≤ 4700000000000000000
  sh_ : 0 ≤ s.hi ∧ s.hi ≤ 4700000000000000000
  ss : -4700000000000000000 ≤ s.sh ∧ s.sh ≤ 4700000000000000000
  ln : s.first.length + s.a.length ≤ 100000 ∧ s.second.length + s.b.length ≤ 100000
theorem SR.nextA {n m lo hi sh : Int} {first : List S67} {second : List S42} {e : S42} {r b : List S42} (hm : m ≤ 4700000000000000000) (hn : n ≤ 4700000000000000000) (h : SR n m ⟨lo, hi, sh, first, second, e :: r, b⟩) : SR n m (nextA ⟨lo, hi, sh, first, second, e :: r, b⟩ e r) := by
  obtain ⟨pa, pb, fp, sp, sa, sl, sh_, ss, ln⟩ := h
  simp only at pa pb fp sp sa sl sh_ ss ln
  obtain ⟨p1, p2, p3, p4, p5⟩ := Pl.head pa
  have hg : grow e = (e.f2.size : Int) - (e.f1 - e.f0) := rfl
  refine ⟨pa.tail, pb, ?_, sp, fun x hx => sa x (List.mem_cons_of_mem _ hx), ?_, ?_, ?_, ?_⟩
  · intro p hp
    rcases List.mem_append.1 hp with hp | hp
    · exact fp p hp
    · rw [List.mem_singleton.1 hp]
      exact ⟨p1, by show e.f0 + sh ≤ _; omega, sa e List.mem_cons_self⟩
  · show -1 ≤ (if lo < 0 then e.f0 + sh else lo) ∧ (if lo < 0 then e.f0 + sh else lo) ≤ _
    split <;> omega
  · show 0 ≤ max hi (e.f0 + sh + e.f2.size) ∧ max hi (e.f0 + sh + e.f2.size) ≤ _
    omega
  · show _ ≤ sh + grow e ∧ sh + grow e ≤ _
    rw [hg]
    omega
  · refine ⟨?_, ln.2⟩
    show (first ++ [P67 (e.f0 + sh) e]).length + r.length ≤ _
    rw [List.length_append]
    simp only [List.length_cons, List.length_nil] at ln ⊢
    omega
theorem SR.nextB {n m lo hi sh : Int} {first : List S67} {second : List S42} {f : S42} {t a : List S42} (hm : m ≤ 4700000000000000000) (h : SR n m ⟨lo, hi, sh, first, second, a, f :: t⟩) : SR n m (nextB ⟨lo, hi, sh, first, second, a, f :: t⟩ f t) := by
  obtain ⟨pa, pb, fp, sp, sa, sl, sh_, ss, ln⟩ := h
  simp only at pa pb fp sp sa sl sh_ ss ln
  obtain ⟨p1, p2, p3⟩ := pb f List.mem_cons_self
  refine ⟨pa, fun x hx => pb x (List.mem_cons_of_mem _ hx), fp, ?_, sa, ?_, ?_, ss, ?_⟩
  · intro p hp
    rcases List.mem_append.1 hp with hp | hp
    · exact sp p hp
    · rw [List.mem_singleton.1 hp]
      omega
  · show -1 ≤ (if lo < 0 then f.f0 else lo) ∧ (if lo < 0 then f.f0 else lo) ≤ _
    split <;> omega
  · show 0 ≤ max hi f.f1 ∧ max hi f.f1 ≤ _
    omega
  · refine ⟨ln.1, ?_⟩
    show (second ++ [f]).length + t.length ≤ _
    rw [List.length_append]
    simp only [List.length_cons, List.length_nil] at ln ⊢
    omega
/-- What lies in memory between the steps of group. w0: the world that Compose began in; w: the one that group began in. -/
structure MR (w0 w W : World) (g : Nat) (a b : List S42) (sh : Int) (first : List S67) (second : List S42) (v5 v6 vo : Value) (out : List S42) : Prop where
  bx : CBx w0 W g a b sh vo
  r5 : Kd.R k67 67 W w.heap.size (fun k => k ≠ g) v5 first
  r6 : Kd.R k42 42 W w.heap.size (fun k => k ≠ g ∧ some k ≠ v5.ownBlock) v6 second
  ro : Kd.R k42 42 W w0.heap.size (fun k => k ≠ g ∧ k < w.heap.size) vo out
  hb : Below w0.heap.size w0 W
  g0 : w0.heap.size ≤ g
  gw : g < w.heap.size
  sz : w.heap.size ≤ W.heap.size
section
variable {w0 w W W1 : World} {g : Nat} {a b : List S42} {sh : Int} {first : List S67} {second : List S42} {v5 v6 vo : Value} {out : List S42}
theorem CBx.below {a b : List S42} {sh : Int} (h : CBx w0 W g a b sh vo) (hb : Below W.heap.size W W1) : CBx w0 W1 g a b sh vo := by
  obtain ⟨Aa, ca, Ab, cb, x, y⟩ := h
  exact ⟨Aa, ca, Ab, cb, blk_below x hb, y⟩
theorem MR.below (h : MR w0 w W g a b sh first second v5 v6 vo out) (hb : Below W.heap.size W W1) : MR w0 w W1 g a b sh first second v5 v6 vo out :=
  ⟨h.bx.below hb, Kd.R_below h.r5 hb, Kd.R_below h.r6 hb, Kd.R_below h.ro hb, below_step h.hb hb, h.g0, h.gw, Nat.le_trans h.sz hb.size⟩
/-- A cell of the box is written. -/
theorem MR.set (h : MR w0 w W g a b sh first second v5 v6 vo out) {a2 b2 : List S42} {sh2 : Int} (i : Nat) (u : Value) (hx : CBx w0 (W.setCell ⟨g, i, none⟩ u) g a2 b2 sh2 vo) : MR w0 w (W.setCell ⟨g, i, none⟩ u) g a2 b2 sh2 first second v5 v6 vo out :=
  ⟨hx, Kd.R_far (p := ⟨g, i, none⟩) h.r5 (fun k hk => hk) u, Kd.R_far (p := ⟨g, i, none⟩) h.r6 (fun k hk => hk.1) u, Kd.R_far (p := ⟨g, i, none⟩) h.ro (fun k hk => hk.1) u, below_set h.hb h.g0, h.g0, h.gw, by have := h.sz; simp only [World.setCell]; simpa using this⟩
theorem MR.gne (h : MR w0 w W g a b sh first second v5 v6 vo out) : some g ≠ v5.ownBlock ∧ some g ≠ v6.ownBlock := ⟨Kd.R_away h.r5 (fun _ hk => hk), Kd.R_away h.r6 (fun _ hk => hk.1)⟩
/-- The first row has grown. -/
theorem MR.app5 (h : MR w0 w W g a b sh first second v5 v6 vo out) {p : S67} {v : Value} (hr : Kd.R k67 67 W1 w.heap.size (fun k => k ≠ g) v (first ++ [p])) (hg : W.grownBy W1 v5.ownBlock) (hat : v.ownBlock = v5.ownBlock ∨ ∃ b, v.ownBlock = some b ∧ W.heap.size ≤ b) : MR w0 w W1 g a b sh (first ++ [p]) second v v6 vo out := by
  have h5 : ∀ k, v5.ownBlock = some k → w.heap.size ≤ k := fun k hk => ((Kd.R_bound h.r5).1 k hk).2.1
  refine ⟨?_, hr, ?_, ?_, h.hb.grown hg (Nat.le_trans h.hb.size (Nat.le_refl _)) (fun k hk => by have := h5 k hk; have := h.g0; have := h.gw; omega), h.g0, h.gw, Nat.le_trans h.sz hg.size⟩
  · obtain ⟨Aa, ca, Ab, cb, x, y⟩ := h.bx
    exact ⟨Aa, ca, Ab, cb, blk_grown x hg h.gne.1, y⟩
  · have h6 : Kd.R k42 42 W1 w.heap.size (fun k => (k ≠ g ∧ some k ≠ v5.ownBlock) ∧ k < W.heap.size) v6 second := Kd.R_mono (Kd.R_step (Kd.R_bound h.r6) (fun k ho hk => hg.block k hk ho.1.2)) (fun k hk => ⟨hk.1, hk.2.2.1⟩)
    refine Kd.R_mono h6 (fun k hk => ⟨hk.1.1, ?_⟩)
    rcases hat with e | ⟨q, e, hq⟩
    · rw [e]; exact hk.1.2
    · rw [e]; intro e2; injection e2 with e2; omega
  · exact Kd.R_step h.ro (fun k ho hk => hg.block k hk (fun e => by have := h5 k e.symm; omega))
/-- The second row has grown. -/
theorem MR.app6 (h : MR w0 w W g a b sh first second v5 v6 vo out) {p : S42} {v : Value} (hr : Kd.R k42 42 W1 w.heap.size (fun k => k ≠ g ∧ some k ≠ v5.ownBlock) v (second ++ [p])) (hg : W.grownBy W1 v6.ownBlock) : MR w0 w W1 g a b sh first (second ++ [p]) v5 v vo out := by
  have h6 : ∀ k, v6.ownBlock = some k → w.heap.size ≤ k := fun k hk => ((Kd.R_bound h.r6).1 k hk).2.1
  refine ⟨?_, ?_, hr, ?_, h.hb.grown hg (Nat.le_trans h.hb.size (Nat.le_refl _)) (fun k hk => by have := h6 k hk; have := h.g0; have := h.gw; omega), h.g0, h.gw, Nat.le_trans h.sz hg.size⟩
  · obtain ⟨Aa, ca, Ab, cb, x, y⟩ := h.bx
    exact ⟨Aa, ca, Ab, cb, blk_grown x hg h.gne.2, y⟩
  · have h5 : ∀ k, v5.ownBlock = some k → some k ≠ v6.ownBlock := fun k hk e => (h.r6.1 k e.symm).2 hk.symm
    have : Kd.R k67 67 W w.heap.size (fun k => k ≠ g ∧ some k ≠ v6.ownBlock) v5 first := by
      cases h6o : v6.ownBlock with
      | none => exact Kd.R_mono h.r5 (fun k hk => ⟨hk, by simp⟩)
      | some q => exact Kd.R_mono (Kd.R_far1 h.r5 rfl (g := q) (fun e => h5 q e.symm (by rw [h6o]))) (fun k hk => ⟨hk.1, fun e => hk.2 (by injection e)⟩)
    exact Kd.R_mono (Kd.R_step this (fun k ho hk => hg.block k hk ho.2)) (fun k hk => hk.1)
  · exact Kd.R_step h.ro (fun k ho hk => hg.block k hk (fun e => by have := h6 k e.symm; omega))
end
end Go.Proofs.Ytaihajmdngoeiaa.F

-- Compose, plainly, group by group: what holds between two groups
namespace Go.Proofs.Ytaihajmdngoeiaa.Q
open Go.RowKit Go.Proofs.YtaihajmdngoeiaaW.PrintWords Go.Proofs.YtaihajmdngoeiaaW.PrintLast Go.Proofs.YtaihajmdngoeiaaW.PrintMore
open Go.Proofs.Ytaihajmdngoeiaa.F
set_option linter.unusedVariables false
set_option linter.unusedSimpArgs false

theorem cz_mem {n : Int} : ∀ (l : List Ed) (q : Int), Cz n q l → ∀ e ∈ l, q ≤ e.a ∧ e.a ≤ e.b ∧ e.b ≤ n
  | [], q, _, e, he => by cases he
  | x :: t, q, ⟨c1, c2, c3, c4⟩, e, he => by
    rcases List.mem_cons.1 he with rfl | he
    · exact ⟨c1, c2, c3⟩
    · have := cz_mem t x.b (Ch.cz c4 c3) e he
      exact ⟨by omega, this.2⟩
theorem map_edOf_inj {a b : List S42} (h : a.map edOf = b.map edOf) : a = b := by
  have := congrArg (List.map toS) h
  simpa [List.map_map, Function.comp_def, toS_edOf] using this
theorem edLen (e : S42) : ((edOf e).t.length : Int) = e.f2.size := by
  show (e.f2.data.toList.length : Int) = _
  simp
/-- Between two groups. -/
structure CI (n m : Int) (a b : List S42) (sh : Int) : Prop where
  q : ∃ q, Cz n q (a.map edOf) ∧ 0 ≤ q ∧ q ≤ n ∧ Cz m (q + sh) (b.map edOf) ∧ 0 ≤ q + sh
  hm : m = n + shOf sh (a.map edOf)
theorem tot_mem : ∀ (l : List S42) (e : S42), e ∈ l → e.f2.size ≤ tot l
  | x :: l, e, h => by
    rcases List.mem_cons.1 h with rfl | h
    · simp only [tot]; omega
    · have := tot_mem l e h
      simp only [tot]; omega
theorem tot_both : ∀ (a b : List S42), tot (a ++ b) = tot a + tot b
  | [], b => by simp [tot]
  | x :: a, b => by simp only [List.cons_append, tot, tot_both a b]; omega
theorem CI.sr {n m : Int} {a b : List S42} {sh : Int} (h : CI n m a b sh) (hn : n ≤ 4700000000000000000) (hm : m ≤ 4700000000000000000) (ht : tot a ≤ 1048576) (hl : a.length ≤ 100000 ∧ b.length ≤ 100000) : SR n m ⟨-1, 0, sh, [], [], a, b⟩ := by
  obtain ⟨q, h1, h2, h3, h4, h5⟩ := h.q
  have hend := cz_end n (a.map edOf) q sh h1
  refine ⟨?_, ?_, (fun p hp => by cases hp), (fun e he => by cases he), (fun e he => Nat.le_trans (tot_mem a e he) ht), (show (-1 : Int) ≤ -1 ∧ (-1 : Int) ≤ 4700000000000000000 by decide), (show (0 : Int) ≤ 0 ∧ (0 : Int) ≤ 4700000000000000000 by decide), ?_, ?_⟩
  · intro A e B he
    subst he
    have hmap : (A ++ e :: B).map edOf = A.map edOf ++ edOf e :: B.map edOf := by simp
    rw [hmap] at h1
    have c1 := cz_next n (A.map edOf) q sh (edOf e) (B.map edOf) h1
    have c2 := cz_text n (A.map edOf) q sh (edOf e) (B.map edOf) h1
    have c3 := cz_mem _ q h1 (edOf e) (by simp)
    have hmm := h.hm
    rw [hmap] at hmm
    rw [← hmm, edLen, shOf_edOf] at c2
    rw [shOf_edOf] at c1
    have d1 : (edOf e).a = e.f0 := rfl
    have d2 : (edOf e).b = e.f1 := rfl
    rw [d1] at c1 c2 c3
    rw [d2] at c1 c3
    show 0 ≤ e.f0 + (sh + sumG A) ∧ e.f0 + (sh + sumG A) + e.f2.size ≤ m ∧ 0 ≤ e.f0 ∧ e.f0 ≤ e.f1 ∧ e.f1 ≤ n
    exact ⟨by omega, by omega, by omega, by omega, by omega⟩
  · intro f hf
    have c3 := cz_mem _ _ h4 (edOf f) (List.mem_map_of_mem hf)
    have d1 : (edOf f).a = f.f0 := rfl
    have d2 : (edOf f).b = f.f1 := rfl
    rw [d1, d2] at c3
    exact ⟨by omega, by omega, by omega⟩
  · show _ ≤ sh ∧ sh ≤ _
    have := h.hm
    omega
  · show 0 + a.length ≤ _ ∧ 0 + b.length ≤ _
    omega
theorem putG_len : ∀ (A : List S42) (sh x y : Int), (putG (place sh A) x y).length ≤ tot A
  | [], _, _, _ => by simp [place, putG]
  | e :: r, sh, x, y => by
    have := putG_len r (sh + grow e) x y
    simp only [place, putG, List.length_append, tot]
    have h : (bytesOf (putOne (P67 (e.f0 + sh) e) x y)).length ≤ e.f2.size := by
      rw [bytesOf_length]
      unfold putOne
      split
      · show (e.f2.extract _ _).size ≤ _
        simp only [ByteArray.size_extract]
        omega
      · exact Nat.zero_le _
    omega
theorem writG_len (A : List S42) (sh hi : Int) : ∀ (ss : List S42) (x : Int), (writG (place sh A) hi ss x).length ≤ (ss.length + 1) * tot A + tot ss
  | [], x => by
    have := putG_len A sh x hi
    simp only [writG, List.length_nil, tot]
    omega
  | e :: t, x => by
    have h1 := putG_len A sh x e.f0
    have h2 := writG_len A sh hi t e.f1
    simp only [writG, List.length_append, bytesOf_length, tot, List.length_cons]
    have h3 : (t.length + 1 + 1) * tot A = (t.length + 1) * tot A + tot A := by rw [Nat.add_mul (t.length + 1) 1, Nat.one_mul]
    omega
/-- A group, and what is left behind it. -/
structure CStep (n m : Int) (a b : List S42) (sh : Int) (S : GS) : Prop where
  lo0 : 0 ≤ S.lo
  lo : 0 ≤ S.lo - sh ∧ S.lo - sh ≤ n
  hi : 0 ≤ S.hi - S.sh ∧ S.hi - S.sh ≤ n
  ci : CI n m S.a S.b S.sh
  ln : S.a.length + S.b.length + 1 ≤ a.length + b.length ∧ S.a.length ≤ a.length ∧ S.b.length ≤ b.length
  ta : tot S.a ≤ tot a
  tb : tot S.b ≤ tot b
  tx : (writG S.first S.hi S.second S.lo).length ≤ (b.length + 1) * tot a + tot b
  gr : ∀ k, groups (k + 1) (a.map edOf) (b.map edOf) sh = edOf ⟨S.lo - sh, S.hi - S.sh, strOfNums (writG S.first S.hi S.second S.lo)⟩ :: groups k (S.a.map edOf) (S.b.map edOf) S.sh
theorem CI.step {n m : Int} {a b : List S42} {sh : Int} (h : CI n m a b sh) (hne : ¬ (a = [] ∧ b = [])) (S : GS) (hS : gS (a.length + b.length + 1) ⟨-1, 0, sh, [], [], a, b⟩ = S) : CStep n m a b sh S := by
  obtain ⟨q, h1, h2, h3, h4, h5⟩ := h.q
  have hm := h.hm
  have hne' : ¬ (a.map edOf = [] ∧ b.map edOf = []) := by simpa using hne
  obtain ⟨lo, hlo, hla, hlb⟩ := next_lo (a.map edOf) (b.map edOf) sh hne'
  have ha0 : ∀ e r, a = e :: r → 0 ≤ e.f0 + sh := by
    intro e r he
    have := cz_mem _ q h1 (edOf e) (by rw [he]; simp)
    have d1 : (edOf e).a = e.f0 := rfl
    rw [d1] at this
    omega
  have hb0 : ∀ f t, b = f :: t → 0 ≤ f.f0 := by
    intro f t hf
    have := cz_mem _ _ h4 (edOf f) (by rw [hf]; simp)
    have d1 : (edOf f).a = f.f0 := rfl
    rw [d1] at this
    omega
  obtain ⟨A2, g1, g2, g3⟩ := gS_gat0 sh a b hne ha0 hb0
  rw [hS] at g1 g2 g3
  have hqlo : q + sh ≤ lo := by
    rcases hlo with ⟨e, t, h, h6⟩ | ⟨f, s, h, h6, _⟩
    · rw [h] at h1
      have := h1.1
      omega
    · rw [h] at h4
      have := h4.1
      omega
  have hln : lo - sh ≤ n := by
    rcases hlo with ⟨e, t, h, h6⟩ | ⟨f, s, h, h6, h7⟩
    · rw [h] at h1
      have := h1.2.1
      have := h1.2.2.1
      omega
    · rw [h] at h4
      have b1 := h4.2.1
      have b2 := h4.2.2.1
      cases haa : a.map edOf with
      | nil =>
        rw [haa] at hm
        simp only [shOf] at hm
        omega
      | cons e t =>
        rw [haa] at h1
        have := h7 e t haa
        have := h1.2.1
        have := h1.2.2.1
        omega
  have hA : Cz n (lo - sh) (a.map edOf) := by
    cases haa : a.map edOf with
    | nil => exact hln
    | cons e t =>
      rw [haa] at h1
      have := hla e t haa
      exact ⟨by omega, h1.2⟩
  have hB : Cz m lo (b.map edOf) := by
    cases hbb : b.map edOf with
    | nil =>
      rcases hlo with ⟨e, t, h, h6⟩ | ⟨f, s, h, _⟩
      · have := cz_end n (a.map edOf) (lo - sh) sh hA
        show lo ≤ m
        omega
      · rw [hbb] at h; cases h
    | cons f t =>
      rw [hbb] at h4
      have := hlb f t hbb
      exact ⟨by omega, h4.2⟩
  obtain ⟨s1, s2, s3⟩ := gat0_spec n m (lo - sh) sh lo (by omega) (by omega) (a.map edOf) (b.map edOf) hA hB hm hlo
  have s2a := s2.ha
  have s2b := s2.hb
  have s2m := s2.hm
  have s2g := s2.gat
  have s2sA := s2.stopA
  have s2sB := s2.stopB
  rw [g3] at s1 s2a s2b s2m s2g s2sA s2sB s3
  simp only at s1 s2a s2b s2m s2g s2sA s2sB s3
  have haa : A2 ++ S.a = a := map_edOf_inj (by rw [List.map_append]; exact s2a)
  have hbb : S.second ++ S.b = b := map_edOf_inj (by rw [List.map_append]; exact s2b)
  have hsh : shOf sh (A2.map edOf) = S.sh := by rw [shOf_edOf, g2]
  rw [hsh] at s2sA
  have hql := q_le n (A2.map edOf) (lo - sh) sh S.hi (by rw [← s2a] at hA; exact Cz.left hA hln) (fun f t hm => (s2g.fs_ f t hm).2) (by have := s2g.le_; omega)
  rw [hsh] at hql
  have hmS : m = n + shOf S.sh (S.a.map edOf) := by rw [hm, ← s2a, shOf_append, hsh]
  have hhi : S.hi - S.sh ≤ n := by
    cases hsa : S.a.map edOf with
    | nil =>
      rw [hsa] at hmS
      simp only [shOf] at hmS
      omega
    | cons e t =>
      have := s2sA e t hsa
      have := cz_mem _ _ hA e (by rw [← s2a, hsa]; simp)
      omega
  have e1 : a.length = A2.length + S.a.length := by rw [← haa, List.length_append]
  have e2 : b.length = S.second.length + S.b.length := by rw [← hbb, List.length_append]
  have t1 : tot a = tot A2 + tot S.a := by rw [← haa, tot_both]
  have t2 : tot b = tot S.second + tot S.b := by rw [← hbb, tot_both]
  simp only [List.length_map] at s3
  have hle := s2g.le_
  refine ⟨by omega, by omega, by omega, ⟨⟨S.hi - S.sh, ?_, by omega, hhi, ?_, by omega⟩, hmS⟩, by omega, by omega, by omega, ?_, ?_⟩
  · have hr := cz_right n (A2.map edOf) (S.a.map edOf) (lo - sh) (by rw [s2a]; exact hA)
    exact Ch.cz (ch_from n _ (lo - sh) _ hr (fun e t he => by have := s2sA e t he; omega)) hhi
  · rw [show S.hi - S.sh + S.sh = S.hi by omega]
    have hr := cz_right m (S.second.map edOf) (S.b.map edOf) lo (by rw [s2b]; exact hB)
    exact Ch.cz (ch_from m _ lo _ hr (fun e t he => s2sB e t he)) s2m
  · rw [g1]
    have := writG_len A2 sh S.hi S.second S.lo
    have h6 : (S.second.length + 1) * tot A2 ≤ (b.length + 1) * tot a := Nat.mul_le_mul (by omega) (by omega)
    omega
  · intro k
    simp only [groups]
    rw [if_neg hne', g3, hsh]
    congr 1
    rw [g1, writ_str]
    rfl
end Go.Proofs.Ytaihajmdngoeiaa.Q

-- Rows of a text's bytes: what a list of edits leaves, one list for two, how many new bytes
namespace Go.Proofs.Ytaihajmdngoeiaa.Q
open Go.RowKit Go.Proofs.YtaihajmdngoeiaaW.PrintWords Go.Proofs.YtaihajmdngoeiaaW.PrintLast Go.Proofs.YtaihajmdngoeiaaW.PrintMore
open Go.Proofs.Ytaihajmdngoeiaa.F
set_option linter.unusedVariables false
set_option linter.unusedSimpArgs false

/-- A byte of a row over a text. -/
def byX (x : List UInt8) : By → UInt8
  | .new c => c
  | .old j => x.getD j.toNat 0
def bys (R : Rw) : List By := R.1.map (·.2)
/-- A row's text. -/
def appR (x : List UInt8) (R : Rw) : List UInt8 := (bys R).map (byX x)
def atX (x : List UInt8) : List At → List UInt8
  | [] => []
  | .mark :: r => atX x r
  | .by b :: r => byX x b :: atX x r
theorem atX_cells (x : List UInt8) : ∀ (Z : List At) (f : Bool), appR x (cells f Z) = atX x Z
  | [], f => rfl
  | .mark :: r, f => by simp only [cells, atX]; exact atX_cells x r true
  | .by b :: r, f => by
    have := atX_cells x r false
    simp only [appR, bys] at this
    simp only [cells, atX, appR, bys, List.map_cons, this]
theorem atX_app (x : List UInt8) : ∀ (a b : List At), atX x (a ++ b) = atX x a ++ atX x b
  | [], b => rfl
  | .mark :: a, b => by simp only [List.cons_append, atX, atX_app x a b]
  | .by c :: a, b => by simp only [List.cons_append, atX, atX_app x a b]
theorem atX_news (x : List UInt8) (t : List UInt8) : atX x (news t) = t := by
  induction t with
  | nil => rfl
  | cons c t ih =>
    simp only [news, List.map_cons, atX, byX] at ih ⊢
    rw [ih]
theorem atX_cAts (x : List UInt8) : ∀ (l : List Cl), atX x (cAts l) = l.map (fun c => byX x c.2)
  | [] => rfl
  | (f, b) :: l => by
    have := atX_cAts x l
    simp only [cAts, List.flatMap_cons] at this ⊢
    rw [atX_app, this]
    cases f <;> simp [cAt, atX]
theorem idr_bytes (x : List UInt8) (p : Nat) : (idr p x.length).1.map (fun c => byX x c.2) = x.drop p := by
  apply List.ext_getElem
  · simp only [idr, List.length_map, List.length_range, List.length_drop]; omega
  · intro i h1 h2
    simp only [List.length_drop] at h2
    simp only [idr, List.getElem_map, List.getElem_range, byX, List.getElem_drop]
    rw [show ((p : Int) + (i : Int)).toNat = p + i by omega, List.getD_eq_getElem?_getD, List.getElem?_eq_getElem (by omega)]
    rfl
theorem ap_at (text : ByteArray) : ∀ (l : List S42) (p : Nat), Cz text.size p (l.map edOf) → (apGo text p l).data.toList = atX text.data.toList (cmp p (idr p text.size) (l.map edOf))
  | [], p, h => by
    have hp : (p : Int) ≤ text.size := h
    have hx : text.data.toList.length = text.size := by simp
    simp only [List.map_nil, apGo]
    rw [cmp_nil, atX_cAts]
    have := idr_bytes text.data.toList p
    rw [hx] at this
    rw [this, ByteArray.data_extract, Array.toList_extract, List.extract_eq_take_drop]
    simp only [Int.toNat_natCast]
    rw [List.take_of_length_le (by rw [List.length_drop, hx]; omega)]
  | e :: t, p, ⟨c1, c2, c3, c4⟩ => by
    have d1 : (edOf e).a = e.f0 := rfl
    have d2 : (edOf e).b = e.f1 := rfl
    have d3 : (edOf e).t = e.f2.data.toList := rfl
    rw [d1] at c1 c2
    rw [d2] at c2 c3 c4
    have hx : text.data.toList.length = text.size := by simp
    simp only [List.map_cons, apGo]
    rw [cmp_cons p text.size (edOf e) (t.map edOf) (by rw [d2]; omega), atX_app, atX_cAts]
    simp only [atX]
    rw [atX_app, atX_news, d1, d2, d3]
    obtain ⟨q, hq⟩ : ∃ q : Nat, e.f1 = (q : Int) := ⟨e.f1.toNat, by omega⟩
    have ih := ap_at text t q (by rw [← hq]; exact Ch.cz c4 c3)
    rw [hq, ← ih]
    have hi := idr_bytes text.data.toList p
    rw [hx] at hi
    rw [List.map_take, hi]
    simp only [ByteArray.data_append, Array.toList_append, ByteArray.data_extract, Array.toList_extract, List.extract_eq_take_drop, Int.toNat_natCast, List.append_assoc]
    rw [show (e.f0 - (p : Int)).toNat = e.f0.toNat - p by omega]
/-- What Apply leaves is the list's row over the text. -/
theorem ap_row (text : ByteArray) (l : List S42) (hc : Chain text.size none l) : (apGo text 0 l).data.toList = appR text.data.toList (rowE text.size (l.map edOf)) := by
  unfold rowE
  rw [atX_cells]
  exact ap_at text l 0 (Ok.cz (chain_ok hc) (by omega))
/-- Only the bytes count. -/
theorem bys_nrm (n : Int) (R R' : Rw) (h : nrm n (some 0) R.1 R.2 = nrm n (some 0) R'.1 R'.2) : bys R = bys R' := by
  have key : ∀ (l : List Cl) (nx : Option Int) (fin : Bool), (nrm n nx l fin).1.map (·.2) = l.map (·.2) := by
    intro l
    induction l with
    | nil => intro nx fin; rfl
    | cons c l ih =>
      intro nx fin
      obtain ⟨f, b⟩ := c
      cases b with
      | new y => simp only [nrm, List.map_cons, ih]
      | old k => simp only [nrm, List.map_cons, ih]
  unfold bys
  rw [← key R.1 (some 0) R.2, h, key]
theorem appR_lst (x : List UInt8) (n : Int) (R : Rw) (h : Mono n 0 R.1) : appR x (rowE n (lst n R)) = appR x R := by
  unfold appR
  rw [bys_nrm n _ _ (nrm_rowE n R h)]
theorem appR_sub (x : List UInt8) (R S : Rw) (h : ∀ c ∈ S.1, ∀ j, c.2 = .old j → 0 ≤ j ∧ j < R.1.length) : appR x (sub R S) = appR (appR x R) S := by
  unfold appR bys sub
  simp only [List.map_map]
  apply List.map_congr_left
  intro c hc
  obtain ⟨f, b⟩ := c
  cases b with
  | new y => rfl
  | old j =>
    obtain ⟨h0, h1⟩ := h _ hc j rfl
    have hj : j.toNat < R.1.length := by omega
    simp only [Function.comp_apply, sub1, List.getElem?_eq_getElem hj, byX]
    rw [List.getD_eq_getElem?_getD, List.getElem?_map, List.getElem?_eq_getElem hj]
    rfl
/-- One list does what both do. -/
theorem appR_cmpE (x : List UInt8) (n : Int) (h0 : 0 ≤ n) (a b : List Ed) (ha : Ok n a) (hb : Ok (rowE n a).1.length b) : appR x (rowE n (cmpE n a b)) = appR (appR x (rowE n a)) (rowE (rowE n a).1.length b) := by
  have oA := row_ok n h0 a ha
  have oB := row_ok _ (by omega) b hb
  unfold cmpE
  rw [appR_lst x n _ (sub_ok n _ _ oA oB).1, appR_sub]
  intro c hc j hj
  exact mono_lt _ _ 0 (Int.le_refl _) oB.1 c hc j hj
theorem cmpE_ok (n : Int) (h0 : 0 ≤ n) (a b : List Ed) (ha : Ok n a) (hb : Ok (rowE n a).1.length b) : Ok n (cmpE n a b) := lst_ok n _ (sub_ok n _ _ (row_ok n h0 a ha) (row_ok _ (by omega) b hb)).1
theorem edOf_toS_map (l : List Ed) : (l.map toS).map edOf = l := by
  rw [List.map_map]
  conv => rhs; rw [← List.map_id l]
  apply List.map_congr_left
  intro e he
  show edOf (toS e) = e
  unfold edOf toS
  simp
end Go.Proofs.Ytaihajmdngoeiaa.Q

namespace Go.Proofs.Ytaihajmdngoeiaa.Q
open Go.RowKit Go.Proofs.YtaihajmdngoeiaaW.PrintWords Go.Proofs.YtaihajmdngoeiaaW.PrintLast Go.Proofs.YtaihajmdngoeiaaW.PrintMore
open Go.Proofs.Ytaihajmdngoeiaa.F

theorem same_loop (l : List S42) (hl : l.length ≤ 9223372036854775807) (d : Nat) : ∀ i, i ≤ l.length → l.length - i = d →
    Ev (fun k => monikerplain_SameEdits.l0 k l l (l.length : Int) (i : Int)) true := by
  induction d with
  | zero =>
    intro i h1 h2
    refine ⟨1, fun n hn => ?_⟩
    obtain ⟨k, rfl⟩ : ∃ m, n = m + 1 := ⟨n - 1, by omega⟩
    simp only [monikerplain_SameEdits.l0]
    rw [if_neg (by omega)]
  | succ d ih =>
    intro i h1 h2
    obtain ⟨K, hK⟩ := ih (i + 1) (by omega) (by omega)
    refine ⟨K + 1, fun n hn => ?_⟩
    obtain ⟨k, rfl⟩ : ∃ m, n = m + 1 := ⟨n - 1, by omega⟩
    simp only [monikerplain_SameEdits.l0]
    rw [if_pos (by omega), if_pos (by omega), if_pos (by omega), if_pos (by omega), if_neg (by simp), show wrap64 ((i : Int) + 1) = ((i + 1 : Nat) : Int) by unfold wrap64; omega]
    exact hK k (by omega)
theorem same_is (l : List S42) (hl : l.length ≤ 9223372036854775807) : Ev (fun k => monikerplain_SameEdits.f k l l) true := by
  unfold monikerplain_SameEdits.f
  simp only [↓reduceIte]
  exact same_loop l hl l.length 0 (by omega) (by omega)
end Go.Proofs.Ytaihajmdngoeiaa.Q

-- (*composer).group (41), walked by hand
namespace Go.Proofs.Ytaihajmdngoeiaa.F
open Go.RowKit Go.Proofs.YtaihajmdngoeiaaW.PrintWords Go.Proofs.YtaihajmdngoeiaaW.PrintLast Go.Proofs.YtaihajmdngoeiaaW.PrintMore
open Go.Proofs.Ytaihajmdngoeiaa.Q
attribute [local go_sem] max2_int min2_int max_two min_two
set_option linter.unusedVariables false
set_option linter.unusedSimpArgs false

def group.T11 : Bool × List (List Nat × List Nat) := (true, [([], []), ([0], [0]), ([1], [1]), ([2], [2]), ([], []), ([4], [4]), ([3, 5], [3, 5]), ([0, 0, 1, 2, 3, 4, 5, 6], [0]), ([7, 0, 1, 2, 3, 4, 5, 6], [7]), ([8, 6, 5, 0, 1, 2, 3, 4, 5, 6], [6, 8])])
def group.B11 : List Nat := [0, 1, 3, 7, 0, 16, 63, 127, 255, 511]
theorem group.tab11 : rtab .any (opsOf Try.f41 11) = group.T11 := by kernel_rfl
theorem group.bits11 : waitsOk group.T11.2 group.B11 = true := by kernel_rfl
def group.T22 : Bool × List (List Nat × List Nat) := (true, [([], []), ([], []), ([1], [1]), ([2], [2]), ([3], [3]), ([], []), ([], []), ([5, 6], [5, 6]), ([], []), ([], []), ([9], [9]), ([10], [10]), ([11], [11]), ([8, 12], [8, 12]), ([], []), ([], []), ([], []), ([], []), ([14, 15, 16, 17], [14, 15, 16, 17]), ([7, 13, 18], [7, 13, 18]), ([19], [19]), ([4, 20, 18], [4, 20]), ([0, 0, 1, 2, 3, 4, 5, 6, 7, 8, 9, 10, 11, 12, 13, 14, 15, 16, 17, 18, 19, 20, 21], [0]), ([22, 0, 1, 2, 3, 4, 5, 6, 7, 8, 9, 10, 11, 12, 13, 14, 15, 16, 17, 18, 19, 20, 21], [22]), ([23, 21, 21, 0, 1, 2, 3, 4, 5, 6, 7, 8, 9, 10, 11, 12, 13, 14, 15, 16, 17, 18, 19, 20, 21], [21, 23])])
def group.B22 : List Nat := [0, 0, 2, 6, 14, 0, 0, 96, 0, 0, 512, 1536, 3584, 7936, 0, 0, 0, 0, 245760, 524256, 1048544, 2097150, 4194303, 8388607, 16777215]
theorem group.tab22 : rtab .any (opsOf Try.f41 22) = group.T22 := by kernel_rfl
theorem group.bits22 : waitsOk group.T22.2 group.B22 = true := by kernel_rfl
set_option maxRecDepth 100000 in
set_option maxHeartbeats 20000000 in
theorem group.calls (g : Nat) (a b : List S42) (sh : Int) (vo : Value) (out : List S42) (n m : Int) (w0 w : World) (hm : m ≤ 4700000000000000000) (hn : n ≤ 4700000000000000000)
    (h0 : MR w0 w w g a b sh [] [] (.slice none 0 0) (.slice none 0 0) vo out) (hs0 : SR n m ⟨-1, 0, sh, [], [], a, b⟩) (hol : out.length ≤ 200000) (S : GS) (hS : gS (a.length + b.length + 1) ⟨-1, 0, sh, [], [], a, b⟩ = S)
    (hf : -9000000000000000000 ≤ S.lo - sh ∧ S.lo - sh ≤ 9000000000000000000 ∧ -9000000000000000000 ≤ S.hi - S.sh ∧ S.hi - S.sh ≤ 9000000000000000000) (hwl : (writG S.first S.hi S.second S.lo).length ≤ 140737488355328) (hlo : 0 ≤ S.lo) :
    Calls Try.prog 41 #[.pointer (some ⟨g, 0, none⟩)] w fun e w' => (∃ x, e = .returned x) ∧ ∃ vo', CBx w0 w' g S.a S.b S.sh vo' ∧ Kd.R k42 42 w' w0.heap.size (fun k => k ≠ g) vo' (out ++ [⟨S.lo - sh, S.hi - S.sh, strOfNums (writG S.first S.hi S.second S.lo)⟩]) ∧ Below w0.heap.size w0 w' := by
  have hu22 := Try.underlying22
  have hu42 := Try.underlying42
  have hu65 := Try.underlying65
  have hu67 := Try.underlying67
  have HM0 := Aside0.mk hm
  have HN0 := Aside0.mk hn
  have H0 := Aside0.mk h0
  have HS0 := Aside0.mk hs0
  have HOL := Aside0.mk hol
  have HGS := Aside0.mk hS
  have HF := Aside0.mk hf
  have HWL := Aside0.mk hwl
  have HLO := Aside0.mk hlo
  obtain ⟨Aa, ca, Ab, cb, xg, CA, la, CB, lb⟩ := h0.bx
  have mg : w.cell? ⟨g, 2, none⟩ = some (.int .i64 sh) := (blk_cell xg 2).trans rfl
  clear hm hn h0 hs0 hol hS hf hwl hlo xg CA CB la lb
  go_enter Try.func41, Try.ntmps41
  go_upto_block 0 with (fail)
  go_cut [2, 3, 5, 6] (fun v2 v3 v5 v6 wc => v2 = .int .i64 S.lo ∧ v3 = .int .i64 S.hi ∧ Aside0 (MR w0 w wc g S.a S.b S.sh S.first S.second v5 v6 vo out) ∧ Aside0 (SR n m S))
  case first =>
    as_aux_lemma =>
      clear mg
      go_wp2_with (fail)
      go_loopg [2, 3, 5, 6] (a.length + b.length + 1) (fun kq v2 v3 v5 v6 w' => ∃ (s : GS), v2 = .int .i64 s.lo ∧ v3 = .int .i64 s.hi ∧ Aside0 (s.a.length + s.b.length + 1 = kq) ∧ Aside0 (gS kq s = S) ∧ Aside0 (MR w0 w w' g s.a s.b s.sh s.first s.second v5 v6 vo out) ∧ Aside0 (SR n m s))
      case atStart => exact ⟨_, rfl, rfl, ⟨rfl⟩, HGS, H0, HS0⟩
      case round =>
        clear H0 HGS HS0
        obtain ⟨s, rfl, rfl, HK, HS, HMR, HSR⟩ := hrel
        obtain ⟨lo, hi, sh1, first, second, a1, b1⟩ := s
        go_step
        go_step
        go_cut [2, 3, 5] (fun v2 v3 v5 wc => v2 = .int .i64 lo ∧ v3 = .int .i64 hi ∧ v5 = u5 ∧ Aside0 (MR w0 w wc g a1 b1 sh1 first second u5 u6 vo out) ∧ Aside0 (∀ e r, a1 = e :: r → takesA lo hi sh1 e b1 = false))
        case first =>
          as_aux_lemma =>
            obtain ⟨Aa, ca, Ab, cb, xg, CA, la, CB, lb⟩ := HMR.out.bx
            simp only at xg CA la CB lb
            obtain ⟨na, hna⟩ : ∃ n, n = a1.length := ⟨_, rfl⟩
            obtain ⟨nb, hnb⟩ : ∃ n, n = b1.length := ⟨_, rfl⟩
            rw [← hna, ← hnb] at xg
            have m0 : wr.cell? ⟨g, 0, none⟩ = some (.slice Aa na ca) := (blk_cell xg 0).trans rfl
            have m1 : wr.cell? ⟨g, 1, none⟩ = some (.slice Ab nb cb) := (blk_cell xg 1).trans rfl
            have m2 : wr.cell? ⟨g, 2, none⟩ = some (.int .i64 sh1) := (blk_cell xg 2).trans rfl
            have XCA := Aside0.mk CA
            have XCB := Aside0.mk CB
            have NA := Aside0.mk hna
            have NB := Aside0.mk hnb
            clear xg CA CB la lb hna hnb
            cases a1 with
            | nil =>
              have hna := NA.out
              simp only [List.length_nil] at hna
              subst hna
              go_wp2
              go_meet
              case rel => exact ⟨rfl, rfl, rfl, HMR, ⟨fun e r h => by cases h⟩⟩
            | cons e r =>
              have hna := NA.out
              have d1 : decide (0 < na) = true := decide_eq_true (by rw [hna]; simp)
              have d2 : decide (0 < (na : Int)) = true := decide_eq_true (by rw [hna]; simp only [List.length_cons]; omega)
              obtain ⟨ada, ea, xa0, xa1, xa2⟩ := at_T42 (Kd.C_below XCA.out HMR.out.hb) 0 (by omega) (by simp)
              subst ea
              have qa : (0 < na) = True := eq_true (by rw [hna]; simp)
              have ra : rd_T42 (e :: r) 0 = e := rfl
              simp only [ra, Int.toNat_zero, Nat.zero_mul, Addr.add_zero'] at xa0 xa1 xa2
              obtain ⟨p1, p2, p3, p4, p5⟩ := Pl.head (show Pl n m sh1 (e :: r) from HSR.out.pa)
              have hw : wrap64 (e.f0 + sh1) = e.f0 + sh1 := by have := HM0.out; rw [w64] <;> omega
              have PH := Aside0.mk (show 0 ≤ e.f0 + sh1 ∧ e.f0 + sh1 + e.f2.size ≤ m ∧ 0 ≤ e.f0 ∧ e.f0 ≤ e.f1 ∧ e.f1 ≤ n from ⟨p1, p2, p3, p4, p5⟩)
              clear hna ra p1 p2 p3 p4 p5
              go_upto_region 6 with (fail)
              go_quiet (fail)
              go_upto_region 7 with (fail)
              rw [hw]
              go_cut [61] (fun v61 wc => v61 = .bool (takesA lo hi sh1 e b1) ∧ ∃ k, wc = wr.drewN k)
              case first =>
                as_aux_lemma =>
                  by_cases l : lo < 0
                  · have c1 : decide (lo < 0) = true := decide_eq_true l
                    have c2 : decide (0 ≤ lo) = false := decide_eq_false (by omega)
                    cases b1 with
                    | nil =>
                      have hnb := NB.out
                      simp only [List.length_nil] at hnb
                      subst hnb
                      have HT := Aside0.mk (show takesA lo hi sh1 e [] = true by simp [takesA, l])
                      clear l xa0 xa1 xa2 hw qa
                      go_wp2
                      go_meet
                      case rel => exact ⟨by rw [HT.out], _, rfl⟩
                    | cons f t =>
                      have hnb := NB.out
                      obtain ⟨adb, eb, xb0, xb1, xb2⟩ := at_T42 (Kd.C_below XCB.out HMR.out.hb) 0 (by omega) (by simp)
                      subst eb
                      have qb : (0 < nb) = True := eq_true (by rw [hnb]; simp)
                      have dn : ((nb : Int) == 0) = false := beq_eq_false_iff_ne.mpr (by rw [hnb]; simp only [List.length_cons]; omega)
                      have rb : rd_T42 (f :: t) 0 = f := rfl
                      simp only [rb, Int.toNat_zero, Nat.zero_mul, Addr.add_zero'] at xb0 xb1 xb2
                      by_cases c : e.f0 + sh1 ≤ f.f0
                      · have d3 : decide (e.f0 + sh1 ≤ f.f0) = true := decide_eq_true c
                        have HT := Aside0.mk (show takesA lo hi sh1 e (f :: t) = true by simp [takesA, l, c])
                        clear l xa0 xa1 xa2 hw qa rb hnb c
                        go_wp2
                        go_meet
                        case rel => exact ⟨by rw [HT.out], _, rfl⟩
                      · have d3 : decide (e.f0 + sh1 ≤ f.f0) = false := decide_eq_false c
                        have HT := Aside0.mk (show takesA lo hi sh1 e (f :: t) = false by simp [takesA, l, c]; omega)
                        clear l xa0 xa1 xa2 hw qa rb hnb c
                        go_wp2
                        go_meet
                        case rel => exact ⟨by rw [HT.out], _, rfl⟩
                  · have c1 : decide (lo < 0) = false := decide_eq_false l
                    have c2 : decide (0 ≤ lo) = true := decide_eq_true (by omega)
                    have HT := Aside0.mk (show takesA lo hi sh1 e b1 = decide (e.f0 + sh1 ≤ hi) by simp [takesA, l]; omega)
                    clear l xa0 xa1 xa2 hw qa
                    go_wp2
                    go_meet
                    case rel => exact ⟨by rw [HT.out], _, rfl⟩
              case rest =>
                as_aux_lemma =>
                  obtain ⟨rfl, kd, rfl⟩ := hcut
                  have HM1 := Aside0.mk (HMR.out.below (pw_below_drewN (Below.refl _ _) kd))
                  by_cases ht : takesA lo hi sh1 e b1 = true
                  · rw [ht]
                    have HTK := Aside0.mk ht
                    clear ht HMR m0 m1 m2 xa0 xa1 xa2 hw d1 d2 qa XCA XCB NA NB
                    generalize wr.drewN kd = wd at HM1 ⊢
                    clear Aa ca Ab cb na nb ada
                    obtain ⟨Aa, ca, Ab, cb, xg, CA, la, CB, lb⟩ := HM1.out.bx
                    obtain ⟨na, hna⟩ : ∃ n, n = (e :: r).length := ⟨_, rfl⟩
                    rw [← hna] at xg la
                    have m0 : wd.cell? ⟨g, 0, none⟩ = some (.slice Aa na ca) := (blk_cell xg 0).trans rfl
                    obtain ⟨ada, ea, xa0, xa1, xa2⟩ := at_T42 (Kd.C_below CA HM1.out.hb) 0 (by omega) (by simp)
                    subst ea
                    have qa : (0 < na) = True := eq_true (by rw [hna]; simp)
                    have ra : rd_T42 (e :: r) 0 = e := rfl
                    simp only [ra, Int.toNat_zero, Nat.zero_mul, Addr.add_zero'] at xa0 xa1 xa2
                    have XCA := Aside0.mk CA
                    have XCB := Aside0.mk CB
                    have XG := Aside0.mk xg
                    have NA := Aside0.mk hna
                    have LA := Aside0.mk la
                    have LB := Aside0.mk lb
                    clear xg CA CB la lb hna ra
                    go_upto_region 9 with (fail)
                    obtain ⟨gE, hgE⟩ : ∃ g, wd.heap.size = g := ⟨_, rfl⟩
                    obtain ⟨W2, hW2⟩ : ∃ W, W = wd.alloc (Obj.cells #[Value.int IntKind.i64 e.f0, Value.int IntKind.i64 e.f1, Value.string e.f2] 42) := ⟨_, rfl⟩
                    rw [← hW2, hgE]
                    have BE := Aside0.mk (show W2.heap[gE]? = some (.cells #[.int .i64 e.f0, .int .i64 e.f1, .string e.f2] 42 (0, 0)) by rw [hW2, ← hgE]; exact blk_new _ _)
                    have XG2 := Aside0.mk (show W2.heap[g]? = some (.cells #[.slice (some ada) na ca, .slice Ab b1.length cb, .int .i64 sh1, vo] 58 (0, 0)) by rw [hW2]; exact blk_alloc XG.out _)
                    have HM2 := Aside0.mk (show MR w0 w W2 g (e :: r) b1 sh1 first second u5 u6 vo out by rw [hW2]; exact HM1.out.below (below_alloc (Below.refl _ _) _))
                    have h5E : ∀ k, u5.ownBlock = some k → k < gE := fun k hk => by rw [← hgE]; exact Kd.R_lt HM1.out.r5 k hk
                    have h6E : ∀ k, u6.ownBlock = some k → k < gE := fun k hk => by rw [← hgE]; exact Kd.R_lt HM1.out.r6 k hk
                    have hgE' : g < gE := by rw [← hgE]; exact blk_lt XG.out
                    have H5E := Aside0.mk h5E
                    have H6E := Aside0.mk h6E
                    have GE := Aside0.mk hgE'
                    clear h5E h6E hgE' hgE hW2 HM1 XG m0 xa0 xa1 xa2
                    have m0 : W2.cell? ⟨g, 0, none⟩ = some (.slice (some ada) na ca) := (blk_cell XG2.out 0).trans rfl
                    have mf := blk_frozen XG2.out 0
                    have s1 : (1 ≤ (na : Int)) = True := eq_true (by rw [NA.out]; simp only [List.length_cons]; omega)
                    go_upto_region 10 with (fail)
                    have hCr := Kd.C_drop (m := 1) (c := ca) (by rw [← NA.out]; have := XCA.out; rw [← NA.out] at this; exact this) (by simp) (by rw [← NA.out]; exact LA.out)
                    have hna1 : na - 1 = r.length := by rw [NA.out]; simp
                    have XG3 := Aside0.mk (show (W2.setCell ⟨g, 0, none⟩ (.slice (if ca = 1 then some ada else some ⟨ada.block, ada.off + 3, none⟩) (na - 1) (ca - 1))).heap[g]? = some (.cells #[.slice (if ca = 1 then some ada else some ⟨ada.block, ada.off + 3, none⟩) r.length (ca - 1), .slice Ab b1.length cb, .int .i64 sh1, vo] 58 (0, 0)) by rw [hna1]; exact blk_put XG2.out 0 _ rfl)
                    have HM3 := Aside0.mk (HM2.out.set (a2 := r) (b2 := b1) (sh2 := sh1) 0 (.slice (if ca = 1 then some ada else some ⟨ada.block, ada.off + 3, none⟩) (na - 1) (ca - 1)) ⟨_, _, _, _, XG3.out, hCr, by rw [← hna1]; have := LA.out; omega, XCB.out, LB.out⟩)
                    have BE3 := Aside0.mk ((Below.heap_setCell W2 ⟨g, 0, none⟩ (.slice (if ca = 1 then some ada else some ⟨ada.block, ada.off + 3, none⟩) (na - 1) (ca - 1)) gE (show gE ≠ g by have := GE.out; omega)).trans BE.out)
                    generalize W2.setCell ⟨g, 0, none⟩ (.slice (if ca = 1 then some ada else some ⟨ada.block, ada.off + 3, none⟩) (na - 1) (ca - 1)) = W3 at XG3 HM3 BE3 ⊢
                    clear HM2 BE XG2 hCr hna1 m0 mf s1
                    have e0 : W3.cell? ⟨gE, 0, none⟩ = some (.int .i64 e.f0) := (blk_cell BE3.out 0).trans rfl
                    have e1 : W3.cell? ⟨gE, 1, none⟩ = some (.int .i64 e.f1) := (blk_cell BE3.out 1).trans rfl
                    have e2 : W3.cell? ⟨gE, 2, none⟩ = some (.string e.f2) := (blk_cell BE3.out 2).trans rfl
                    have LF := Aside0.mk (show first.length ≤ 100000 by have := HSR.out.ln.1; simp only at this; omega)
                    go_upto_region 11 with (first | ((with_reducible refine gate_builtin (b := .append) (xs := #[.tmp 76, .tmp 80]) rfl ?_); at_builtin; refine Kd.R_append k67 (w0 := W3) w.heap.size rfl (.tmp 76) (.tmp 80) 65 67 (.agg #[(.int .i64 0), (.int .i64 0), (.int .i64 0), (.string ⟨#[]⟩)]) 40 rfl hu65 info67 rfl (by decide) (by omega) u5 first (P67 (e.f0 + sh1) e) [.int .i64 (e.f0 + sh1), .int .i64 e.f0, .int .i64 e.f1, .string e.f2] (fun k => k ≠ g) (fun _ => False) rfl rfl ?aP (fun _ hk => hk.elim) ?aF ?aO ?aB ?aS ?aL ?_; (case aP => exact k67_mkM _ _ _ (P67 (e.f0 + sh1) e)); (case aB => exact Below.refl _ _); (case aF => exact fun k hk => by have := HM3.out.gw; have := HM3.out.sz; omega); (case aO => exact HM3.out.r5); (case aS => exact HM3.out.sz); (case aL => have := LF.out; omega); intro v9 W4 ho hb hg hat; have HM4 := Aside0.mk (HM3.out.app5 ho hg hat); have BE4 := Aside0.mk (blk_grown BE3.out hg (fun q => by have := H5E.out gE q.symm; omega)); have BG := Aside0.mk (blk_grown XG3.out hg HM3.out.gne.1); clear ho hb hg hat e0 e1 e2; have m2 : W4.cell? ⟨g, 2, none⟩ = some (.int .i64 sh1) := (blk_cell BG.out 2).trans rfl; have e0 : W4.cell? ⟨gE, 0, none⟩ = some (.int .i64 e.f0) := (blk_cell BE4.out 0).trans rfl; have e1 : W4.cell? ⟨gE, 1, none⟩ = some (.int .i64 e.f1) := (blk_cell BE4.out 1).trans rfl; have e2 : W4.cell? ⟨gE, 2, none⟩ = some (.string e.f2) := (blk_cell BE4.out 2).trans rfl))
                    clear HM3 BE3 XG3
                    obtain ⟨hP1, hP2, hP3, hP4, hP5⟩ := PH.out
                    have hwg : wrap64 (sh1 + wrap64 ((e.f2.size : Int) - wrap64 (e.f1 - e.f0))) = sh1 + grow e := by
                      have h1 := HM0.out
                      have h2 := HN0.out
                      have h3 := HSR.out.ss
                      have h4 := HSR.out.sa e List.mem_cons_self
                      simp only at h3
                      show wrap64 (sh1 + wrap64 ((e.f2.size : Int) - wrap64 (e.f1 - e.f0))) = sh1 + ((e.f2.size : Int) - (e.f1 - e.f0))
                      rw [w64 (x := e.f1 - e.f0) (by omega) (by omega), w64 (x := (e.f2.size : Int) - (e.f1 - e.f0)) (by omega) (by omega), w64 (by omega) (by omega)]
                    have hwt : wrap64 (e.f0 + sh1 + (e.f2.size : Int)) = e.f0 + sh1 + (e.f2.size : Int) := by have h1 := HM0.out; rw [w64] <;> omega
                    have HWG := Aside0.mk hwg
                    have HWT := Aside0.mk hwt
                    have hgS : gS (r.length + b1.length + 1) (nextA ⟨lo, hi, sh1, first, second, e :: r, b1⟩ e r) = S := by
                      have h1 := HS.out
                      have h2 := HK.out
                      simp only [List.length_cons] at h2
                      rw [← h2, show r.length + 1 + b1.length + 1 = (r.length + b1.length + 1) + 1 by omega] at h1
                      simp only [gS, stepG_a, HTK.out, if_true] at h1
                      exact h1
                    have HGN := Aside0.mk hgS
                    clear hP1 hP2 hP3 hP4 hP5 hwg hwt hgS HS
                    refine start_ (n := 10) (S := fun w' => Below W4.heap.size W4 w') (ds := [9]) #[false, false, false, false, false, false, false, false, false, false] (by kernel_rfl) rfl rfl (below_drew1 (Below.refl _ _)) (fun hHeld => ?_)
                    refine with_tabW group.tab11 group.bits11 (fun HT_ HW_ => ?_)
                    generalize W4.drew = wa at hHeld ⊢
                    refine pure_ (i := 0) (N := some 82) (v := ?_) (a' := ?_) #[true, false, false, false, false, false, false, false, false, false] rfl rfl (any_of HT_.out (by kernel_rfl)) (fun _ _ _ h => h) (Or.inl ⟨by rfl, ?_⟩) ?_ ?_
                    rotate_left
                    · intro w'
                      go_simp
                      with_reducible rfl
                    rotate_left
                    · simp only [Act.put, List.setIfInBounds_toArray, List.set_cons_zero, List.set_cons_succ, i64_w, i32_w]
                      rfl
                    refine pure_ (i := 1) (N := some 83) (v := ?_) (a' := ?_) #[true, true, false, false, false, false, false, false, false, false] rfl rfl (any_of HT_.out (by kernel_rfl)) (fun _ _ _ h => h) (Or.inl ⟨by rfl, ?_⟩) ?_ ?_
                    rotate_left
                    · intro w'
                      go_simp
                      with_reducible rfl
                    rotate_left
                    · simp only [Act.put, List.setIfInBounds_toArray, List.set_cons_zero, List.set_cons_succ, i64_w, i32_w]
                      rfl
                    refine pure_ (i := 2) (N := some 84) (v := ?_) (a' := ?_) #[true, true, true, false, false, false, false, false, false, false] rfl rfl (any_of HT_.out (by kernel_rfl)) (fun _ _ _ h => h) (Or.inl ⟨by rfl, ?_⟩) ?_ ?_
                    rotate_left
                    · intro w'
                      go_simp
                      with_reducible rfl
                    rotate_left
                    · simp only [Act.put, List.setIfInBounds_toArray, List.set_cons_zero, List.set_cons_succ, i64_w, i32_w]
                      rfl
                    refine take_ (i := 3) (N := some 85) (v := ?_) (a' := ?_) #[true, true, true, true, false, false, false, false, false, false] rfl rfl (take_ofW HT_.out HW_.out (by kernel_rfl)) (fun _ _ _ h => h) (Or.inl ⟨by rfl, ?_⟩) hHeld ?_ ?_
                    rotate_left
                    · intro w' hS
                      have h0 := (hS.cell (World.block_lt_of_cell? _ _ m2)).trans m2
                      have h1 := (hS.cell (World.block_lt_of_cell? _ _ e0)).trans e0
                      have h2 := (hS.cell (World.block_lt_of_cell? _ _ e1)).trans e1
                      have h3 := (hS.cell (World.block_lt_of_cell? _ _ e2)).trans e2
                      clear hS
                      go_simp
                      with_reducible rfl
                    rotate_left
                    · simp only [Act.put, List.setIfInBounds_toArray, List.set_cons_zero, List.set_cons_succ, i64_w, i32_w]
                      rfl
                    refine take_ (i := 4) (N := some 86) (v := ?_) (a' := ?_) #[true, true, true, true, true, false, false, false, false, false] rfl rfl (take_ofW HT_.out HW_.out (by kernel_rfl)) (fun _ _ _ h => h) (Or.inl ⟨by rfl, ?_⟩) hHeld ?_ ?_
                    rotate_left
                    · intro w' hS
                      have h0 := (hS.cell (World.block_lt_of_cell? _ _ m2)).trans m2
                      have h1 := (hS.cell (World.block_lt_of_cell? _ _ e0)).trans e0
                      have h2 := (hS.cell (World.block_lt_of_cell? _ _ e1)).trans e1
                      have h3 := (hS.cell (World.block_lt_of_cell? _ _ e2)).trans e2
                      clear hS
                      go_simp
                      with_reducible rfl
                    rotate_left
                    · simp only [Act.put, List.setIfInBounds_toArray, List.set_cons_zero, List.set_cons_succ, i64_w, i32_w]
                      rfl
                    refine one_ (i := 5) (N := some 87) #[true, true, true, true, true, true, false, false, false, false] rfl rfl (one_of HT_.out (by kernel_rfl)) (by decide) (fun K hK => ?_)
                    refine goes_ Try.func34 (by kernel_rfl) rfl #[.agg #[.int .i64 e.f0, .int .i64 e.f1, .string e.f2]] (by rfl) rfl rfl (by (try simp only [List.map_toArray, List.map_cons, List.map_nil]); first | done | rfl) ?_
                    refine (edits_grows.calls e.f0 e.f1 e.f2 _ _ rfl).mono ?_
                    rintro e' w5 ⟨rfl, hb5⟩
                    refine ⟨_, rfl, ?_⟩
                    refine hK.out _ _ (below_step hHeld hb5) (fun hHeld => ?_)
                    clear hb5
                    clear hK K
                    refine norm_ (a' := ?_) ?_ ?_
                    rotate_left
                    · show Act.put _ (some 87) _ = _
                      simp only [Act.put, List.setIfInBounds_toArray, List.set_cons_zero, List.set_cons_succ, i64_w, i32_w]
                      rfl
                    refine pure_ (i := 6) (N := some 88) (v := ?_) (a' := ?_) #[true, true, true, true, true, true, true, false, false, false] rfl rfl (any_of HT_.out (by kernel_rfl)) (fun _ _ _ h => h) (Or.inl ⟨by rfl, ?_⟩) ?_ ?_
                    rotate_left
                    · intro w'
                      go_simp
                      with_reducible rfl
                    rotate_left
                    · simp only [Act.put, List.setIfInBounds_toArray, List.set_cons_zero, List.set_cons_succ, i64_w, i32_w]
                      rfl
                    refine pure_ (i := 7) (N := some 89) (v := ?_) (a' := ?_) #[true, true, true, true, true, true, true, true, false, false] rfl rfl (any_of HT_.out (by kernel_rfl)) (fun _ _ _ h => h) (Or.inl ⟨by rfl, ?_⟩) ?_ ?_
                    rotate_left
                    · intro w'
                      go_simp
                      with_reducible rfl
                    rotate_left
                    · simp only [Act.put, List.setIfInBounds_toArray, List.set_cons_zero, List.set_cons_succ, i64_w, i32_w]
                      rfl
                    refine pure_ (i := 8) (N := some 90) (v := ?_) (a' := ?_) #[true, true, true, true, true, true, true, true, true, false] rfl rfl (any_of HT_.out (by kernel_rfl)) (fun _ _ _ h => h) (Or.inl ⟨by rfl, ?_⟩) ?_ ?_
                    rotate_left
                    · intro w'
                      go_simp
                      with_reducible rfl
                    rotate_left
                    · simp only [Act.put, List.setIfInBounds_toArray, List.set_cons_zero, List.set_cons_succ, i64_w, i32_w]
                      rfl
                    refine last_ (i := 9) (N := none) #[true, true, true, true, true, true, true, true, true, true] rfl rfl (one_of HT_.out (by kernel_rfl)) (by decide) (fun K hK => ?_)
                    have hf0 := blk_frozen (blk_below BG.out hHeld) 2
                    have h0 := (blk_cell (blk_below BG.out hHeld) 2)
                    refine skip_ (w1 := ?_) (by rfl) rfl ?_ ?_
                    rotate_left
                    · go_simp
                      rfl
                    refine hK.out _ _ ?_
                    clear hK K
                    refine done_ (done_of HT_.out (by kernel_rfl)) ?_
                    have HM5 := HM4.out.below hHeld
                    have BE5 := blk_below BE4.out hHeld
                    rw [HWG.out]
                    obtain ⟨Aq, cq, Ar, cr, xq, Cq, lq, Cr, lr⟩ := HM5.bx
                    have HM6 := Aside0.mk (HM5.set (a2 := r) (b2 := b1) (sh2 := sh1 + grow e) 2 (.int .i64 (sh1 + grow e)) ⟨Aq, cq, Ar, cr, blk_put xq 2 _ rfl, Cq, lq, Cr, lr⟩)
                    have BE6 := Aside0.mk ((Below.heap_setCell w5 ⟨g, 2, none⟩ (.int .i64 (sh1 + grow e)) gE (show gE ≠ g by have := GE.out; omega)).trans BE5)
                    generalize w5.setCell ⟨g, 2, none⟩ (.int .i64 (sh1 + grow e)) = W6 at HM6 BE6 ⊢
                    clear HM5 BE5 xq Cq lq Cr lr hHeld hf0 h0 HM4 BG BE4 m2 e0 e1 e2
                    have e2 : W6.cell? ⟨gE, 2, none⟩ = some (.string e.f2) := (blk_cell BE6.out 2).trans rfl
                    have hwt := HWT.out
                    by_cases l : lo < 0
                    · have c1 : decide (lo < 0) = true := decide_eq_true l
                      have HL := Aside0.mk l
                      clear l
                      go_wp2
                      all_goals
                        go_roundg (r.length + b1.length + 1)
                        case measure => have := HK.out; simp only [List.length_cons] at this; omega
                        case rel =>
                          refine ⟨nextA ⟨lo, hi, sh1, first, second, e :: r, b1⟩ e r, ?_, ?_, ⟨rfl⟩, HGN, HM6, ⟨SR.nextA HM0.out HN0.out HSR.out⟩⟩
                          · show Value.int .i64 (e.f0 + sh1) = .int .i64 (if lo < 0 then e.f0 + sh1 else lo)
                            rw [if_pos HL.out]
                          · show Value.int .i64 _ = Value.int .i64 (max hi (e.f0 + sh1 + (e.f2.size : Int)))
                            congr 1
                            omega
                    · have c1 : decide (lo < 0) = false := decide_eq_false l
                      have HL := Aside0.mk l
                      clear l
                      go_wp2
                      all_goals
                        go_roundg (r.length + b1.length + 1)
                        case measure => have := HK.out; simp only [List.length_cons] at this; omega
                        case rel =>
                          refine ⟨nextA ⟨lo, hi, sh1, first, second, e :: r, b1⟩ e r, ?_, ?_, ⟨rfl⟩, HGN, HM6, ⟨SR.nextA HM0.out HN0.out HSR.out⟩⟩
                          · show Value.int .i64 lo = .int .i64 (if lo < 0 then e.f0 + sh1 else lo)
                            rw [if_neg (show ¬ lo < 0 by have := HL.out; omega)]
                          · show Value.int .i64 _ = Value.int .i64 (max hi (e.f0 + sh1 + (e.f2.size : Int)))
                            congr 1
                            omega
                  · rw [Bool.not_eq_true] at ht
                    rw [ht]
                    have HTK := Aside0.mk ht
                    clear ht
                    go_wp2
                    go_meet
                    case rel => exact ⟨rfl, rfl, rfl, HM1, ⟨fun e' r' h => by injection h with h1 h2; rw [← h1]; exact HTK.out⟩⟩
        case rest =>
          as_aux_lemma =>
            obtain ⟨rfl, rfl, rfl, HM1, HNT⟩ := hcut
            clear HMR
            obtain ⟨Aa, ca, Ab, cb, xg, CA, la, CB, lb⟩ := HM1.out.bx
            obtain ⟨nb, hnb⟩ : ∃ n, n = b1.length := ⟨_, rfl⟩
            rw [← hnb] at xg lb
            have m1 : wc.cell? ⟨g, 1, none⟩ = some (.slice Ab nb cb) := (blk_cell xg 1).trans rfl
            have hend : stepB ⟨lo, hi, sh1, first, second, a1, b1⟩ = none → S = ⟨lo, hi, sh1, first, second, a1, b1⟩ := by
              intro hb
              have h1 := HS.out
              rw [← HK.out] at h1
              have h2 : Q.stepG ⟨lo, hi, sh1, first, second, a1, b1⟩ = none := by
                cases a1 with
                | nil => exact hb
                | cons e r => rw [stepG_a, HNT.out e r rfl]; simpa using hb
              simp only [gS, h2] at h1
              exact h1.symm
            have HEND := Aside0.mk hend
            have XCA := Aside0.mk CA
            have XCB := Aside0.mk CB
            have XG := Aside0.mk xg
            have NB := Aside0.mk hnb
            have LA := Aside0.mk la
            have LB := Aside0.mk lb
            clear xg CA CB la lb hnb hend
            cases b1 with
            | nil =>
              have hnb := NB.out
              simp only [List.length_nil] at hnb
              subst hnb
              have hSe := HEND.out rfl
              have HSE := Aside0.mk hSe
              clear hSe
              go_wp2
              go_meet
              case rel => rw [HSE.out]; exact ⟨rfl, rfl, HM1, HSR⟩
            | cons f t =>
              have hnb := NB.out
              have d1 : decide (0 < nb) = true := decide_eq_true (by rw [hnb]; simp)
              have d2 : decide (0 < (nb : Int)) = true := decide_eq_true (by rw [hnb]; simp only [List.length_cons]; omega)
              obtain ⟨adb, eb, xb0, xb1, xb2⟩ := at_T42 (Kd.C_below XCB.out HM1.out.hb) 0 (by omega) (by simp)
              subst eb
              have qb : (0 < nb) = True := eq_true (by rw [hnb]; simp)
              have rb : rd_T42 (f :: t) 0 = f := rfl
              simp only [rb, Int.toNat_zero, Nat.zero_mul, Addr.add_zero'] at xb0 xb1 xb2
              clear rb hnb
              go_upto_region 15 with (fail)
              go_cut [121] (fun v121 w' => v121 = .bool (decide (lo < 0 ∨ f.f0 ≤ hi)) ∧ w' = wc)
              case first =>
                as_aux_lemma =>
                  by_cases l : lo < 0
                  · have c1 : decide (lo < 0) = true := decide_eq_true l
                    have HT := Aside0.mk (show decide (lo < 0 ∨ f.f0 ≤ hi) = true from decide_eq_true (Or.inl l))
                    clear l
                    go_wp2
                    go_meet
                    case rel => exact ⟨by rw [HT.out], rfl⟩
                  · have c1 : decide (lo < 0) = false := decide_eq_false l
                    have HT := Aside0.mk (show decide (lo < 0 ∨ f.f0 ≤ hi) = decide (f.f0 ≤ hi) by simp [l])
                    clear l
                    go_wp2
                    go_meet
                    case rel => exact ⟨by rw [HT.out], rfl⟩
              case rest =>
                as_aux_lemma =>
                  obtain ⟨rfl, rfl⟩ := hcut
                  by_cases ht : lo < 0 ∨ f.f0 ≤ hi
                  · rw [decide_eq_true ht]
                    have HTK := Aside0.mk (show stepB ⟨lo, hi, sh1, first, second, a1, f :: t⟩ = some (nextB ⟨lo, hi, sh1, first, second, a1, f :: t⟩ f t) by show (if lo < 0 ∨ f.f0 ≤ hi then some _ else none) = _; rw [if_pos ht])
                    clear ht
                    go_upto_region 17 with (fail)
                    obtain ⟨gE, hgE⟩ : ∃ g, wc.heap.size = g := ⟨_, rfl⟩
                    obtain ⟨W2, hW2⟩ : ∃ W, W = wc.alloc (Obj.cells #[Value.int IntKind.i64 f.f0, Value.int IntKind.i64 f.f1, Value.string f.f2] 42) := ⟨_, rfl⟩
                    rw [← hW2, hgE]
                    have BE := Aside0.mk (show W2.heap[gE]? = some (.cells #[.int .i64 f.f0, .int .i64 f.f1, .string f.f2] 42 (0, 0)) by rw [hW2, ← hgE]; exact blk_new _ _)
                    have XG2 := Aside0.mk (show W2.heap[g]? = some (.cells #[.slice Aa a1.length ca, .slice (some adb) nb cb, .int .i64 sh1, vo] 58 (0, 0)) by rw [hW2]; exact blk_alloc XG.out _)
                    have HM2 := Aside0.mk (show MR w0 w W2 g a1 (f :: t) sh1 first second u5 u6 vo out by rw [hW2]; exact HM1.out.below (below_alloc (Below.refl _ _) _))
                    have h6E : ∀ k, u6.ownBlock = some k → k < gE := fun k hk => by rw [← hgE]; exact Kd.R_lt HM1.out.r6 k hk
                    have hgE' : g < gE := by rw [← hgE]; exact blk_lt XG.out
                    have H6E := Aside0.mk h6E
                    have GE := Aside0.mk hgE'
                    clear h6E hgE' hgE hW2 HM1 XG m1 xb0 xb1 xb2
                    have m1 : W2.cell? ⟨g, 1, none⟩ = some (.slice (some adb) nb cb) := (blk_cell XG2.out 1).trans rfl
                    have mf := blk_frozen XG2.out 1
                    have s1 : (1 ≤ (nb : Int)) = True := eq_true (by rw [NB.out]; simp only [List.length_cons]; omega)
                    go_upto_region 18 with (fail)
                    have hCr := Kd.C_drop (m := 1) (c := cb) (by rw [← NB.out]; have := XCB.out; rw [← NB.out] at this; exact this) (by simp) (by rw [← NB.out]; exact LB.out)
                    have hna1 : nb - 1 = t.length := by rw [NB.out]; simp
                    have HM3 := Aside0.mk (HM2.out.set (a2 := a1) (b2 := t) (sh2 := sh1) 1 (.slice (if cb = 1 then some adb else some ⟨adb.block, adb.off + 3, none⟩) (nb - 1) (cb - 1)) ⟨_, _, _, _, (show (W2.setCell ⟨g, 1, none⟩ (.slice (if cb = 1 then some adb else some ⟨adb.block, adb.off + 3, none⟩) (nb - 1) (cb - 1))).heap[g]? = some (.cells #[.slice Aa a1.length ca, .slice (if cb = 1 then some adb else some ⟨adb.block, adb.off + 3, none⟩) t.length (cb - 1), .int .i64 sh1, vo] 58 (0, 0)) by rw [hna1]; exact blk_put XG2.out 1 _ rfl), XCA.out, LA.out, hCr, by rw [← hna1]; have := LB.out; omega⟩)
                    have BE3 := Aside0.mk ((Below.heap_setCell W2 ⟨g, 1, none⟩ (.slice (if cb = 1 then some adb else some ⟨adb.block, adb.off + 3, none⟩) (nb - 1) (cb - 1)) gE (show gE ≠ g by have := GE.out; omega)).trans BE.out)
                    generalize W2.setCell ⟨g, 1, none⟩ (.slice (if cb = 1 then some adb else some ⟨adb.block, adb.off + 3, none⟩) (nb - 1) (cb - 1)) = W3 at HM3 BE3 ⊢
                    clear HM2 BE XG2 hCr hna1 m1 mf s1
                    have e0 : W3.cell? ⟨gE, 0, none⟩ = some (.int .i64 f.f0) := (blk_cell BE3.out 0).trans rfl
                    have e1 : W3.cell? ⟨gE, 1, none⟩ = some (.int .i64 f.f1) := (blk_cell BE3.out 1).trans rfl
                    have e2 : W3.cell? ⟨gE, 2, none⟩ = some (.string f.f2) := (blk_cell BE3.out 2).trans rfl
                    have LF := Aside0.mk (show second.length ≤ 100000 by have := HSR.out.ln.2; simp only at this; omega)
                    have hgS : gS (a1.length + t.length + 1) (nextB ⟨lo, hi, sh1, first, second, a1, f :: t⟩ f t) = S := by
                      have h1 := HS.out
                      rw [← HK.out] at h1
                      have h2 : Q.stepG ⟨lo, hi, sh1, first, second, a1, f :: t⟩ = some (nextB ⟨lo, hi, sh1, first, second, a1, f :: t⟩ f t) := by
                        cases a1 with
                        | nil => exact HTK.out
                        | cons e r => rw [stepG_a, HNT.out e r rfl]; simpa using HTK.out
                      simp only [gS, h2, List.length_cons] at h1
                      exact h1
                    have HGN := Aside0.mk hgS
                    clear hgS HS HEND
                    go_upto_region 19 with (first | ((with_reducible refine gate_builtin (b := .append) (xs := #[.tmp 136, .tmp 138]) rfl ?_); at_builtin; refine Kd.R_append k42 (w0 := W3) w.heap.size rfl (.tmp 136) (.tmp 138) 22 42 (.agg #[(.int .i64 0), (.int .i64 0), (.string ⟨#[]⟩)]) 32 rfl hu22 info42 rfl (by decide) (by omega) u6 second f [.int .i64 f.f0, .int .i64 f.f1, .string f.f2] (fun k => k ≠ g ∧ some k ≠ u5.ownBlock) (fun _ => False) rfl rfl ?aP (fun _ hk => hk.elim) ?aF ?aO ?aB ?aS ?aL ?_; (case aP => exact k42_mkM _ _ _ f); (case aB => exact Below.refl _ _); (case aF => exact fun k hk => ⟨by have := HM3.out.gw; have := HM3.out.sz; omega, fun q => by have := Kd.R_lt HM3.out.r5 k q.symm; omega⟩); (case aO => exact HM3.out.r6); (case aS => exact HM3.out.sz); (case aL => have := LF.out; omega); intro v9 W4 ho hb hg hat; have HM4 := Aside0.mk (HM3.out.app6 ho hg); have BE4 := Aside0.mk (blk_grown BE3.out hg (fun q => by have := H6E.out gE q.symm; omega)); clear ho hb hg hat e0 e1 e2; have e0 : W4.cell? ⟨gE, 0, none⟩ = some (.int .i64 f.f0) := (blk_cell BE4.out 0).trans rfl; have e1 : W4.cell? ⟨gE, 1, none⟩ = some (.int .i64 f.f1) := (blk_cell BE4.out 1).trans rfl; have e2 : W4.cell? ⟨gE, 2, none⟩ = some (.string f.f2) := (blk_cell BE4.out 2).trans rfl))
                    clear HM3 BE3
                    by_cases l : lo < 0
                    · have c1 : decide (lo < 0) = true := decide_eq_true l
                      have HL := Aside0.mk l
                      clear l
                      go_wp2
                      all_goals
                        go_roundg (a1.length + t.length + 1)
                        case measure => have := HK.out; simp only [List.length_cons] at this; omega
                        case rel =>
                          refine ⟨nextB ⟨lo, hi, sh1, first, second, a1, f :: t⟩ f t, ?_, ?_, ⟨rfl⟩, HGN, HM4, ⟨SR.nextB HM0.out HSR.out⟩⟩
                          · show Value.int .i64 f.f0 = .int .i64 (if lo < 0 then f.f0 else lo)
                            rw [if_pos HL.out]
                          · show Value.int .i64 _ = Value.int .i64 (max hi f.f1)
                            congr 1
                            omega
                    · have c1 : decide (lo < 0) = false := decide_eq_false l
                      have HL := Aside0.mk l
                      clear l
                      go_wp2
                      all_goals
                        go_roundg (a1.length + t.length + 1)
                        case measure => have := HK.out; simp only [List.length_cons] at this; omega
                        case rel =>
                          refine ⟨nextB ⟨lo, hi, sh1, first, second, a1, f :: t⟩ f t, ?_, ?_, ⟨rfl⟩, HGN, HM4, ⟨SR.nextB HM0.out HSR.out⟩⟩
                          · show Value.int .i64 lo = .int .i64 (if lo < 0 then f.f0 else lo)
                            rw [if_neg (show ¬ lo < 0 by have := HL.out; omega)]
                          · show Value.int .i64 _ = Value.int .i64 (max hi f.f1)
                            congr 1
                            omega
                  · rw [decide_eq_false ht]
                    have hSe := HEND.out (by show (if lo < 0 ∨ f.f0 ≤ hi then some _ else none) = _; rw [if_neg ht])
                    have HSE := Aside0.mk hSe
                    clear hSe ht
                    go_wp2
                    go_meet
                    case rel => rw [HSE.out]; exact ⟨rfl, rfl, HM1, HSR⟩
  case rest =>
    as_aux_lemma =>
      obtain ⟨rfl, rfl, HM1, HS1⟩ := hcut
      clear H0 HGS HS0
      obtain ⟨Aa, ca, Ab, cb, xg, CA, la, CB, lb⟩ := HM1.out.bx
      obtain ⟨A5, c5, e5, hc5, hC5⟩ := Kd.R_reads HM1.out.r5
      obtain ⟨A6, c6, e6, hc6, hC6⟩ := Kd.R_reads HM1.out.r6
      subst e5
      subst e6
      have HC5 := Aside0.mk hC5
      have HC6 := Aside0.mk hC6
      have XG := Aside0.mk xg
      have CA := Aside0.mk CA
      have CB := Aside0.mk CB
      have LA := Aside0.mk la
      have LB := Aside0.mk lb
      have m2 : wc.cell? ⟨g, 2, none⟩ = some (.int .i64 S.sh) := (blk_cell xg 2).trans rfl
      have m3 : wc.cell? ⟨g, 3, none⟩ = some vo := (blk_cell xg 3).trans rfl
      have hw1 : wrap64 (S.lo - sh) = S.lo - sh := by have := HF.out; rw [w64] <;> omega
      have hw2 : wrap64 (S.hi - S.sh) = S.hi - S.sh := by have := HF.out; rw [w64] <;> omega
      clear xg la lb hC5 hC6 hc5 hc6 mg
      go_upto_region 22 with (fail)
      refine start_ (n := 25) (S := fun w' => Below wc.heap.size wc w') (ds := [21, 24]) #[false, false, false, false, false, false, false, false, false, false, false, false, false, false, false, false, false, false, false, false, false, false, false, false, false] (by kernel_rfl) rfl rfl (below_drew1 (Below.refl _ _)) (fun hHeld => ?_)
      refine with_tabW group.tab22 group.bits22 (fun HT_ HW_ => ?_)
      generalize wc.drew = wa at hHeld ⊢
      refine pure_ (i := 0) (N := some 148) (v := ?_) (a' := ?_) #[true, false, false, false, false, false, false, false, false, false, false, false, false, false, false, false, false, false, false, false, false, false, false, false, false] rfl rfl (any_of HT_.out (by kernel_rfl)) (fun _ _ _ h => h) (Or.inl ⟨by rfl, ?_⟩) ?_ ?_
      rotate_left
      · intro w'
        go_simp
        with_reducible rfl
      rotate_left
      · simp only [Act.put, List.setIfInBounds_toArray, List.set_cons_zero, List.set_cons_succ, i64_w, i32_w]
        rfl
      refine pure_ (i := 1) (N := some 149) (v := ?_) (a' := ?_) #[true, true, false, false, false, false, false, false, false, false, false, false, false, false, false, false, false, false, false, false, false, false, false, false, false] rfl rfl (any_of HT_.out (by kernel_rfl)) (fun _ _ _ h => h) (Or.inl ⟨by rfl, ?_⟩) ?_ ?_
      rotate_left
      · intro w'
        go_simp
        with_reducible rfl
      rotate_left
      · simp only [Act.put, List.setIfInBounds_toArray, List.set_cons_zero, List.set_cons_succ, i64_w, i32_w]
        rfl
      refine pure_ (i := 2) (N := some 150) (v := ?_) (a' := ?_) #[true, true, true, false, false, false, false, false, false, false, false, false, false, false, false, false, false, false, false, false, false, false, false, false, false] rfl rfl (any_of HT_.out (by kernel_rfl)) (fun _ _ _ h => h) (Or.inl ⟨by rfl, ?_⟩) ?_ ?_
      rotate_left
      · intro w'
        go_simp
        with_reducible rfl
      rotate_left
      · simp only [Act.put, List.setIfInBounds_toArray, List.set_cons_zero, List.set_cons_succ, i64_w, i32_w]
        rfl
      refine pure_ (i := 3) (N := some 151) (v := ?_) (a' := ?_) #[true, true, true, true, false, false, false, false, false, false, false, false, false, false, false, false, false, false, false, false, false, false, false, false, false] rfl rfl (any_of HT_.out (by kernel_rfl)) (fun _ _ _ h => h) (Or.inl ⟨by rfl, ?_⟩) ?_ ?_
      rotate_left
      · intro w'
        go_simp
        with_reducible rfl
      rotate_left
      · simp only [Act.put, List.setIfInBounds_toArray, List.set_cons_zero, List.set_cons_succ, i64_w, i32_w]
        rfl
      refine pure_ (i := 5) (N := some 153) (v := ?_) (a' := ?_) #[true, true, true, true, false, true, false, false, false, false, false, false, false, false, false, false, false, false, false, false, false, false, false, false, false] rfl rfl (any_of HT_.out (by kernel_rfl)) (fun _ _ _ h => h) (Or.inl ⟨by rfl, ?_⟩) ?_ ?_
      rotate_left
      · intro w'
        go_simp
        with_reducible rfl
      rotate_left
      · simp only [Act.put, List.setIfInBounds_toArray, List.set_cons_zero, List.set_cons_succ, i64_w, i32_w]
        rfl
      refine pure_ (i := 6) (N := some 154) (v := ?_) (a' := ?_) #[true, true, true, true, false, true, true, false, false, false, false, false, false, false, false, false, false, false, false, false, false, false, false, false, false] rfl rfl (any_of HT_.out (by kernel_rfl)) (fun _ _ _ h => h) (Or.inl ⟨by rfl, ?_⟩) ?_ ?_
      rotate_left
      · intro w'
        go_simp
        with_reducible rfl
      rotate_left
      · simp only [Act.put, List.setIfInBounds_toArray, List.set_cons_zero, List.set_cons_succ, i64_w, i32_w]
        rfl
      refine pure_ (i := 7) (N := some 155) (v := ?_) (a' := ?_) #[true, true, true, true, false, true, true, true, false, false, false, false, false, false, false, false, false, false, false, false, false, false, false, false, false] rfl rfl (any_of HT_.out (by kernel_rfl)) (fun _ _ _ h => h) (Or.inl ⟨by rfl, ?_⟩) ?_ ?_
      rotate_left
      · intro w'
        go_simp
        with_reducible rfl
      rotate_left
      · simp only [Act.put, List.setIfInBounds_toArray, List.set_cons_zero, List.set_cons_succ, i64_w, i32_w]
        rfl
      refine pure_ (i := 8) (N := some 156) (v := ?_) (a' := ?_) #[true, true, true, true, false, true, true, true, true, false, false, false, false, false, false, false, false, false, false, false, false, false, false, false, false] rfl rfl (any_of HT_.out (by kernel_rfl)) (fun _ _ _ h => h) (Or.inl ⟨by rfl, ?_⟩) ?_ ?_
      rotate_left
      · intro w'
        go_simp
        with_reducible rfl
      rotate_left
      · simp only [Act.put, List.setIfInBounds_toArray, List.set_cons_zero, List.set_cons_succ, i64_w, i32_w]
        rfl
      refine pure_ (i := 9) (N := some 157) (v := ?_) (a' := ?_) #[true, true, true, true, false, true, true, true, true, true, false, false, false, false, false, false, false, false, false, false, false, false, false, false, false] rfl rfl (any_of HT_.out (by kernel_rfl)) (fun _ _ _ h => h) (Or.inl ⟨by rfl, ?_⟩) ?_ ?_
      rotate_left
      · intro w'
        go_simp
        with_reducible rfl
      rotate_left
      · simp only [Act.put, List.setIfInBounds_toArray, List.set_cons_zero, List.set_cons_succ, i64_w, i32_w]
        rfl
      refine pure_ (i := 10) (N := some 158) (v := ?_) (a' := ?_) #[true, true, true, true, false, true, true, true, true, true, true, false, false, false, false, false, false, false, false, false, false, false, false, false, false] rfl rfl (any_of HT_.out (by kernel_rfl)) (fun _ _ _ h => h) (Or.inl ⟨by rfl, ?_⟩) ?_ ?_
      rotate_left
      · intro w'
        go_simp
        with_reducible rfl
      rotate_left
      · simp only [Act.put, List.setIfInBounds_toArray, List.set_cons_zero, List.set_cons_succ, i64_w, i32_w]
        rfl
      refine pure_ (i := 11) (N := some 159) (v := ?_) (a' := ?_) #[true, true, true, true, false, true, true, true, true, true, true, true, false, false, false, false, false, false, false, false, false, false, false, false, false] rfl rfl (any_of HT_.out (by kernel_rfl)) (fun _ _ _ h => h) (Or.inl ⟨by rfl, ?_⟩) ?_ ?_
      rotate_left
      · intro w'
        go_simp
        with_reducible rfl
      rotate_left
      · simp only [Act.put, List.setIfInBounds_toArray, List.set_cons_zero, List.set_cons_succ, i64_w, i32_w]
        rfl
      refine pure_ (i := 14) (N := some 162) (v := ?_) (a' := ?_) #[true, true, true, true, false, true, true, true, true, true, true, true, false, false, true, false, false, false, false, false, false, false, false, false, false] rfl rfl (any_of HT_.out (by kernel_rfl)) (fun _ _ _ h => h) (Or.inl ⟨by rfl, ?_⟩) ?_ ?_
      rotate_left
      · intro w'
        go_simp
        with_reducible rfl
      rotate_left
      · simp only [Act.put, List.setIfInBounds_toArray, List.set_cons_zero, List.set_cons_succ, i64_w, i32_w]
        rfl
      refine pure_ (i := 15) (N := some 163) (v := ?_) (a' := ?_) #[true, true, true, true, false, true, true, true, true, true, true, true, false, false, true, true, false, false, false, false, false, false, false, false, false] rfl rfl (any_of HT_.out (by kernel_rfl)) (fun _ _ _ h => h) (Or.inl ⟨by rfl, ?_⟩) ?_ ?_
      rotate_left
      · intro w'
        go_simp
        with_reducible rfl
      rotate_left
      · simp only [Act.put, List.setIfInBounds_toArray, List.set_cons_zero, List.set_cons_succ, i64_w, i32_w]
        rfl
      refine pure_ (i := 16) (N := some 164) (v := ?_) (a' := ?_) #[true, true, true, true, false, true, true, true, true, true, true, true, false, false, true, true, true, false, false, false, false, false, false, false, false] rfl rfl (any_of HT_.out (by kernel_rfl)) (fun _ _ _ h => h) (Or.inl ⟨by rfl, ?_⟩) ?_ ?_
      rotate_left
      · intro w'
        go_simp
        with_reducible rfl
      rotate_left
      · simp only [Act.put, List.setIfInBounds_toArray, List.set_cons_zero, List.set_cons_succ, i64_w, i32_w]
        rfl
      refine pure_ (i := 17) (N := some 165) (v := ?_) (a' := ?_) #[true, true, true, true, false, true, true, true, true, true, true, true, false, false, true, true, true, true, false, false, false, false, false, false, false] rfl rfl (any_of HT_.out (by kernel_rfl)) (fun _ _ _ h => h) (Or.inl ⟨by rfl, ?_⟩) ?_ ?_
      rotate_left
      · intro w'
        go_simp
        with_reducible rfl
      rotate_left
      · simp only [Act.put, List.setIfInBounds_toArray, List.set_cons_zero, List.set_cons_succ, i64_w, i32_w]
        rfl
      refine take_ (i := 4) (N := some 152) (v := ?_) (a' := ?_) #[true, true, true, true, true, true, true, true, true, true, true, true, false, false, true, true, true, true, false, false, false, false, false, false, false] rfl rfl (take_ofW HT_.out HW_.out (by kernel_rfl)) (fun _ _ _ h => h) (Or.inl ⟨by rfl, ?_⟩) hHeld ?_ ?_
      rotate_left
      · intro w' hS
        have h0 := (hS.cell (World.block_lt_of_cell? _ _ m2)).trans m2
        have h1 := (hS.cell (World.block_lt_of_cell? _ _ m3)).trans m3
        clear hS
        go_simp
        with_reducible rfl
      rotate_left
      · simp only [Act.put, List.setIfInBounds_toArray, List.set_cons_zero, List.set_cons_succ, i64_w, i32_w]
        rfl
      refine take_ (i := 12) (N := some 160) (v := ?_) (a' := ?_) #[true, true, true, true, true, true, true, true, true, true, true, true, true, false, true, true, true, true, false, false, false, false, false, false, false] rfl rfl (take_ofW HT_.out HW_.out (by kernel_rfl)) (fun _ _ _ h => h) (Or.inl ⟨by rfl, ?_⟩) hHeld ?_ ?_
      rotate_left
      · intro w' hS
        have h0 := (hS.cell (World.block_lt_of_cell? _ _ m2)).trans m2
        have h1 := (hS.cell (World.block_lt_of_cell? _ _ m3)).trans m3
        clear hS
        go_simp
        with_reducible rfl
      rotate_left
      · simp only [Act.put, List.setIfInBounds_toArray, List.set_cons_zero, List.set_cons_succ, i64_w, i32_w]
        rfl
      refine pure_ (i := 13) (N := some 161) (v := ?_) (a' := ?_) #[true, true, true, true, true, true, true, true, true, true, true, true, true, true, true, true, true, true, false, false, false, false, false, false, false] rfl rfl (any_of HT_.out (by kernel_rfl)) (fun _ _ _ h => h) (Or.inl ⟨by rfl, ?_⟩) ?_ ?_
      rotate_left
      · intro w'
        go_simp
        with_reducible rfl
      rotate_left
      · simp only [Act.put, List.setIfInBounds_toArray, List.set_cons_zero, List.set_cons_succ, i64_w, i32_w]
        rfl
      refine one_ (i := 18) (N := some 166) #[true, true, true, true, true, true, true, true, true, true, true, true, true, true, true, true, true, true, true, false, false, false, false, false, false] rfl rfl (one_of HT_.out (by kernel_rfl)) (by decide) (fun K hK => ?_)
      refine goes_ Try.func47 (by kernel_rfl) rfl #[.slice A5 S.first.length c5, .slice A6 S.second.length c6, .int .i64 S.lo, .int .i64 S.hi] (by rfl) rfl rfl (by (try simp only [List.map_toArray, List.map_cons, List.map_nil]); first | done | rfl) ?_
      refine (written.calls S.first S.second A5 c5 A6 c6 S.lo S.hi _ (Kd.C_below HC5.out hHeld) (Kd.C_below HC6.out hHeld) HS1.out.fp HS1.out.sp ⟨HLO.out, by have := HS1.out.sl; omega⟩ ⟨HS1.out.sh_.1, by have := HS1.out.sh_; omega⟩ (by have := HS1.out.ln; omega) (by have := HS1.out.ln; omega) HWL.out).mono ?_
      rintro e' w5 ⟨rfl, hb5⟩
      refine ⟨_, rfl, ?_⟩
      have HW5 := Aside0.mk (below_step hHeld hb5)
      refine hK.out _ _ HW5.out (fun hHeld => ?_)
      clear hb5
      clear hK K
      refine norm_ (a' := ?_) ?_ ?_
      rotate_left
      · show Act.put _ (some 166) _ = _
        simp only [Act.put, List.setIfInBounds_toArray, List.set_cons_zero, List.set_cons_succ, i64_w, i32_w]
        rfl
      refine pure_ (i := 19) (N := some 167) (v := ?_) (a' := ?_) #[true, true, true, true, true, true, true, true, true, true, true, true, true, true, true, true, true, true, true, true, false, false, false, false, false] rfl rfl (any_of HT_.out (by kernel_rfl)) (fun _ _ _ h => h) (Or.inl ⟨by rfl, ?_⟩) ?_ ?_
      rotate_left
      · intro w'
        go_simp
        with_reducible rfl
      rotate_left
      · simp only [Act.put, List.setIfInBounds_toArray, List.set_cons_zero, List.set_cons_succ, i64_w, i32_w]
        rfl
      refine one_ (i := 20) (N := some 168) #[true, true, true, true, true, true, true, true, true, true, true, true, true, true, true, true, true, true, true, true, true, false, false, false, false] rfl rfl (one_of HT_.out (by kernel_rfl)) (by decide) (fun K hK => ?_)
      refine value_ (w1 := ?_) (v := ?_) (by rfl) rfl ?_ ?_
      rotate_left 2
      · go_simp
        constructor
        · rfl
        · rfl
      refine hK.out _ _ (below_alloc HW5.out _) (fun hHeld => ?_)
      clear hK K
      refine norm_ (a' := ?_) ?_ ?_
      rotate_left
      · show Act.put _ (some 168) _ = _
        simp only [Act.put, List.setIfInBounds_toArray, List.set_cons_zero, List.set_cons_succ, i64_w, i32_w]
        rfl
      refine last_ (i := 21) (N := some 169) #[true, true, true, true, true, true, true, true, true, true, true, true, true, true, true, true, true, true, true, true, true, true, false, false, false] rfl rfl (one_of HT_.out (by kernel_rfl)) (by decide) (fun K hK => ?_)
      refine Kd.R_append_step k42 (w0 := w0) w0.heap.size (by rfl) (.tmp 152) (.tmp 168) 22 42 (.agg #[(.int .i64 0), (.int .i64 0), (.string ⟨#[]⟩)]) 32 rfl Try.underlying22 info42 rfl (by decide) (by omega) vo out (⟨S.lo - sh, S.hi - S.sh, strOfNums (writG S.first S.hi S.second S.lo)⟩ : S42) [.int .i64 (S.lo - sh), .int .i64 (S.hi - S.sh), .string (strOfNums (writG S.first S.hi S.second S.lo))] (fun k => k ≠ g) (fun _ => False) rfl rfl ?aP (fun _ hk => hk.elim) ?aF ?aO ?aB ?aS ?aL ?_
      case aP => exact k42_mkM _ _ _ (⟨S.lo - sh, S.hi - S.sh, strOfNums (writG S.first S.hi S.second S.lo)⟩ : S42)
      case aB => exact below_step HM1.out.hb HW5.out
      case aF => exact fun k hk => by have := HM1.out.gw; have := HM1.out.sz; have := HW5.out.size; omega
      case aO => exact Kd.R_mono (Kd.R_below HM1.out.ro HW5.out) (fun k hk => hk.1)
      case aS => exact Nat.le_trans HM1.out.hb.size HW5.out.size
      case aL => have := HOL.out; omega
      intro v9 W7 ho hb hg hat
      obtain ⟨A9, c9, e9⟩ := Kd.R_slice ho
      obtain ⟨nO, hnO⟩ : ∃ k, k = (out ++ [(⟨S.lo - sh, S.hi - S.sh, strOfNums (writG S.first S.hi S.second S.lo)⟩ : S42)]).length := ⟨_, rfl⟩
      rw [← hnO] at e9
      subst e9
      clear hnO
      have BG7 := Aside0.mk (blk_grown (blk_below XG.out HW5.out) hg (Kd.R_away HM1.out.ro (fun _ hk => hk.1)))
      have HO7 := Aside0.mk ho
      have HB7 := Aside0.mk hb
      clear ho hb hg hat
      refine hK.out _ _ ?_
      clear hK K
      refine norm_ (a' := ?_) ?_ ?_
      rotate_left
      · show Act.put _ (some 169) _ = _
        simp only [Act.put, List.setIfInBounds_toArray, List.set_cons_zero, List.set_cons_succ, i64_w, i32_w]
        rfl
      refine pure_ (i := 22) (N := some 170) (v := ?_) (a' := ?_) #[true, true, true, true, true, true, true, true, true, true, true, true, true, true, true, true, true, true, true, true, true, true, true, false, false] rfl rfl (any_of HT_.out (by kernel_rfl)) (fun _ _ _ h => h) (Or.inl ⟨by rfl, ?_⟩) ?_ ?_
      rotate_left
      · intro w'
        go_simp
        with_reducible rfl
      rotate_left
      · simp only [Act.put, List.setIfInBounds_toArray, List.set_cons_zero, List.set_cons_succ, i64_w, i32_w]
        rfl
      refine pure_ (i := 23) (N := some 171) (v := ?_) (a' := ?_) #[true, true, true, true, true, true, true, true, true, true, true, true, true, true, true, true, true, true, true, true, true, true, true, true, false] rfl rfl (any_of HT_.out (by kernel_rfl)) (fun _ _ _ h => h) (Or.inl ⟨by rfl, ?_⟩) ?_ ?_
      rotate_left
      · intro w'
        go_simp
        with_reducible rfl
      rotate_left
      · simp only [Act.put, List.setIfInBounds_toArray, List.set_cons_zero, List.set_cons_succ, i64_w, i32_w]
        rfl
      refine last_ (i := 24) (N := none) #[true, true, true, true, true, true, true, true, true, true, true, true, true, true, true, true, true, true, true, true, true, true, true, true, true] rfl rfl (one_of HT_.out (by kernel_rfl)) (by decide) (fun K hK => ?_)
      have hf0 := blk_frozen BG7.out 3
      have h0 := (blk_cell BG7.out 3)
      refine skip_ (w1 := ?_) (by rfl) rfl ?_ ?_
      rotate_left
      · go_simp
        rfl
      refine hK.out _ _ ?_
      clear hK K
      refine done_ (done_of HT_.out (by kernel_rfl)) ?_
      go_wp2
      (try simp only [Exit.inBlock, Exit.then])
      refine Go.Great.bodyPost_end0 (fn := Try.f41) ?_ ?_ ?_
      · rfl
      · rfl
      refine ⟨⟨_, rfl⟩, .slice A9 nO c9, ⟨Aa, ca, Ab, cb, blk_put BG7.out 3 _ rfl, CA.out, LA.out, CB.out, LB.out⟩, ?_, ?_⟩
      · exact Kd.R_far (p := ⟨g, 3, none⟩) HO7.out (fun k hk => hk) _
      · exact below_set HB7.out HM1.out.g0
end Go.Proofs.Ytaihajmdngoeiaa.F

-- edits.Compose (30), walked by hand
namespace Go.Proofs.Ytaihajmdngoeiaa.F
open Go.RowKit Go.Proofs.YtaihajmdngoeiaaW.PrintWords Go.Proofs.YtaihajmdngoeiaaW.PrintLast Go.Proofs.YtaihajmdngoeiaaW.PrintMore
open Go.Proofs.Ytaihajmdngoeiaa.Q
set_option linter.unusedVariables false
set_option linter.unusedSimpArgs false

/-- Between the groups of Compose. -/
structure CO (w0 W : World) (g : Nat) (n m : Int) (L : List S42) (kq : Nat) (a b : List S42) (sh : Int) (vo : Value) (out : List S42) : Prop where
  bx : CBx w0 W g a b sh vo
  ro : Kd.R k42 42 W w0.heap.size (fun k => k ≠ g) vo out
  hb : Below w0.heap.size w0 W
  g0 : w0.heap.size ≤ g
  ci : CI n m a b sh
  ta : tot a ≤ 1048576
  tb : tot b ≤ 1048576
  la : a.length ≤ 65536
  lb : b.length ≤ 65536
  lo : out.length + kq ≤ 131073
  lk : a.length + b.length + 1 ≤ kq
  sp : out ++ (groups kq (a.map edOf) (b.map edOf) sh).map toS = L
theorem CBx.lt {w0 W : World} {g : Nat} {a b : List S42} {sh : Int} {vo : Value} (h : CBx w0 W g a b sh vo) : g < W.heap.size := by
  obtain ⟨Aa, ca, Ab, cb, x, _⟩ := h
  exact blk_lt x
theorem CO.mr {w0 W : World} {g : Nat} {n m : Int} {L : List S42} {kq : Nat} {a b : List S42} {sh : Int} {vo : Value} {out : List S42} (h : CO w0 W g n m L kq a b sh vo out) : MR w0 W W g a b sh [] [] (.slice none 0 0) (.slice none 0 0) vo out :=
  ⟨h.bx, Kd.R_nil _ _ _ _ _, Kd.R_nil _ _ _ _ _, Kd.R_mono (Kd.R_bound h.ro) (fun k hk => ⟨hk.1, hk.2.2.1⟩), h.hb, h.g0, h.bx.lt, Nat.le_refl _⟩
theorem CO.next {w0 W W1 : World} {g : Nat} {n m : Int} {L : List S42} {kq : Nat} {a b : List S42} {sh : Int} {vo vo1 : Value} {out : List S42} (h : CO w0 W g n m L (kq + 1) a b sh vo out) {S : GS} (hs : CStep n m a b sh S)
    (hx : CBx w0 W1 g S.a S.b S.sh vo1) (hr : Kd.R k42 42 W1 w0.heap.size (fun k => k ≠ g) vo1 (out ++ [⟨S.lo - sh, S.hi - S.sh, strOfNums (writG S.first S.hi S.second S.lo)⟩])) (hb : Below w0.heap.size w0 W1) :
    CO w0 W1 g n m L kq S.a S.b S.sh vo1 (out ++ [⟨S.lo - sh, S.hi - S.sh, strOfNums (writG S.first S.hi S.second S.lo)⟩]) := by
  have h1 := h.lo
  have h2 := h.lk
  have h3 := hs.ln
  refine ⟨hx, hr, hb, h.g0, hs.ci, Nat.le_trans hs.ta h.ta, Nat.le_trans hs.tb h.tb, Nat.le_trans h3.2.1 h.la, Nat.le_trans h3.2.2 h.lb, ?_, by omega, ?_⟩
  · rw [List.length_append, List.length_singleton]
    omega
  · have := h.sp
    rw [hs.gr, List.map_cons, toS_edOf] at this
    rw [← this]
    simp
theorem CO.end_ {w0 W : World} {g : Nat} {n m : Int} {L : List S42} {kq : Nat} {sh : Int} {vo : Value} {out : List S42} (h : CO w0 W g n m L kq [] [] sh vo out) : out = L := by
  have h1 := h.sp
  have h2 := h.lk
  obtain ⟨k, rfl⟩ : ∃ k, kq = k + 1 := ⟨kq - 1, by simp only [List.length_nil] at h2; omega⟩
  simpa [groups] using h1
def edits_Compose.f (k : Nat) (a0 : Int) (a b : List S42) : Option (List S42 × Int) := if tot a ≤ 1048576 ∧ tot b ≤ 1048576 then some (compSpec a0 a b) else none
set_option maxRecDepth 100000 in
set_option maxHeartbeats 20000000 in
theorem edits_Compose.calls (k : Nat) (a0 : Int) (A1 : Option Addr) (c1 : Nat) (l1 : List S42) (A2 : Option Addr) (c2 : Nat) (l2 : List S42) (r1 : List S42) (r2 : Int) (w : World) (hr1 : Kd.C k42 w A1 l1.length l1) (hc1 : l1.length ≤ c1) (hr2 : Kd.C k42 w A2 l2.length l2) (hc2 : l2.length ≤ c2) (h : edits_Compose.f k a0 l1 l2 = some (r1, r2)) :
    Calls Try.prog 30 #[.int .i64 a0, .slice A1 l1.length c1, .slice A2 l2.length c2] w fun e w' => ∃ v0_ : Value, e = .returned (.tuple #[v0_, .int .i64 r2]) ∧ Kd.R k42 42 w' w.heap.size (fun _ => True) v0_ r1 ∧ Below w.heap.size w w' := by
  have hu22 := Try.underlying22
  have hu42 := Try.underlying42
  unfold edits_Compose.f at h
  have hsz : tot l1 ≤ 1048576 ∧ tot l2 ≤ 1048576 := Classical.byContradiction fun hh => by rw [if_neg hh] at h; cases h
  rw [if_pos hsz] at h
  have h' := Option.some.inj h
  clear h
  unfold compSpec at h'
  have HS := Aside0.mk hsz
  have HR1 := Aside0.mk hr1
  have HC1 := Aside0.mk hc1
  have HR2 := Aside0.mk hr2
  have HC2 := Aside0.mk hc2
  obtain ⟨k1, hk1⟩ := (Valid_is a0 l1).rounds
  have HV1 := Aside0.mk hk1
  clear hsz hr1 hc1 hr2 hc2 hk1
  by_cases q1 : Vspec a0 l1 = 0
  · rw [if_pos q1] at h'
    rw [q1] at HV1
    obtain ⟨z0, zn, zl, zc⟩ := Vspec_zero q1
    obtain ⟨y0, y1, y2⟩ := new_size a0 z0 zn l1 zc (by have := HS.out.1; omega)
    obtain ⟨k2, hk2⟩ := (left_is a0 z0 zn l1 zl).rounds
    rw [y2] at hk2 h'
    obtain ⟨k3, hk3⟩ := (valid_is (a0 + sumG l1) l2).rounds
    have HV2 := Aside0.mk hk2
    have HV3 := Aside0.mk hk3
    clear hk2 hk3
    by_cases q2 : vspec (a0 + sumG l1) l2 = 0
    · rw [if_pos q2] at h'
      rw [q2] at HV3
      obtain ⟨xl, xc⟩ := vspec_zero q2
      have hco : ∀ (W : World) (g : Nat), CBx w W g l1 l2 0 (.slice none 0 0) → Below w.heap.size w W → w.heap.size ≤ g → CO w W g a0 (a0 + sumG l1) (compL a0 l1 l2) (l1.length + l2.length + 1) l1 l2 0 (.slice none 0 0) [] := by
        intro W g hx hb hg
        have hA := Ok.cz (chain_ok zc) z0
        have hob : Ok (rowE a0 (l1.map edOf)).1.length (l2.map edOf) := by rw [rowE_len a0 z0 l1 none zc]; exact chain_ok xc
        refine ⟨hx, Kd.R_nil _ _ _ _ _, hb, hg, ⟨⟨0, hA, Int.le_refl _, z0, Ok.cz (chain_ok xc) y0, by omega⟩, by rw [shOf_edOf]; omega⟩, HS.out.1, HS.out.2, zl, xl, by simp only [List.length_nil]; omega, Nat.le_refl _, ?_⟩
        unfold compL
        rw [cmpE_groups a0 z0 (l1.map edOf) (l2.map edOf) (chain_ok zc) hob (l1.length + l2.length) (by simp only [List.length_map]; omega)]
        rfl
      have HCO := Aside0.mk hco
      have HM := Aside0.mk h'
      have HY := Aside0.mk (show a0 + sumG l1 ≤ 4700000000000000000 by have h1 := sumG_tot zc; have h2 := HS.out.1; omega)
      have HZ := Aside0.mk (show a0 ≤ 4700000000000000000 by omega)
      clear h' hco q1 q2 z0 zn zl zc y0 y1 y2 xl xc
      obtain ⟨L, hL⟩ : ∃ L, compL a0 l1 l2 = L := ⟨_, rfl⟩
      obtain ⟨m, hm⟩ : ∃ m, a0 + sumG l1 = m := ⟨_, rfl⟩
      rw [hL] at HCO HM
      rw [hm] at HCO HV2 HV3 HY
      clear hL hm
      go_enter Try.func30, Try.ntmps30
      go_wp2_with fail
      refine (edits_Valid.calls k1 a0 A1 c1 l1 0 _ HR1.out HC1.out HV1.out).mono ?_
      rintro e w1 ⟨rfl, hb1⟩
      have HB1 := Aside0.mk hb1
      clear hb1
      go_wp2_with fail
      refine (edits_left.calls k2 a0 A1 c1 l1 _ _ (Kd.C_below HR1.out HB1.out) HC1.out HV2.out).mono ?_
      rintro e w2 ⟨rfl, hb2⟩
      have HB2 := Aside0.mk (below_step HB1.out hb2)
      clear hb2
      go_wp2_with fail
      refine (edits_valid.calls k3 m A2 c2 l2 0 _ (Kd.C_below HR2.out HB2.out) HC2.out HV3.out).mono ?_
      rintro e w3 ⟨rfl, hb3⟩
      have HB3 := Aside0.mk (below_step HB2.out hb3)
      clear hb3 HB1 HB2
      go_upto_block 0 with (fail)
      obtain ⟨g, hg⟩ : ∃ g, w3.heap.size = g := ⟨_, rfl⟩
      obtain ⟨W, hW⟩ : ∃ W, W = w3.alloc (Obj.cells #[Value.slice A1 l1.length c1, Value.slice A2 l2.length c2, Value.int IntKind.i64 0, Value.slice none 0 0] 58) := ⟨_, rfl⟩
      rw [← hW, hg]
      have HC := Aside0.mk (HCO.out W g ⟨A1, c1, A2, c2, by rw [hW, ← hg]; exact blk_new _ _, HR1.out, HC1.out, HR2.out, HC2.out⟩ (by rw [hW]; exact below_alloc HB3.out _) (by rw [← hg]; exact HB3.out.size))
      clear hW hg HCO HB3 HV1 HV2 HV3 HS HR1 HR2
      go_wp2_with fail
      go_loopg [] (l1.length + l2.length + 1) (fun kq w' => Aside0 (∃ a b sh vo out, CO w w' g a0 m L kq a b sh vo out))
      case atStart => exact ⟨⟨_, _, _, _, _, HC.out⟩⟩
      case round =>
        clear HC
        have HC := hrel
        obtain ⟨a, b, sh, vo, out, hC⟩ := HC.out
        clear HC
        obtain ⟨Aa, ca, Ab, cb, xg, CA, la, CB, lb⟩ := hC.bx
        obtain ⟨na, hna⟩ : ∃ n, n = a.length := ⟨_, rfl⟩
        obtain ⟨nb, hnb⟩ : ∃ n, n = b.length := ⟨_, rfl⟩
        rw [← hna, ← hnb] at xg
        have m0 : wr.cell? ⟨g, 0, none⟩ = some (.slice Aa na ca) := (blk_cell xg 0).trans rfl
        have m1 : wr.cell? ⟨g, 1, none⟩ = some (.slice Ab nb cb) := (blk_cell xg 1).trans rfl
        have m3 : wr.cell? ⟨g, 3, none⟩ = some vo := (blk_cell xg 3).trans rfl
        have HC := Aside0.mk hC
        have NA := Aside0.mk hna
        have NB := Aside0.mk hnb
        clear hC xg CA la CB lb hna hnb
        by_cases hab : a = [] ∧ b = []
        · obtain ⟨rfl, rfl⟩ := hab
          have h1 := NA.out
          have h2 := NB.out
          simp only [List.length_nil] at h1 h2
          subst h1
          subst h2
          have hL := HC.out.end_
          subst hL
          obtain ⟨Ao, co, eo, hco, hCo⟩ := Kd.R_reads HC.out.ro
          subst eo
          obtain ⟨no, hno⟩ : ∃ n, n = out.length := ⟨_, rfl⟩
          have hm := HM.out
          rw [← hno] at m3 hm
          by_cases hbig : (no : Int) > 65536
          · have d1 : decide ((65536 : Int) < (no : Int)) = true := decide_eq_true hbig
            have d2 : decide (65536 < no) = true := decide_eq_true (by omega)
            rw [if_pos hbig] at hm
            obtain ⟨rfl, rfl⟩ := Prod.mk.inj hm
            clear hm hbig hno
            go_wp2
            go_ret2
            exact ⟨_, rfl, Kd.R_nil _ _ _ _ _, HC.out.hb⟩
          · have d1 : decide ((65536 : Int) < (no : Int)) = false := decide_eq_false hbig
            have d2 : decide (65536 < no) = false := decide_eq_false (by omega)
            rw [if_neg hbig] at hm
            obtain ⟨rfl, rfl⟩ := Prod.mk.inj hm
            have HNO := Aside0.mk hno
            clear hm hbig hno
            go_wp2
            go_ret2
            refine ⟨_, rfl, ?_, HC.out.hb⟩
            rw [HNO.out]
            exact Kd.R_mono HC.out.ro (fun _ _ => trivial)
        · have hz := CI.step HC.out.ci hab _ rfl
          obtain ⟨S, hS⟩ : ∃ S, gS (a.length + b.length + 1) ⟨-1, 0, sh, [], [], a, b⟩ = S := ⟨_, rfl⟩
          rw [hS] at hz
          have hx : ∃ k, gk = k + 1 := ⟨gk - 1, by have := HC.out.lk; omega⟩
          have hsr := HC.out.ci.sr HZ.out HY.out HC.out.ta ⟨by have := HC.out.la; omega, by have := HC.out.lb; omega⟩
          have hgr := group.calls g a b sh vo out a0 m w wr HY.out HZ.out HC.out.mr hsr (by have := HC.out.lo; omega) S hS
            (by have h1 := hz.lo; have h2 := hz.hi; have h3 := HZ.out; exact ⟨by omega, by omega, by omega, by omega⟩)
            (by
              have h1 := hz.tx
              have h2 : (b.length + 1) * tot a ≤ 65537 * 1048576 := Nat.mul_le_mul (by have := HC.out.lb; omega) HC.out.ta
              have h3 := HC.out.tb
              omega) hz.lo0
          have HG := Aside0.mk hgr
          have HX := Aside0.mk hz
          have HK := Aside0.mk hx
          have HAB := Aside0.mk hab
          clear hgr hz hx hS hsr
          by_cases ha : 0 < na
          · have d1 : decide (0 < na) = true := decide_eq_true ha
            have d2 : decide (0 < (na : Int)) = true := decide_eq_true (by omega)
            clear ha hab
            go_wp2_with fail
            refine HG.out.mono ?_
            rintro e W1 ⟨⟨x, rfl⟩, vo1, hx1, hr1, hb1⟩
            obtain ⟨k', rfl⟩ := HK.out
            have HN := Aside0.mk (HC.out.next HX.out hx1 hr1 hb1)
            clear hx1 hr1 hb1 m0 m1 m3
            go_wp2
            go_roundg k'
            case measure => omega
            case rel => exact ⟨⟨_, _, _, _, _, HN.out⟩⟩
          · have hna0 : na = 0 := by omega
            have hb0 : 0 < nb := by
              rcases Nat.eq_zero_or_pos nb with h | h
              · exact absurd ⟨List.eq_nil_of_length_eq_zero (by rw [← NA.out, hna0]), List.eq_nil_of_length_eq_zero (by rw [← NB.out, h])⟩ hab
              · exact h
            have NA0 := Aside0.mk hna0
            have d1 : decide (0 < na) = false := decide_eq_false ha
            have d2 : decide (0 < (na : Int)) = false := decide_eq_false (by omega)
            have d3 : decide (0 < nb) = true := decide_eq_true hb0
            have d4 : decide (0 < (nb : Int)) = true := decide_eq_true (by omega)
            clear ha hab hna0 hb0
            go_wp2_with fail
            refine HG.out.mono ?_
            rintro e W1 ⟨⟨x, rfl⟩, vo1, hx1, hr1, hb1⟩
            obtain ⟨k', rfl⟩ := HK.out
            have HN := Aside0.mk (HC.out.next HX.out hx1 hr1 hb1)
            clear hx1 hr1 hb1 m0 m1 m3
            go_wp2
            go_roundg k'
            case measure => omega
            case rel => exact ⟨⟨_, _, _, _, _, HN.out⟩⟩
    · rw [if_neg q2] at h'
      obtain ⟨rfl, rfl⟩ := Prod.mk.inj h'
      obtain ⟨m, hm⟩ : ∃ m, a0 + sumG l1 = m := ⟨_, rfl⟩
      rw [hm] at HV2 HV3 q2 ⊢
      obtain ⟨e2, he2⟩ : ∃ e, vspec m l2 = e := ⟨_, rfl⟩
      rw [he2] at HV3 q2 ⊢
      have cc2 : (e2 != 0) = true := bne_iff_ne.mpr q2
      clear h' q1 q2 z0 zn zl zc y0 y1 y2 hm he2 HS
      go_enter Try.func30, Try.ntmps30
      go_wp2_with fail
      refine (edits_Valid.calls k1 a0 A1 c1 l1 0 _ HR1.out HC1.out HV1.out).mono ?_
      rintro e w1 ⟨rfl, hb1⟩
      have HB1 := Aside0.mk hb1
      clear hb1
      go_wp2_with fail
      refine (edits_left.calls k2 a0 A1 c1 l1 _ _ (Kd.C_below HR1.out HB1.out) HC1.out HV2.out).mono ?_
      rintro e w2 ⟨rfl, hb2⟩
      have HB2 := Aside0.mk (below_step HB1.out hb2)
      clear hb2
      go_wp2_with fail
      refine (edits_valid.calls k3 m A2 c2 l2 _ _ (Kd.C_below HR2.out HB2.out) HC2.out HV3.out).mono ?_
      rintro e w3 ⟨rfl, hb3⟩
      have HB3 := Aside0.mk (below_step HB2.out hb3)
      clear hb3
      go_wp2
      go_ret2
      exact ⟨_, rfl, Kd.R_nil _ _ _ _ _, HB3.out⟩
  · rw [if_neg q1] at h'
    obtain ⟨rfl, rfl⟩ := Prod.mk.inj h'
    obtain ⟨e1, he1⟩ : ∃ e, Vspec a0 l1 = e := ⟨_, rfl⟩
    rw [he1] at HV1 q1 ⊢
    have cc1 : (e1 != 0) = true := bne_iff_ne.mpr q1
    clear h' q1 he1 HS
    go_enter Try.func30, Try.ntmps30
    go_wp2_with fail
    refine (edits_Valid.calls k1 a0 A1 c1 l1 _ _ HR1.out HC1.out HV1.out).mono ?_
    rintro e w1 ⟨rfl, hb1⟩
    have HB1 := Aside0.mk hb1
    clear hb1
    go_wp2
    go_ret2
    exact ⟨_, rfl, Kd.R_nil _ _ _ _ _, HB1.out⟩
end Go.Proofs.Ytaihajmdngoeiaa.F

-- The law EditsChain, plainly
namespace Go.Proofs.Ytaihajmdngoeiaa.Q
open Go.RowKit Go.Proofs.YtaihajmdngoeiaaW.PrintWords Go.Proofs.YtaihajmdngoeiaaW.PrintLast Go.Proofs.YtaihajmdngoeiaaW.PrintMore
open Go.Proofs.Ytaihajmdngoeiaa.F
set_option linter.unusedVariables false
set_option linter.unusedSimpArgs false

theorem comp_f (k : Nat) (n : Int) (a b : List S42) (h1 : tot a ≤ 1048576) (h2 : tot b ≤ 1048576) : edits_Compose.f k n a b = some (compSpec n a b) := by
  unfold edits_Compose.f
  rw [if_pos ⟨h1, h2⟩]
theorem chain_of_ok {n : Int} : ∀ (l : List Ed) (p : Int), Ch n p l → 0 ≤ p → Chain n (some p) (l.map toS)
  | [], p, _, _ => trivial
  | e :: t, p, ⟨c1, c2, c3, c4⟩, h0 => ⟨by show 0 ≤ e.a; omega, c2, c3, (fun q hq => by injection hq with hq; show q < e.a; omega), chain_of_ok t e.b c4 (by omega)⟩
theorem chain_of_Ok {n : Int} {l : List Ed} (h : Ok n l) : Chain n none (l.map toS) := by
  cases l with
  | nil => trivial
  | cons e t =>
    obtain ⟨c1, c2, c3, c4⟩ := h
    exact ⟨c1, c2, c3, (fun q hq => by cases hq), chain_of_ok t e.b c4 (by omega)⟩
theorem Vspec_nat (n : Nat) (hn : n ≤ 4611686018427387904) (l : List S42) : Vspec (n : Int) l = vspec n l := by
  unfold Vspec
  rw [if_neg (by omega), if_neg (by omega)]
theorem compSpec_good (n : Nat) (hn : n ≤ 4611686018427387904) (a b : List S42) (h : vspec n a = 0) (m : Nat) (hm : (m : Int) = n + sumG a) (hmn : m ≤ 4611686018427387904) : compSpec n a b = if vspec m b = 0 then (if (compL n a b).length > 65536 then ([], 2) else (compL n a b, 0)) else ([], vspec m b) := by
  unfold compSpec
  rw [Vspec_nat n hn, if_pos h, ← hm, w64 (by omega) (by omega)]
  by_cases h2 : vspec (m : Int) b = 0
  · rw [if_pos h2, if_pos h2]
    by_cases h3 : (compL n a b).length > 65536
    · rw [if_pos h3, if_pos (by omega)]
    · rw [if_neg h3, if_neg (by omega)]
  · rw [if_neg h2, if_neg h2]
theorem rowE_len' (n : Nat) (a : List S42) (ha : Chain n none a) (m : Nat) (hm : (m : Int) = n + sumG a) : (rowE n (a.map edOf)).1.length = m := by
  have := rowE_len n (by omega) a none ha
  omega
theorem compL_chain (n : Nat) (a b : List S42) (ha : Chain n none a) (m : Nat) (hm : (m : Int) = n + sumG a) (hb : Chain m none b) : Chain n none (compL n a b) := by
  unfold compL
  exact chain_of_Ok (cmpE_ok n (by omega) _ _ (chain_ok ha) (by rw [rowE_len' n a ha m hm]; exact chain_ok hb))
theorem ba_of_list {x y : ByteArray} (h : x.data.toList = y.data.toList) : x = y := by
  cases x
  cases y
  congr 1
  exact Array.toList_inj.1 h
/-- One list does what both do. -/
theorem compL_ap (text : ByteArray) (a b : List S42) (ha : Chain text.size none a) (hb : Chain (apGo text 0 a).size none b) (hm : ((apGo text 0 a).size : Int) = text.size + sumG a) : apGo text 0 (compL text.size a b) = apGo (apGo text 0 a) 0 b := by
  apply ba_of_list
  have hc := compL_chain text.size a b ha _ hm hb
  rw [ap_row text _ hc, ap_row (apGo text 0 a) b hb, ap_row text a ha]
  have hl := rowE_len' text.size a ha _ hm
  unfold compL
  rw [edOf_toS_map, appR_cmpE _ _ (by omega) _ _ (chain_ok ha) (by rw [hl]; exact chain_ok hb), hl]
end Go.Proofs.Ytaihajmdngoeiaa.Q
