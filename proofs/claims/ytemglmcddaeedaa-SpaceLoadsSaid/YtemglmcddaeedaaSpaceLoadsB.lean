/- Part of the proof: Load is that of 7.3: the area, or the first wrong byte, for all bytes. -/
import Derived.Test.YtemglmcddaeedaaSpaceLoadsA
import Derived.ArgAppend
import Derived.Below
import Derived.BigQuiet
import Derived.ChangeOld
import Derived.Deep.AppendLies
import Derived.Deep.CutBlock
import Derived.Deep.DeepCutAuto
import Derived.Deep.Draws
import Derived.Deep.LoopGhost
import Derived.Deep.OwnRows
import Derived.Deep.QuietTactic
import Derived.Deep.RegionHeld3
import Derived.Deep.RegionLaw
import Derived.Deep.SlicePairs
import Derived.Defers
import Derived.DefersIn
import Derived.KernelRfl
import Derived.Laws.BitsLemmas
import Derived.Laws.BytesArg
import Derived.Laws.CopyOwn
import Derived.Laws.IdiomCopy
import Derived.Laws.MakeOwn
import Derived.Laws.OwnMore
import Derived.Laws.Rows
import Derived.Laws.Slices
import Derived.Lib.AppendStr
import Derived.Lib.AppendZerosOnto
import Derived.Lib.BufferWrite
import Derived.Lib.ConvBytes
import Derived.Lib.Hide
import Derived.Lib.Overlaps
import Derived.LoopIn
import Derived.LoopNIn
import Derived.Maps.AppendAt
import Derived.OpenShut
import Derived.OrdersHeld
import Derived.OwnWalk
import Derived.OwnWalkIn
import Derived.ProofKit
import Derived.RangeFuncBound
import Derived.RangeFuncCalls
import Derived.RangeFuncLeaves
import Derived.RangeFuncNested
import Derived.RangeFuncRecord
import Derived.Recover
import Derived.RecoverIn
import Derived.RowKit
import Derived.RowKit3
import Derived.Shelf.Abstract
import Derived.Shelf.RegionOpen
import Derived.ShutString
import Derived.SizedLaws
import Derived.StillTailTactics
import Derived.Tactics
import Derived.TacticsInMore
import Derived.Test.YtemglmcddaeedaaProg
import Derived.Test.YtemglmcddaeedaaRows
import Derived.Test.YtemglmcddaeedaaWApart
import Derived.Test.YtemglmcddaeedaaWArr
import Derived.Test.YtemglmcddaeedaaWAt
import Derived.Test.YtemglmcddaeedaaWEqStruct
import Derived.Test.YtemglmcddaeedaaWFoot
import Derived.Test.YtemglmcddaeedaaWFootNe
import Derived.Test.YtemglmcddaeedaaWFour
import Derived.Test.YtemglmcddaeedaaWGuard
import Derived.Test.YtemglmcddaeedaaWInv
import Derived.Test.YtemglmcddaeedaaWInvWords
import Derived.Test.YtemglmcddaeedaaWKept
import Derived.Test.YtemglmcddaeedaaWLast
import Derived.Test.YtemglmcddaeedaaWMore
import Derived.Test.YtemglmcddaeedaaWN
import Derived.Test.YtemglmcddaeedaaWNEv
import Derived.Test.YtemglmcddaeedaaWQPut
import Derived.Test.YtemglmcddaeedaaWRepsOne
import Derived.Test.YtemglmcddaeedaaWShare
import Derived.Test.YtemglmcddaeedaaWTab
import Derived.Test.YtemglmcddaeedaaWWords
import Derived.Test.YtemglmcddaeedaaWZeros
import Derived.WalkKit
import Derived.WalkLawsBesides
import Derived.WalkSpells
import Derived.WideLaws
namespace Go.Proofs.Ytemglmcddaeedaa.PA
open Go.RowKit Go.Proofs.YtemglmcddaeedaaW.PrintWords Go.Proofs.YtemglmcddaeedaaW.PrintLast Go.Proofs.YtemglmcddaeedaaW.PrintMore
attribute [local go_sem] max2_int min2_int max_two min_two max_three min_three max_four min_four   -- for this text's walks alone
set_option linter.unusedVariables false
set_option linter.unusedSimpArgs false

/-! ### page_Free: function 25 -/
set_option maxRecDepth 100000 in
theorem quantities_calls (w : World) : Calls Try.prog 63 #[] w fun e w' => e = .returned (.agg #[.func (.func 107) #[] #[], .func (.func 108) #[] #[]]) ∧ Below w.heap.size w w' := by
  have hd := blk_new w (.cells #[.nilFunc, .nilFunc] 78)
  have hB := below_alloc (Below.refl _ w) (.cells #[.nilFunc, .nilFunc] 78)
  obtain ⟨W, hW⟩ : ∃ W, w.alloc (.cells #[.nilFunc, .nilFunc] 78) = W := ⟨_, rfl⟩
  obtain ⟨g, hg⟩ : ∃ g, w.heap.size = g := ⟨_, rfl⟩
  rw [hW] at hd hB
  rw [hg] at hd hB
  have HB := Aside0.mk (And.intro hd hB)
  have c5 := (blk_cell hd 0).trans rfl
  have c6 := (blk_cell hd 1).trans rfl
  have f5 := blk_frozen hd 0
  have f6 := blk_frozen hd 1
  have s1 : ∀ x p W, (store p (.func x #[] #[])).run Try.prog W = stored Try.prog W p (.func x #[] #[]) .plain := fun x p W => run_store Try.prog W p _ .plain rfl
  clear hd hB
  go_enter Try.func63, Try.ntmps63
  go_wp2_with fail
  have k1 := blk_set (blk_set HB.out.1 0 (.func (.func 107) #[] #[])) 1 (.func (.func 108) #[] #[])
  obtain ⟨W3, hW3⟩ : ∃ W3, ((W.setCell ⟨g, 0, none⟩ (.func (.func 107) #[] #[])).setCell ⟨g, 1, none⟩ (.func (.func 108) #[] #[])) = W3 := ⟨_, rfl⟩
  have d1 : W3.cell? ⟨g, 0, none⟩ = some (.func (.func 107) #[] #[]) := by rw [← hW3]; exact (blk_cell k1 0).trans rfl
  have d2 : W3.cell? ⟨g, 1, none⟩ = some (.func (.func 108) #[] #[]) := by rw [← hW3]; exact (blk_cell k1 1).trans rfl
  have d3 : Below g w W3 := by rw [← hW3]; exact (HB.out.2.setCell (Nat.le_refl g) _).setCell (Nat.le_refl g) _
  rw [hW3]
  refine ⟨rfl, .agg #[.func (.func 107) #[] #[], .func (.func 108) #[] #[]], ?_, rfl, hg ▸ d3⟩
  simp [results, Try.results63, go_sem, d1, d2]
def page_Free.f (a0 : ByteArray) : Option (Int × Int) := if a0.size ≤ 100000 then some (if validS a0 then ((a0.size : Int) - needsL (cellsS a0 (twoS a0 0).toNat), 0) else (0, 1)) else none
set_option maxRecDepth 100000 in
set_option maxHeartbeats 4000000 in
theorem quantities1_calls (n : Int) (A : Option Addr) (c : Nat) (l : List S45) (w : World) (hr : Kd.C k45 w A l.length l) (hc : l.length ≤ c) (hn : 0 ≤ n ∧ n ≤ 100000) (ho : CellsOk l) (hf : needsL l ≤ n) :
    Calls Try.prog 107 #[.int .i64 n, .slice A l.length c] w fun e w' => e = .returned (.int .i64 (n - needsL l)) ∧ Below w.heap.size w w' := by
  have h0 := lastL_nonneg ho
  have HF := Aside0.mk (needs_f ho (by unfold needsL at hf; omega))
  have HR := Aside0.mk hr
  clear hr
  have hnd : 0 ≤ needsL l := by unfold needsL; omega
  obtain ⟨nd, hN⟩ : ∃ nd, needsL l = nd := ⟨_, rfl⟩
  rw [hN] at HF hnd hf ⊢
  clear hN ho h0
  go_enter Try.func107, Try.ntmps107
  go_wp2_with (go_at_call 102; refine (page_needs.calls A c l nd _ HR.out hc HF.out).mono ?_; rintro e w1 ⟨rfl, hb1⟩)
  go_ret
  exact ⟨rfl, hb1⟩
set_option maxRecDepth 100000 in
set_option maxHeartbeats 4000000 in
theorem page_Free.calls (a0 : ByteArray) (r1 r2 : Int) (w : World) (h : page_Free.f a0 = some (r1, r2)) :
    Calls Try.prog 25 #[.string a0] w fun e w' => e = .returned (.tuple #[.int .i64 r1, .int .i64 r2]) ∧ Below w.heap.size w w' := by
  unfold page_Free.f at h
  split at h
  rotate_left
  · cases h
  rename_i hs
  have hv := valid_call a0 hs
  by_cases hval : validS a0
  · rw [if_pos hval] at h
    rw [decide_eq_true hval] at hv
    obtain ⟨rfl, rfl⟩ := Prod.mk.inj (Option.some.inj h)
    clear h
    obtain ⟨q1, q2, q3, q4, q5, _⟩ := validS_spec a0 hval
    obtain ⟨g1, g2, g3, g4⟩ := valid_reads a0 hval
    have hcf : page_cells.f a0 = some (cellsS a0 (twoS a0 0).toNat) := by unfold page_cells.f; rw [if_pos hval]
    generalize cellsS a0 (twoS a0 0).toNat = l at *
    have HC := Aside0.mk hcf
    have HV := Aside0.mk hv
    have HG := Aside0.mk (And.intro g1 g2)
    clear hv hval hcf g1 g2 g3 g4
    have hix : ∀ x y W, (Instr.index 78 (.agg #[x, y]) (.int .i64 0)).run Try.prog W = .ok x W := fun x y W => by kernel_rfl
    go_enter Try.func25, Try.ntmps25
    go_wp2_with (first
      | (go_at_call 21; refine (page_Valid.calls a0 true _ HV.out).mono ?_; rintro e w1 ⟨rfl, hb1⟩)
      | (go_at_call 63; refine (quantities_calls w1).mono ?_; rintro e w2 ⟨rfl, hb2⟩)
      | (go_at_call 49; refine (page_cells.calls a0 l w2 HC.out).mono ?_; rintro e w3 ⟨v, rfl, hr3, hb3⟩; obtain ⟨A, c, rfl, hcl, hC⟩ := Kd.R_reads hr3)
      | (go_at_call 107; refine (quantities1_calls a0.size A c l w3 hC hcl (by omega) HG.out.1 HG.out.2).mono ?_; rintro e w4 ⟨rfl, hb4⟩))
    go_ret2
    exact ⟨rfl, below_step (below_step (below_step hb1 hb2) hb3) hb4⟩
  · rw [if_neg hval] at h
    rw [decide_eq_false hval] at hv
    obtain ⟨rfl, rfl⟩ := Prod.mk.inj (Option.some.inj h)
    clear h
    have HV := Aside0.mk hv
    clear hv hval
    go_enter Try.func25, Try.ntmps25
    go_wp2_with (go_at_call 21; refine (page_Valid.calls a0 false _ HV.out).mono ?_; rintro e w1 ⟨rfl, hb1⟩)
    go_ret2
    exact ⟨rfl, hb1⟩

end Go.Proofs.Ytemglmcddaeedaa.PA

namespace Go.Proofs.Ytemglmcddaeedaa.PA
open Go.RowKit Go.Proofs.YtemglmcddaeedaaW.PrintWords Go.Proofs.YtemglmcddaeedaaW.PrintLast Go.Proofs.YtemglmcddaeedaaW.PrintMore
attribute [local go_sem] max2_int min2_int max_two min_two max_three min_three max_four min_four   -- for this text's walks alone
set_option linter.unusedVariables false
set_option linter.unusedSimpArgs false

/-! ### page_Next: function 27 -/
/-- The least free line of cells in order. -/
def leastL (l : List S45) : Int := l.foldl (fun n c => if c.f0 = n then n + 1 else n) 1
theorem leastL_snoc (l : List S45) (c : S45) : leastL (l ++ [c]) = if c.f0 = leastL l then leastL l + 1 else leastL l := by
  unfold leastL; rw [List.foldl_append]; rfl
theorem leastL_range (l : List S45) (i : Nat) (hi : i ≤ l.length) : 1 ≤ leastL (l.take i) ∧ leastL (l.take i) ≤ i + 1 := by
  induction i with
  | zero => simp [leastL]
  | succ i ih =>
    have := ih (by omega)
    rw [take_snoc l i (by omega), leastL_snoc]
    split <;> omega
def page_Next.f (a0 : ByteArray) : Option (Int × Int) := if a0.size ≤ 100000 then some (if validS a0 then (if leastL (cellsS a0 (twoS a0 0).toNat) > 200 then (0, 13) else (leastL (cellsS a0 (twoS a0 0).toNat), 0)) else (0, 1)) else none
set_option maxRecDepth 100000 in
set_option maxHeartbeats 4000000 in
theorem quantities2_calls (n : Int) (A : Option Addr) (c : Nat) (l : List S45) (w : World) (hr : Kd.C k45 w A l.length l) (hc : l.length ≤ c) (hl : l.length ≤ 100000) :
    Calls Try.prog 108 #[.int .i64 n, .slice A l.length c] w fun e w' => e = .returned (.int .i64 (leastL l)) ∧ Below w.heap.size w w' := by
  have HR := Aside0.mk hr
  clear hr
  have hl' : (l.length : Int) ≤ 100000 := by omega
  go_enter Try.func108, Try.ntmps108
  go_wp2_with fail
  go_loopw [5, 10] (fun v5 v10 wr => ∃ i : Nat, i ≤ l.length ∧ v5 = .int .i64 (leastL (l.take i)) ∧ v10 = .int .i64 (i : Int) ∧ Aside0 (Below w.heap.size w wr)) (fun _ v10 _ => l.length - (intOf v10).toNat)
  case atStart => exact ⟨0, by omega, by simp [leastL], by simp, Aside0.mk (Below.refl _ w)⟩
  case round =>
    obtain ⟨i, hi, rfl, rfl, HB⟩ := hrel
    by_cases hlt : i < l.length
    · obtain ⟨ad, e1, hy0, hy1⟩ := at_T45 HR.out (i : Int) (by omega) (by omega)
      cases e1
      rw [rd_get l i hlt] at hy0 hy1
      replace hy0 := (HB.out.cell (World.block_lt_of_cell? w _ hy0)).trans hy0
      replace hy1 := (HB.out.cell (World.block_lt_of_cell? w _ hy1)).trans hy1
      simp only [Int.toNat_natCast] at hy0 hy1
      have hrg := leastL_range l i (by omega)
      have hsn := leastL_snoc (l.take i) l[i]
      rw [← take_snoc l i hlt] at hsn
      have HS := Aside0.mk hsn
      clear hsn
      obtain ⟨X, hX⟩ : ∃ X, l[i] = X := ⟨_, rfl⟩
      rw [hX] at hy0 hy1 HS
      obtain ⟨M, hM⟩ : ∃ M, leastL (l.take i) = M := ⟨_, rfl⟩
      rw [hM] at HS hrg
      simp only [hM]
      clear hX hM
      have hlt' : (i : Int) < l.length := by omega
      by_cases hq : X.f0 = M
      · go_wp2_with fail
        go_roundw
        case rel => exact ⟨i + 1, by omega, by rw [HS.out, if_pos hq], by go_num, Aside0.mk (below_alloc HB.out _)⟩
        case measure => simp [intOf]; omega
      · go_wp2_with fail
        go_roundw
        case rel => exact ⟨i + 1, by omega, by rw [HS.out, if_neg hq], by go_num, Aside0.mk (below_alloc HB.out _)⟩
        case measure => simp [intOf]; omega
    · have hil : i = l.length := by omega
      subst hil
      rw [List.take_length]
      go_wp2_with fail
      go_ret
      exact ⟨rfl, HB.out⟩
set_option maxRecDepth 100000 in
set_option maxHeartbeats 4000000 in
theorem page_Next.calls (a0 : ByteArray) (r1 r2 : Int) (w : World) (h : page_Next.f a0 = some (r1, r2)) :
    Calls Try.prog 27 #[.string a0] w fun e w' => e = .returned (.tuple #[.int .i64 r1, .int .i64 r2]) ∧ Below w.heap.size w w' := by
  unfold page_Next.f at h
  split at h
  rotate_left
  · cases h
  rename_i hs
  have hv := valid_call a0 hs
  by_cases hval : validS a0
  · rw [if_pos hval] at h
    rw [decide_eq_true hval] at hv
    have h := Option.some.inj h
    obtain ⟨q1, q2, q3, q4, q5, _⟩ := validS_spec a0 hval
    have hcf : page_cells.f a0 = some (cellsS a0 (twoS a0 0).toNat) := by unfold page_cells.f; rw [if_pos hval]
    have hcl := cellsS_length a0 (twoS a0 0).toNat
    generalize cellsS a0 (twoS a0 0).toNat = l at *
    have hrg := leastL_range l l.length (Nat.le_refl _)
    rw [List.take_length] at hrg
    have HC := Aside0.mk hcf
    have HV := Aside0.mk hv
    have hl1 : l.length ≤ 100000 := by omega
    have hQ := fun A c w hC hc => quantities2_calls a0.size A c l w hC hc hl1
    obtain ⟨M, hM⟩ : ∃ M, leastL l = M := ⟨_, rfl⟩
    simp only [hM] at hQ h hrg
    have HQ := Aside0.mk hQ
    have HX := Aside0.mk h
    have hM1 : M ≤ 100000 := by omega
    clear hv hval hcf hQ h hM hcl
    have hix : ∀ x y W, (Instr.index 78 (.agg #[x, y]) (.int .i64 1)).run Try.prog W = .ok y W := fun x y W => by kernel_rfl
    by_cases hM2 : M > 200
    all_goals
      go_enter Try.func27, Try.ntmps27
      go_wp2_with (first
        | (go_at_call 21; refine (page_Valid.calls a0 true _ HV.out).mono ?_; rintro e w1 ⟨rfl, hb1⟩)
        | (go_at_call 63; refine (quantities_calls w1).mono ?_; rintro e w2 ⟨rfl, hb2⟩)
        | (go_at_call 49; refine (page_cells.calls a0 l w2 HC.out).mono ?_; rintro e w3 ⟨v, rfl, hr3, hb3⟩; obtain ⟨A, c, rfl, hcl, hC⟩ := Kd.R_reads hr3)
        | (go_at_call 108; refine (HQ.out A c w3 hC hcl).mono ?_; rintro e w4 ⟨rfl, hb4⟩))
      go_ret2
      have hx := HX.out
      first | rw [if_pos hM2] at hx | rw [if_neg (by omega)] at hx
      cases hx
      exact ⟨rfl, below_step (below_step (below_step hb1 hb2) hb3) hb4⟩
  · rw [if_neg hval] at h
    rw [decide_eq_false hval] at hv
    obtain ⟨rfl, rfl⟩ := Prod.mk.inj (Option.some.inj h)
    clear h
    have HV := Aside0.mk hv
    clear hv hval
    go_enter Try.func27, Try.ntmps27
    go_wp2_with (go_at_call 21; refine (page_Valid.calls a0 false _ HV.out).mono ?_; rintro e w1 ⟨rfl, hb1⟩)
    go_ret2
    exact ⟨rfl, hb1⟩

end Go.Proofs.Ytemglmcddaeedaa.PA

namespace Go.Proofs.Ytemglmcddaeedaa.PA
open Go.RowKit Go.Proofs.YtemglmcddaeedaaW.PrintWords Go.Proofs.YtemglmcddaeedaaW.PrintLast Go.Proofs.YtemglmcddaeedaaW.PrintMore
attribute [local go_sem] max2_int min2_int max_two min_two max_three min_three max_four min_four   -- for this text's walks alone
set_option linter.unusedVariables false
set_option linter.unusedSimpArgs false

/-! ### page_find: function 0 -/
/-- Where a line stands among cells in order, or would. -/
def idxS (l : List S45) (n : Int) : Nat := (l.takeWhile (fun c => decide (c.f0 < n))).length
theorem idxS_le (l : List S45) (n : Int) : idxS l n ≤ l.length := by
  unfold idxS
  induction l with
  | nil => simp
  | cons c r ih =>
    rw [List.takeWhile_cons]
    split
    · simp only [List.length_cons]; omega
    · simp
theorem idxS_spec : ∀ {l : List S45}, CellsOk l → ∀ (n : Int) (h : Nat) (hl : h < l.length), l[h].f0 < n ↔ h < idxS l n := by
  intro l
  induction l with
  | nil => intro _ n h hl; simp at hl
  | cons c r ih =>
    intro hok n h hl
    unfold idxS
    rw [List.takeWhile_cons]
    by_cases hc : c.f0 < n
    · rw [if_pos (decide_eq_true hc)]
      cases h with
      | zero => simp [hc]
      | succ h =>
        have := ih hok.tail n h (by simpa using hl)
        simp only [List.getElem_cons_succ, List.length_cons]
        rw [this]
        unfold idxS
        omega
    · rw [if_neg (by simpa using hc)]
      cases h with
      | zero => simp [hc]
      | succ h =>
        have h1 := hok.lt (r[h]'(by simpa using hl)) (List.getElem_mem _)
        simp only [List.getElem_cons_succ, List.length_nil, Nat.not_lt_zero, iff_false]
        omega
theorem idxS_iff {l : List S45} (hok : CellsOk l) (n : Int) (h : Nat) (hl : h < l.length) : l[h].f0 < n ↔ h < idxS l n := idxS_spec hok n h hl
def foundS (l : List S45) (n : Int) : Bool := match l[idxS l n]? with | some c => decide (c.f0 = n) | none => false
set_option maxHeartbeats 4000000 in
theorem find1_calls (c : S45) (n : Int) (h0 : 0 ≤ c.f0 ∧ c.f0 ≤ 1000) (h1 : -1000 ≤ n ∧ n ≤ 1000) (w : World) :
    Calls Try.prog 110 #[.agg #[.int .i64 c.f0, .string c.f1], .int .i64 n] w fun e w' => e = .returned (.int .i64 (c.f0 - n)) ∧ Below w.heap.size w w' := by
  have h2 := h0.1
  have h3 := h0.2
  have h4 := h1.1
  have h5 := h1.2
  clear h0 h1
  have hb := blk_new w (.cells #[.int .i64 c.f0, .string c.f1] 45)
  have c0 := blk_cell hb 0
  simp only [List.getElem?_toArray, List.getElem?_cons_zero] at c0
  have HB := Aside0.mk (below_alloc (Below.refl _ w) (.cells #[.int .i64 c.f0, .string c.f1] 45))
  clear hb
  go_enter Try.func110, Try.ntmps110
  go_wp2
  go_ret
  exact ⟨rfl, HB.out⟩
set_option maxHeartbeats 4000000 in
set_option maxRecDepth 100000 in
theorem bsearch_calls (l : List S45) (A : Option Addr) (c : Nat) (n : Int) (w : World) (hok : CellsOk l) (hn : -1000 ≤ n ∧ n ≤ 1000) (hl : l.length ≤ 1000) (hC : Kd.C k45 w A l.length l) :
    Calls Try.prog 109 #[.slice A l.length c, .int .i64 n, .func (.func 110) #[] #[]] w fun e w' => e = .returned (.tuple #[.int .i64 (idxS l n), .bool (foundS l n)]) ∧ Below w.heap.size w w' := by
  have HOK := Aside0.mk hok
  have HC := Aside0.mk hC
  have HI := Aside0.mk (idxS_le l n)
  clear hok hC
  go_enter Try.func109, Try.ntmps109
  go_wp2
  go_loopw [9, 10] (fun v9 v10 wr => ∃ i j : Nat, i ≤ idxS l n ∧ idxS l n ≤ j ∧ j ≤ l.length ∧ v9 = .int .i64 (i : Int) ∧ v10 = .int .i64 (j : Int) ∧ Aside0 (Below w.heap.size w wr)) (fun v9 v10 _ => (intOf v10).toNat - (intOf v9).toNat)
  case atStart => exact ⟨0, l.length, by omega, HI.out, by omega, rfl, rfl, ⟨Below.refl _ _⟩⟩
  case round =>
    obtain ⟨i, j, hi, hij, hj, rfl, rfl, HB⟩ := hrel
    by_cases hlt : i < j
    · have hm0 : i ≤ (i + j) / 2 := by omega
      have hm1 : (i + j) / 2 < j := by omega
      obtain ⟨h, hh⟩ : ∃ h, (i + j) / 2 = h := ⟨_, rfl⟩
      rw [hh] at hm0 hm1
      have hhl : h < l.length := by omega
      obtain ⟨ad, e1, hx0, hx1⟩ := at_T45 HC.out (h : Int) (by omega) (by omega)
      cases e1
      rw [rd_get l h hhl] at hx0 hx1
      replace hx0 := (HB.out.cell (World.block_lt_of_cell? w _ hx0)).trans hx0
      replace hx1 := (HB.out.cell (World.block_lt_of_cell? w _ hx1)).trans hx1
      simp only [Int.toNat_natCast] at hx0 hx1
      have HS := Aside0.mk (idxS_spec HOK.out n h hhl)
      have hE := HOK.out.each l[h] (List.getElem_mem _)
      obtain ⟨X, hX⟩ : ∃ X, l[h] = X := ⟨_, rfl⟩
      rw [hX] at hx0 hx1 HS hE
      have hE1 : 0 ≤ X.f0 := by omega
      have hE2 : X.f0 ≤ 1000 := by omega
      have HH := Aside0.mk hh
      clear hX hh hE
      have hw1 : (((i : Int) + (j : Int)) / 2) = (h : Int) := by have := HH.out; omega
      by_cases hcmp : X.f0 < n
      · have hd : decide (X.f0 - n < 0) = true := decide_eq_true (by omega)
        go_wp2_with (go_at_call 110; refine (find1_calls X n ⟨hE1, hE2⟩ hn _).mono ?_; rintro e w' ⟨rfl, hb1⟩)
        go_roundw
        case rel => exact ⟨h + 1, j, by have := HS.out.1 hcmp; omega, hij, hj, by go_num, rfl, ⟨below_then HB.out HB.out.size hb1⟩⟩
        case measure => simp [intOf]; omega
      · have hd : decide (X.f0 - n < 0) = false := decide_eq_false (by omega)
        have hge : ¬ h < idxS l n := fun hh => hcmp (HS.out.2 hh)
        go_wp2_with (go_at_call 110; refine (find1_calls X n ⟨hE1, hE2⟩ hn _).mono ?_; rintro e w' ⟨rfl, hb1⟩)
        go_roundw
        case rel => exact ⟨i, h, hi, by omega, by omega, rfl, rfl, ⟨below_then HB.out HB.out.size hb1⟩⟩
        case measure => simp [intOf]; omega
    · obtain ⟨m, hm⟩ : ∃ m, idxS l n = m := ⟨_, rfl⟩
      rw [hm] at hi hij
      have hmi : i = m := by omega
      have hmj : j = m := by omega
      subst hmi
      subst hmj
      clear hi hij hlt
      have HM := Aside0.mk hm
      rw [hm]
      clear hm
      by_cases hlt : j < l.length
      · obtain ⟨ad, e1, hx0, hx1⟩ := at_T45 HC.out (j : Int) (by omega) (by omega)
        cases e1
        rw [rd_get l j hlt] at hx0 hx1
        replace hx0 := (HB.out.cell (World.block_lt_of_cell? w _ hx0)).trans hx0
        replace hx1 := (HB.out.cell (World.block_lt_of_cell? w _ hx1)).trans hx1
        simp only [Int.toNat_natCast] at hx0 hx1
        have hE := HOK.out.each l[j] (List.getElem_mem _)
        have HF := Aside0.mk (show foundS l n = decide (l[j].f0 = n) by unfold foundS; rw [HM.out, List.getElem?_eq_getElem hlt])
        obtain ⟨X, hX⟩ : ∃ X, l[j] = X := ⟨_, rfl⟩
        rw [hX] at hx0 hx1 HF hE
        have hE1 : 0 ≤ X.f0 := by omega
        have hE2 : X.f0 ≤ 1000 := by omega
        clear hX hE
        have hlti : decide (j < l.length) = true := decide_eq_true hlt
        go_wp2_with (go_at_call 110; refine (find1_calls X n ⟨hE1, hE2⟩ hn _).mono ?_; rintro e w' ⟨rfl, hb1⟩)
        go_ret2
        refine ⟨?_, below_then HB.out HB.out.size hb1⟩
        rw [HF.out, HM.out]
        have : ((X.f0 - n) == (0 : Int)) = decide (X.f0 = n) := by rw [Bool.eq_iff_iff]; simp; omega
        first | rfl | (rw [← this]; rfl)
      · have HF := Aside0.mk (show foundS l n = false by unfold foundS; rw [HM.out, List.getElem?_eq_none (by omega)])
        have hlti : decide (j < l.length) = false := decide_eq_false hlt
        go_wp2_with (go_at_call 110; fail)
        go_ret2
        exact ⟨by rw [HF.out, HM.out]; rfl, HB.out⟩
set_option maxHeartbeats 4000000 in
theorem find_calls (l : List S45) (A : Option Addr) (c : Nat) (n : Int) (w : World) (hok : CellsOk l) (hn : -1000 ≤ n ∧ n ≤ 1000) (hl : l.length ≤ 1000) (hC : Kd.C k45 w A l.length l) :
    Calls Try.prog 66 #[.slice A l.length c, .int .i64 n] w fun e w' => e = .returned (.tuple #[.int .i64 (idxS l n), .bool (foundS l n)]) ∧ Below w.heap.size w w' := by
  go_enter Try.func66, Try.ntmps66
  go_wp2_with (go_at_call 109; refine (bsearch_calls l A c n _ hok hn hl hC).mono ?_; rintro e w' ⟨rfl, hb1⟩)
  go_ret2
  exact ⟨rfl, hb1⟩

end Go.Proofs.Ytemglmcddaeedaa.PA

namespace Go.Proofs.Ytemglmcddaeedaa.PA
open Go.RowKit Go.Proofs.YtemglmcddaeedaaW.PrintWords Go.Proofs.YtemglmcddaeedaaW.PrintLast Go.Proofs.YtemglmcddaeedaaW.PrintMore
attribute [local go_sem] max2_int min2_int max_two min_two max_three min_three max_four min_four   -- for this text's walks alone
set_option linter.unusedVariables false
set_option linter.unusedSimpArgs false

/-! ### page_asked: function 65 -/
def page_asked.f (a0 : ByteArray) (a1 : Int) : Option (Int) := (page_Valid.f a0).bind fun t241 => (if t241 = true then ((page_line.f a1).bind fun t242 => (if t242 = true then (some 0) else (some 7))) else (some 1))
set_option maxHeartbeats 8000000 in
set_option maxRecDepth 100000 in
theorem page_asked.calls (a0 : ByteArray) (a1 : Int) (r : Int) (w : World) (h : page_asked.f a0 a1 = some r) :
    Calls Try.prog 65 #[.string a0, .int .i64 a1] w fun e w' => e = .returned (.int .i64 r) ∧ Below w.heap.size w w' := by
  have HB := Aside0.mk (Below.refl w.heap.size w)
  have H : ((page_Valid.f a0).bind fun t241 => (if t241 = true then ((page_line.f a1).bind fun t242 => (if t242 = true then (some 0) else (some 7))) else (some 1))) = some r := h
  clear h
  replace H := Option.bind_eq_some_iff.mp H
  obtain ⟨t241, A30, H⟩ := H
  replace H : (if t241 = true then ((page_line.f a1).bind fun t242 => (if t242 = true then (some 0) else (some 7))) else (some 1)) = some r := H
  have A3 := Aside0.mk A30
  clear A30
  by_cases c4 : t241 = true
  · subst c4
    have H1 : ((page_line.f a1).bind fun t242 => (if t242 = true then (some 0) else (some 7))) = some r := by rw [if_pos rfl] at H; exact H
    clear H
    have H := H1
    clear H1
    replace H := Option.bind_eq_some_iff.mp H
    obtain ⟨t242, A50, H⟩ := H
    replace H : (if t242 = true then (some 0) else (some 7)) = some r := H
    have A5 := Aside0.mk A50
    clear A50
    by_cases c6 : t242 = true
    · subst c6
      have H1 : (some 0) = some r := by rw [if_pos rfl] at H; exact H
      clear H
      have H := H1
      clear H1
      obtain rfl := Option.some.inj H
      go_enter Try.func65, Try.ntmps65
      go_wp2_with (first | ((with_reducible refine gate_callee (f := 21) rfl ?_); refine goesL_ (some 7) rfl rfl Try.func21 (by kernel_rfl) rfl #[.string a0] rfl (by (try simp only [List.map_toArray, List.map_cons, List.map_nil]); first | done | rfl | (simp only [List.length_drop, List.length_take]; rfl)) ?_; (with_reducible refine (page_Valid.calls a0 true _ A3.out).mono ?_); rintro e w7 ⟨rfl, hb⟩; refine ⟨_, rfl, ?_⟩; have n0_ := Aside0.mk (below_step (by repeat (first | (with_reducible first | exact HB.out | apply below_alloc | apply pw_below_drewN | apply below_drew1) | exact HB.out)) hb); clear HB; have HB := n0_; clear n0_; (try clear hb); (try clear hb2); (try clear hk); (try clear hi)) | ((with_reducible refine gate_callee (f := 52) rfl ?_); refine goesL_ (some 11) rfl rfl Try.func52 (by kernel_rfl) rfl #[.int .i64 a1] rfl (by (try simp only [List.map_toArray, List.map_cons, List.map_nil]); first | done | rfl | (simp only [List.length_drop, List.length_take]; rfl)) ?_; (with_reducible refine (page_line.calls a1 true _ A5.out).mono ?_); rintro e w' ⟨rfl, ⟨nd, rfl⟩⟩; refine ⟨_, rfl, ?_⟩))
      go_ret
      exact ⟨by first | rfl | (simp [errW_none, errW_some] <;> rfl) | (simp [*, errW_none, errW_some] <;> rfl), by repeat (first | (with_reducible first | exact HB.out | apply below_alloc | apply pw_below_drewN | apply below_drew1) | exact HB.out)⟩
    · replace c6 := Bool.eq_false_iff.mpr c6
      subst c6
      have H1 : (some 7) = some r := by rw [if_neg (show ¬ (false = true) by decide)] at H; exact H
      clear H
      have H := H1
      clear H1
      obtain rfl := Option.some.inj H
      go_enter Try.func65, Try.ntmps65
      go_wp2_with (first | ((with_reducible refine gate_callee (f := 21) rfl ?_); refine goesL_ (some 7) rfl rfl Try.func21 (by kernel_rfl) rfl #[.string a0] rfl (by (try simp only [List.map_toArray, List.map_cons, List.map_nil]); first | done | rfl | (simp only [List.length_drop, List.length_take]; rfl)) ?_; (with_reducible refine (page_Valid.calls a0 true _ A3.out).mono ?_); rintro e w8 ⟨rfl, hb⟩; refine ⟨_, rfl, ?_⟩; have n0_ := Aside0.mk (below_step (by repeat (first | (with_reducible first | exact HB.out | apply below_alloc | apply pw_below_drewN | apply below_drew1) | exact HB.out)) hb); clear HB; have HB := n0_; clear n0_; (try clear hb); (try clear hb2); (try clear hk); (try clear hi)) | ((with_reducible refine gate_callee (f := 52) rfl ?_); refine goesL_ (some 11) rfl rfl Try.func52 (by kernel_rfl) rfl #[.int .i64 a1] rfl (by (try simp only [List.map_toArray, List.map_cons, List.map_nil]); first | done | rfl | (simp only [List.length_drop, List.length_take]; rfl)) ?_; (with_reducible refine (page_line.calls a1 false _ A5.out).mono ?_); rintro e w' ⟨rfl, ⟨nd, rfl⟩⟩; refine ⟨_, rfl, ?_⟩))
      go_ret
      exact ⟨by first | rfl | (simp [errW_none, errW_some] <;> rfl) | (simp [*, errW_none, errW_some] <;> rfl), by repeat (first | (with_reducible first | exact HB.out | apply below_alloc | apply pw_below_drewN | apply below_drew1) | exact HB.out)⟩
  · replace c4 := Bool.eq_false_iff.mpr c4
    subst c4
    have H1 : (some 1) = some r := by rw [if_neg (show ¬ (false = true) by decide)] at H; exact H
    clear H
    have H := H1
    clear H1
    obtain rfl := Option.some.inj H
    go_enter Try.func65, Try.ntmps65
    go_wp2_with (first | ((with_reducible refine gate_callee (f := 21) rfl ?_); refine goesL_ (some 7) rfl rfl Try.func21 (by kernel_rfl) rfl #[.string a0] rfl (by (try simp only [List.map_toArray, List.map_cons, List.map_nil]); first | done | rfl | (simp only [List.length_drop, List.length_take]; rfl)) ?_; (with_reducible refine (page_Valid.calls a0 false _ A3.out).mono ?_); rintro e w9 ⟨rfl, hb⟩; refine ⟨_, rfl, ?_⟩; have n0_ := Aside0.mk (below_step (by repeat (first | (with_reducible first | exact HB.out | apply below_alloc | apply pw_below_drewN | apply below_drew1) | exact HB.out)) hb); clear HB; have HB := n0_; clear n0_; (try clear hb); (try clear hb2); (try clear hk); (try clear hi)))
    go_ret
    exact ⟨by first | rfl | (simp [errW_none, errW_some] <;> rfl) | (simp [*, errW_none, errW_some] <;> rfl), by repeat (first | (with_reducible first | exact HB.out | apply below_alloc | apply pw_below_drewN | apply below_drew1) | exact HB.out)⟩

end Go.Proofs.Ytemglmcddaeedaa.PA

namespace Go.Proofs.Ytemglmcddaeedaa.PA
open Go.RowKit Go.Proofs.YtemglmcddaeedaaW.PrintWords Go.Proofs.YtemglmcddaeedaaW.PrintLast Go.Proofs.YtemglmcddaeedaaW.PrintMore
attribute [local go_sem] max2_int min2_int max_two min_two max_three min_three max_four min_four   -- for this text's walks alone
set_option linter.unusedVariables false
set_option linter.unusedSimpArgs false

/-! ### page_edit: function 0 -/
/-! #### cells found, put, taken -/
theorem CellsOk_iff {l : List S45} : CellsOk l ↔ (∀ c ∈ l, 1 ≤ c.f0 ∧ c.f0 ≤ 200 ∧ 0 < c.f1.size) ∧ l.Pairwise (fun a b => a.f0 < b.f0) := by
  induction l with
  | nil => exact ⟨fun _ => ⟨by simp, List.Pairwise.nil⟩, fun _ => trivial⟩
  | cons c r ih =>
    constructor
    · intro h
      exact ⟨h.each, List.pairwise_cons.2 ⟨h.lt, (ih.1 h.tail).2⟩⟩
    · intro h
      have h2 := List.pairwise_cons.1 h.2
      exact CellsOk.mk (h.1 c (by simp)) h2.1 (ih.2 ⟨fun x hx => h.1 x (by simp [hx]), h2.2⟩)
theorem idx_split {l : List S45} (hok : CellsOk l) (n : Int) :
    (∀ x ∈ l.take (idxS l n), x.f0 < n) ∧ (∀ x ∈ l.drop (idxS l n), n ≤ x.f0) ∧
      (foundS l n = true → ∃ c, l[idxS l n]? = some c ∧ c.f0 = n) ∧ (foundS l n = false → ∀ x ∈ l.drop (idxS l n), n < x.f0) := by
  have h1 : ∀ x ∈ l.drop (idxS l n), n ≤ x.f0 := by
    intro x hx
    obtain ⟨j, hj, rfl⟩ := List.getElem_of_mem hx
    rw [List.getElem_drop]
    rw [List.length_drop] at hj
    have := idxS_spec hok n (idxS l n + j) (by omega)
    omega
  refine ⟨fun x hx => ?_, h1, fun hf => ?_, fun hf x hx => ?_⟩
  · obtain ⟨j, hj, rfl⟩ := List.getElem_of_mem hx
    rw [List.getElem_take]
    rw [List.length_take] at hj
    exact (idxS_spec hok n j (by omega)).2 (by omega)
  · unfold foundS at hf
    split at hf
    · rename_i c hc; exact ⟨c, hc, of_decide_eq_true hf⟩
    · cases hf
  · obtain ⟨j, hj, rfl⟩ := List.getElem_of_mem hx
    rw [List.length_drop] at hj
    have hlt : idxS l n < l.length := by omega
    unfold foundS at hf
    rw [List.getElem?_eq_getElem hlt] at hf
    have h0 : ¬ l[idxS l n].f0 = n := of_decide_eq_false hf
    have h2 : ¬ l[idxS l n].f0 < n := fun h => absurd ((idxS_spec hok n _ hlt).1 h) (Nat.lt_irrefl _)
    rw [List.getElem_drop]
    cases j with
    | zero => simp only [Nat.add_zero]; omega
    | succ j =>
      have hp := (CellsOk_iff.1 hok).2
      have := List.pairwise_iff_getElem.1 hp (idxS l n) (idxS l n + (j + 1)) hlt (by omega) (by omega)
      omega
/-- The cells with one more. -/
def insS (l : List S45) (n : Int) (d : ByteArray) : List S45 := l.take (idxS l n) ++ ⟨n, d⟩ :: l.drop (idxS l n)
def delS (l : List S45) (n : Int) : List S45 := l.take (idxS l n) ++ l.drop (idxS l n + 1)
def repS (l : List S45) (n : Int) (d : ByteArray) : List S45 := l.take (idxS l n) ++ ⟨n, d⟩ :: l.drop (idxS l n + 1)
theorem mem_take_drop {α : Type} {l : List α} {i j : Nat} {x : α} (h : x ∈ l.take i ∨ x ∈ l.drop j) : x ∈ l := by
  rcases h with h | h
  · exact List.mem_of_mem_take h
  · exact List.mem_of_mem_drop h
theorem ok_three {a b : List S45} {c : S45} (ha : CellsOk a) (hb : CellsOk b) (hc : 1 ≤ c.f0 ∧ c.f0 ≤ 200 ∧ 0 < c.f1.size) (h1 : ∀ x ∈ a, x.f0 < c.f0) (h2 : ∀ x ∈ b, c.f0 < x.f0) : CellsOk (a ++ c :: b) := by
  rw [CellsOk_iff] at ha hb ⊢
  refine ⟨fun x hx => ?_, ?_⟩
  · rcases List.mem_append.1 hx with h | h
    · exact ha.1 x h
    · rcases List.mem_cons.1 h with rfl | h
      · exact hc
      · exact hb.1 x h
  · refine List.pairwise_append.2 ⟨ha.2, List.pairwise_cons.2 ⟨h2, hb.2⟩, fun x hx y hy => ?_⟩
    rcases List.mem_cons.1 hy with rfl | hy
    · exact h1 x hx
    · have := h1 x hx; have := h2 y hy; omega
theorem ok_sub {l a : List S45} (h : CellsOk l) (hs : a.Sublist l) : CellsOk a := by
  rw [CellsOk_iff] at h ⊢
  exact ⟨fun x hx => h.1 x (hs.subset hx), h.2.sublist hs⟩
theorem insS_ok {l : List S45} (h : CellsOk l) {n : Int} {d : ByteArray} (hn : 1 ≤ n ∧ n ≤ 200) (hd : 0 < d.size) (hf : foundS l n = false) : CellsOk (insS l n d) := by
  have hs := idx_split h n
  exact ok_three (ok_sub h (List.take_sublist _ _)) (ok_sub h (List.drop_sublist _ _)) ⟨hn.1, hn.2, hd⟩ hs.1 (hs.2.2.2 hf)
theorem drop_succ_lt {l : List S45} (h : CellsOk l) {n : Int} (hf : foundS l n = true) : ∀ x ∈ l.drop (idxS l n + 1), n < x.f0 := by
  obtain ⟨c, hc, hcn⟩ := (idx_split h n).2.2.1 hf
  obtain ⟨hlt, he⟩ := List.getElem?_eq_some_iff.1 hc
  intro x hx
  obtain ⟨j, hj, rfl⟩ := List.getElem_of_mem hx
  rw [List.length_drop] at hj
  rw [List.getElem_drop]
  have := List.pairwise_iff_getElem.1 (CellsOk_iff.1 h).2 (idxS l n) (idxS l n + 1 + j) hlt (by omega) (by omega)
  rw [he] at this
  omega
theorem repS_ok {l : List S45} (h : CellsOk l) {n : Int} {d : ByteArray} (hn : 1 ≤ n ∧ n ≤ 200) (hd : 0 < d.size) (hf : foundS l n = true) : CellsOk (repS l n d) :=
  ok_three (ok_sub h (List.take_sublist _ _)) (ok_sub h (List.drop_sublist _ _)) ⟨hn.1, hn.2, hd⟩ (idx_split h n).1 (drop_succ_lt h hf)
theorem delS_ok {l : List S45} (h : CellsOk l) (n : Int) : CellsOk (delS l n) := by
  unfold delS
  refine ok_sub h ?_
  have : (l.take (idxS l n) ++ l.drop (idxS l n + 1)).Sublist (l.take (idxS l n) ++ l.drop (idxS l n)) :=
    List.Sublist.append (List.Sublist.refl _) (by rw [← List.drop_drop]; exact List.drop_sublist _ _)
  rwa [List.take_append_drop] at this
theorem bytes_sub {a l : List S45} (hs : a.Sublist l) : bytesL a ≤ bytesL l := by
  induction hs with
  | slnil => exact Nat.le_refl _
  | cons x _ ih => rw [bytesL_cons]; omega
  | cons_cons x _ ih => rw [bytesL_cons, bytesL_cons]; omega
theorem insS_bytes (l : List S45) (n : Int) (d : ByteArray) : bytesL (insS l n d) = bytesL l + d.size := by
  have h := bytesL_append (l.take (idxS l n)) (l.drop (idxS l n))
  rw [List.take_append_drop] at h
  unfold insS
  rw [bytesL_append, bytesL_cons]
  show _ + (d.size + _) = _
  omega
theorem repS_bytes (l : List S45) (n : Int) (d : ByteArray) : bytesL (repS l n d) ≤ bytesL l + d.size := by
  have h := bytesL_append (l.take (idxS l n)) (l.drop (idxS l n))
  rw [List.take_append_drop] at h
  have h2 : bytesL (l.drop (idxS l n + 1)) ≤ bytesL (l.drop (idxS l n)) := bytes_sub (by rw [← List.drop_drop]; exact List.drop_sublist _ _)
  unfold repS
  rw [bytesL_append, bytesL_cons]
  show _ + (d.size + _) ≤ _
  omega
theorem delS_bytes (l : List S45) (n : Int) : bytesL (delS l n) ≤ bytesL l := by
  have h := bytesL_append (l.take (idxS l n)) (l.drop (idxS l n))
  rw [List.take_append_drop] at h
  have h2 : bytesL (l.drop (idxS l n + 1)) ≤ bytesL (l.drop (idxS l n)) := bytes_sub (by rw [← List.drop_drop]; exact List.drop_sublist _ _)
  unfold delS
  rw [bytesL_append]
  omega
/-- What page.filled answers. -/
def filledS (n : Int) (l : List S45) : ByteArray × Int := if needsL l > n then (⟨#[]⟩, 13) else (strOfNums (builtL n.toNat l), 0)
theorem filled_f {n : Int} {l : List S45} (h0 : 32 ≤ n) (h1 : n ≤ 4096) (h : CellsOk l) (hb : bytesL l ≤ 1000000000000) : page_filled.f n l = some (filledS n l) := by
  unfold page_filled.f filledS
  rw [if_pos ⟨h0, h1, h, hb⟩]
  split <;> rfl
/-- The cells of a page. -/
def cellsP (p : ByteArray) : List S45 := cellsS p (twoS p 0).toNat
theorem cellsP_ok {p : ByteArray} (hv : validS p) : CellsOk (cellsP p) ∧ (cellsP p).length ≤ 200 ∧ bytesL (cellsP p) ≤ p.size ∧ 32 ≤ p.size ∧ p.size ≤ 4096 := by
  obtain ⟨g1, g2, g3, g4⟩ := valid_reads p hv
  obtain ⟨q1, q2, q3, q4, q5, _⟩ := validS_spec p hv
  have hl := cellsS_length p (twoS p 0).toNat
  have h0 := lastL_nonneg g1
  refine ⟨g1, ?_, ?_, q1, q2⟩
  · unfold cellsP; omega
  · unfold needsL at g2; unfold cellsP; omega
theorem asked_f (p : ByteArray) (n : Int) (h : p.size ≤ 100000) : page_asked.f p n = some (if validS p then (if 1 ≤ n ∧ n ≤ 200 then 0 else 7) else 1) := by
  have hV : page_Valid.f p = some (decide (validS p)) := by
    unfold page_Valid.f page_Wrong.f
    rw [if_pos h, Option.bind_some]
    unfold validS
    by_cases hw : (wrongS p).2 = 0
    · first | rw [if_pos hw, decide_eq_true hw] | simp [hw]
    · first | rw [if_neg hw, decide_eq_false hw] | simp [hw]
  have hL : page_line.f n = some (decide (1 ≤ n ∧ n ≤ 200)) := by
    unfold page_line.f
    by_cases h1 : 1 ≤ n <;> by_cases h2 : n ≤ 200 <;> simp [h1, h2] <;> omega
  unfold page_asked.f
  rw [hV, Option.bind_some, hL, Option.bind_some]
  by_cases hv : validS p <;> by_cases hn : 1 ≤ n ∧ n ≤ 200 <;> simp [hv, hn]

end Go.Proofs.Ytemglmcddaeedaa.PA

namespace Go.Proofs.Ytemglmcddaeedaa.PA
open Go.RowKit Go.Proofs.YtemglmcddaeedaaW.PrintWords Go.Proofs.YtemglmcddaeedaaW.PrintLast Go.Proofs.YtemglmcddaeedaaW.PrintMore
attribute [local go_sem] max2_int min2_int max_two min_two max_three min_three max_four min_four   -- for this text's walks alone
set_option linter.unusedVariables false
set_option linter.unusedSimpArgs false

/-! ### page_Get: function 32 -/
def getS (p : ByteArray) (n : Int) : ByteArray × Int :=
  if validS p then (if 1 ≤ n ∧ n ≤ 200 then (if foundS (cellsP p) n then ((rd_T45 (cellsP p) (idxS (cellsP p) n)).f1, 0) else (⟨#[]⟩, 8)) else (⟨#[]⟩, 7)) else (⟨#[]⟩, 1)
def page_Get.f (a0 : ByteArray) (a1 : Int) : Option (ByteArray × Int) := if a0.size ≤ 100000 then some (getS a0 a1) else none
theorem cells_f {p : ByteArray} (hv : validS p) : page_cells.f p = some (cellsP p) := by unfold page_cells.f; rw [if_pos hv]; rfl
theorem found_lt {l : List S45} {n : Int} (h : foundS l n = true) : idxS l n < l.length := by
  unfold foundS at h
  split at h
  · rename_i c hc; exact (List.getElem?_eq_some_iff.1 hc).1
  · cases h
set_option maxHeartbeats 4000000 in
set_option maxRecDepth 100000 in
theorem page_Get.calls (a0 : ByteArray) (a1 : Int) (r1 : ByteArray) (r2 : Int) (w : World) (h : page_Get.f a0 a1 = some (r1, r2)) :
    Calls Try.prog 32 #[.string a0, .int .i64 a1] w fun e w' => e = .returned (.tuple #[.string r1, .int .i64 r2]) ∧ Below w.heap.size w w' := by
  unfold page_Get.f at h
  split at h
  rotate_left
  · cases h
  rename_i hs
  have HA := Aside0.mk (asked_f a0 a1 hs)
  have h := Option.some.inj h
  unfold getS at h
  by_cases hv : validS a0
  · rw [if_pos hv] at h
    rw [if_pos hv] at HA
    by_cases hn : 1 ≤ a1 ∧ a1 ≤ 200
    · rw [if_pos hn] at h
      rw [if_pos hn] at HA
      obtain ⟨k1, k2, k3, k4, k5⟩ := cellsP_ok hv
      have HK := Aside0.mk (And.intro k1 k2)
      have HCF := Aside0.mk (cells_f hv)
      have HFL := Aside0.mk (fun h => found_lt (l := cellsP a0) (n := a1) h)
      obtain ⟨l, hl⟩ : ∃ l, cellsP a0 = l := ⟨_, rfl⟩
      rw [hl] at h HK HCF HFL
      obtain ⟨ix, hix⟩ : ∃ ix, idxS l a1 = ix := ⟨_, rfl⟩
      rw [hix] at h HFL
      have HIX := Aside0.mk hix
      clear k1 k2 k3 hl hix
      by_cases hf : foundS l a1 = true
      · rw [if_pos hf] at h
        obtain ⟨rfl, rfl⟩ := Prod.mk.inj h
        clear h
        have hlt := HFL.out hf
        have HF := Aside0.mk hf
        clear hf
        go_enter Try.func32, Try.ntmps32
        go_wp2_with (go_at_call 65; refine (page_asked.calls a0 a1 0 _ HA.out).mono ?_; rintro e w1 ⟨rfl, hb1⟩)
        go_wp2_with (go_at_call 49; refine (page_cells.calls a0 l _ HCF.out).mono ?_; rintro e w2 ⟨v, rfl, hR, hb2⟩)
        have HB := Aside0.mk (below_then hb1 hb1.size hb2)
        obtain ⟨A, c, rfl, hc, hC⟩ := Kd.R_reads hR
        obtain ⟨ad, e1, hx0, hx1⟩ := at_T45 hC (ix : Int) (by omega) (by omega)
        cases e1
        simp only [Int.toNat_natCast] at hx0 hx1
        obtain ⟨X, hX⟩ : ∃ X, rd_T45 l (ix : Int) = X := ⟨_, rfl⟩
        rw [hX] at hx0 hx1
        have HX := Aside0.mk hX
        have hll := HK.out.2
        clear hR hX hb1 hb2
        go_wp2_with (go_at_call 66; refine (find_calls l (some ad) c a1 _ HK.out.1 (by omega) (by omega) hC).mono ?_; rw [HF.out, HIX.out]; rintro e w3 ⟨rfl, hb3⟩; have hy1 := (hb3.cell (World.block_lt_of_cell? w2 _ hx1)).trans hx1; have HB3 := Aside0.mk hb3; clear hb3)
        go_ret2
        rw [HX.out]
        exact ⟨rfl, below_then HB.out HB.out.size HB3.out⟩
      · have hf0 := Bool.eq_false_iff.2 hf
        rw [hf0, if_neg (by decide)] at h
        obtain ⟨rfl, rfl⟩ := Prod.mk.inj h
        clear h hf
        have HF := Aside0.mk hf0
        clear hf0
        go_enter Try.func32, Try.ntmps32
        go_wp2_with (go_at_call 65; refine (page_asked.calls a0 a1 0 _ HA.out).mono ?_; rintro e w1 ⟨rfl, hb1⟩)
        go_wp2_with (go_at_call 49; refine (page_cells.calls a0 l _ HCF.out).mono ?_; rintro e w2 ⟨v, rfl, hR, hb2⟩)
        have HB := Aside0.mk (below_then hb1 hb1.size hb2)
        obtain ⟨A, c, rfl, hc, hC⟩ := Kd.R_reads hR
        have hll := HK.out.2
        clear hR hb1 hb2
        go_wp2_with (go_at_call 66; refine (find_calls l A c a1 _ HK.out.1 (by omega) (by omega) hC).mono ?_; rw [HF.out, HIX.out]; rintro e w3 ⟨rfl, hb3⟩; have HB3 := Aside0.mk hb3; clear hb3)
        go_ret2
        exact ⟨rfl, below_then HB.out HB.out.size HB3.out⟩
    · rw [if_neg hn] at h
      rw [if_neg hn] at HA
      obtain ⟨rfl, rfl⟩ := Prod.mk.inj h
      clear h hn hv
      go_enter Try.func32, Try.ntmps32
      go_wp2_with (go_at_call 65; refine (page_asked.calls a0 a1 7 _ HA.out).mono ?_; rintro e w1 ⟨rfl, hb1⟩)
      go_ret2
      exact ⟨rfl, hb1⟩
  · rw [if_neg hv] at h
    rw [if_neg hv] at HA
    obtain ⟨rfl, rfl⟩ := Prod.mk.inj h
    clear h hv
    go_enter Try.func32, Try.ntmps32
    go_wp2_with (go_at_call 65; refine (page_asked.calls a0 a1 1 _ HA.out).mono ?_; rintro e w1 ⟨rfl, hb1⟩)
    go_ret2
    exact ⟨rfl, hb1⟩

end Go.Proofs.Ytemglmcddaeedaa.PA

namespace Go.Proofs.Ytemglmcddaeedaa.PA
open Go.RowKit Go.Proofs.YtemglmcddaeedaaW.PrintWords Go.Proofs.YtemglmcddaeedaaW.PrintLast Go.Proofs.YtemglmcddaeedaaW.PrintMore
attribute [local go_sem] max2_int min2_int max_two min_two max_three min_three max_four min_four   -- for this text's walks alone
set_option linter.unusedVariables false
set_option linter.unusedSimpArgs false

/-! ### rowk: function 0 -/
/-! #### rows of elements of several plain cells, known whole -/
section
variable {α : Type} {enc : α → List Value} {k : Nat}
def encs_ (enc : α → List Value) (l : List α) : List Value := l.flatMap enc
theorem encs_nil : encs_ enc [] = [] := rfl
theorem encs_cons (x : α) (l : List α) : encs_ enc (x :: l) = enc x ++ encs_ enc l := by simp [encs_]
theorem encs_one (x : α) : encs_ enc [x] = enc x := by simp [encs_]
theorem encs_app (a b : List α) : encs_ enc (a ++ b) = encs_ enc a ++ encs_ enc b := by simp [encs_]
theorem encs_len (hk : ∀ x, (enc x).length = k) (l : List α) : (encs_ enc l).length = l.length * k := by
  induction l with
  | nil => simp [encs_]
  | cons x l ih => rw [encs_cons, List.length_append, hk, ih, List.length_cons, Nat.add_mul, Nat.one_mul, Nat.add_comm]
theorem encs_oneCell (h1 : ∀ x, ∀ v ∈ enc x, v.oneCell' = true) (l : List α) : ∀ v ∈ encs_ enc l, v.oneCell' = true := by
  intro v hv
  obtain ⟨x, _, hx⟩ := List.mem_flatMap.1 hv
  exact h1 x v hx
theorem encs_take (hk : ∀ x, (enc x).length = k) (l : List α) (i : Nat) (hi : i ≤ l.length) : (encs_ enc l).take (i * k) = encs_ enc (l.take i) := by
  have h : encs_ enc l = encs_ enc (l.take i) ++ encs_ enc (l.drop i) := by rw [← encs_app, List.take_append_drop]
  have hl : (encs_ enc (l.take i)).length = i * k := by rw [encs_len hk, List.length_take, Nat.min_eq_left hi]
  rw [h, ← hl, List.take_left]
theorem encs_drop (hk : ∀ x, (enc x).length = k) (l : List α) (i : Nat) (hi : i ≤ l.length) : (encs_ enc l).drop (i * k) = encs_ enc (l.drop i) := by
  have h : encs_ enc l = encs_ enc (l.take i) ++ encs_ enc (l.drop i) := by rw [← encs_app, List.take_append_drop]
  have hl : (encs_ enc (l.take i)).length = i * k := by rw [encs_len hk, List.length_take, Nat.min_eq_left hi]
  rw [h, ← hl, List.drop_left]
theorem encs_get (hk : ∀ x, (enc x).length = k) (l : List α) (i j : Nat) (hi : i < l.length) (hj : j < k) : (encs_ enc l)[i * k + j]? = (enc l[i])[j]? := by
  have h : encs_ enc l = encs_ enc (l.take i) ++ (enc l[i] ++ encs_ enc (l.drop (i + 1))) := by
    rw [← encs_cons, ← encs_app]; congr 1
    rw [← List.drop_eq_getElem_cons hi, List.take_append_drop]
  have hl : (encs_ enc (l.take i)).length = i * k := by rw [encs_len hk, List.length_take, Nat.min_eq_left (by omega)]
  rw [h, List.getElem?_append_right (by omega), hl, Nat.add_sub_cancel_left, List.getElem?_append_left (by rw [hk]; exact hj)]
/-- A row of one's own (from base on), known whole. -/
def RowK (enc : α → List Value) (k : Nat) (e : TypeId) (w : World) (base : Nat) (v : Value) (l : List α) : Prop :=
  (v = .slice none 0 0 ∧ l = []) ∨ ∃ g cap sp, v = .slice (some ⟨g, 0, none⟩) l.length cap ∧ base ≤ g ∧ l.length ≤ cap ∧ cap ≤ maxLen ∧ sp.length = (cap - l.length) * k ∧ w.heap[g]? = some (.cells (encs_ enc l ++ sp).toArray e (0, 0))
theorem RowK.owns (hk : ∀ x, (enc x).length = k) {e : TypeId} {w : World} {base : Nat} {v : Value} {l : List α} (h : RowK enc k e w base v l) : w.ownsRow base e k v l.length (encs_ enc l) := by
  refine ⟨encs_len hk l, ?_⟩
  rcases h with ⟨rfl, rfl⟩ | ⟨g, cap, sp, rfl, hb, hn, hm, hs, hg⟩
  · exact .inl ⟨rfl, rfl⟩
  · refine .inr ⟨g, cap, _, rfl, hb, hg, hn, hm, ?_, ?_⟩
    · simp only [List.size_toArray, List.length_append, encs_len hk, hs]
      rw [← Nat.add_mul]; congr 1; omega
    · rw [← encs_len hk]; simp
theorem RowK.of_owns (hk : ∀ x, (enc x).length = k) {e : TypeId} {w : World} {base : Nat} {v : Value} {l : List α} (h : w.ownsRow base e k v l.length (encs_ enc l)) : RowK enc k e w base v l := by
  rcases h.2 with ⟨rfl, h0⟩ | ⟨g, cap, cur, rfl, hb, hg, hn, hm, hs, ht⟩
  · exact .inl ⟨rfl, List.eq_nil_of_length_eq_zero h0⟩
  · refine .inr ⟨g, cap, cur.toList.drop (l.length * k), rfl, hb, hn, hm, ?_, ?_⟩
    · rw [List.length_drop, Array.length_toList, hs, Nat.sub_mul]
    · rw [← ht, List.take_append_drop]; exact hg
theorem RowK.below {e : TypeId} {w w1 : World} {base : Nat} {v : Value} {l : List α} (h : RowK enc k e w base v l) (hb : Below w.heap.size w w1) : RowK enc k e w1 base v l := by
  rcases h with h | ⟨g, cap, sp, rfl, h1, hn, hm, hs, hg⟩
  · exact .inl h
  · exact .inr ⟨g, cap, sp, rfl, h1, hn, hm, hs, (hb.block g (blk_lt hg)).trans hg⟩
theorem RowK.nil (e : TypeId) (w : World) (base : Nat) : RowK enc k e w base (.slice none 0 0) [] := .inl ⟨rfl, rfl⟩
end
section
variable {P : Program}
/-- copy onto a row known whole, elements of several cells. -/
theorem run_copy_rowK (w : World) (dT sT ty elem : TypeId) (g o dLen dCap : Nat) (a : Addr) (sLen sCap size : Nat) (cur : Array Value) (t : TypeId) (cs : List Value)
    (hu : P.underlying dT = some (.slice elem)) (hs : (P.info? elem).map (·.size) = some size)
    (hg : w.heap[g]? = some (.cells cur t (0, 0))) (hn : cs.length = Nat.min sLen dLen * size)
    (hsrc : ∀ j v, cs[j]? = some v → w.cell? (a.add j) = some v) (hfit : o + cs.length ≤ cur.size) (h1 : ∀ v ∈ cs, v.oneCell' = true) :
    (Builtin.copy_ #[dT, sT] ty #[.slice (some ⟨g, o, none⟩) dLen dCap, .slice (some a) sLen sCap]).run P w =
      .ok (goInt (Nat.min sLen dLen)) (w.setRow g (splice cur.toList o cs).toArray) := by
  have hl := run_loadCells_list (P := P) w a cs hsrc
  have hst := run_storeCells_at P g o t cs 0 cur w hg (by simpa using hfit) h1
  cases hq : P.info? elem with
  | none => simp [hq] at hs
  | some i =>
    have hi : i.size = size := by simpa [hq] using hs
    rw [hn] at hl
    simp only [Nat.add_zero] at hst
    simp [Builtin.copy_, run_underlying hu, Builtin.lenOf, Builtin.firstCells, sizeOf, typeInfo, hq, hi, hl, hst, splice]
theorem run_append_roomK (w : World) (t ty e : TypeId) (size : Nat) (ht : P.underlying t = some (.slice e)) (hs : (P.info? e).map (·.size) = some size)
    (g sLen sCap : Nat) (a : Addr) (m c : Nat) (cur : Array Value) (tt : TypeId) (hg : w.heap[g]? = some (.cells cur tt (0, 0))) (news : List Value) (hl : news.length = m * size) (hnews : ∀ j u, news[j]? = some u → w.cell? (a.add j) = some u) (h1 : ∀ u ∈ news, u.oneCell' = true)
    (hroom : sLen + m ≤ sCap) (hfit : sLen * size + news.length ≤ cur.size) :
    (Builtin.append_ #[t, t] ty #[.slice (some ⟨g, 0, none⟩) sLen sCap, .slice (some a) m c]).run P w = .ok (.slice (some ⟨g, 0, none⟩) (sLen + m) sCap) (w.setRow g (splice cur.toList (sLen * size) news).toArray) := by
  cases hq : P.info? e with
  | none => simp [hq] at hs
  | some i =>
    have hi : i.size = size := by simpa [hq] using hs
    subst hi
    have hfc := run_firstCells_some (P := P) w i.size m a m c news hl hnews
    have hst := run_storeCells_at P g (sLen * i.size) tt news 0 cur w hg (by simpa using hfit) h1
    simp only [Nat.add_zero] at hst
    simp [Builtin.append_, run_underlying ht, sizeOf, typeInfo, hq, Builtin.lenOf, hroom, hfc, hst, splice, add_plain]
/-- copy where its run is known by an equation. -/
theorem wp_copy_runE (w : World) {o : Oper} {a : Act} {K : Act → World → Prop} {Q : Exit → Act → World → Prop} (d s : Operand) (t t' : TypeId)
    (ho : o.op = .call { callee := .builtin .copy, args := #[d, s], argTypes := #[t, t'] }) (v u : Value) (hd : a.eval d = v) (hs : a.eval s = u) {v' : Value} {w' : World}
    (hr : (Builtin.copy_ #[t, t'] o.type #[v, u]).run P w = .ok v' w') (h : K (a.put o.dst v') w') : o.wp P a w K Q := by
  unfold Oper.wp execOp
  simp only [ho, resolve, invoke, builtin, Sem.run_bind, Sem.run_pure, Result.andThen_ok, List.map_toArray, List.map_cons, List.map_nil, hd, hs, hr]
  exact h
theorem wpList_copy_runE (w : World) {ops : Array Oper} {rest : List Oper} {o : Oper} {a : Act} {Q : Exit → Act → World → Prop} (hgd : o.guard = none) (d s : Operand) (t t' : TypeId)
    (ho : o.op = .call { callee := .builtin .copy, args := #[d, s], argTypes := #[t, t'] }) (v u : Value) (hd : a.eval d = v) (hs : a.eval s = u) {v' : Value} {w' : World}
    (hr : (Builtin.copy_ #[t, t'] o.type #[v, u]).run P w = .ok v' w') (h : wpList P ops Q rest (a.put o.dst v') w') : wpList P ops Q (o :: rest) a w :=
  wpList_plain hgd fun _ hK => wp_copy_runE w d s t t' ho v u hd hs hr (hK _ _ h)
theorem step_copy_runE {ops : Array Oper} {o : Oper} {a : Act} {w : World} {K : Act → World → Prop} {Q : Exit → Act → World → Prop} {E : Prop}
    (hg : o.guard = none) (d x : Operand) (dT sT : TypeId) (hop : o.op = Op.call { callee := Callee.builtin Builtin.copy, args := #[d, x], argTypes := #[dT, sT] })
    (v u : Value) (hd : a.eval d = v) (hx : a.eval x = u) {v' : Value} {w' : World} (hr : (Builtin.copy_ #[dT, sT] o.type #[v, u]).run P w = .ok v' w') (hK : K (a.put o.dst v') w') :
    if Region.wanted o (yielded ops a.tmps) = true then Oper.wp P o a w K Q else E := by
  have hw : Region.wanted o (yielded ops a.tmps) = true := by simp [Region.wanted, hg]
  rw [if_pos hw]
  exact wp_copy_runE w d x dT sT hop v u hd hx hr hK
theorem step_append_runE {ops : Array Oper} {o : Oper} {a : Act} {w : World} {K : Act → World → Prop} {Q : Exit → Act → World → Prop} {E : Prop}
    (hg : o.guard = none) (d x : Operand) (dT sT : TypeId) (hop : o.op = Op.call { callee := Callee.builtin Builtin.append, args := #[d, x], argTypes := #[dT, sT] })
    (v u : Value) (hd : a.eval d = v) (hx : a.eval x = u) {v' : Value} {w' : World} (hr : (Builtin.append_ #[dT, sT] o.type #[v, u]).run P w = .ok v' w') (hK : K (a.put o.dst v') w') :
    if Region.wanted o (yielded ops a.tmps) = true then Oper.wp P o a w K Q else E := by
  have hw : Region.wanted o (yielded ops a.tmps) = true := by simp [Region.wanted, hg]
  rw [if_pos hw]
  unfold Oper.wp execOp
  simp only [hop, resolve, invoke, builtin, Sem.run_bind, Sem.run_pure, Result.andThen_ok, List.map_toArray, List.map_cons, List.map_nil, hd, hx, hr]
  exact hK
theorem wpList_append_runE (w : World) {ops : Array Oper} {rest : List Oper} {o : Oper} {a : Act} {Q : Exit → Act → World → Prop} (hgd : o.guard = none) (d s : Operand) (t t' : TypeId)
    (ho : o.op = .call { callee := .builtin .append, args := #[d, s], argTypes := #[t, t'] }) (v u : Value) (hd : a.eval d = v) (hs : a.eval s = u) {v' : Value} {w' : World}
    (hr : (Builtin.append_ #[t, t'] o.type #[v, u]).run P w = .ok v' w') (h : wpList P ops Q rest (a.put o.dst v') w') : wpList P ops Q (o :: rest) a w :=
  wpList_plain hgd fun _ hK => by
    unfold Oper.wp execOp
    simp only [ho, resolve, invoke, builtin, Sem.run_bind, Sem.run_pure, Result.andThen_ok, List.map_toArray, List.map_cons, List.map_nil, hd, hs, hr]
    exact hK _ _ h
theorem wpList_clear_runE (w : World) {ops : Array Oper} {rest : List Oper} {o : Oper} {a : Act} {Q : Exit → Act → World → Prop} (hgd : o.guard = none) (d : Operand) (t : TypeId)
    (ho : o.op = .call { callee := .builtin .clear, args := #[d], argTypes := #[t] }) (v : Value) (hd : a.eval d = v) {v' : Value} {w' : World}
    (hr : (Builtin.clear_ #[t] o.type #[v]).run P w = .ok v' w') (h : wpList P ops Q rest (a.put o.dst v') w') : wpList P ops Q (o :: rest) a w :=
  wpList_plain hgd fun _ hK => by
    unfold Oper.wp execOp
    simp only [ho, resolve, invoke, builtin, Sem.run_bind, Sem.run_pure, Result.andThen_ok, List.map_toArray, List.map_cons, List.map_nil, hd, hr]
    exact hK _ _ h
end
theorem splice_ins {β : Type} (T D s S c : List β) (k t : Nat) (hT : T.length = t) (hs : s.length = k) (hc : c.length = k) : splice (splice (T ++ D ++ (s ++ S)) (t + k) D) t c = T ++ (c ++ (D ++ S)) := by
  have hL : (T ++ D ++ (s ++ S)).length = t + D.length + (k + S.length) := by simp only [List.length_append]; omega
  have e1 : (T ++ D ++ (s ++ S)).drop (t + k + D.length) = S := by
    rw [show T ++ D ++ (s ++ S) = (T ++ D ++ s) ++ S by simp, List.drop_left' (by simp only [List.length_append]; omega)]
  have e2 : (T ++ D ++ (s ++ S)).take t = T := by rw [List.append_assoc, List.take_left' hT]
  have hY : ((T ++ D ++ (s ++ S)).take (t + k)).length = t + k := by rw [List.length_take]; omega
  have e3 : ((T ++ D ++ (s ++ S)).take (t + k)).take t = T := by rw [List.take_take, Nat.min_eq_left (by omega), e2]
  unfold splice
  rw [e1, List.take_append_of_le_length (by omega), e3, hc, List.drop_left' hY]
theorem grown_drew (w : World) (row : Option Nat) : w.grownBy w.drew row := ⟨rfl, rfl, rfl, Nat.le_refl _, fun _ _ _ => rfl⟩
theorem splice_two {β : Type} (T Z c D : List β) (k t : Nat) (hT : T.length = t) (hc : c.length = k) : splice (splice (T ++ Z) t c) (t + k) D = T ++ (c ++ (D ++ Z.drop (k + D.length))) := by
  have e1 : splice (T ++ Z) t c = (T ++ c) ++ Z.drop k := by
    unfold splice
    rw [List.take_left' hT, hc, ← hT, List.drop_append, List.drop_of_length_le (by omega), show T.length + k - T.length = k by omega]
    simp
  have h2 : (T ++ c).length = t + k := by simp only [List.length_append]; omega
  rw [e1]
  unfold splice
  rw [List.take_left' h2, ← h2, List.drop_append, List.drop_of_length_le (by omega), show (T ++ c).length + D.length - (T ++ c).length = D.length by omega, List.drop_drop]
  simp

end Go.Proofs.Ytemglmcddaeedaa.PA

namespace Go.Proofs.Ytemglmcddaeedaa.PA
open Go.RowKit Go.Proofs.YtemglmcddaeedaaW.PrintWords Go.Proofs.YtemglmcddaeedaaW.PrintLast Go.Proofs.YtemglmcddaeedaaW.PrintMore
attribute [local go_sem] max2_int min2_int max_two min_two max_three min_three max_four min_four   -- for this text's walks alone
set_option linter.unusedVariables false
set_option linter.unusedSimpArgs false

/-! ### page_insert: function 0 -/
def cv (c : S45) : List Value := [.int .i64 c.f0, .string c.f1]
theorem cv_len (x : S45) : (cv x).length = 2 := rfl
theorem cv_one (x : S45) : ∀ v ∈ cv x, v.oneCell' = true := by
  intro v hv
  simp only [cv, List.mem_cons, List.not_mem_nil, or_false] at hv
  rcases hv with rfl | rfl <;> rfl
/-- s[a:b] of a row at any place, elements of two cells, in the spelling of the walk. -/
theorem ins_copy (w : World) (ty : TypeId) (g o dLen dCap o2 g2 sLen sCap : Nat) (cur : Array Value) (cs : List Value) (hg : w.heap[g]? = some (.cells cur 45 (0, 0))) (hn : cs.length = Nat.min sLen dLen * 2)
    (hsrc : ∀ j v, cs[j]? = some v → w.cell? ⟨g2, o2 + j, none⟩ = some v) (hfit : o + cs.length ≤ cur.size) (h1 : ∀ v ∈ cs, v.oneCell' = true) :
    (Builtin.copy_ #[22, 22] ty #[.slice (some ⟨g, o, none⟩) dLen dCap, .slice (some ⟨g2, o2, none⟩) sLen sCap]).run Try.prog w =
      .ok (goInt (Nat.min sLen dLen)) (w.setRow g (splice cur.toList o cs).toArray) :=
  run_copy_rowK w _ _ ty 45 g o dLen dCap ⟨g2, o2, none⟩ sLen sCap 2 cur 45 cs Try.underlying22 (by kernel_rfl) hg hn (fun j v hj => by rw [Addr.add_lit]; exact hsrc j v hj) hfit h1
set_option maxHeartbeats 4000000 in
set_option maxRecDepth 100000 in
theorem insert_room (l : List S45) (i : Nat) (hi : i < l.length) (x : S45) (w : World) (g cap vb : Nat) (sp : List Value) (hcap : l.length + 1 ≤ cap) (hm : cap ≤ maxLen) (hsp : sp.length = (cap - l.length) * 2)
    (hg : w.heap[g]? = some (.cells (encs_ cv l ++ sp).toArray 45 (0, 0))) (hvb : w.heap[vb]? = some (.cells (cv x).toArray 45 (0, 0))) (hne : vb ≠ g) :
    Calls Try.prog 72 #[.slice (some ⟨g, 0, none⟩) l.length cap, .int .i64 (i : Int), .slice (some ⟨vb, 0, none⟩) 1 1] w fun e w' =>
      e = .returned (.slice (some ⟨g, 0, none⟩) (l.length + 1) cap) ∧ w'.heap[g]? = some (.cells (encs_ cv (l.take i ++ x :: l.drop i) ++ sp.drop 2).toArray 45 (0, 0)) ∧ w.grownBy w' (some g) := by
  have hov : ∀ (W : World) n m c, W.heap[g]? = some (.cells (encs_ cv l ++ sp).toArray 45 (0, 0)) → W.heap[vb]? = some (.cells (cv x).toArray 45 (0, 0)) → (callFunc 112 #[.slice (some ⟨vb, 0, none⟩) 1 1, .slice (some ⟨g, n, none⟩) m c]).run Try.prog W = .ok (.value (.bool false)) W := by
    intro W n m c h1 h2
    rw [run_callFunc_extern Try.func112 (by kernel_rfl) (by kernel_rfl) (by kernel_rfl) (e := Extern.SlicesOverlaps.overlaps #[22, 22] #[4]) (by kernel_rfl),
      Lib.run_overlaps_apart W 22 4 45 Try.underlying22 2 (fun W => by kernel_rfl) ⟨vb, 0, none⟩ ⟨g, n, none⟩ 1 1 m c hne 45 45 2 ((encs_ cv l ++ sp).length) (by simp [World.shape?, h2, cv]) (by simp [World.shape?, h1]) (by rw [List.length_append, encs_len cv_len]; omega) (blk_frozen h2 0) (blk_frozen h2 2)]
    rfl
  obtain ⟨n, hn⟩ : ∃ n, l.length = n := ⟨_, rfl⟩
  unfold maxLen at hm
  have hcl : (encs_ cv (l.drop i)).length = (n - i) * 2 := by rw [encs_len cv_len, List.length_drop, hn]
  have hcs := encs_drop (enc := cv) cv_len l i (by omega)
  have hct := encs_take (enc := cv) cv_len l i (by omega)
  have hll : (encs_ cv l).length = n * 2 := by rw [encs_len cv_len, hn]
  rw [hn] at hcap hi hsp ⊢
  obtain ⟨R1, hR1⟩ : ∃ R1 : List Value, splice (encs_ cv l ++ sp) ((i + 1) * 2) (encs_ cv (l.drop i)) = R1 := ⟨_, rfl⟩
  obtain ⟨W1, hW1⟩ : ∃ W1, w.drew.setRow g R1.toArray = W1 := ⟨_, rfl⟩
  have hG1 : W1.heap[g]? = some (.cells R1.toArray 45 (0, 0)) := by rw [← hW1]; exact setRow_heap w.drew g _ _ _ _ (blk_drew hg)
  have hV1 : W1.heap[vb]? = some (.cells (cv x).toArray 45 (0, 0)) := by rw [← hW1, setRow_other w.drew g vb _ hne]; exact hvb
  have hRl : R1.length = cap * 2 := by
    rw [← hR1]
    simp only [splice, List.length_append, List.length_take, List.length_drop, hcl, hll, hsp]
    omega
  have hcp1 : ∀ ty dc sc, (Builtin.copy_ #[22, 22] ty #[.slice (some ⟨g, (i + 1) * 2, none⟩) (n - i) dc, .slice (some ⟨g, i * 2, none⟩) (n + 1 - i) sc]).run Try.prog w.drew = .ok (goInt (Nat.min (n + 1 - i) (n - i))) W1 := fun ty dc sc => by
    rw [← hW1, ← hR1]
    exact ins_copy w.drew ty g _ _ dc (i * 2) g _ sc _ (encs_ cv (l.drop i)) (blk_drew hg) (by rw [hcl]; congr 1; simp only [Nat.min_def]; split <;> omega)
      (fun j v hj => by
        rw [blk_cell (blk_drew hg)]
        rw [← hcs, List.getElem?_drop] at hj
        simp only [List.getElem?_toArray]
        rw [List.getElem?_append_left (List.getElem?_eq_some_iff.1 hj).1]
        exact hj) (by simp only [List.size_toArray, List.length_append, hcl, hll, hsp]; omega) (encs_oneCell cv_one _)
  obtain ⟨R2, hR2⟩ : ∃ R2 : List Value, splice R1 (i * 2) (cv x) = R2 := ⟨_, rfl⟩
  have hcp2 : ∀ ty dc, (Builtin.copy_ #[22, 22] ty #[.slice (some ⟨g, i * 2, none⟩) (n + 1 - i) dc, .slice (some ⟨vb, 0, none⟩) 1 1]).run Try.prog W1 = .ok (goInt (Nat.min 1 (n + 1 - i))) (W1.setRow g R2.toArray) := fun ty dc => by
    rw [← hR2]
    exact ins_copy W1 ty g _ _ dc 0 vb _ 1 _ (cv x) hG1 (by rw [cv_len]; simp only [Nat.min_def]; split <;> omega)
      (fun j v hj => by
        rw [blk_cell hV1]
        simpa using hj) (by simp only [List.size_toArray, hRl, cv_len]; omega) (cv_one _)
  have hfin : R2 = encs_ cv (l.take i ++ x :: l.drop i) ++ sp.drop 2 := by
    rw [← hR2, ← hR1, encs_app, encs_cons, ← hct, ← hcs]
    have h2 : (sp.take 2).length = 2 := by rw [List.length_take]; omega
    have hT : ((encs_ cv l).take (i * 2)).length = i * 2 := by rw [List.length_take]; omega
    have e := splice_ins ((encs_ cv l).take (i * 2)) ((encs_ cv l).drop (i * 2)) (sp.take 2) (sp.drop 2) (cv x) 2 (i * 2) hT h2 (cv_len x)
    rw [List.take_append_drop, List.take_append_drop, show i * 2 + 2 = (i + 1) * 2 by omega] at e
    rw [e]
    simp
  have hz1 : ¬ ((1 : Int) = 0) := by omega
  have hz2 : ¬ ((i : Int) = (n : Int)) := by omega
  have hin : i ≤ n := by omega
  have hw1 : IntKind.i64.wrap ((i : Int) + 1) = (i : Int) + 1 := by rw [IntKind.wrap_i64]; omega
  have hb1 : (0 : Int) ≤ (i : Int) + 1 := by omega
  have htn : ((i : Int) + 1).toNat = i + 1 := by omega
  have hb2 : ¬ (cap = i + 1) := by omega
  have hb3 : (i : Int) ≤ (n : Int) + 1 := by omega
  have hb4 : ¬ (cap = i) := by omega
  have HG := Aside0.mk hg
  have HV := Aside0.mk hvb
  have HN := Aside0.mk hn
  have HX := Aside0.mk (And.intro hW1 (And.intro hG1 hfin))
  clear hg hvb hn hcl hcs hct hll hsp hW1 hG1 hV1 hRl hfin hR1 hR2
  go_enter Try.func72, Try.ntmps72
  go_wp2_with (simp only [hov _ _ _ _ HG.out HV.out])
  go_region_law (refine step_copy_runE rfl _ _ 22 22 rfl _ _ (by simp [Act.eval, Act.put]) (by simp [Act.eval, Act.put]) (hcp1 _ _ _) ?_)
  go_wp2_with (at_builtin; refine wpList_copy_runE _ rfl _ _ 22 22 rfl _ _ rfl rfl (hcp2 _ _) ?_)
  go_ret
  refine ⟨rfl, ?_, ?_⟩
  · rw [← HX.out.2.2]; exact setRow_heap W1 g _ _ _ _ HX.out.2.1
  · rw [← HX.out.1]; exact (grown_drew w _).trans ((grown_setRow _ _ _).trans (grown_setRow _ _ _))
set_option maxHeartbeats 4000000 in
set_option maxRecDepth 100000 in
theorem insert_grow (l : List S45) (i : Nat) (hi : i < l.length) (x : S45) (w : World) (g cap vb : Nat) (sp : List Value) (hcap : l.length ≤ cap) (hcap2 : cap < l.length + 1) (hm : cap ≤ 1000000) (hsp : sp.length = (cap - l.length) * 2)
    (hg : w.heap[g]? = some (.cells (encs_ cv l ++ sp).toArray 45 (0, 0))) (hvb : w.heap[vb]? = some (.cells (cv x).toArray 45 (0, 0))) :
    Calls Try.prog 72 #[.slice (some ⟨g, 0, none⟩) l.length cap, .int .i64 (i : Int), .slice (some ⟨vb, 0, none⟩) 1 1] w fun e w' =>
      ∃ G SP, e = .returned (.slice (some ⟨w.heap.size, 0, none⟩) (l.length + 1) G) ∧ l.length + 1 ≤ G ∧ G ≤ maxLen ∧ SP.length = (G - (l.length + 1)) * 2 ∧ w'.heap[w.heap.size]? = some (.cells (encs_ cv (l.take i ++ x :: l.drop i) ++ SP).toArray 45 (0, 0)) ∧ Below w.heap.size w w' := by
  obtain ⟨n, hn⟩ : ∃ n, l.length = n := ⟨_, rfl⟩
  have hcl : (encs_ cv (l.drop i)).length = (n - i) * 2 := by rw [encs_len cv_len, List.length_drop, hn]
  have hcs := encs_drop (enc := cv) cv_len l i (by omega)
  have hct := encs_take (enc := cv) cv_len l i (by omega)
  have hll : (encs_ cv l).length = n * 2 := by rw [encs_len cv_len, hn]
  rw [hn] at hcap hcap2 hi hsp ⊢
  obtain ⟨i0, hi0, hz0, hzs, hzb⟩ := info_parts (show (Try.prog.info? 45).map (fun i => (i.zero, i.size, i.bytes)) = some (some (.agg #[.int .i64 0, .string ⟨#[]⟩]), 2, 24) by kernel_rfl)
  have hkk : (n : Int) + 1 - (i : Int) = ((n + 1 - i : Nat) : Int) := by omega
  have hik : i + (n + 1 - i) = n + 1 := by omega
  have hold : (Builtin.firstCells i0.size i (.slice (some ⟨g, 0, none⟩) i cap)).run Try.prog w.drew = .ok (encs_ cv (l.take i)).toArray w.drew := by
    rw [hzs]
    exact run_firstCells_some w.drew 2 i ⟨g, 0, none⟩ i cap (encs_ cv (l.take i)) (by rw [encs_len cv_len, List.length_take]; omega) (fun j v hj => by
      rw [add_plain, blk_cell (blk_drew hg)]
      rw [← hct, List.getElem?_take] at hj
      split at hj
      · simp only [List.getElem?_toArray]
        rw [List.getElem?_append_left (List.getElem?_eq_some_iff.1 hj).1]
        exact hj
      · cases hj)
  obtain ⟨G, hG⟩ : ∃ G, G = grownCap w (n + 1) cap 45 := ⟨_, rfl⟩
  obtain ⟨ROW, hROW⟩ : ∃ ROW : Array Value, ROW = (encs_ cv (l.take i)).toArray ++ Builtin.zeroCells (Value.agg #[.int .i64 0, .string ⟨#[]⟩]).cells (n + 1 - i) ++ Builtin.zeroCells (Value.agg #[.int .i64 0, .string ⟨#[]⟩]).cells (G - (n + 1)) := ⟨_, rfl⟩
  have hrz : ∀ ty, (Builtin.append_ #[22, 3] ty #[.slice (some ⟨g, 0, none⟩) i cap, .int .i64 ((n : Int) + 1 - (i : Int))]).run Try.prog w =
      .ok (.slice (some ⟨w.heap.size, 0, none⟩) (n + 1) G) (w.drew.alloc (.cells ROW 45)) := fun ty => by
    have h := Lib.run_append_grow_zeros w 22 3 ty 45 i0 _ .i64 .i64 Try.underlying22 Try.underlying3 hi0 hz0 (some ⟨g, 0, none⟩) i cap _ hold (n + 1 - i) (by omega) (by omega) (by omega) (by omega) (by rw [hzb]; omega) (by rw [hzb, hik]; exact growslice_fits (by omega) (by omega))
    rw [hik] at h
    rw [hkk, hROW, hG]
    exact h
  have hGn : n + 1 ≤ G := by rw [hG]; exact grownCap_ge w _ _ _
  have hGm : G ≤ maxLen := by rw [hG]; exact grownCap_le_maxLen w (n + 1) cap 45 (by unfold maxLen; omega)
  have hdl : (encs_ cv (l.drop i)).length = (n - i) * 2 := hcl
  have hb1 := blk_lt hg
  have hv1 := blk_lt hvb
  obtain ⟨Z, hZ, hZl⟩ : ∃ Z, ROW.toList = encs_ cv (l.take i) ++ Z ∧ Z.length = (G - i) * 2 := by
    refine ⟨(Builtin.zeroCells (Value.agg #[.int .i64 0, .string ⟨#[]⟩]).cells (n + 1 - i) ++ Builtin.zeroCells (Value.agg #[.int .i64 0, .string ⟨#[]⟩]).cells (G - (n + 1))).toList, by rw [hROW]; simp, ?_⟩
    simp [Builtin.zeroCells, Value.cells]
    omega
  have hROW2 : ROW = (encs_ cv (l.take i) ++ Z).toArray := by rw [← hZ]
  have hTl : (encs_ cv (l.take i)).length = i * 2 := by rw [encs_len cv_len, List.length_take]; omega
  obtain ⟨b, hb⟩ : ∃ b, w.heap.size = b := ⟨_, rfl⟩
  simp only [hb]
  obtain ⟨Wa, hWa⟩ : ∃ Wa, (w.alloc (.cells ROW 45)).drew = Wa := ⟨_, rfl⟩
  have hrz' : ∀ ty, (Builtin.append_ #[22, 3] ty #[.slice (some ⟨g, 0, none⟩) i cap, .int .i64 ((n : Int) + 1 - (i : Int))]).run Try.prog w = .ok (.slice (some ⟨b, 0, none⟩) (n + 1) G) Wa := fun ty => by
    rw [hrz ty, ← hWa, ← hb]; rfl
  have hBa : Below b w Wa := by rw [← hWa, ← hb]; exact (below_alloc (Below.refl _ w) _).drew
  have hGb : Wa.heap[b]? = some (.cells (encs_ cv (l.take i) ++ Z).toArray 45 (0, 0)) := by rw [← hWa, ← hb, ← hROW2]; exact blk_drew (blk_new w _)
  have hGg : Wa.heap[g]? = some (.cells (encs_ cv l ++ sp).toArray 45 (0, 0)) := (hBa.block g (by omega)).trans hg
  have hGv : Wa.heap[vb]? = some (.cells (cv x).toArray 45 (0, 0)) := (hBa.block vb (by omega)).trans hvb
  obtain ⟨R1, hR1⟩ : ∃ R1 : List Value, splice (encs_ cv (l.take i) ++ Z) (i * 2) (cv x) = R1 := ⟨_, rfl⟩
  obtain ⟨Wb, hWb⟩ : ∃ Wb, Wa.setRow b R1.toArray = Wb := ⟨_, rfl⟩
  have hRl : R1.length = G * 2 := by
    rw [← hR1]
    simp only [splice, List.length_append, List.length_take, List.length_drop, cv_len, hTl, hZl]
    omega
  have hcpA : ∀ ty dc, (Builtin.copy_ #[22, 22] ty #[.slice (some ⟨b, i * 2, none⟩) (n + 1 - i) dc, .slice (some ⟨vb, 0, none⟩) 1 1]).run Try.prog Wa = .ok (goInt (Nat.min 1 (n + 1 - i))) Wb := fun ty dc => by
    rw [← hWb, ← hR1]
    exact ins_copy Wa ty b _ _ dc 0 vb _ 1 _ (cv x) hGb (by rw [cv_len]; simp only [Nat.min_def]; split <;> omega)
      (fun j v hj => by
        rw [blk_cell hGv]
        simpa using hj) (by simp only [List.size_toArray, List.length_append, hTl, hZl, cv_len]; omega) (cv_one _)
  have hGb2 : Wb.heap[b]? = some (.cells R1.toArray 45 (0, 0)) := by rw [← hWb]; exact setRow_heap Wa b _ _ _ _ hGb
  have hGg2 : Wb.heap[g]? = some (.cells (encs_ cv l ++ sp).toArray 45 (0, 0)) := by rw [← hWb, setRow_other Wa b g _ (by omega)]; exact hGg
  obtain ⟨R2, hR2⟩ : ∃ R2 : List Value, splice R1 ((i + 1) * 2) (encs_ cv (l.drop i)) = R2 := ⟨_, rfl⟩
  have hcpB : ∀ ty dc sc, (Builtin.copy_ #[22, 22] ty #[.slice (some ⟨b, (i + 1) * 2, none⟩) (n - i) dc, .slice (some ⟨g, i * 2, none⟩) (n - i) sc]).run Try.prog Wb.drew = .ok (goInt (Nat.min (n - i) (n - i))) (Wb.drew.setRow b R2.toArray) := fun ty dc sc => by
    rw [← hR2]
    exact ins_copy Wb.drew ty b _ _ dc (i * 2) g _ sc _ (encs_ cv (l.drop i)) (blk_drew hGb2) (by rw [hdl]; congr 1; simp only [Nat.min_def]; split <;> omega)
      (fun j v hj => by
        rw [blk_cell (blk_drew hGg2)]
        rw [← hcs, List.getElem?_drop] at hj
        simp only [List.getElem?_toArray]
        rw [List.getElem?_append_left (List.getElem?_eq_some_iff.1 hj).1]
        exact hj) (by simp only [List.size_toArray, hRl, hdl]; omega) (encs_oneCell cv_one _)
  have hfin : ∃ SP : List Value, SP.length = (G - (n + 1)) * 2 ∧ R2 = encs_ cv (l.take i ++ x :: l.drop i) ++ SP := by
    have e := splice_two (encs_ cv (l.take i)) Z (cv x) (encs_ cv (l.drop i)) 2 (i * 2) hTl (cv_len x)
    rw [hR1, show i * 2 + 2 = (i + 1) * 2 by omega, hR2] at e
    refine ⟨_, ?_, e.trans (by rw [encs_app, encs_cons]; simp; rfl)⟩
    rw [List.length_drop, hZl, hdl]
    omega
  have hBb : Below b w (Wb.drew.setRow b R2.toArray) := by
    refine (hBa.grown (w' := Wb) (row := some b) ?_ (by rw [← hWa, ← hb]; simp) (by intro k hk; cases hk; omega)).grown (row := some b) ((grown_drew Wb _).trans (grown_setRow _ _ _)) ?_ (by intro k hk; cases hk; omega)
    · rw [← hWb]; exact grown_setRow _ _ _
    · rw [← hWb, ← hWa, ← hb]; simp [World.setRow]
  have hz1 : ¬ ((1 : Int) = 0) := by omega
  have hz2 : ¬ ((i : Int) = (n : Int)) := by omega
  have hz3 : (cap : Int) < (n : Int) + 1 := by omega
  have hin : i ≤ n := by omega
  have hw1 : IntKind.i64.wrap ((i : Int) + 1) = (i : Int) + 1 := by rw [IntKind.wrap_i64]; omega
  have hb2 : (0 : Int) ≤ (i : Int) + 1 := by omega
  have htn : ((i : Int) + 1).toNat = i + 1 := by omega
  have hb3 : (i : Int) ≤ (n : Int) := by omega
  have hGi : ¬ (G = i) := by omega
  have hGim : ¬ (G = i + 1) := by omega
  have hci : ¬ (cap = i) := by omega
  have hG63 : G ≤ 9223372036854775807 := by unfold maxLen at hGm; omega
  have HN := Aside0.mk hn
  have HX := Aside0.mk (And.intro hGb2 (And.intro hfin hBb))
  have HM := Aside0.mk (And.intro hGn hGm)
  clear hg hvb hn hcl hcs hct hll hsp hkk hik hold hG hROW hrz hdl hZ hZl hROW2 hTl hWa hGb hGg hGv hR1 hWb hRl hGb2 hGg2 hR2 hfin hBa hBb hi0 hz0 hzs hzb hGm
  go_enter Try.func72, Try.ntmps72
  go_wp2_with (first
    | (at_builtin; refine wpList_append_runE _ rfl _ _ _ _ rfl _ _ rfl rfl (hrz' _) ?_)
    | (at_builtin; refine wpList_copy_runE _ rfl _ _ 22 22 rfl _ _ rfl rfl (hcpA _ _) ?_))
  go_region_law (refine step_copy_runE rfl _ _ 22 22 rfl _ _ (by simp [Act.eval, Act.put]) (by simp [Act.eval, Act.put]) (hcpB _ _ _) ?_)
  go_wp2
  go_ret
  obtain ⟨SP, h1, h2⟩ := HX.out.2.1
  refine ⟨G, SP, rfl, HM.out.1, HM.out.2, h1, ?_, HX.out.2.2⟩
  rw [← h2]
  exact setRow_heap Wb.drew b _ _ _ _ (blk_drew HX.out.1)
theorem reps_cv (w : World) (base : Nat) (ok : Nat → Prop) (l : List S45) : Reps (k45.M w base ok) 2 l (encs_ cv l) := by
  refine ⟨encs_len cv_len l, fun j p hj => ?_⟩
  obtain ⟨hlt, he⟩ := List.getElem?_eq_some_iff.1 hj
  have : ((encs_ cv l).drop (j * 2)).take 2 = cv p := by
    rw [encs_drop cv_len l j (by omega), List.drop_eq_getElem_cons hlt, he, encs_cons]
    exact List.take_left' (cv_len p)
  rw [this]
  exact k45_mkM w base ok p
theorem cv_of_reps {w : World} {base : Nat} {ok : Nat → Prop} : ∀ {l : List S45} {cs : List Value}, Reps (k45.M w base ok) 2 l cs → cs = encs_ cv l := by
  intro l
  induction l with
  | nil => intro cs h; exact List.eq_nil_of_length_eq_zero (by simpa using h.1)
  | cons x l ih =>
    intro cs h
    have h0 := k45_openM (h.2 0 x rfl)
    simp only [Nat.zero_mul, List.drop_zero] at h0
    have h1 : Reps (k45.M w base ok) 2 l (cs.drop 2) := by
      refine ⟨by rw [List.length_drop, h.1, List.length_cons]; omega, fun j p hj => ?_⟩
      have := h.2 (j + 1) p (by simpa using hj)
      rw [show (j + 1) * 2 = 2 + j * 2 by omega, ← List.drop_drop] at this
      exact this
    rw [encs_cons, ← ih h1, show cv x = cs.take 2 from h0.symm, List.take_append_drop]
theorem R_of_row {w : World} {base : Nat} {v : Value} {l : List S45} (h : RowK cv 2 45 w base v l) : Kd.R k45 45 w base (fun _ => True) v l :=
  ⟨fun _ _ => trivial, encs_ cv l, h.owns cv_len, reps_cv _ _ _ _⟩
theorem row_of_R {w : World} {base : Nat} {ok : Nat → Prop} {v : Value} {l : List S45} (h : Kd.R k45 45 w base ok v l) : RowK cv 2 45 w base v l := by
  obtain ⟨_, inner, ho, hr⟩ := h
  rw [cv_of_reps hr] at ho
  exact RowK.of_owns cv_len ho
theorem insert_end (l : List S45) (x : S45) (v : Value) (w : World) (base vb : Nat) (hl : l.length ≤ 100000) (hbase : base ≤ w.heap.size) (HO : RowK cv 2 45 w base v l)
    (hvb : w.heap[vb]? = some (.cells (cv x).toArray 45 (0, 0))) (hvb2 : some vb ≠ v.ownBlock) :
    Calls Try.prog 72 #[v, .int .i64 (l.length : Int), .slice (some ⟨vb, 0, none⟩) 1 1] w fun e w' =>
      ∃ v', e = .returned v' ∧ Kd.R k45 45 w' base (fun _ => True) v' (l ++ [x]) ∧ Below base w w' := by
  have HR : ReadsRow (k45.M w base (fun k => some k ≠ v.ownBlock)) 2 w (some ⟨vb, 0, none⟩) 1 [x] := ⟨rfl, by omega, fun _ => ⟨_, rfl, fun j p hj => by
    match j, hj with
    | 0, hj =>
      cases hj
      exact ⟨cv x, rfl, k45_mkM w base _ x, fun i u hu => by rw [Nat.zero_mul, Nat.zero_add, add_plain, blk_cell hvb]; simpa using hu⟩⟩⟩
  have H0 := Aside0.mk (R_of_row HO)
  have HR := Aside0.mk HR
  have HB := Aside0.mk hbase
  obtain ⟨A, c, rfl, hc⟩ : ∃ A c, v = .slice A l.length c ∧ l.length ≤ c := by
    obtain ⟨A, c, e, h, _⟩ := Kd.R_reads H0.out
    exact ⟨A, c, e, h⟩
  have hz1 : ¬ ((1 : Int) = 0) := by omega
  clear HO hvb hvb2 hbase
  obtain ⟨n, hn⟩ : ∃ n, l.length = n := ⟨_, rfl⟩
  have HN := Aside0.mk hn
  rw [hn] at hl hc ⊢
  rw [hn] at HR H0
  clear hn
  have hcn : n ≤ c := hc
  cases A with
  | none =>
    go_enter Try.func72, Try.ntmps72
    go_wp2_with (at_builtin; refine Kd.R_append_rows k45 base rfl (.tmp 23) (.tmp 24) 22 45 (.agg #[.int .i64 0, .string ⟨#[]⟩]) 24 rfl Try.underlying22 (by kernel_rfl) rfl (by decide) (by decide) _ l [x] _ 1 1 (fun _ => True) _ rfl rfl H0.out HR.out (fun _ _ h => h) (fun k h => ⟨trivial, h⟩) (fun _ _ => trivial) (Below.refl _ _) HB.out (by rw [HN.out]; omega) ?_; intro v1 w1 h1 h2 h3 h4)
    go_ret
    exact ⟨v1, rfl, h1, h2⟩
  | some ad =>
    obtain ⟨ab, ao, asp⟩ := ad
    go_enter Try.func72, Try.ntmps72
    go_wp2_with (at_builtin; refine Kd.R_append_rows k45 base rfl (.tmp 23) (.tmp 24) 22 45 (.agg #[.int .i64 0, .string ⟨#[]⟩]) 24 rfl Try.underlying22 (by kernel_rfl) rfl (by decide) (by decide) _ l [x] _ 1 1 (fun _ => True) _ rfl rfl H0.out HR.out (fun _ _ h => h) (fun k h => ⟨trivial, h⟩) (fun _ _ => trivial) (Below.refl _ _) HB.out (by rw [HN.out]; omega) ?_; intro v1 w1 h1 h2 h3 h4)
    all_goals (go_ret; exact ⟨v1, rfl, h1, h2⟩)
/-- slices.Insert of one cell into a row of one's own. -/
theorem insert_calls (l : List S45) (i : Nat) (hi : i ≤ l.length) (x : S45) (v : Value) (w : World) (base vb : Nat) (hl : l.length ≤ 100000) (hbase : base ≤ w.heap.size)
    (HO : Kd.R k45 45 w base (fun _ => True) v l) (hvb : w.heap[vb]? = some (.cells (cv x).toArray 45 (0, 0))) (hvb2 : some vb ≠ v.ownBlock) :
    Calls Try.prog 72 #[v, .int .i64 (i : Int), .slice (some ⟨vb, 0, none⟩) 1 1] w fun e w' =>
      ∃ v', e = .returned v' ∧ Kd.R k45 45 w' base (fun _ => True) v' (l.take i ++ x :: l.drop i) ∧ Below base w w' := by
  by_cases h : i = l.length
  · subst h
    rw [List.take_length, List.drop_length]
    exact insert_end l x v w base vb hl hbase (row_of_R HO) hvb hvb2
  · rcases row_of_R HO with ⟨rfl, rfl⟩ | ⟨g, cap, sp, rfl, hb, hn, hm, hs, hg⟩
    · exact absurd (Nat.le_antisymm hi (Nat.zero_le _)) h
    · have hll : (l.take i ++ x :: l.drop i).length = l.length + 1 := by simp; omega
      by_cases hr : l.length + 1 ≤ cap
      · refine (insert_room l i (by omega) x w g cap vb sp hr hm hs hg hvb (fun e => hvb2 (by rw [e]; rfl))).mono ?_
        rintro e w' ⟨rfl, h1, h2⟩
        refine ⟨_, rfl, R_of_row (.inr ⟨g, cap, sp.drop 2, by rw [hll], hb, by omega, hm, by rw [List.length_drop, hs, hll]; omega, h1⟩), ?_⟩
        exact (Below.refl base w).grown h2 hbase (by intro k hk; cases hk; exact hb)
      · refine (insert_grow l i (by omega) x w g cap vb sp hn (by omega) (by omega) hs hg hvb).mono ?_
        rintro e w' ⟨G, SP, rfl, h1, h2, h3, h4, h5⟩
        refine ⟨_, rfl, R_of_row (.inr ⟨w.heap.size, G, SP, by rw [hll], hbase, by omega, h2, by rw [hll]; exact h3, h4⟩), ?_⟩
        exact ⟨h5.os, h5.tape, h5.output, h5.size, fun k hk => h5.block k (by omega)⟩

end Go.Proofs.Ytemglmcddaeedaa.PA

namespace Go.Proofs.Ytemglmcddaeedaa.PA
open Go.RowKit Go.Proofs.YtemglmcddaeedaaW.PrintWords Go.Proofs.YtemglmcddaeedaaW.PrintLast Go.Proofs.YtemglmcddaeedaaW.PrintMore
attribute [local go_sem] max2_int min2_int max_two min_two max_three min_three max_four min_four   -- for this text's walks alone
set_option linter.unusedVariables false
set_option linter.unusedSimpArgs false

/-! ### page_PutAt: function 35 -/
def putAtS (p : ByteArray) (n : Int) (d : ByteArray) : ByteArray × Int :=
  if d.size = 0 then (⟨#[]⟩, 1) else if validS p then (if 1 ≤ n ∧ n ≤ 200 then (if foundS (cellsP p) n = true then (⟨#[]⟩, 6) else filledS p.size (insS (cellsP p) n d)) else (⟨#[]⟩, 7)) else (⟨#[]⟩, 1)
def page_PutAt.f (a0 : ByteArray) (a1 : Int) (a2 : ByteArray) : Option (ByteArray × Int) := if a0.size ≤ 100000 ∧ a2.size ≤ 100000 then some (putAtS a0 a1 a2) else none
set_option maxHeartbeats 1000000 in
set_option maxRecDepth 100000 in
theorem page_PutAt.calls (a0 : ByteArray) (a1 : Int) (a2 : ByteArray) (r1 : ByteArray) (r2 : Int) (w : World) (h : page_PutAt.f a0 a1 a2 = some (r1, r2)) :
    Calls Try.prog 35 #[.string a0, .int .i64 a1, .string a2] w fun e w' => e = .returned (.tuple #[.string r1, .int .i64 r2]) ∧ Below w.heap.size w w' := by
  unfold page_PutAt.f at h
  split at h
  rotate_left
  · cases h
  rename_i hs
  have HA := Aside0.mk (asked_f a0 a1 hs.1)
  have h := Option.some.inj h
  unfold putAtS at h
  by_cases hd : a2.size = 0
  · rw [if_pos hd] at h
    obtain ⟨rfl, rfl⟩ := Prod.mk.inj h
    have e1 := (toList_nil a2).2 hd
    clear h hd
    go_enter Try.func35, Try.ntmps35
    go_wp2
    go_ret2
    exact ⟨rfl, Below.refl _ _⟩
  rw [if_neg hd] at h
  have e1 : ¬ a2.toList = [] := fun e => hd ((toList_nil a2).1 e)
  have e2 : a2.toList.isEmpty = false := by simpa using e1
  have hd0 : 0 < a2.size := by omega
  by_cases hv : validS a0
  rotate_left
  · rw [if_neg hv] at h
    rw [if_neg hv] at HA
    obtain ⟨rfl, rfl⟩ := Prod.mk.inj h
    clear h hv
    go_enter Try.func35, Try.ntmps35
    go_wp2_with (go_at_call 65; refine (page_asked.calls a0 a1 1 _ HA.out).mono ?_; rintro e w1 ⟨rfl, hb1⟩)
    go_ret2
    exact ⟨rfl, hb1⟩
  rw [if_pos hv] at h
  rw [if_pos hv] at HA
  by_cases hn : 1 ≤ a1 ∧ a1 ≤ 200
  rotate_left
  · rw [if_neg hn] at h
    rw [if_neg hn] at HA
    obtain ⟨rfl, rfl⟩ := Prod.mk.inj h
    clear h hn hv
    go_enter Try.func35, Try.ntmps35
    go_wp2_with (go_at_call 65; refine (page_asked.calls a0 a1 7 _ HA.out).mono ?_; rintro e w1 ⟨rfl, hb1⟩)
    go_ret2
    exact ⟨rfl, hb1⟩
  rw [if_pos hn] at h
  rw [if_pos hn] at HA
  obtain ⟨k1, k2, k3, k4, k5⟩ := cellsP_ok hv
  have HCF := Aside0.mk (cells_f hv)
  obtain ⟨l, hl⟩ : ∃ l, cellsP a0 = l := ⟨_, rfl⟩
  rw [hl] at h HCF k1 k2 k3
  have HK := Aside0.mk (And.intro k1 k2)
  have hll := k2
  clear hl hv
  by_cases hf : foundS l a1 = true
  · rw [if_pos hf] at h
    have HF := Aside0.mk hf
    obtain ⟨rfl, rfl⟩ := Prod.mk.inj h
    obtain ⟨ix, hix⟩ : ∃ ix, idxS l a1 = ix := ⟨_, rfl⟩
    have HIX := Aside0.mk hix
    clear h hf hix k1 k3 hs hd
    go_enter Try.func35, Try.ntmps35
    go_wp2_with (go_at_call 65; refine (page_asked.calls a0 a1 0 _ HA.out).mono ?_; rintro e w1 ⟨rfl, hb1⟩)
    go_wp2_with (go_at_call 49; refine (page_cells.calls a0 l _ HCF.out).mono ?_; rintro e w2 ⟨v, rfl, hR, hb2⟩)
    have HB := Aside0.mk (below_then hb1 hb1.size hb2)
    obtain ⟨A, c, rfl, hc, hC⟩ := Kd.R_reads hR
    have HC := Aside0.mk hC
    clear hR hb1 hb2 hC
    go_wp2_with (go_at_call 66; refine (find_calls l A c a1 _ HK.out.1 (by omega) (by omega) HC.out).mono ?_; rw [HF.out, HIX.out]; rintro e w3 ⟨rfl, hb3⟩)
    go_ret2
    exact ⟨rfl, below_then HB.out HB.out.size hb3⟩
  · have hf0 := Bool.eq_false_iff.2 hf
    rw [hf0, if_neg (by decide)] at h
    have HF := Aside0.mk hf0
    obtain ⟨M, hM⟩ : ∃ M, insS l a1 a2 = M := ⟨_, rfl⟩
    have hMo : CellsOk M := by rw [← hM]; exact insS_ok k1 hn hd0 hf0
    have hMb : bytesL M ≤ 1000000000000 := by rw [← hM]; have hb := insS_bytes l a1 a2; have hs1 := hs; omega
    have HM := Aside0.mk (show page_filled.f (a0.size : Int) M = some (r1, r2) by rw [filled_f (by omega) (by omega) hMo hMb, ← hM]; exact congrArg some h)
    have HMD := Aside0.mk hM
    have HLT := Aside0.mk (fun h => found_lt (l := l) (n := a1) h)
    obtain ⟨ix, hix⟩ : ∃ ix, idxS l a1 = ix := ⟨_, rfl⟩
    have HIX := Aside0.mk hix
    have HIL := Aside0.mk (idxS_le l a1)
    clear h hf hM hMo hMb k1 k3 hix hs hd
    go_enter Try.func35, Try.ntmps35
    go_wp2_with (go_at_call 65; refine (page_asked.calls a0 a1 0 _ HA.out).mono ?_; rintro e w1 ⟨rfl, hb1⟩)
    go_wp2_with (go_at_call 49; refine (page_cells.calls a0 l _ HCF.out).mono ?_; rintro e w2 ⟨v, rfl, hR, hb2⟩)
    have HB := Aside0.mk (below_then hb1 hb1.size hb2)
    have HR := Aside0.mk hR
    obtain ⟨A, c, rfl, hc, hC⟩ := Kd.R_reads hR
    have HC := Aside0.mk hC
    clear hR hC
    go_wp2_with fail
    refine (find_calls l A c a1 _ HK.out.1 (by omega) (by omega) HC.out).mono ?_
    rw [HF.out, HIX.out]
    rintro e w3 ⟨rfl, hb3⟩
    have HR3 := Aside0.mk (Kd.R_below (Kd.R_lower HR.out (base' := w.heap.size) (by have := hb1.size; omega)) hb3)
    have HB3 := Aside0.mk (below_then HB.out HB.out.size hb3)
    have HL3 := Aside0.mk (fun k hk => own_lt (Kd.R_own HR3.out).choose_spec k hk)
    clear hb1 hb2 hb3
    have HDM := Aside0.mk (show l.take ix ++ (⟨a1, a2⟩ : S45) :: l.drop ix = M by rw [← HIX.out]; exact HMD.out)
    have hix2 : ix ≤ l.length := by rw [← HIX.out]; exact HIL.out
    go_wp2_with fail
    refine (insert_calls l ix hix2 ⟨a1, a2⟩ _ _ w.heap.size w3.heap.size (by omega) (by have := HB3.out.size; simp; omega) (Kd.R_below HR3.out (below_alloc (Below.refl _ w3) _)) (blk_new w3 _) (fun e => Nat.lt_irrefl _ (HL3.out _ e.symm))).mono ?_
    rintro e w4 ⟨v4, rfl, hR4, hB4⟩
    rw [HDM.out] at hR4
    obtain ⟨A9, c9, rfl, hc9, hC9⟩ := Kd.R_reads hR4
    have HC9 := Aside0.mk hC9
    have HB4 := Aside0.mk ((below_alloc HB3.out (.cells (cv ⟨a1, a2⟩).toArray 45)).trans hB4)
    clear hR4 hB4 hC9 HR3
    go_wp2_with fail
    refine (page_filled.calls (a0.size : Int) A9 c9 M r1 r2 _ HC9.out hc9 HM.out).mono ?_
    rintro e w9 ⟨rfl, hb9⟩
    go_wp2
    go_ret2
    exact ⟨rfl, below_then HB4.out HB4.out.size hb9⟩

end Go.Proofs.Ytemglmcddaeedaa.PA

namespace Go.Proofs.Ytemglmcddaeedaa.PA
open Go.RowKit Go.Proofs.YtemglmcddaeedaaW.PrintWords Go.Proofs.YtemglmcddaeedaaW.PrintLast Go.Proofs.YtemglmcddaeedaaW.PrintMore
attribute [local go_sem] max2_int min2_int max_two min_two max_three min_three max_four min_four   -- for this text's walks alone
set_option linter.unusedVariables false
set_option linter.unusedSimpArgs false

/-! ### page_Put: function 29 -/
def page_Put.j0 : Nat → ByteArray → ByteArray → Bool → Option (ByteArray × Int × Int)
  | 0, _, _, _ => none
  | k + 1, x0, x1, x16 => if x16 = true then (some ((⟨#[]⟩ : ByteArray), 0, 1)) else ((page_Next.f x0).bind fun bt259 => (if bt259.2 = 0 then ((page_PutAt.f x0 bt259.1 x1).bind fun bt261 => (if bt261.2 = 0 then (some (bt261.1, bt259.1, 0)) else (some ((⟨#[]⟩ : ByteArray), 0, bt261.2)))) else (some ((⟨#[]⟩ : ByteArray), 0, bt259.2))))
def page_Put.f (k : Nat) (a0 : ByteArray) (a1 : ByteArray) : Option (ByteArray × Int × Int) := (page_Valid.f a0).bind fun t258 => (if t258 = true then (page_Put.j0 k a0 a1 (a1.toList == ([] : List UInt8))) else (page_Put.j0 k a0 a1 true))
theorem page_Put.mono_l : ∀ k, (∀ y0 y1 y2, LeO (page_Put.j0 k y0 y1 y2) (page_Put.j0 (k + 1) y0 y1 y2))
  | 0 => fun _ _ _ r h => by simp [page_Put.j0] at h
  | k + 1 => by
    have ih0 := page_Put.mono_l k
    · intro y0 y1 y2
      unfold page_Put.j0
      repeat' first
      | (with_reducible exact ih0 _ _ _)
      | (with_reducible exact LeO.refl _)
      | (with_reducible exact LeO.none _)
      | (with_reducible refine LeO.ite ?_ ?_)
      | (with_reducible refine LeO.bind ?_ (fun _ => ?_))
      | exact ih0 _ _ _
      | exact LeO.none _
      | refine LeO.ite ?_ ?_
      | refine LeO.bind ?_ (fun _ => ?_)
theorem page_Put.mono : ∀ a0 a1 k, LeO (page_Put.f k a0 a1) (page_Put.f (k + 1) a0 a1) := by
  intro a0 a1 k
  have ih0 := page_Put.mono_l k
  unfold page_Put.f
  repeat' first
      | (with_reducible exact ih0 _ _ _)
      | (with_reducible exact LeO.refl _)
      | (with_reducible exact LeO.none _)
      | (with_reducible refine LeO.ite ?_ ?_)
      | (with_reducible refine LeO.bind ?_ (fun _ => ?_))
      | exact ih0 _ _ _
      | exact LeO.none _
      | refine LeO.ite ?_ ?_
      | refine LeO.bind ?_ (fun _ => ?_)
set_option maxHeartbeats 8000000 in
set_option maxRecDepth 100000 in
theorem page_Put.calls (k : Nat) (a0 : ByteArray) (a1 : ByteArray) (r1 : ByteArray) (r2 : Int) (r3 : Int) (w : World) (h : page_Put.f k a0 a1 = some (r1, r2, r3)) :
    Calls Try.prog 29 #[.string a0, .string a1] w fun e w' => e = .returned (.tuple #[.string r1, .int .i64 r2, .int .i64 r3]) ∧ Below w.heap.size w w' := by
  have HB := Aside0.mk (Below.refl w.heap.size w)
  have H : ((page_Valid.f a0).bind fun t258 => (if t258 = true then (page_Put.j0 k a0 a1 (a1.toList == ([] : List UInt8))) else (page_Put.j0 k a0 a1 true))) = some (r1, r2, r3) := h
  clear h
  have HC3 := Aside0.mk H
  clear H
  go_enter Try.func29, Try.ntmps29
  go_upto_region 1 with (fail)
  go_cut [16] (fun v16 wc => ∃ (kq : Nat) (x16_2 : Bool), v16 = .bool x16_2 ∧ Aside0 (page_Put.j0 kq a0 a1 x16_2 = some (r1, r2, r3)) ∧ Aside0 (kq ≤ k) ∧ Aside0 (Below w.heap.size w wc))
  case first =>
    have H := HC3.out
    clear HC3
    replace H := Option.bind_eq_some_iff.mp H
    obtain ⟨t258, A40, H⟩ := H
    replace H : (if t258 = true then (page_Put.j0 k a0 a1 (a1.toList == ([] : List UInt8))) else (page_Put.j0 k a0 a1 true)) = some (r1, r2, r3) := H
    have A4 := Aside0.mk A40
    clear A40
    by_cases c5 : t258 = true
    · subst c5
      have H1 : (page_Put.j0 k a0 a1 (a1.toList == ([] : List UInt8))) = some (r1, r2, r3) := by rw [if_pos rfl] at H; exact H
      clear H
      have H := H1
      clear H1
      have H' := Aside0.mk H
      clear H
      go_wp2_with (first | ((with_reducible refine gate_callee (f := 21) rfl ?_); refine goesL_ (some 11) rfl rfl Try.func21 (by kernel_rfl) rfl #[.string a0] rfl (by (try simp only [List.map_toArray, List.map_cons, List.map_nil]); first | done | rfl | (simp only [List.length_drop, List.length_take]; rfl)) ?_; (with_reducible refine (page_Valid.calls a0 true _ A4.out).mono ?_); rintro e w6 ⟨rfl, hb⟩; refine ⟨_, rfl, ?_⟩; have n0_ := Aside0.mk (below_step (by repeat (first | (with_reducible first | exact HB.out | apply below_alloc | apply pw_below_drewN | apply below_drew1) | exact HB.out)) hb); clear HB; have HB := n0_; clear n0_; (try clear hb); (try clear hb2); (try clear hk); (try clear hi)))
      go_meet
      case rel => exact ⟨_, ((a1.toList == ([] : List UInt8))), (by first | rfl | (simp; done) | (simp [*]; done)), H', ⟨by first | omega | exact Nat.le_refl _⟩, ⟨by repeat (first | (with_reducible first | exact HB.out | apply below_alloc | apply pw_below_drewN | apply below_drew1) | exact HB.out)⟩⟩
    · replace c5 := Bool.eq_false_iff.mpr c5
      subst c5
      have H1 : (page_Put.j0 k a0 a1 true) = some (r1, r2, r3) := by rw [if_neg (show ¬ (false = true) by decide)] at H; exact H
      clear H
      have H := H1
      clear H1
      have H' := Aside0.mk H
      clear H
      go_wp2_with (first | ((with_reducible refine gate_callee (f := 21) rfl ?_); refine goesL_ (some 11) rfl rfl Try.func21 (by kernel_rfl) rfl #[.string a0] rfl (by (try simp only [List.map_toArray, List.map_cons, List.map_nil]); first | done | rfl | (simp only [List.length_drop, List.length_take]; rfl)) ?_; (with_reducible refine (page_Valid.calls a0 false _ A4.out).mono ?_); rintro e w7 ⟨rfl, hb⟩; refine ⟨_, rfl, ?_⟩; have n0_ := Aside0.mk (below_step (by repeat (first | (with_reducible first | exact HB.out | apply below_alloc | apply pw_below_drewN | apply below_drew1) | exact HB.out)) hb); clear HB; have HB := n0_; clear n0_; (try clear hb); (try clear hb2); (try clear hk); (try clear hi)))
      go_meet
      case rel => exact ⟨_, (true), (by first | rfl | (simp; done) | (simp [*]; done)), H', ⟨by first | omega | exact Nat.le_refl _⟩, ⟨by repeat (first | (with_reducible first | exact HB.out | apply below_alloc | apply pw_below_drewN | apply below_drew1) | exact HB.out)⟩⟩
  case rest =>
    clear HC3
    try clear c2
    try clear p2
    try clear c5
    obtain ⟨kq, x16_2, rfl, HA, HJ2, HB⟩ := hcut
    cases kq with
    | zero => exact absurd HA.out (by simp [page_Put.j0])
    | succ kj2 =>
      have H := HA.out
      clear HA
      simp only [page_Put.j0] at H
      by_cases c8 : x16_2 = true
      · subst c8
        have H1 : (some ((⟨#[]⟩ : ByteArray), 0, 1)) = some (r1, r2, r3) := by rw [if_pos rfl] at H; exact H
        clear H
        have H := H1
        clear H1
        simp only [Option.some.injEq, Prod.mk.injEq] at H
        obtain ⟨rfl, rfl, rfl⟩ := H
        go_wp2
        go_ret3
        exact ⟨by first | rfl | (simp [errW_none, errW_some] <;> rfl) | (simp [*, errW_none, errW_some] <;> rfl), by repeat (first | (with_reducible first | exact HB.out | apply below_alloc | apply pw_below_drewN | apply below_drew1) | exact HB.out)⟩
      · replace c8 := Bool.eq_false_iff.mpr c8
        subst c8
        have H1 : ((page_Next.f a0).bind fun bt259 => (if bt259.2 = 0 then ((page_PutAt.f a0 bt259.1 a1).bind fun bt261 => (if bt261.2 = 0 then (some (bt261.1, bt259.1, 0)) else (some ((⟨#[]⟩ : ByteArray), 0, bt261.2)))) else (some ((⟨#[]⟩ : ByteArray), 0, bt259.2)))) = some (r1, r2, r3) := by rw [if_neg (show ¬ (false = true) by decide)] at H; exact H
        clear H
        have H := H1
        clear H1
        replace H := Option.bind_eq_some_iff.mp H
        obtain ⟨⟨t259, t260⟩, A90, H⟩ := H
        replace H : (if t260 = 0 then ((page_PutAt.f a0 t259 a1).bind fun bt261 => (if bt261.2 = 0 then (some (bt261.1, t259, 0)) else (some ((⟨#[]⟩ : ByteArray), 0, bt261.2)))) else (some ((⟨#[]⟩ : ByteArray), 0, t260))) = some (r1, r2, r3) := H
        have A9 := Aside0.mk A90
        clear A90
        by_cases c10 : t260 = 0
        · rw [if_pos c10] at H
          have c10b0 : (t260 == 0) = true := beq_iff_eq.mpr c10
          have c10b1 : (t260 != 0) = false := bne_eq_false_iff_eq.mpr c10
          clear c10
          replace H := Option.bind_eq_some_iff.mp H
          obtain ⟨⟨t261, t262⟩, A110, H⟩ := H
          replace H : (if t262 = 0 then (some (t261, t259, 0)) else (some ((⟨#[]⟩ : ByteArray), 0, t262))) = some (r1, r2, r3) := H
          have A11 := Aside0.mk A110
          clear A110
          by_cases c12 : t262 = 0
          · rw [if_pos c12] at H
            have c12b0 : (t262 == 0) = true := beq_iff_eq.mpr c12
            have c12b1 : (t262 != 0) = false := bne_eq_false_iff_eq.mpr c12
            clear c12
            simp only [Option.some.injEq, Prod.mk.injEq] at H
            obtain ⟨rfl, rfl, rfl⟩ := H
            go_wp2_with (first | ((with_reducible refine gate_callee (f := 27) rfl ?_); refine goesL_ (some 19) rfl rfl Try.func27 (by kernel_rfl) rfl #[.string a0] rfl (by (try simp only [List.map_toArray, List.map_cons, List.map_nil]); first | done | rfl | (simp only [List.length_drop, List.length_take]; rfl)) ?_; (with_reducible refine (page_Next.calls a0 t259 t260 _ A9.out).mono ?_); rintro e w13 ⟨rfl, hb⟩; refine ⟨_, rfl, ?_⟩; have n0_ := Aside0.mk (below_step (by repeat (first | (with_reducible first | exact HB.out | apply below_alloc | apply pw_below_drewN | apply below_drew1) | exact HB.out)) hb); clear HB; have HB := n0_; clear n0_; (try clear hb); (try clear hb2); (try clear hk); (try clear hi)) | ((with_reducible refine gate_callee (f := 35) rfl ?_); refine goesL_ (some 29) rfl rfl Try.func35 (by kernel_rfl) rfl #[.string a0, .int .i64 t259, .string a1] rfl (by (try simp only [List.map_toArray, List.map_cons, List.map_nil]); first | done | rfl | (simp only [List.length_drop, List.length_take]; rfl)) ?_; (with_reducible refine (page_PutAt.calls a0 t259 a1 t261 t262 _ A11.out).mono ?_); rintro e w14 ⟨rfl, hb⟩; refine ⟨_, rfl, ?_⟩; have n0_ := Aside0.mk (below_step (by repeat (first | (with_reducible first | exact HB.out | apply below_alloc | apply pw_below_drewN | apply below_drew1) | exact HB.out)) hb); clear HB; have HB := n0_; clear n0_; (try clear hb); (try clear hb2); (try clear hk); (try clear hi)))
            go_ret3
            exact ⟨by first | rfl | (simp [errW_none, errW_some] <;> rfl) | (simp [*, errW_none, errW_some] <;> rfl), by repeat (first | (with_reducible first | exact HB.out | apply below_alloc | apply pw_below_drewN | apply below_drew1) | exact HB.out)⟩
          · rw [if_neg c12] at H
            have c12b0 : (t262 == 0) = false := beq_eq_false_iff_ne.mpr c12
            have c12b1 : (t262 != 0) = true := bne_iff_ne.mpr c12
            simp only [Option.some.injEq, Prod.mk.injEq] at H
            obtain ⟨rfl, rfl, rfl⟩ := H
            go_wp2_with (first | ((with_reducible refine gate_callee (f := 27) rfl ?_); refine goesL_ (some 19) rfl rfl Try.func27 (by kernel_rfl) rfl #[.string a0] rfl (by (try simp only [List.map_toArray, List.map_cons, List.map_nil]); first | done | rfl | (simp only [List.length_drop, List.length_take]; rfl)) ?_; (with_reducible refine (page_Next.calls a0 t259 t260 _ A9.out).mono ?_); rintro e w15 ⟨rfl, hb⟩; refine ⟨_, rfl, ?_⟩; have n0_ := Aside0.mk (below_step (by repeat (first | (with_reducible first | exact HB.out | apply below_alloc | apply pw_below_drewN | apply below_drew1) | exact HB.out)) hb); clear HB; have HB := n0_; clear n0_; (try clear hb); (try clear hb2); (try clear hk); (try clear hi)) | ((with_reducible refine gate_callee (f := 35) rfl ?_); refine goesL_ (some 29) rfl rfl Try.func35 (by kernel_rfl) rfl #[.string a0, .int .i64 t259, .string a1] rfl (by (try simp only [List.map_toArray, List.map_cons, List.map_nil]); first | done | rfl | (simp only [List.length_drop, List.length_take]; rfl)) ?_; (with_reducible refine (page_PutAt.calls a0 t259 a1 t261 t262 _ A11.out).mono ?_); rintro e w16 ⟨rfl, hb⟩; refine ⟨_, rfl, ?_⟩; have n0_ := Aside0.mk (below_step (by repeat (first | (with_reducible first | exact HB.out | apply below_alloc | apply pw_below_drewN | apply below_drew1) | exact HB.out)) hb); clear HB; have HB := n0_; clear n0_; (try clear hb); (try clear hb2); (try clear hk); (try clear hi)))
            go_ret3
            exact ⟨by first | rfl | (simp [errW_none, errW_some] <;> rfl) | (simp [*, errW_none, errW_some] <;> rfl), by repeat (first | (with_reducible first | exact HB.out | apply below_alloc | apply pw_below_drewN | apply below_drew1) | exact HB.out)⟩
        · rw [if_neg c10] at H
          have c10b0 : (t260 == 0) = false := beq_eq_false_iff_ne.mpr c10
          have c10b1 : (t260 != 0) = true := bne_iff_ne.mpr c10
          simp only [Option.some.injEq, Prod.mk.injEq] at H
          obtain ⟨rfl, rfl, rfl⟩ := H
          go_wp2_with (first | ((with_reducible refine gate_callee (f := 27) rfl ?_); refine goesL_ (some 19) rfl rfl Try.func27 (by kernel_rfl) rfl #[.string a0] rfl (by (try simp only [List.map_toArray, List.map_cons, List.map_nil]); first | done | rfl | (simp only [List.length_drop, List.length_take]; rfl)) ?_; (with_reducible refine (page_Next.calls a0 t259 t260 _ A9.out).mono ?_); rintro e w17 ⟨rfl, hb⟩; refine ⟨_, rfl, ?_⟩; have n0_ := Aside0.mk (below_step (by repeat (first | (with_reducible first | exact HB.out | apply below_alloc | apply pw_below_drewN | apply below_drew1) | exact HB.out)) hb); clear HB; have HB := n0_; clear n0_; (try clear hb); (try clear hb2); (try clear hk); (try clear hi)))
          go_ret3
          exact ⟨by first | rfl | (simp [errW_none, errW_some] <;> rfl) | (simp [*, errW_none, errW_some] <;> rfl), by repeat (first | (with_reducible first | exact HB.out | apply below_alloc | apply pw_below_drewN | apply below_drew1) | exact HB.out)⟩

end Go.Proofs.Ytemglmcddaeedaa.PA

namespace Go.Proofs.Ytemglmcddaeedaa.PA
open Go.RowKit Go.Proofs.YtemglmcddaeedaaW.PrintWords Go.Proofs.YtemglmcddaeedaaW.PrintLast Go.Proofs.YtemglmcddaeedaaW.PrintMore
attribute [local go_sem] max2_int min2_int max_two min_two max_three min_three max_four min_four   -- for this text's walks alone
set_option linter.unusedVariables false
set_option linter.unusedSimpArgs false

/-! ### sp_area: function 0 -/
/-! #### an area in memory -/
structure AreaS where
  size : Int
  pages : List ByteArray
  lv : List Int
def sEnc (s : ByteArray) : List Value := [.string s]
theorem sEnc_len (x : ByteArray) : (sEnc x).length = 1 := rfl
theorem sEnc_one (x : ByteArray) : ∀ v ∈ sEnc x, v.oneCell' = true := by
  intro v hv; simp only [sEnc, List.mem_singleton] at hv; rw [hv]; rfl
def areaCells (a : AreaS) (v : Value) : List Value := nums .u8 a.lv ++ [.int .i64 a.size, v]
structure AreaAt (w : World) (base g : Nat) (v : Value) (a : AreaS) : Prop where
  ge : base ≤ g
  blk : w.heap[g]? = some (.cells (areaCells a v).toArray 106 (0, 0))
  lv : a.lv.length = 200
  row : RowK sEnc 1 9 w base v a.pages
theorem AreaAt.below {w w1 : World} {base g : Nat} {v : Value} {a : AreaS} (h : AreaAt w base g v a) (hb : Below w.heap.size w w1) : AreaAt w1 base g v a :=
  ⟨h.ge, (hb.block g (blk_lt h.blk)).trans h.blk, h.lv, h.row.below hb⟩
theorem AreaAt.csize {w : World} {base g : Nat} {v : Value} {a : AreaS} (h : AreaAt w base g v a) : w.cell? ⟨g, 200, none⟩ = some (.int .i64 a.size) := by
  rw [blk_cell h.blk]
  simp only [areaCells, List.getElem?_toArray]
  rw [List.getElem?_append_right (by rw [nums_length, h.lv]; omega), nums_length, h.lv]; rfl
theorem AreaAt.cpages {w : World} {base g : Nat} {v : Value} {a : AreaS} (h : AreaAt w base g v a) : w.cell? ⟨g, 201, none⟩ = some v := by
  rw [blk_cell h.blk]
  simp only [areaCells, List.getElem?_toArray]
  rw [List.getElem?_append_right (by rw [nums_length, h.lv]; omega), nums_length, h.lv]; rfl
theorem AreaAt.clv {w : World} {base g : Nat} {v : Value} {a : AreaS} (h : AreaAt w base g v a) (i : Nat) (hi : i < 200) : w.cell? ⟨g, i, none⟩ = some (.int .u8 (a.lv.getD i 0)) := by
  rw [blk_cell h.blk]
  have := h.lv
  simp only [areaCells, List.getElem?_toArray]
  rw [List.getElem?_append_left (by rw [nums_length]; omega)]
  simp only [nums, List.getElem?_map, List.getElem?_eq_getElem (show i < a.lv.length by omega), Option.map_some, List.getD_eq_getElem?_getD, Option.getD_some]
theorem AreaAt.slice {w : World} {base g : Nat} {v : Value} {a : AreaS} (h : AreaAt w base g v a) (hn : 0 < a.pages.length) :
    ∃ r cap, v = .slice (some ⟨r, 0, none⟩) a.pages.length cap ∧ base ≤ r ∧ a.pages.length ≤ cap ∧ cap ≤ 9223372036854775807 ∧ r < w.heap.size ∧ r ≠ g ∧ (∀ i, w.frozen? ⟨r, i, none⟩ = false) ∧
      (∀ i (hi : i < a.pages.length), w.cell? ⟨r, i, none⟩ = some (.string a.pages[i])) := by
  rcases h.row with ⟨_, e⟩ | ⟨r, cap, sp, rfl, hb, hn2, hm, hs, hg⟩
  · rw [e] at hn; simp at hn
  · refine ⟨r, cap, rfl, hb, hn2, by unfold maxLen at hm; omega, blk_lt hg, blk_ne hg h.blk (by decide), fun i => blk_frozen hg i, fun i hi => ?_⟩
    rw [blk_cell hg]
    simp only [List.getElem?_toArray]
    rw [List.getElem?_append_left (by rw [encs_len sEnc_len]; omega)]
    have := encs_get (enc := sEnc) sEnc_len a.pages i 0 hi (by decide)
    rw [Nat.mul_one, Nat.add_zero] at this
    rw [this]; rfl
/-- All but two blocks stay. -/
structure Keep2 (w w' : World) (g : Nat) (r : Option Nat) : Prop where
  os : w'.os = w.os
  tape : w'.tape = w.tape
  output : w'.output = w.output
  size : w.heap.size ≤ w'.heap.size
  block : ∀ k, k < w.heap.size → k ≠ g → some k ≠ r → w'.heap[k]? = w.heap[k]?
theorem Keep2.of_below {w w' : World} (h : Below w.heap.size w w') (g : Nat) (r : Option Nat) : Keep2 w w' g r := ⟨h.os, h.tape, h.output, h.size, fun k hk _ _ => h.block k hk⟩
theorem Keep2.refl (w : World) (g : Nat) (r : Option Nat) : Keep2 w w g r := ⟨rfl, rfl, rfl, Nat.le_refl _, fun _ _ _ _ => rfl⟩
theorem Keep2.trans {w w1 w2 : World} {g : Nat} {r r1 : Option Nat} (h : Keep2 w w1 g r) (k : Keep2 w1 w2 g r1) (hr : r1 = r ∨ ∃ b, r1 = some b ∧ w.heap.size ≤ b) : Keep2 w w2 g r :=
  ⟨k.os.trans h.os, k.tape.trans h.tape, k.output.trans h.output, Nat.le_trans h.size k.size, fun i hi hg hr2 =>
    (k.block i (Nat.lt_of_lt_of_le hi h.size) hg (by
      rcases hr with rfl | ⟨b, rfl, hb⟩
      · exact hr2
      · intro e; cases e; omega)).trans (h.block i hi hg hr2)⟩
theorem Keep2.below {w0 w w' : World} {g : Nat} {r : Option Nat} {B : Nat} (h : Keep2 w w' g r) (hb : Below B w0 w) (hB : B ≤ w.heap.size) (hg : B ≤ g) (hr : ∀ k, r = some k → B ≤ k) : Below B w0 w' :=
  ⟨h.os.trans hb.os, h.tape.trans hb.tape, h.output.trans hb.output, Nat.le_trans hb.size h.size, fun k hk =>
    (h.block k (by omega) (by omega) (fun e => by have := hr k e.symm; omega)).trans (hb.block k hk)⟩
theorem Keep2.set {w : World} (g i : Nat) (v : Value) (r : Option Nat) : Keep2 w (w.setCell ⟨g, i, none⟩ v) g r :=
  ⟨rfl, rfl, rfl, by simp [World.setCell], fun k _ hk _ => Below.heap_setCell w _ v k hk⟩
theorem Keep2.drewN {w w' : World} {g : Nat} {r : Option Nat} (h : Keep2 w w' g r) (n : Nat) : Keep2 w (w'.drewN n) g r := ⟨h.os, h.tape, h.output, h.size, h.block⟩

end Go.Proofs.Ytemglmcddaeedaa.PA

namespace Go.Proofs.Ytemglmcddaeedaa.PA
open Go.RowKit Go.Proofs.YtemglmcddaeedaaW.PrintWords Go.Proofs.YtemglmcddaeedaaW.PrintLast Go.Proofs.YtemglmcddaeedaaW.PrintMore
attribute [local go_sem] max2_int min2_int max_two min_two max_three min_three max_four min_four   -- for this text's walks alone
set_option linter.unusedVariables false
set_option linter.unusedSimpArgs false

/-! ### area_reads: function 0 -/
set_option maxHeartbeats 1000000 in
theorem area_Size {base g : Nat} {v : Value} {a : AreaS} (w : World) (h : AreaAt w base g v a) :
    Calls Try.prog 82 #[.pointer (some ⟨g, 0, none⟩)] w fun e w' => e = .returned (.int .i64 a.size) ∧ Below w.heap.size w w' := by
  have c1 := h.csize
  have H := Aside0.mk h
  clear h
  go_enter Try.func82, Try.ntmps82
  go_wp2
  go_ret
  exact ⟨rfl, Below.refl _ _⟩
set_option maxHeartbeats 1000000 in
theorem area_Pages {base g : Nat} {v : Value} {a : AreaS} (w : World) (h : AreaAt w base g v a) (hp : 0 < a.pages.length) :
    Calls Try.prog 83 #[.pointer (some ⟨g, 0, none⟩)] w fun e w' => e = .returned (.int .i64 a.pages.length) ∧ Below w.heap.size w w' := by
  have c1 := h.cpages
  obtain ⟨r, cap, rfl, _⟩ := h.slice hp
  clear h
  go_enter Try.func83, Try.ntmps83
  go_wp2
  go_ret
  exact ⟨rfl, Below.refl _ _⟩
/-- What asked answers. -/
def askedA (a : AreaS) (n : Int) : Int := if 0 ≤ n ∧ n < a.pages.length then 0 else 7
set_option maxHeartbeats 1000000 in
theorem area_asked {base g : Nat} {v : Value} {a : AreaS} (n : Int) (w : World) (h : AreaAt w base g v a) (hp : 0 < a.pages.length) :
    Calls Try.prog 115 #[.pointer (some ⟨g, 0, none⟩), .int .i64 n] w fun e w' => e = .returned (.int .i64 (askedA a n)) ∧ Below w.heap.size w w' := by
  have c1 := h.cpages
  obtain ⟨r, cap, rfl, _⟩ := h.slice hp
  clear h
  obtain ⟨m, hm⟩ : ∃ m, a.pages.length = m := ⟨_, rfl⟩
  unfold askedA
  rw [hm] at c1 ⊢
  clear hm hp
  by_cases h0 : 0 ≤ n
  · have d0 : decide (n < 0) = false := decide_eq_false (by omega)
    by_cases h1 : n < m
    · rw [if_pos ⟨h0, h1⟩]
      have d1 : decide ((m : Int) ≤ n) = false := decide_eq_false (by omega)
      go_enter Try.func115, Try.ntmps115
      go_wp2
      go_ret
      exact ⟨rfl, Below.refl _ _⟩
    · rw [if_neg (fun h => h1 h.2)]
      have d1 : decide ((m : Int) ≤ n) = true := decide_eq_true (by omega)
      go_enter Try.func115, Try.ntmps115
      go_wp2
      go_ret
      exact ⟨rfl, Below.refl _ _⟩
  · rw [if_neg (fun h => h0 h.1)]
    have d0 : decide (n < 0) = true := decide_eq_true (by omega)
    go_enter Try.func115, Try.ntmps115
    go_wp2
    go_ret
    exact ⟨rfl, Below.refl _ _⟩
set_option maxHeartbeats 1000000 in
theorem area_Page_ok {base g : Nat} {v : Value} {a : AreaS} (n : Nat) (hn : n < a.pages.length) (w : World) (h : AreaAt w base g v a) :
    Calls Try.prog 86 #[.pointer (some ⟨g, 0, none⟩), .int .i64 (n : Int)] w fun e w' => e = .returned (.tuple #[.string a.pages[n], .int .i64 0]) ∧ Below w.heap.size w w' := by
  have H := Aside0.mk h
  have HA := Aside0.mk (show askedA a n = 0 by unfold askedA; rw [if_pos ⟨by omega, by omega⟩])
  obtain ⟨r, cap, rfl, _, _, hc0, _, _, _, hc⟩ := h.slice (by omega)
  have c1 := h.cpages
  have c2 := hc n hn
  obtain ⟨X, hX⟩ : ∃ X, a.pages[n] = X := ⟨_, rfl⟩
  rw [hX] at c2 ⊢
  obtain ⟨m, hm⟩ : ∃ m, a.pages.length = m := ⟨_, rfl⟩
  rw [hm] at c1 hn H
  have hn1 : (n : Int) < m := by omega
  have HM := Aside0.mk hm
  clear h hc hX hm
  go_enter Try.func86, Try.ntmps86
  go_wp2_with fail
  refine (area_asked n w H.out (by rw [HM.out]; omega)).mono ?_
  rw [HA.out]
  rintro e w1 ⟨rfl, hb⟩
  replace c1 := pw_cell_below hb c1
  replace c2 := pw_cell_below hb c2
  go_wp2
  go_ret2
  exact ⟨rfl, hb⟩
set_option maxHeartbeats 1000000 in
theorem area_Level_ok {base g : Nat} {v : Value} {a : AreaS} (n : Nat) (hn : n < a.pages.length) (hn2 : n < 200) (hl : 0 ≤ a.lv.getD n 0 ∧ a.lv.getD n 0 ≤ 255) (w : World) (h : AreaAt w base g v a) :
    Calls Try.prog 87 #[.pointer (some ⟨g, 0, none⟩), .int .i64 (n : Int)] w fun e w' => e = .returned (.tuple #[.int .i64 (a.lv.getD n 0), .int .i64 0]) ∧ Below w.heap.size w w' := by
  have H := Aside0.mk h
  have HA := Aside0.mk (show askedA a n = 0 by unfold askedA; rw [if_pos ⟨by omega, by omega⟩])
  have c1 := h.clv n hn2
  obtain ⟨X, hX⟩ : ∃ X, a.lv.getD n 0 = X := ⟨_, rfl⟩
  rw [hX] at c1 hl ⊢
  have hl1 := hl.1
  have hl2 := hl.2
  clear h hX hl
  have hn3 : (n : Int) < 200 := by omega
  go_enter Try.func87, Try.ntmps87
  go_wp2_with fail
  refine (area_asked n w H.out (by omega)).mono ?_
  rw [HA.out]
  rintro e w1 ⟨rfl, hb⟩
  replace c1 := pw_cell_below hb c1
  go_wp2
  go_ret2
  exact ⟨rfl, hb⟩

end Go.Proofs.Ytemglmcddaeedaa.PA

namespace Go.Proofs.Ytemglmcddaeedaa.PA
open Go.RowKit Go.Proofs.YtemglmcddaeedaaW.PrintWords Go.Proofs.YtemglmcddaeedaaW.PrintLast Go.Proofs.YtemglmcddaeedaaW.PrintMore
attribute [local go_sem] max2_int min2_int max_two min_two max_three min_three max_four min_four   -- for this text's walks alone
set_option linter.unusedVariables false
set_option linter.unusedSimpArgs false

/-! ### area_note: function 0 -/
theorem AreaAt.drewN {w : World} {base g : Nat} {v : Value} {a : AreaS} (h : AreaAt w base g v a) (n : Nat) : AreaAt (w.drewN n) base g v a := ⟨h.ge, h.blk, h.lv, h.row⟩
theorem RowK.set_other {α : Type} {enc : α → List Value} {k : Nat} {e : TypeId} {w : World} {base : Nat} {v : Value} {l : List α} (h : RowK enc k e w base v l) (p : Addr) (x : Value) (hne : v.ownBlock ≠ some p.block) : RowK enc k e (w.setCell p x) base v l := by
  rcases h with h | ⟨g, cap, sp, rfl, h1, hn, hm, hs, hg⟩
  · exact .inl h
  · exact .inr ⟨g, cap, sp, rfl, h1, hn, hm, hs, (Below.heap_setCell w p x g (fun e => hne (by rw [← e]; rfl))).trans hg⟩
theorem AreaAt.ne {w : World} {base g : Nat} {v : Value} {a : AreaS} (h : AreaAt w base g v a) : v.ownBlock ≠ some g := by
  rcases h.row with ⟨rfl, _⟩ | ⟨r, cap, sp, rfl, hb, hn2, hm, hs, hg⟩
  · simp [Value.ownBlock]
  · intro e
    have : r = g := by simpa [Value.ownBlock] using e
    exact blk_ne hg h.blk (by decide) this
theorem AreaAt.setlv {w : World} {base g : Nat} {v : Value} {a : AreaS} (h : AreaAt w base g v a) (n : Nat) (hn : n < 200) (x : Int) : AreaAt (w.setCell ⟨g, n, none⟩ (.int .u8 x)) base g v { a with lv := a.lv.set n x } := by
  refine ⟨h.ge, ?_, by simp [h.lv], h.row.set_other _ _ h.ne⟩
  rw [blk_set h.blk n (.int .u8 x)]
  have hl := h.lv
  have : (areaCells a v).toArray.setIfInBounds n (.int .u8 x) = (areaCells { a with lv := a.lv.set n x } v).toArray := by
    rw [List.setIfInBounds_toArray]
    unfold areaCells
    rw [List.set_append_left _ _ (by rw [nums_length]; omega)]
    simp [nums, List.map_set]
  rw [this]
set_option maxHeartbeats 1000000 in
set_option maxRecDepth 100000 in
theorem area_note (g : Nat) (n : Nat) (hn : n < 200) (room size : Int) (h0 : 0 ≤ room) (h1 : room ≤ size) (h2 : 32 ≤ size) (h3 : size ≤ 4096) (w : World) (t : TypeId) (cs : Array Value) (hg : w.heap[g]? = some (.cells cs t (0, 0))) (hcs : 200 ≤ cs.size) :
    Calls Try.prog 116 #[.pointer (some ⟨g, 0, none⟩), .int .i64 (n : Int), .int .i64 room, .int .i64 size] w fun e w' => e = .returned (.tuple #[]) ∧ ∃ m, w' = (w.drewN m).setCell ⟨g, n, none⟩ (.int .u8 (room * 8 / size)) := by
  obtain ⟨X, hX⟩ : ∃ X, cs[n]? = some X := ⟨cs[n]'(by omega), Array.getElem?_eq_getElem (by omega)⟩
  have c1 := (blk_cell hg n).trans hX
  have f1 := blk_frozen hg n
  have hq0 : 0 ≤ room * 8 / size := Int.ediv_nonneg (by omega) (by omega)
  have hq1 : room * 8 / size ≤ 255 := by
    have : room * 8 / size < 9 := Int.ediv_lt_of_lt_mul (by omega) (by omega)
    omega
  have hn1 : (n : Int) < 200 := by omega
  have e1 : IntKind.i64.wrap (room * 8) = room * 8 := by rw [IntKind.wrap_i64]; omega
  have e2 : Int.tdiv (room * 8) size = room * 8 / size := Int.tdiv_eq_ediv_of_nonneg (by omega)
  have e3 : IntKind.i64.wrap (room * 8 / size) = room * 8 / size := by rw [IntKind.wrap_i64]; omega
  have e4 : IntKind.u8.wrap (room * 8 / size) = room * 8 / size := by rw [IntKind.wrap_u8]; omega
  have hs0 : ¬ size = 0 := by omega
  have hs1 : (size == 0) = false := by simpa using hs0
  have hn0 : (0 : Int) ≤ n := by omega
  clear hg hcs hX
  go_enter Try.func116, Try.ntmps116
  go_wp2_with fail
  go_still_tail 10, (by kernel_rfl)
  repeat go_step
  go_end0
  exact ⟨rfl, 1, rfl⟩
/-- The room that page.Free tells. -/
def roomS (p : ByteArray) : Int := if validS p then (p.size : Int) - needsL (cellsP p) else 0
theorem roomS_range (p : ByteArray) (h : p.size ≤ 100000) : 0 ≤ roomS p ∧ roomS p ≤ p.size := by
  unfold roomS
  by_cases hv : validS p
  · rw [if_pos hv]
    obtain ⟨g1, g2, g3, g4⟩ := valid_reads p hv
    have h0 := lastL_nonneg g1
    unfold needsL at *
    unfold cellsP
    omega
  · rw [if_neg hv]; omega
theorem Free_room (p : ByteArray) (h : p.size ≤ 100000) : page_Free.f p = some (roomS p, if validS p then 0 else 1) := by
  unfold page_Free.f roomS
  rw [if_pos h]
  by_cases hv : validS p
  · rw [if_pos hv, if_pos hv, if_pos hv]; rfl
  · rw [if_neg hv, if_neg hv, if_neg hv]
set_option maxHeartbeats 1000000 in
set_option maxRecDepth 100000 in
theorem area_noted {base g : Nat} {v : Value} {a : AreaS} (n : Nat) (hn : n < a.pages.length) (hn2 : n < 200) (hs : 32 ≤ a.size ∧ a.size ≤ 4096) (hp : (a.pages[n].size : Int) = a.size) (w : World) (h : AreaAt w base g v a) :
    Calls Try.prog 80 #[.pointer (some ⟨g, 0, none⟩), .int .i64 (n : Int)] w fun e w' => e = .returned (.tuple #[]) ∧ AreaAt w' base g v { a with lv := a.lv.set n (roomS a.pages[n] * 8 / a.size) } ∧ Keep2 w w' g none := by
  have H := Aside0.mk h
  obtain ⟨r, cap, rfl, _, _, hc0, _, _, _, hc⟩ := h.slice (by omega)
  have c1 := h.cpages
  have c2 := hc n hn
  have c3 := h.csize
  have hR := roomS_range a.pages[n] (by omega)
  have HF := Aside0.mk (Free_room a.pages[n] (by omega))
  rw [hp] at hR
  obtain ⟨X, hX⟩ : ∃ X, a.pages[n] = X := ⟨_, rfl⟩
  rw [hX] at c2 HF hR ⊢
  obtain ⟨m, hm⟩ : ∃ m, a.pages.length = m := ⟨_, rfl⟩
  rw [hm] at c1 hn H
  obtain ⟨R, hRR⟩ : ∃ R, roomS X = R := ⟨_, rfl⟩
  rw [hRR] at HF hR ⊢
  obtain ⟨E, hE⟩ : ∃ E : Int, (if validS X then (0 : Int) else 1) = E := ⟨_, rfl⟩
  rw [hE] at HF
  clear hE
  obtain ⟨S, hS⟩ : ∃ S, a.size = S := ⟨_, rfl⟩
  rw [hS] at c3 hR hs ⊢
  have hR0 := hR.1
  have hR1 := hR.2
  have hs0 := hs.1
  have hs1 := hs.2
  have hn1 : (n : Int) < m := by omega
  have HM := Aside0.mk hm
  have HS := Aside0.mk hS
  clear h hX hm hRR hS hp hR hc hs
  go_enter Try.func80, Try.ntmps80
  go_wp2_with fail
  refine (page_Free.calls X R E w HF.out).mono ?_
  rintro e w1 ⟨rfl, hb⟩
  replace c1 := pw_cell_below hb c1
  replace c3 := pw_cell_below hb c3
  have H1 := Aside0.mk (H.out.below hb)
  have HB := Aside0.mk hb
  clear c2 hb
  go_wp2_with fail
  go_still_tail 9, (by kernel_rfl)
  go_wp2_with fail
  refine (area_note g n hn2 R S hR0 hR1 hs0 hs1 w1.drew 106 _ (show _ from H1.out.blk) (by simp [areaCells, nums_length, H1.out.lv])).mono ?_
  rintro e w2 ⟨rfl, q, rfl⟩
  go_wp2
  go_end0
  rw [HM.out]
  have h9 := (H1.out.drewN (1 + q)).setlv n hn2 (R * 8 / S)
  rw [HS.out] at h9
  exact ⟨rfl, h9, (Keep2.of_below HB.out g none).trans (((Keep2.refl w1 g none).drewN (1 + q)).trans (Keep2.set g n _ none) (.inl rfl)) (.inl rfl)⟩

end Go.Proofs.Ytemglmcddaeedaa.PA

namespace Go.Proofs.Ytemglmcddaeedaa.PA
open Go.RowKit Go.Proofs.YtemglmcddaeedaaW.PrintWords Go.Proofs.YtemglmcddaeedaaW.PrintLast Go.Proofs.YtemglmcddaeedaaW.PrintMore
attribute [local go_sem] max2_int min2_int max_two min_two max_three min_three max_four min_four   -- for this text's walks alone
set_option linter.unusedVariables false
set_option linter.unusedSimpArgs false

/-! ### area_more: function 0 -/
/-- The sum of the rooms. -/
def roomsL (l : List ByteArray) : Int := (l.map roomS).sum
theorem roomsL_take (l : List ByteArray) (i : Nat) (h : i < l.length) : roomsL (l.take (i + 1)) = roomsL (l.take i) + roomS l[i] := by
  unfold roomsL
  rw [List.take_succ_eq_append_getElem h, List.map_append, List.sum_append]
  simp only [List.map_cons, List.map_nil, List.sum_cons, List.sum_nil]; omega
theorem roomsL_range (l : List ByteArray) (h : ∀ p ∈ l, p.size ≤ 100000) : ∀ i, i ≤ l.length → 0 ≤ roomsL (l.take i) ∧ roomsL (l.take i) ≤ 100000 * i := by
  intro i
  induction i with
  | zero => intro _; simp [roomsL]
  | succ i ih =>
    intro hi
    have h1 := ih (by omega)
    have h2 := roomS_range l[i] (h _ (List.getElem_mem _))
    have h3 := h l[i] (List.getElem_mem _)
    rw [roomsL_take l i (by omega)]
    omega
set_option maxHeartbeats 1000000 in
set_option maxRecDepth 100000 in
theorem area_Free {base g : Nat} {v : Value} {a : AreaS} (hp : 0 < a.pages.length) (hp2 : a.pages.length ≤ 1000) (hs : ∀ p ∈ a.pages, p.size ≤ 100000) (w : World) (h : AreaAt w base g v a) :
    Calls Try.prog 84 #[.pointer (some ⟨g, 0, none⟩)] w fun e w' => e = .returned (.int .i64 (roomsL a.pages)) ∧ Below w.heap.size w w' := by
  obtain ⟨sz, l, lv⟩ := a
  dsimp only at *
  have H := Aside0.mk h
  have HS := Aside0.mk hs
  obtain ⟨r, cap, rfl, _, _, hc0, _, _, _, hc⟩ := h.slice hp
  dsimp only at hc hc0
  have HC := Aside0.mk hc
  have HP := Aside0.mk h.cpages
  dsimp only at HP
  clear h hc hs
  go_enter Try.func84, Try.ntmps84
  go_wp2_with fail
  refine (area_Pages w H.out hp).mono ?_
  dsimp only
  rintro e w1 ⟨rfl, hb⟩
  have HB := Aside0.mk hb
  clear hb
  go_wp2_with fail
  go_loopw [3, 9] (fun v3 v9 wr => ∃ i : Nat, i ≤ l.length ∧ v3 = .int .i64 (roomsL (l.take i)) ∧ v9 = .int .i64 (i : Int) ∧ Aside0 (Below w.heap.size w wr)) (fun _ v9 _ => l.length - (intOf v9).toNat)
  case atStart => exact ⟨0, by omega, by simp [roomsL], by simp, HB⟩
  case round =>
    obtain ⟨i, hi, rfl, rfl, HB⟩ := hrel
    by_cases hlt : i < l.length
    · have c1 := pw_cell_below HB.out HP.out
      have c2 := pw_cell_below HB.out (HC.out i hlt)
      have hpz := HS.out l[i] (List.getElem_mem _)
      have HF := Aside0.mk (Free_room l[i] hpz)
      have h1 := roomsL_range l HS.out i hi
      have h2 := roomS_range l[i] hpz
      have HT := Aside0.mk (roomsL_take l i hlt)
      obtain ⟨X, hX⟩ : ∃ X, l[i] = X := ⟨_, rfl⟩
      rw [hX] at c2 HF h2 HT hpz
      obtain ⟨S, hS⟩ : ∃ S, roomsL (l.take i) = S := ⟨_, rfl⟩
      rw [hS] at h1 HT
      simp only [hS]
      obtain ⟨R, hR⟩ : ∃ R, roomS X = R := ⟨_, rfl⟩
      rw [hR] at HF h2 HT
      obtain ⟨E, hE⟩ : ∃ E : Int, (if validS X then (0 : Int) else 1) = E := ⟨_, rfl⟩
      rw [hE] at HF
      have b1 := h1.1
      have b2 : S ≤ 100000000 := by omega
      have b3 := h2.1
      have b4 : R ≤ 100000 := by omega
      have hi1 : (i : Int) < l.length := by omega
      clear hX hS hR hE h1 h2
      go_wp2_with (go_at_call 25; refine (page_Free.calls X R E _ HF.out).mono ?_; rintro e w2 ⟨rfl, hb2⟩)
      go_roundw
      case rel => exact ⟨i + 1, by omega, by rw [HT.out], by go_num, ⟨below_then HB.out HB.out.size hb2⟩⟩
      case measure => simp [intOf]; omega
    · have HE := Aside0.mk (show l.take i = l from List.take_of_length_le (by omega))
      go_wp2
      go_ret
      exact ⟨by rw [HE.out]; rfl, HB.out⟩
/-- What may tells. -/
theorem area_may (g n : Nat) (hn : n < 200) (x bytes size : Int) (hx : 0 ≤ x ∧ x ≤ 255) (hb : 1 ≤ bytes ∧ bytes ≤ size) (h2 : 32 ≤ size) (h3 : size ≤ 4096) (w : World) (hc : w.cell? ⟨g, n, none⟩ = some (.int .u8 x)) :
    Calls Try.prog 128 #[.pointer (some ⟨g, 0, none⟩), .int .i64 (n : Int), .int .i64 bytes, .int .i64 size] w fun e w' => e = .returned (.bool (decide (bytes * 8 / size ≤ x))) ∧ Drawn0 w w' := by
  have e1 : IntKind.i64.wrap (bytes * 8) = bytes * 8 := by rw [IntKind.wrap_i64]; omega
  have e2 : Int.tdiv (bytes * 8) size = bytes * 8 / size := Int.tdiv_eq_ediv_of_nonneg (by omega)
  have q0 : 0 ≤ bytes * 8 / size := Int.ediv_nonneg (by omega) (by omega)
  have q1 : bytes * 8 / size < 9 := Int.ediv_lt_of_lt_mul (by omega) (by omega)
  have e3 : IntKind.i64.wrap (bytes * 8 / size) = bytes * 8 / size := by rw [IntKind.wrap_i64]; omega
  have hs0 : ¬ size = 0 := by omega
  have hs1 : (size == 0) = false := by simpa using hs0
  have hn0 : (0 : Int) ≤ n := by omega
  have hn1 : (n : Int) < 200 := by omega
  have hx0 := hx.1
  have hx1 := hx.2
  have e4 : IntKind.i64.wrap x = x := by rw [IntKind.wrap_i64]; omega
  clear hx hb
  go_enter Try.func128, Try.ntmps128
  go_wp2_with fail
  go_quiet (fail)
  go_wp2
  go_ret
  exact ⟨rfl, ⟨_, rfl⟩⟩
/-- What Get tells of a place. -/
def getA (a : AreaS) (n line : Int) : ByteArray × Int := if 0 ≤ n ∧ n < a.pages.length then getS (a.pages.getD n.toNat ⟨#[]⟩) line else (⟨#[]⟩, 7)
set_option maxHeartbeats 1000000 in
set_option maxRecDepth 100000 in
theorem area_Get {base g : Nat} {v : Value} {a : AreaS} (n line : Int) (hp : 0 < a.pages.length) (hs : ∀ p ∈ a.pages, p.size ≤ 100000) (w : World) (h : AreaAt w base g v a) :
    Calls Try.prog 75 #[.pointer (some ⟨g, 0, none⟩), .agg #[.int .i64 n, .int .i64 line]] w fun e w' => e = .returned (.tuple #[.string (getA a n line).1, .int .i64 (getA a n line).2]) ∧ Below w.heap.size w w' := by
  obtain ⟨sz, l, lv⟩ := a
  dsimp only at *
  have hb0 := blk_new w (.cells #[.int .i64 n, .int .i64 line] 93)
  have HB0 := Aside0.mk (below_alloc (Below.refl _ w) (.cells #[.int .i64 n, .int .i64 line] 93))
  have hA := h.below HB0.out
  obtain ⟨W, hW⟩ : ∃ W, w.alloc (.cells #[.int .i64 n, .int .i64 line] 93) = W := ⟨_, rfl⟩
  obtain ⟨b, hbb⟩ : ∃ b, w.heap.size = b := ⟨_, rfl⟩
  rw [hW, hbb] at hb0
  rw [hW] at hA HB0
  have d0 := (blk_cell hb0 0).trans rfl
  have d1 := (blk_cell hb0 1).trans rfl
  have H := Aside0.mk hA
  have HS := Aside0.mk hs
  have HP := Aside0.mk hp
  clear h hs hb0 hp
  by_cases hin : 0 ≤ n ∧ n < l.length
  · have HA := Aside0.mk (show askedA ⟨sz, l, lv⟩ n = 0 by unfold askedA; rw [if_pos hin])
    obtain ⟨m, rfl⟩ := Int.eq_ofNat_of_zero_le hin.1
    have hm : m < l.length := by omega
    obtain ⟨r, cap, rfl, _, _, hc0, _, _, _, hc⟩ := hA.slice (by dsimp only; omega)
    have HG := Aside0.mk (show getA ⟨sz, l, lv⟩ (m : Int) line = getS l[m] line by
      unfold getA; dsimp only; rw [if_pos hin, Int.toNat_natCast, List.getD_eq_getElem?_getD, List.getElem?_eq_getElem hm]; rfl)
    rw [HG.out]
    have hgf : page_Get.f l[m] line = some ((getS l[m] line).1, (getS l[m] line).2) := by unfold page_Get.f; rw [if_pos (HS.out _ (List.getElem_mem _))]
    have c1 := hA.cpages
    have c2 := hc m hm
    dsimp only at c1 c2
    obtain ⟨X, hX⟩ : ∃ X, l[m] = X := ⟨_, rfl⟩
    rw [hX] at c2 hgf ⊢
    obtain ⟨R1, hR1⟩ : ∃ R1, (getS X line).1 = R1 := ⟨_, rfl⟩
    obtain ⟨R2, hR2⟩ : ∃ R2, (getS X line).2 = R2 := ⟨_, rfl⟩
    rw [hR1, hR2] at hgf ⊢
    have HF := Aside0.mk hgf
    obtain ⟨N, hN⟩ : ∃ N, l.length = N := ⟨_, rfl⟩
    rw [hN] at c1 hm
    have hm1 : (m : Int) < N := by omega
    have hm0 : (0 : Int) ≤ m := by omega
    have HN := Aside0.mk hN
    clear hA hc hX hR1 hR2 hgf hin HG hN
    go_enter Try.func75, Try.ntmps75
    simp only [hW, hbb]
    go_wp2_with fail
    refine (area_asked (m : Int) W H.out HP.out).mono ?_
    rw [HA.out]
    rintro e w1 ⟨rfl, hb⟩
    replace c1 := pw_cell_below hb c1
    replace c2 := pw_cell_below hb c2
    replace d0 := pw_cell_below hb d0
    replace d1 := pw_cell_below hb d1
    have HB := Aside0.mk hb
    clear hb
    go_wp2_with fail
    go_region_held3 (fun w' => w'.cell? ⟨b, 0, none⟩ = some (.int .i64 (m : Int)) ∧ w'.cell? ⟨b, 1, none⟩ = some (.int .i64 line) ∧ w'.cell? ⟨g, 201, none⟩ = some (.slice (some ⟨r, 0, none⟩) N cap) ∧ w'.cell? ⟨r, m, none⟩ = some (.string X))
      (first | go_keep | exact ⟨pw_cell_below hb2 d0, pw_cell_below hb2 d1, pw_cell_below hb2 c1, pw_cell_below hb2 c2⟩)
      (first | (go_at_call 32; refine (page_Get.calls X line R1 R2 _ HF.out).mono ?_; rintro e w2 ⟨rfl, hb2⟩))
    go_wp2
    go_ret2
    exact ⟨rfl, hbb ▸ below_then HB0.out HB0.out.size (below_then (below_drew HB.out) HB.out.size hb2)⟩
  · have HA := Aside0.mk (show askedA ⟨sz, l, lv⟩ n = 7 by unfold askedA; rw [if_neg hin])
    have HG := Aside0.mk (show getA ⟨sz, l, lv⟩ n line = (⟨#[]⟩, 7) by unfold getA; dsimp only; rw [if_neg hin])
    rw [HG.out]
    clear hA hin HG
    go_enter Try.func75, Try.ntmps75
    simp only [hW, hbb]
    go_wp2_with fail
    refine (area_asked n W H.out HP.out).mono ?_
    rw [HA.out]
    rintro e w1 ⟨rfl, hb⟩
    go_wp2
    go_ret2
    exact ⟨rfl, hbb ▸ below_then HB0.out HB0.out.size hb⟩

end Go.Proofs.Ytemglmcddaeedaa.PA

namespace Go.Proofs.Ytemglmcddaeedaa.PA
open Go.RowKit Go.Proofs.YtemglmcddaeedaaW.PrintWords Go.Proofs.YtemglmcddaeedaaW.PrintLast Go.Proofs.YtemglmcddaeedaaW.PrintMore
attribute [local go_sem] max2_int min2_int max_two min_two max_three min_three max_four min_four   -- for this text's walks alone
set_option linter.unusedVariables false
set_option linter.unusedSimpArgs false

/-! ### area_New: function 0 -/
theorem reps_s (w : World) (base : Nat) (ok : Nat → Prop) (l : List ByteArray) : Reps (Kd.string.M w base ok) 1 l (encs_ sEnc l) := by
  refine ⟨encs_len sEnc_len l, fun j p hj => ?_⟩
  obtain ⟨hlt, he⟩ := List.getElem?_eq_some_iff.1 hj
  have : ((encs_ sEnc l).drop (j * 1)).take 1 = sEnc p := by
    rw [encs_drop sEnc_len l j (by omega), List.drop_eq_getElem_cons hlt, he, encs_cons]
    exact List.take_left' (sEnc_len p)
  rw [this]
  exact rfl
theorem s_of_reps {w : World} {base : Nat} {ok : Nat → Prop} : ∀ {l : List ByteArray} {cs : List Value}, Reps (Kd.string.M w base ok) 1 l cs → cs = encs_ sEnc l := by
  intro l
  induction l with
  | nil => intro cs h; exact List.eq_nil_of_length_eq_zero (by simpa using h.1)
  | cons x l ih =>
    intro cs h
    have h0 : (cs.drop (0 * 1)).take 1 = [.string x] := h.2 0 x rfl
    simp only [Nat.zero_mul, List.drop_zero] at h0
    have h1 : Reps (Kd.string.M w base ok) 1 l (cs.drop 1) := by
      refine ⟨by rw [List.length_drop, h.1, List.length_cons]; omega, fun j p hj => ?_⟩
      have := h.2 (j + 1) p (by simpa using hj)
      rw [show (j + 1) * 1 = 1 + j * 1 by omega, ← List.drop_drop] at this
      exact this
    rw [encs_cons, ← ih h1, show sEnc x = cs.take 1 from h0.symm, List.take_append_drop]
theorem sR_of_row {w : World} {base : Nat} {v : Value} {l : List ByteArray} (h : RowK sEnc 1 9 w base v l) : Kd.R Kd.string 9 w base (fun _ => True) v l :=
  ⟨fun _ _ => trivial, encs_ sEnc l, h.owns sEnc_len, reps_s _ _ _ _⟩
theorem row_of_sR {w : World} {base : Nat} {ok : Nat → Prop} {v : Value} {l : List ByteArray} (h : Kd.R Kd.string 9 w base ok v l) : RowK sEnc 1 9 w base v l := by
  obtain ⟨_, inner, ho, hr⟩ := h
  rw [s_of_reps hr] at ho
  exact RowK.of_owns sEnc_len ho
theorem AreaAt.setpages {w : World} {g base : Nat} {v v1 : Value} {a : AreaS} {l : List ByteArray} (hge : base ≤ g) (hb : w.heap[g]? = some (.cells (areaCells a v).toArray 106 (0, 0))) (hlv : a.lv.length = 200) (hr : RowK sEnc 1 9 w base v1 l) :
    AreaAt (w.setCell ⟨g, 201, none⟩ v1) base g v1 { a with pages := l } := by
  have hne : v1.ownBlock ≠ some g := by
    rcases hr with ⟨rfl, _⟩ | ⟨r, cap, sp, rfl, _, hn2, hm, hs, hg⟩
    · simp [Value.ownBlock]
    · intro e
      have : r = g := by simpa [Value.ownBlock] using e
      exact blk_ne hg hb (by decide) this
  refine ⟨hge, ?_, hlv, hr.set_other _ _ hne⟩
  rw [blk_set hb 201 v1]
  have : (areaCells a v).toArray.setIfInBounds 201 v1 = (areaCells { a with pages := l } v1).toArray := by
    rw [List.setIfInBounds_toArray]
    unfold areaCells
    rw [List.set_append_right _ _ (by rw [nums_length]; omega), nums_length, hlv]
    rfl
  rw [this]
theorem blk_pages {w : World} {g : Nat} {v : Value} {a : AreaS} {t : TypeId} (hb : w.heap[g]? = some (.cells (areaCells a v).toArray t (0, 0))) (hlv : a.lv.length = 200) : w.cell? ⟨g, 201, none⟩ = some v := by
  rw [blk_cell hb]
  simp only [areaCells, List.getElem?_toArray]
  rw [List.getElem?_append_right (by rw [nums_length, hlv]; omega), nums_length, hlv]; rfl
theorem zero_area (n : Int) : Try.zeroCells106.setIfInBounds 200 (.int .i64 n) = (areaCells ⟨n, [], zer 200⟩ (.slice none 0 0)).toArray := by kernel_rfl
theorem lv_step (L : Int) (i : Nat) (hi : i < 200) : (List.replicate i L ++ zer (200 - i)).set i L = List.replicate (i + 1) L ++ zer (200 - (i + 1)) := by
  have e : zer (200 - i) = 0 :: zer (200 - (i + 1)) := by rw [show 200 - i = (200 - (i + 1)) + 1 by omega]; rfl
  rw [e]
  have := set_at (List.replicate i L) (zer (200 - (i + 1))) 0 L
  rw [List.length_replicate] at this
  rw [this, List.replicate_succ']
  simp
set_option maxHeartbeats 1000000 in
set_option maxRecDepth 100000 in
theorem area_New_ok (n : Int) (hn : 32 ≤ n ∧ n ≤ 4096 ∧ n % 8 = 0) (k : Nat) (hk : 1 ≤ k ∧ k ≤ 200) (p : ByteArray) (hp : page_New.f 1 n = some (p, 0)) (hps : (p.size : Int) = n) (w : World) :
    Calls Try.prog 73 #[.int .i64 n, .int .i64 (k : Int)] w fun e w' => ∃ g v, e = .returned (.tuple #[.pointer (some ⟨g, 0, none⟩), .int .i64 0]) ∧
      AreaAt w' w.heap.size g v ⟨n, List.replicate k p, List.replicate k (roomS p * 8 / n) ++ zer (200 - k)⟩ ∧ Below w.heap.size w w' := by
  have HP := Aside0.mk hp
  have HN := Aside0.mk hn
  have HPS := Aside0.mk hps
  clear hp hn hps
  have hk1 : (1 : Int) ≤ k := by omega
  have hk2 : (k : Int) ≤ 200 := by omega
  have hk3 : decide ((k : Int) < 1) = false := decide_eq_false (by omega)
  have hk4 : decide ((200 : Int) < k) = false := decide_eq_false (by omega)
  go_enter Try.func73, Try.ntmps73
  go_wp2_with fail
  refine (page_New.calls 1 n p 0 w HP.out).mono ?_
  rintro e w1 ⟨rfl, hb⟩
  go_wp2_with fail
  rw [zero_area n]
  obtain ⟨g, hg⟩ : ∃ g, w1.heap.size = g := ⟨_, rfl⟩
  have hA0 : AreaAt (w1.alloc (.cells (areaCells ⟨n, [], zer 200⟩ (.slice none 0 0)).toArray 106)) w.heap.size g (.slice none 0 0) ⟨n, [], zer 200⟩ :=
    ⟨by rw [← hg]; exact hb.size, by rw [← hg]; exact blk_new _ _, by simp [zer], RowK.nil _ _ _⟩
  have hB0 : Below w.heap.size w (w1.alloc (.cells (areaCells ⟨n, [], zer 200⟩ (.slice none 0 0)).toArray 106)) := below_alloc hb _
  have HA0 := Aside0.mk hA0
  have HB0 := Aside0.mk hB0
  simp only [hg]
  clear hA0 hB0 hg hb
  go_loopw [29] (fun v29 wr => ∃ (i : Nat) (v : Value), i ≤ k ∧ v29 = .int .i64 (i : Int) ∧ Aside0 (AreaAt wr w.heap.size g v ⟨n, List.replicate i p, List.replicate i (roomS p * 8 / n) ++ zer (200 - i)⟩) ∧ Aside0 (Below w.heap.size w wr)) (fun v29 _ => k - (intOf v29).toNat)
  case atStart => exact ⟨0, _, by omega, rfl, HA0, HB0⟩
  case round =>
    clear HA0 HB0
    obtain ⟨i, v, hi, rfl, HA, HB⟩ := hrel
    by_cases hlt : i < k
    · have hlt1 : (i : Int) < k := by omega
      have HO := Aside0.mk (Kd.R_below (sR_of_row HA.out.row) (below_alloc (Below.refl _ wr) (.cells #[.string p] 9)))
      have hlen : (List.replicate i p).length = i := List.length_replicate ..
      obtain ⟨A, c, rfl, hc, _⟩ := Kd.R_reads HO.out
      rw [hlen] at HO HA hc
      have HR := Aside0.mk (show ReadsRow (Kd.string.M (wr.alloc (.cells #[.string p] 9)) w.heap.size (fun k => some k ≠ (Value.slice A i c).ownBlock)) 1 (wr.alloc (.cells #[.string p] 9)) (some ⟨wr.heap.size, 0, none⟩) 1 [p] from
        ⟨rfl, by omega, fun _ => ⟨_, rfl, fun j q hj => by
          match j, hj with
          | 0, hj =>
            cases hj
            exact ⟨[.string p], rfl, rfl, fun i u hu => by rw [Nat.zero_mul, Nat.zero_add, add_plain, blk_cell (blk_new wr _)]; simpa using hu⟩⟩⟩)
      have HB1 := Aside0.mk (below_alloc HB.out (.cells #[.string p] 9))
      have HG := Aside0.mk (blk_alloc HA.out.blk (.cells #[.string p] 9))
      have HNE := Aside0.mk HA.out.ne
      have HL := Aside0.mk hlen
      have HLV := Aside0.mk HA.out.lv
      have c1 := HA.out.cpages
      clear hlen
      go_wp2_with (at_builtin; go_must (refine Kd.R_append_rows Kd.string w.heap.size rfl (.tmp 36) (.tmp 38) 56 9 (.string ⟨#[]⟩) 16 rfl Try.underlying56 (by kernel_rfl) rfl (by decide) (by decide) _ (List.replicate i p) [p] _ 1 1 (fun _ => True) _ rfl rfl HO.out HR.out (fun _ _ h => h) (fun k h => ⟨trivial, h⟩) (fun _ _ => trivial) HB1.out HB1.out.size (by rw [HL.out]; omega) ?_); intro v1 w2 h1 h2 h3 h4; rw [← List.replicate_succ'] at h1; obtain ⟨A1, cc1, rfl, _, _⟩ := Kd.R_reads h1; rw [List.length_replicate] at h1; simp only [List.length_replicate]; have HG2 := blk_grown HG.out h3 (fun e => HNE.out e.symm); have f1 := blk_frozen HG2 201; have c2 := blk_pages HG2 HLV.out; have HQ := Aside0.mk (And.intro h1 (And.intro h2 (And.intro HG2 h3))); clear HG2 h1 h2 h3 h4)
      have hA1 : AreaAt (w2.setCell ⟨g, 201, none⟩ (.slice A1 (i + 1) cc1)) w.heap.size g (.slice A1 (i + 1) cc1) ⟨n, List.replicate (i + 1) p, List.replicate i (roomS p * 8 / n) ++ zer (200 - i)⟩ :=
        AreaAt.setpages (a := ⟨n, List.replicate i p, List.replicate i (roomS p * 8 / n) ++ zer (200 - i)⟩) HA.out.ge HQ.out.2.2.1 HLV.out (row_of_sR HQ.out.1)
      have hB1 : Below w.heap.size w (w2.setCell ⟨g, 201, none⟩ (.slice A1 (i + 1) cc1)) := HQ.out.2.1.setCell HA.out.ge _
      have HB2 := Aside0.mk hB1
      have hgt : (List.replicate (i + 1) p)[i]'(by simp) = p := by simp
      have hN := area_noted i (a := ⟨n, List.replicate (i + 1) p, List.replicate i (roomS p * 8 / n) ++ zer (200 - i)⟩) (by simp) (by omega) ⟨HN.out.1, HN.out.2.1⟩ (by simp only [hgt]; exact HPS.out) _ hA1
      have hst := lv_step (roomS p * 8 / n) i (by omega)
      simp only [hgt, hst] at hN
      have HNN := Aside0.mk hN
      have HGE := Aside0.mk HA.out.ge
      clear hA1 hB1 hN hgt hst HA HO HR HB1 HG HNE HL HLV HQ HB c1 c2 f1
      refine HNN.out.mono ?_
      rintro e w3 ⟨rfl, hA3, hK3⟩
      have HA3 := Aside0.mk hA3
      have HB3 := Aside0.mk (hK3.below HB2.out HB2.out.size HGE.out (by intro k hk; cases hk))
      clear hA3 hK3 HNN HB2
      go_wp2
      go_roundw
      case rel => exact ⟨i + 1, _, by omega, by go_num, HA3, HB3⟩
      case measure => simp [intOf]; omega
    · obtain rfl : i = k := by omega
      go_wp2
      go_ret2
      exact ⟨g, v, rfl, HA.out, HB.out⟩

end Go.Proofs.Ytemglmcddaeedaa.PA

namespace Go.Proofs.Ytemglmcddaeedaa.PA
open Go.RowKit Go.Proofs.YtemglmcddaeedaaW.PrintWords Go.Proofs.YtemglmcddaeedaaW.PrintLast Go.Proofs.YtemglmcddaeedaaW.PrintMore
attribute [local go_sem] max2_int min2_int max_two min_two max_three min_three max_four min_four   -- for this text's walks alone
set_option linter.unusedVariables false
set_option linter.unusedSimpArgs false

/-! ### area_near: function 0 -/
attribute [local go_sem] Oper.semAt_some
def nearV (f n : Nat) (i : Nat) : Array Value := #[.int .i64 (((f : Int) + (i : Int)) % (n : Int))]
set_option maxHeartbeats 4000000 in
set_option maxRecDepth 100000 in
theorem near1_iter (f n : Nat) (hf : f < n) (hn : n ≤ 1000) (ab fb g r cap : Nat) :
    IterC Try.prog 136 #[.pointer (some ⟨ab, 0, none⟩), .pointer (some ⟨fb, 0, none⟩)] 1 ((List.range n).map (nearV f n))
      (fun W => W.cell? ⟨ab, 0, none⟩ = some (.pointer (some ⟨g, 0, none⟩)) ∧ W.cell? ⟨fb, 0, none⟩ = some (.int .i64 (f : Int)) ∧ W.cell? ⟨g, 201, none⟩ = some (.slice (some ⟨r, 0, none⟩) n cap)) := by
  intro l rec J R W hps hJd hJK hJl hRd hround hdone h0
  have HJd := Aside0.mk hJd
  have HJK := Aside0.mk hJK
  have HJl := Aside0.mk hJl
  have HRd := Aside0.mk hRd
  have HR := Aside0.mk hround
  have HD := Aside0.mk hdone
  have HPS := Aside0.mk hps
  clear hJd hJK hJl hRd hround hdone hps
  obtain ⟨hb1, hb2, hb3⟩ := HJK.out 0 W h0
  have H0 := Aside0.mk h0
  clear h0
  refine callsIn_of_wp Try.func136 rfl trivial ?_ rfl
  simp only [Try.ntmps136, List.size_toArray, List.length_cons, List.length_nil, Nat.reduceAdd, Nat.reduceSub, Array.replicate_succ, Array.replicate_zero, List.push_toArray, List.append_toArray, List.nil_append, List.cons_append]
  gi_wp2_with fail
  gi_loopw [10] (fun v10 wr => ∃ i : Nat, i ≤ n ∧ v10 = .int .i64 (i : Int) ∧ Aside0 (J i wr)) (fun v10 _ => n - (intOf v10).toNat)
  case atStart => exact ⟨0, by omega, by simp, H0⟩
  case round =>
    clear H0 hb1 hb2 hb3
    obtain ⟨i, hi, rfl, HI⟩ := hrel
    by_cases hlt : i < n
    · obtain ⟨hb1, hb2, hb3⟩ := HJK.out i wr HI.out
      have hl := HJl.out i wr HI.out
      have hlt' : (i : Int) < n := by omega
      have hx1 : IntKind.i64.wrap ((f : Int) + (i : Int)) = (f : Int) + (i : Int) := IntWalk.i64_in _ (by omega)
      have hx2 : Int.tmod ((f : Int) + (i : Int)) (n : Int) = ((f : Int) + (i : Int)) % (n : Int) := Int.tmod_eq_emod_of_nonneg (by omega)
      have hq0 : 0 ≤ ((f : Int) + (i : Int)) % (n : Int) := Int.emod_nonneg _ (by omega)
      have hq1 : ((f : Int) + (i : Int)) % (n : Int) < n := Int.emod_lt_of_pos _ (by omega)
      have hx3 : IntKind.i64.wrap (((f : Int) + (i : Int)) % (n : Int)) = ((f : Int) + (i : Int)) % (n : Int) := IntWalk.i64_in _ (by omega)
      have hn0 : ¬ ((n : Int) = 0) := by omega
      have hn1 : ((n : Int) == 0) = false := by simpa using hn0
      have hv : ((List.range n).map (nearV f n))[i]? = some (nearV f n i) := by simp [hlt]
      have hr := fun m => HR.out i (nearV f n i) (wr.drewN m) hv (HJd.out i wr m HI.out)
      have hy : ∀ m, (Instr.yield l (nearV f n i)).run Try.prog (wr.drewN m) = .ok (.round l rec.fn ((rec.params.zip (nearV f n i)).foldl (fun tmps (t, a) => tmps.setIfInBounds t a) rec.tmps) rec.assign rec.body) (wr.drewN m) :=
        fun m => run_yield hl (by rw [HPS.out]; rfl)
      obtain ⟨tm, htm⟩ : ∃ tm, ((rec.params.zip (nearV f n i)).foldl (fun tmps (t, a) => tmps.setIfInBounds t a) rec.tmps) = tm := ⟨_, rfl⟩
      simp only [RoundOf, htm] at hr
      rw [htm] at hy
      unfold nearV at hy
      have hyd := hy 1
      have hrd := hr 1
      rw [show wr.drewN 1 = wr.drew from rfl] at hyd hrd
      have HR1 := Aside0.mk hrd
      clear hr hy hrd htm hv hl
      have hmo : Try.prog.follows .mixedOrders = true := by kernel_rfl
      gi_wp2_with fail
      gi_region_with_o (first
        | (with_reducible refine ⟨rfl, ?_⟩; (with_reducible refine HR1.out.mono ?_); rintro e W3 (⟨go, rfl, hJ3, hR3⟩ | ⟨ch, rfl, hR3⟩); rotate_left; (simp +zetaDelta only [Exit.then, Exit.inBlock, bodyPost]; exact ⟨trivial, hR3⟩)))
      all_goals
        cases go
        · gi_wp2_with fail
          refine bodyPost_ret (results_none rfl _ _ _) rfl (hR3 (by first | rfl | trivial))
        · have HJ4 := Aside0.mk (hJ3 rfl)
          clear hJ3 hR3
          gi_wp2_with fail
          go_roundw
          case rel => exact ⟨i + 1, by omega, by go_num, HJ4⟩
          case measure => simp [intOf]; omega
    · gi_wp2_with fail
      go_end0
      exact HD.out _ (by have h1 : i = n := by omega
                         subst h1; simpa using HI.out)

end Go.Proofs.Ytemglmcddaeedaa.PA

namespace Go.Proofs.Ytemglmcddaeedaa.PA
open Go.RowKit Go.Proofs.YtemglmcddaeedaaW.PrintWords Go.Proofs.YtemglmcddaeedaaW.PrintLast Go.Proofs.YtemglmcddaeedaaW.PrintMore
attribute [local go_sem] max2_int min2_int max_two min_two max_three min_three max_four min_four   -- for this text's walks alone
set_option linter.unusedVariables false
set_option linter.unusedSimpArgs false

/-! ### page_Fits: function 129 -/
attribute [local go_sem] max2_int max_two
def maxL (l : List S45) : Int := if leastL l ≤ lastL l then lastL l else leastL l
def fitsS (p : ByteArray) (b : Int) : Bool := decide (leastL (cellsP p) ≤ 200 ∧ b ≤ p.size ∧ 2 + 4 * maxL (cellsP p) + (bytesL (cellsP p) : Int) + b ≤ p.size)
def page_Fits.f (a0 : ByteArray) (a1 : Int) : Option (Bool × Int) := if a0.size ≤ 100000 ∧ 1 ≤ a1 ∧ a1 ≤ 100000 ∧ validS a0 then some (fitsS a0 a1, 0) else none
set_option maxHeartbeats 2000000 in
set_option maxRecDepth 100000 in
theorem page_Fits.calls (a0 : ByteArray) (a1 : Int) (r1 : Bool) (r2 : Int) (w : World) (h : page_Fits.f a0 a1 = some (r1, r2)) :
    Calls Try.prog 129 #[.string a0, .int .i64 a1] w fun e w' => e = .returned (.tuple #[.bool r1, .int .i64 r2]) ∧ Below w.heap.size w w' := by
  unfold page_Fits.f at h
  split at h
  rotate_left
  · cases h
  rename_i hs
  obtain ⟨hs1, hb1, hb2, hv⟩ := hs
  obtain ⟨rfl, rfl⟩ := Prod.mk.inj (Option.some.inj h)
  clear h
  obtain ⟨k1, k2, k3, k4, k5⟩ := cellsP_ok hv
  have hN : page_Next.f a0 = some (if leastL (cellsP a0) > 200 then (0, 13) else (leastL (cellsP a0), 0)) := by unfold page_Next.f; rw [if_pos hs1, if_pos hv]; rfl
  have HCF := Aside0.mk (cells_f hv)
  have hlr := leastL_range (cellsP a0) (cellsP a0).length (Nat.le_refl _)
  rw [List.take_length] at hlr
  have hln := lastL_nonneg k1
  have HFS := Aside0.mk (show fitsS a0 a1 = decide (leastL (cellsP a0) ≤ 200 ∧ a1 ≤ a0.size ∧ 2 + 4 * maxL (cellsP a0) + (bytesL (cellsP a0) : Int) + a1 ≤ a0.size) from rfl)
  obtain ⟨l, hl⟩ : ∃ l, cellsP a0 = l := ⟨_, rfl⟩
  rw [hl] at hN HCF hlr hln k1 k2 k3 HFS
  clear hl hv
  have d0 : decide (a1 < 0) = false := decide_eq_false (by omega)
  have d1 : (a1 == 0) = false := by simpa using (show ¬ a1 = 0 by omega)
  by_cases hbig : leastL l > 200
  · rw [if_pos hbig] at hN
    have HN := Aside0.mk hN
    rw [HFS.out, decide_eq_false (fun h => by omega)]
    clear hN hlr hln hbig
    go_enter Try.func129, Try.ntmps129
    go_wp2_with (go_at_call 27; refine (page_Next.calls a0 0 13 _ HN.out).mono ?_; rintro e w1 ⟨rfl, hb⟩)
    go_ret2
    exact ⟨rfl, hb⟩
  · rw [if_neg hbig] at hN
    by_cases hlen : a1 > (a0.size : Int)
    · have d2 : decide ((a0.size : Int) < a1) = true := decide_eq_true (by omega)
      rw [HFS.out, decide_eq_false (fun h => by omega)]
      have HN := Aside0.mk hN
      clear hN hlr hln hbig
      obtain ⟨L, hL⟩ : ∃ L, leastL l = L := ⟨_, rfl⟩
      rw [hL] at HN
      clear hL
      go_enter Try.func129, Try.ntmps129
      go_wp2_with (go_at_call 27; refine (page_Next.calls a0 L 0 _ HN.out).mono ?_; rintro e w1 ⟨rfl, hb⟩)
      go_ret2
      exact ⟨rfl, hb⟩
    · have d2 : decide ((a0.size : Int) < a1) = false := decide_eq_false (by omega)
      have hbt := bytesL_take_le l
      have HE := Aside0.mk (show fitsS a0 a1 = decide (2 + 4 * maxL l + (bytesL l : Int) + a1 ≤ a0.size) by
        rw [HFS.out, decide_eq_decide]; exact ⟨fun h => h.2.2, fun h => ⟨by omega, by omega, h⟩⟩)
      rw [HE.out]
      clear HFS
      have HN := Aside0.mk hN
      have HM := Aside0.mk (show maxL l = if leastL l ≤ lastL l then lastL l else leastL l from rfl)
      have HBT := Aside0.mk hbt
      have HLR := Aside0.mk (lastL_rd l)
      obtain ⟨L, hL⟩ : ∃ L, leastL l = L := ⟨_, rfl⟩
      obtain ⟨M, hM⟩ : ∃ M, lastL l = M := ⟨_, rfl⟩
      obtain ⟨X, hX⟩ : ∃ X, maxL l = X := ⟨_, rfl⟩
      rw [hL] at HN hlr hbig
      rw [hL, hM, hX] at HM
      rw [hM] at hln HLR
      rw [hX]
      have hL1 := hlr.1
      have hL2 : L ≤ 200 := by omega
      have hM1 := hln.1
      have hM2 := hln.2
      have hx1 : 0 ≤ X ∧ X ≤ 200 := by rw [HM.out]; split <;> omega
      have hx2 := hx1.1
      have hx3 := hx1.2
      have HX := Aside0.mk hX
      have HML := Aside0.mk hM
      clear hN hL hM hX hbt hlr hln hx1 hbig HE
      by_cases hz : 0 < l.length
      · have hd : decide (0 < l.length) = true := decide_eq_true hz
        have hl0 : (0 : Int) < l.length := by omega
        have HLR1 := Aside0.mk (HLR.out hz)
        by_cases hLM : L < M
        · obtain rfl : X = M := by rw [HM.out, if_pos (by omega)]
          have hd2 : decide (L < X) = true := decide_eq_true hLM
          go_enter Try.func129, Try.ntmps129
          go_wp2_with (go_at_call 27; refine (page_Next.calls a0 L 0 _ HN.out).mono ?_; rintro e w1 ⟨rfl, hb⟩)
          refine (page_cells.calls a0 l _ HCF.out).mono ?_
          rintro e w2 ⟨v, rfl, hR, hb2⟩
          have HB := Aside0.mk (below_then hb hb.size hb2)
          obtain ⟨A, c, rfl, hc, hC⟩ := Kd.R_reads hR
          have HC := Aside0.mk hC
          clear hR hC hb hb2
          obtain ⟨ad, e1, hx0, hx1⟩ := at_T45 HC.out ((l.length : Int) - 1) (by omega) (by omega)
          cases e1
          rw [show ((l.length : Int) - 1).toNat = l.length - 1 by omega, ← HLR1.out] at hx0
          clear hx1
          go_wp2_with fail
          go_loopw [10, 55] (fun v10 v55 wr => ∃ i : Nat, i ≤ l.length ∧ v10 = .int .i64 (bytesL (l.take i) : Int) ∧ v55 = .int .i64 (i : Int) ∧ Aside0 (Below w.heap.size w wr) ∧ Aside0 (Kd.C k45 wr (some ad) l.length l)) (fun _ v55 _ => l.length - (intOf v55).toNat)
          case atStart => exact ⟨0, by omega, by simp [bytesL], by simp, HB, HC⟩
          case round =>
            clear HB HC
            obtain ⟨i, hi, rfl, rfl, HB, HC⟩ := hrel
            by_cases hlt : i < l.length
            · obtain ⟨ad2, e2, hy0, hy1⟩ := at_T45 HC.out (i : Int) (by omega) (by omega)
              cases e2
              rw [rd_get l i hlt] at hy0 hy1
              simp only [Int.toNat_natCast] at hy0 hy1
              have hT := bytesL_take_succ l i hlt
              have hT1 := HBT.out (i + 1)
              obtain ⟨Y, hY⟩ : ∃ Y, l[i] = Y := ⟨_, rfl⟩
              rw [hY] at hy0 hy1 hT
              obtain ⟨S, hS⟩ : ∃ S, bytesL (l.take i) = S := ⟨_, rfl⟩
              rw [hS] at hT
              simp only [hS]
              have hs4 : (S : Int) + Y.f1.size ≤ 5000 := by omega
              have hi1 : (i : Int) < l.length := by omega
              have HT := Aside0.mk hT
              have hbk := blk_new wr (.cells #[.int .i64 Y.f0, .string Y.f1] 45)
              have c0 := (blk_cell hbk 0).trans rfl
              have c1 := (blk_cell hbk 1).trans rfl
              have HB2 := Aside0.mk (below_alloc HB.out (.cells #[.int .i64 Y.f0, .string Y.f1] 45))
              have HC2 := Aside0.mk (Kd.C_below HC.out (below_alloc (Below.refl _ wr) (.cells #[.int .i64 Y.f0, .string Y.f1] 45)))
              clear hY hS hT hT1 hbk HB HC
              go_wp2
              go_roundw
              case rel => exact ⟨i + 1, by omega, by rw [HT.out]; go_num, by go_num, HB2, HC2⟩
              case measure => simp [intOf]; omega
            · have HE := Aside0.mk (show l.take i = l from List.take_of_length_le (by omega))
              simp only [HE.out]
              have hby : (bytesL l : Int) ≤ 5000 := by omega
              have hby0 : (0 : Int) ≤ bytesL l := by omega
              go_wp2
              go_ret2
              exact ⟨by rfl, HB.out⟩
        · obtain rfl : X = L := by rw [HM.out]; split <;> omega
          have hd2 : decide (X < M) = false := decide_eq_false hLM
          go_enter Try.func129, Try.ntmps129
          go_wp2_with (go_at_call 27; refine (page_Next.calls a0 X 0 _ HN.out).mono ?_; rintro e w1 ⟨rfl, hb⟩)
          refine (page_cells.calls a0 l _ HCF.out).mono ?_
          rintro e w2 ⟨v, rfl, hR, hb2⟩
          have HB := Aside0.mk (below_then hb hb.size hb2)
          obtain ⟨A, c, rfl, hc, hC⟩ := Kd.R_reads hR
          have HC := Aside0.mk hC
          clear hR hC hb hb2
          obtain ⟨ad, e1, hx0, hx1⟩ := at_T45 HC.out ((l.length : Int) - 1) (by omega) (by omega)
          cases e1
          rw [show ((l.length : Int) - 1).toNat = l.length - 1 by omega, ← HLR1.out] at hx0
          clear hx1
          go_wp2_with fail
          go_loopw [10, 55] (fun v10 v55 wr => ∃ i : Nat, i ≤ l.length ∧ v10 = .int .i64 (bytesL (l.take i) : Int) ∧ v55 = .int .i64 (i : Int) ∧ Aside0 (Below w.heap.size w wr) ∧ Aside0 (Kd.C k45 wr (some ad) l.length l)) (fun _ v55 _ => l.length - (intOf v55).toNat)
          case atStart => exact ⟨0, by omega, by simp [bytesL], by simp, HB, HC⟩
          case round =>
            clear HB HC
            obtain ⟨i, hi, rfl, rfl, HB, HC⟩ := hrel
            by_cases hlt : i < l.length
            · obtain ⟨ad2, e2, hy0, hy1⟩ := at_T45 HC.out (i : Int) (by omega) (by omega)
              cases e2
              rw [rd_get l i hlt] at hy0 hy1
              simp only [Int.toNat_natCast] at hy0 hy1
              have hT := bytesL_take_succ l i hlt
              have hT1 := HBT.out (i + 1)
              obtain ⟨Y, hY⟩ : ∃ Y, l[i] = Y := ⟨_, rfl⟩
              rw [hY] at hy0 hy1 hT
              obtain ⟨S, hS⟩ : ∃ S, bytesL (l.take i) = S := ⟨_, rfl⟩
              rw [hS] at hT
              simp only [hS]
              have hs4 : (S : Int) + Y.f1.size ≤ 5000 := by omega
              have hi1 : (i : Int) < l.length := by omega
              have HT := Aside0.mk hT
              have hbk := blk_new wr (.cells #[.int .i64 Y.f0, .string Y.f1] 45)
              have c0 := (blk_cell hbk 0).trans rfl
              have c1 := (blk_cell hbk 1).trans rfl
              have HB2 := Aside0.mk (below_alloc HB.out (.cells #[.int .i64 Y.f0, .string Y.f1] 45))
              have HC2 := Aside0.mk (Kd.C_below HC.out (below_alloc (Below.refl _ wr) (.cells #[.int .i64 Y.f0, .string Y.f1] 45)))
              clear hY hS hT hT1 hbk HB HC
              go_wp2
              go_roundw
              case rel => exact ⟨i + 1, by omega, by rw [HT.out]; go_num, by go_num, HB2, HC2⟩
              case measure => simp [intOf]; omega
            · have HE := Aside0.mk (show l.take i = l from List.take_of_length_le (by omega))
              simp only [HE.out]
              have hby : (bytesL l : Int) ≤ 5000 := by omega
              have hby0 : (0 : Int) ≤ bytesL l := by omega
              go_wp2
              go_ret2
              exact ⟨by rfl, HB.out⟩
      · have hd : decide (0 < l.length) = false := decide_eq_false hz
        obtain rfl : X = L := by
          have : l = [] := List.eq_nil_of_length_eq_zero (by omega)
          have h0 : M = 0 := by rw [← HML.out, this]; rfl
          rw [HM.out]; split <;> omega
        go_enter Try.func129, Try.ntmps129
        go_wp2_with (go_at_call 27; refine (page_Next.calls a0 X 0 _ HN.out).mono ?_; rintro e w1 ⟨rfl, hb⟩)
        refine (page_cells.calls a0 l _ HCF.out).mono ?_
        rintro e w2 ⟨v, rfl, hR, hb2⟩
        have HB := Aside0.mk (below_then hb hb.size hb2)
        obtain ⟨A, c, rfl, hc, hC⟩ := Kd.R_reads hR
        have HC := Aside0.mk hC
        clear hR hC hb hb2
        go_wp2_with fail
        go_loopw [10, 55] (fun v10 v55 wr => ∃ i : Nat, i ≤ l.length ∧ v10 = .int .i64 (bytesL (l.take i) : Int) ∧ v55 = .int .i64 (i : Int) ∧ Aside0 (Below w.heap.size w wr) ∧ Aside0 (Kd.C k45 wr A l.length l)) (fun _ v55 _ => l.length - (intOf v55).toNat)
        case atStart => exact ⟨0, by omega, by simp [bytesL], by simp, HB, HC⟩
        case round =>
          clear HB HC
          obtain ⟨i, hi, rfl, rfl, HB, HC⟩ := hrel
          by_cases hlt : i < l.length
          · exact absurd hlt (by omega)
          · have HE := Aside0.mk (show l.take i = l from List.take_of_length_le (by omega))
            simp only [HE.out]
            have hby : (bytesL l : Int) ≤ 5000 := by omega
            have hby0 : (0 : Int) ≤ bytesL l := by omega
            go_wp2
            go_ret2
            exact ⟨by rfl, HB.out⟩

end Go.Proofs.Ytemglmcddaeedaa.PA

namespace Go.Proofs.Ytemglmcddaeedaa.PA
open Go.RowKit Go.Proofs.YtemglmcddaeedaaW.PrintWords Go.Proofs.YtemglmcddaeedaaW.PrintLast Go.Proofs.YtemglmcddaeedaaW.PrintMore
attribute [local go_sem] max2_int min2_int max_two min_two max_three min_three max_four min_four   -- for this text's walks alone
set_option linter.unusedVariables false
set_option linter.unusedSimpArgs false

/-! ### area_find: function 0 -/
attribute [local go_sem] Oper.semAt_some
theorem leavesM_ret1 {P : Program} {fn : Func} {tmps : Array Value} {R : Ending → World → Prop} {v : Value} {W : World} {D : Nat} (hD : W.heap[D]? = some (.deferred (some [])))
    (hr : (results fn tmps).run P (W.putObj D (.deferred none)) = .ok v (W.putObj D (.deferred none))) (hR : R (.returned v) (W.putObj D (.deferred none))) : LeavesInM Fence.wide 0 P fn tmps R [{ target := .collected D, args := #[] }] .returning W :=
  ⟨by simp, .inl ⟨D, _, rfl, run_takeDeferred hD, v, hr, hR⟩⟩
theorem wpIn_hideP {P : Program} {F : Fence} {n : Nat} {c : Code} {Q : Exit → Act → World → Prop} {a : Act} {w : World} (hn : ∀ a w, ¬ Q .outgrown a w) (hp : ∀ ch a d v w, Q (.panic ch) (Act.put a d v) w → Q (.panic ch) a w)
    (h : ∀ Q', Aside0 (∀ e a w, Q e a w → Q' e a w) → Aside0 (∀ a w, ¬ Q' .outgrown a w) → Aside0 (∀ ch a d v w, Q' (.panic ch) (Act.put a d v) w → Q' (.panic ch) a w) → c.wpIn F n P Q' a w) : c.wpIn F n P Q a w := h Q (Aside0.mk fun _ _ _ h => h) (Aside0.mk hn) (Aside0.mk hp)
/-- Whether the j-th page that is looked at is taken. -/
def tryAt (a : AreaS) (f : Nat) (bytes : Int) (j : Nat) : Bool :=
  decide (bytes * 8 / a.size ≤ a.lv.getD ((f + j) % a.pages.length) 0) && fitsS (a.pages.getD ((f + j) % a.pages.length) ⟨#[]⟩) bytes
def findA (a : AreaS) (f : Nat) (bytes : Int) : Int × Int :=
  match (List.range a.pages.length).find? (tryAt a f bytes) with
  | some j => ((((f + j) % a.pages.length : Nat) : Int), 0)
  | none => (0, 13)
set_option maxHeartbeats 4000000 in
set_option maxRecDepth 100000 in
theorem near_calls (g : Nat) (f : Int) (w : World) : Calls Try.prog 127 #[.pointer (some ⟨g, 0, none⟩), .int .i64 f] w fun e w' =>
    e = .returned (.func (.func 136) #[] #[.pointer (some ⟨w.heap.size, 0, none⟩), .pointer (some ⟨w.heap.size + 1, 0, none⟩)]) ∧ w' = (w.alloc (.cells #[.pointer (some ⟨g, 0, none⟩)] 53)).alloc (.cells #[.int .i64 f] 3) := by
  go_enter Try.func127, Try.ntmps127
  go_wp2
  go_ret
  exact ⟨rfl, rfl⟩
set_option maxHeartbeats 4000000 in
set_option maxRecDepth 100000 in
theorem area_Find_loop {base g : Nat} {v : Value} {a : AreaS} (f : Nat) (hf : f < a.pages.length) (hn : a.pages.length ≤ 200) (bytes : Int) (hb0 : 1 ≤ bytes) (hb1 : bytes ≤ a.size) (hs : 32 ≤ a.size ∧ a.size ≤ 4096)
    (hlv : ∀ i, i < 200 → 0 ≤ a.lv.getD i 0 ∧ a.lv.getD i 0 ≤ 255) (hfit : ∀ p ∈ a.pages, validS p) (w : World) (h : AreaAt w base g v a) :
    Calls Try.prog 114 #[.pointer (some ⟨g, 0, none⟩), .int .i64 (f : Int), .int .i64 bytes] w fun e w' => e = .returned (.tuple #[.int .i64 (findA a f bytes).1, .int .i64 (findA a f bytes).2]) ∧ Below w.heap.size w w' := by
  refine calls_of_wpX Try.func114 rfl ?_
  simp only [Try.ntmps114, List.size_toArray, List.length_cons, List.length_nil, Nat.reduceAdd, Nat.reduceSub, Array.replicate_succ, Array.replicate_zero, List.push_toArray, List.append_toArray, List.nil_append, List.cons_append]
  obtain ⟨R, hR⟩ : ∃ R : Ending → World → Prop, (fun e w' => e = .returned (.tuple #[.int .i64 (findA a f bytes).1, .int .i64 (findA a f bytes).2]) ∧ Below w.heap.size w w') = R := ⟨_, rfl⟩
  rw [hR]
  have HR := Aside0.mk hR
  have HF := Aside0.mk hfit
  have HLV := Aside0.mk hlv
  have HA := Aside0.mk (show askedA a (f : Int) = 0 by unfold askedA; rw [if_pos ⟨by omega, by omega⟩])
  obtain ⟨r, cap, rfl, _, _, hc0, _, _, _, hc⟩ := h.slice (by omega)
  have HC := Aside0.mk hc
  have HH := Aside0.mk h
  clear hR hfit hlv hc h
  obtain ⟨b, hb⟩ : ∃ b, w.heap.size = b := ⟨_, rfl⟩
  obtain ⟨W0, hW⟩ : ∃ W, (((w.alloc (.cells #[.pointer (some ⟨g, 0, none⟩)] 53)).alloc (.cells #[.int .i64 bytes] 3)).alloc (.cells #[.int .i64 0] 3)).alloc (.cells #[.int .i64 0] 28) = W := ⟨_, rfl⟩
  have hsz : W0.heap.size = b + 4 := by rw [← hW, ← hb]; simp
  have hB0 : Below w.heap.size w W0 := by rw [← hW]; exact below_alloc (below_alloc (below_alloc (below_alloc (Below.refl _ w) _) _) _) _
  have h0 : W0.heap[b]? = some (.cells #[.pointer (some ⟨g, 0, none⟩)] 53) := by rw [← hW, ← hb]; exact blk_alloc (blk_alloc (blk_alloc (blk_new _ _) _) _) _
  have h1 : W0.heap[b + 1]? = some (.cells #[.int .i64 bytes] 3) := by rw [← hW, ← hb]; have := blk_alloc (blk_alloc (blk_new (w.alloc (.cells #[.pointer (some ⟨g, 0, none⟩)] 53)) (.cells #[.int .i64 bytes] 3)) (.cells #[.int .i64 0] 3)) (.cells #[.int .i64 0] 28); simpa using this
  have h2 : W0.heap[b + 2]? = some (.cells #[.int .i64 0] 3) := by rw [← hW, ← hb]; have := blk_alloc (blk_new ((w.alloc (.cells #[.pointer (some ⟨g, 0, none⟩)] 53)).alloc (.cells #[.int .i64 bytes] 3)) (.cells #[.int .i64 0] 3)) (.cells #[.int .i64 0] 28); simpa using this
  have h3 : W0.heap[b + 3]? = some (.cells #[.int .i64 0] 28) := by rw [← hW, ← hb]; have := blk_new (((w.alloc (.cells #[.pointer (some ⟨g, 0, none⟩)] 53)).alloc (.cells #[.int .i64 bytes] 3)).alloc (.cells #[.int .i64 0] 3)) (.cells #[.int .i64 0] 28); simpa using this
  have hH0 := HH.out.below hB0
  have c0 := (blk_cell h0 0).trans rfl
  have c1 := (blk_cell h1 0).trans rfl
  have HZ := Aside0.mk hH0.csize
  have HB0 := Aside0.mk hB0
  have HBK := Aside0.mk (And.intro h0 (And.intro h1 (And.intro h2 h3)))
  have HH0 := Aside0.mk hH0
  have HSZ := Aside0.mk hsz
  have HB := Aside0.mk hb
  have d1 : decide (bytes < 1) = false := decide_eq_false (by omega)
  have d2 : decide (a.size < bytes) = false := decide_eq_false (by omega)
  clear h0 h1 h2 h3 hH0 hB0 hsz
  refine wpX_seq_k ?_
  intro K hK
  go_wp2_with fail
  simp only [hb, hW, Nat.add_assoc, Nat.reduceAdd]
  clear hW hb
  refine wpX_seq_k ?_
  intro K1 hK1
  go_wp2_with fail
  refine (area_asked (f : Int) W0 HH0.out (by omega)).mono ?_
  rw [HA.out]
  rintro e w1 ⟨rfl, hb⟩
  have HA1 := Aside0.mk (HH0.out.below hb)
  have HB1 := Aside0.mk hb
  have HK1 := Aside0.mk (And.intro (hb.block b (blk_lt HBK.out.1) |>.trans HBK.out.1) (And.intro (hb.block (b + 1) (blk_lt HBK.out.2.1) |>.trans HBK.out.2.1) (And.intro (hb.block (b + 2) (blk_lt HBK.out.2.2.1) |>.trans HBK.out.2.2.1) (hb.block (b + 3) (blk_lt HBK.out.2.2.2) |>.trans HBK.out.2.2.2))))
  replace c0 := pw_cell_below hb c0
  replace c1 := pw_cell_below hb c1
  have c2 := HA1.out.csize
  clear hb
  go_wp2_with fail
  refine wpX_seq_k ?_
  intro K2 hK2
  go_wp2_with fail
  refine wpX_seq_k ?_
  intro K3 hK3
  go_wp2_with fail
  go_quiet (fail)
  go_wp2_with fail
  refine wpX_seq_x ?_
  intro K4 hK4
  refine wpX_seq_k ?_
  intro K5 hK5
  go_wp2_with fail
  obtain ⟨q, hq⟩ : ∃ q, w1.heap.size = q := ⟨_, rfl⟩
  have hqb : b + 4 ≤ q := by rw [← hq, ← HSZ.out]; exact HB1.out.size
  obtain ⟨W1, hW1⟩ : ∃ W, ((w1.drewN nq).alloc (.cells #[.pointer (some ⟨g, 0, none⟩)] 53)).alloc (.cells #[.int .i64 (f : Int)] 3) = W := ⟨_, rfl⟩
  have hs1 : W1.heap.size = q + 2 := by rw [← hW1, ← hq]; simp
  have hb2 : Below b w W1 := by
    have h9 := below_alloc (below_alloc (pw_below_drewN (below_then HB0.out HB0.out.size HB1.out) nq) (.cells #[.pointer (some ⟨g, 0, none⟩)] 53)) (.cells #[.int .i64 (f : Int)] 3)
    rw [HB.out, hW1] at h9; exact h9
  have g0 : W1.heap[b]? = some (.cells #[.pointer (some ⟨g, 0, none⟩)] 53) := by rw [← hW1]; exact blk_alloc (blk_alloc (blk_drewN HK1.out.1 nq) _) _
  have g1 : W1.heap[b + 1]? = some (.cells #[.int .i64 bytes] 3) := by rw [← hW1]; exact blk_alloc (blk_alloc (blk_drewN HK1.out.2.1 nq) _) _
  have g2 : W1.heap[b + 2]? = some (.cells #[.int .i64 0] 3) := by rw [← hW1]; exact blk_alloc (blk_alloc (blk_drewN HK1.out.2.2.1 nq) _) _
  have g3 : W1.heap[b + 3]? = some (.cells #[.int .i64 0] 28) := by rw [← hW1]; exact blk_alloc (blk_alloc (blk_drewN HK1.out.2.2.2 nq) _) _
  have g4 : W1.heap[q]? = some (.cells #[.pointer (some ⟨g, 0, none⟩)] 53) := by rw [← hW1, ← hq]; exact blk_alloc (blk_new (w1.drewN nq) _) _
  have g5 : W1.heap[q + 1]? = some (.cells #[.int .i64 (f : Int)] 3) := by rw [← hW1, ← hq]; have := blk_new ((w1.drewN nq).alloc (.cells #[.pointer (some ⟨g, 0, none⟩)] 53)) (.cells #[.int .i64 (f : Int)] 3); simpa using this
  refine (near_calls g (f : Int) (w1.drewN nq)).mono ?_
  rintro e w2 ⟨rfl, rfl⟩
  rw [hW1]
  have hq' : (w1.drewN nq).heap.size = q := hq
  simp only [hq']
  go_wp2_with fail
  clear hq hq' c0 c1 c2 hW1
  refine wpX_block ?_
  obtain ⟨N, hN⟩ : ∃ N, a.pages.length = N := ⟨_, rfl⟩
  have HN := Aside0.mk hN
  have hfN : f < N := by omega
  have hN2 : N ≤ 200 := by omega
  have hKp : ∀ W : World, Below b w W → W.heap[q]? = some (.cells #[.pointer (some ⟨g, 0, none⟩)] 53) → W.heap[q + 1]? = some (.cells #[.int .i64 (f : Int)] 3) →
      W.cell? ⟨q, 0, none⟩ = some (.pointer (some ⟨g, 0, none⟩)) ∧ W.cell? ⟨q + 1, 0, none⟩ = some (.int .i64 (f : Int)) ∧ W.cell? ⟨g, 201, none⟩ = some (.slice (some ⟨r, 0, none⟩) N cap) := fun W h1 h2 h3 =>
    ⟨(blk_cell h2 0).trans rfl, (blk_cell h3 0).trans rfl, by have := (HH.out.below (by rw [HB.out]; exact h1)).cpages; rw [HN.out] at this; exact this⟩
  have HKP := Aside0.mk hKp
  clear hKp hN
  refine wpX_range (gf := 136) (lb := #[.pointer (some ⟨q, 0, none⟩), .pointer (some ⟨q + 1, 0, none⟩)]) (xs := (List.range N).map (nearV f N))
    (Kp := fun W => W.cell? ⟨q, 0, none⟩ = some (.pointer (some ⟨g, 0, none⟩)) ∧ W.cell? ⟨q + 1, 0, none⟩ = some (.int .i64 (f : Int)) ∧ W.cell? ⟨g, 201, none⟩ = some (.slice (some ⟨r, 0, none⟩) N cap)) rfl (fun _ _ => rfl) (near1_iter f N hfN (by omega) q (q + 1) g r cap) (by simp [nearV])
    (fun i W => (∀ j, j < i → tryAt a f bytes j = false) ∧ Below b w W ∧ W.heap[b]? = some (.cells #[.pointer (some ⟨g, 0, none⟩)] 53) ∧ W.heap[b + 1]? = some (.cells #[.int .i64 bytes] 3) ∧ W.heap[b + 2]? = some (.cells #[.int .i64 0] 3) ∧ W.heap[b + 3]? = some (.cells #[.int .i64 0] 28) ∧ W.heap[q]? = some (.cells #[.pointer (some ⟨g, 0, none⟩)] 53) ∧ W.heap[q + 1]? = some (.cells #[.int .i64 (f : Int)] 3))
    (fun i a₁ W => ((∀ j, j < i → tryAt a f bytes j = false) ∧ Below b w W ∧ W.heap[b]? = some (.cells #[.pointer (some ⟨g, 0, none⟩)] 53) ∧ W.heap[b + 1]? = some (.cells #[.int .i64 bytes] 3) ∧ W.heap[b + 2]? = some (.cells #[.int .i64 0] 3) ∧ W.heap[b + 3]? = some (.cells #[.int .i64 0] 28) ∧ W.heap[q]? = some (.cells #[.pointer (some ⟨g, 0, none⟩)] 53) ∧ W.heap[q + 1]? = some (.cells #[.int .i64 (f : Int)] 3)) ∧
      a₁ = { tmps := #[.pointer (some ⟨g, 0, none⟩), .int .i64 (f : Int), .int .i64 bytes, .pointer (some ⟨b, 0, none⟩), undef, .pointer (some ⟨b + 1, 0, none⟩), .pointer (some ⟨b + 2, 0, none⟩), .pointer (some ⟨b + 3, 0, none⟩), .int .i64 0, .int .i64 (((f : Int) + (i : Int)) % (N : Int)), undef, undef, .pointer (some ⟨g, 0, none⟩), .int .i64 (f : Int), .int .i64 0, .int .i64 0, .bool false, undef, .int .i64 bytes, .bool false, .int .i64 bytes,
          .pointer (some ⟨g, 0, none⟩), .pointer (some ⟨g, 0, none⟩), .pointer (some ⟨g, 200, none⟩), .int .i64 a.size, .bool false, .pointer (some ⟨g, 0, none⟩), .int .i64 (f : Int), .func (.func 136) #[] #[.pointer (some ⟨q, 0, none⟩), .pointer (some ⟨q + 1, 0, none⟩)], .int .i64 (((f : Int) + (i : Int)) % (N : Int)),
          undef, undef, undef, undef, undef, undef, undef, undef, undef, undef, undef, undef, undef, undef, undef, undef, undef, undef, undef, undef, undef, undef, undef, undef, undef], defers := [] })
    (fun c W => c = .ret ∧ ∃ j, j < N ∧ (∀ j', j' < j → tryAt a f bytes j' = false) ∧ tryAt a f bytes j = true ∧ Below b w W ∧ W.heap[b + 2]? = some (.cells #[.int .i64 (((f : Int) + (j : Int)) % (N : Int))] 3) ∧ W.heap[b + 3]? = some (.cells #[.int .i64 0] 28))
    (fun _ _ => False)
    ?_ ?_ ?_ ?_ ?_ ?_ ?_ ?_ ?_ ?_ ?_ ?_ ?_
  all_goals try simp only [hs1, Nat.add_assoc, Nat.reduceAdd]
  case refine_1 =>
    rintro i W o o' ⟨e1, e2, e3, e4, e5, e6, e7, e8⟩ -
    exact ⟨e1, below_putObj e2 (by omega) _, blk_putObj e3 (by omega), blk_putObj e4 (by omega), blk_putObj e5 (by omega), blk_putObj e6 (by omega), blk_putObj e7 (by omega), blk_putObj e8 (by omega)⟩
  case refine_2 =>
    rintro i a₁ W o o' ⟨⟨e1, e2, e3, e4, e5, e6, e7, e8⟩, e9⟩ -
    exact ⟨⟨e1, below_putObj e2 (by omega) _, blk_putObj e3 (by omega), blk_putObj e4 (by omega), blk_putObj e5 (by omega), blk_putObj e6 (by omega), blk_putObj e7 (by omega), blk_putObj e8 (by omega)⟩, e9⟩
  case refine_3 =>
    rintro c W o o' ⟨rfl, j, e1, e2, e3, e4, e5, e6⟩ -
    exact ⟨rfl, j, e1, e2, e3, below_putObj e4 (by omega) _, blk_putObj e5 (by omega), blk_putObj e6 (by omega)⟩
  case refine_4 =>
    rintro i W m ⟨e1, e2, e3, e4, e5, e6, e7, e8⟩
    exact ⟨e1, pw_below_drewN e2 m, e3, e4, e5, e6, e7, e8⟩
  case refine_5 =>
    rintro c W m ⟨rfl, j, e1, e2, e3, e4, e5, e6⟩
    exact ⟨rfl, j, e1, e2, e3, pw_below_drewN e4 m, e5, e6⟩
  case refine_6 => exact fun _ _ _ h => h.elim
  case refine_7 =>
    rintro i W ⟨e1, e2, e3, e4, e5, e6, e7, e8⟩
    exact HKP.out W e2 e7 e8
  case refine_8 =>
    intro rec
    have hl : w.heap.size ≤ W1.heap.size := by rw [hs1, HB.out]; omega
    exact ⟨fun j hj => by omega, by have := below_alloc (below_alloc (by rw [HB.out]; exact hb2 : Below w.heap.size w W1) (.deferred (some []))) (.loop rec); rw [HB.out] at this; exact this, blk_alloc (blk_alloc g0 _) _, blk_alloc (blk_alloc g1 _) _, blk_alloc (blk_alloc g2 _) _, blk_alloc (blk_alloc g3 _) _, blk_alloc (blk_alloc g4 _) _, blk_alloc (blk_alloc g5 _) _⟩
  case refine_9 =>
    rintro i v W hv ⟨e1, e2, e3, e4, e5, e6, e7, e8⟩ hlt
    refine wpIn_hide ?_
    intro Q HQ
    have HR1 := Aside0.mk (And.intro HQ.out (And.intro e1 (And.intro e2 (And.intro e3 (And.intro e4 (And.intro e5 (And.intro e6 (And.intro e7 e8))))))))
    have hvv : v = nearV f N i := by
      rcases List.getElem?_eq_some_iff.1 hv with ⟨q1, q2⟩
      rw [← q2]; simp
    clear HQ hv e1 e2 e3 e4 e5 e6 e7 e8
    subst hvv
    unfold nearV
    simp only [List.zip_toArray, List.zip_cons_cons, List.zip_nil_right, List.size_toArray, List.length_cons, List.length_nil, Nat.reduceAdd, List.foldl_toArray', List.foldl_cons, List.foldl_nil]
    gi_wp2_with fail
    refine HR1.out.1 _ _ _ ⟨⟨HR1.out.2, rfl⟩, rfl, rfl⟩
  case refine_10 =>
    rintro i v a₁ W hv ⟨⟨e1, e2, e3, e4, e5, e6, e7, e8⟩, rfl⟩ hlt
    clear hK4 g0 g1 g2 g3 g4 g5 hb2 hs1
    have hi : i < N := by
      have := (List.getElem?_eq_some_iff.1 hv).1
      simpa using this
    obtain ⟨m, hm⟩ : ∃ m : Nat, (f + i) % N = m := ⟨_, rfl⟩
    have hmN : m < N := by rw [← hm]; exact Nat.mod_lt _ (by omega)
    have hmI : ((f : Int) + (i : Int)) % (N : Int) = (m : Int) := by rw [← hm]; rfl
    simp only [hmI]
    have hA := HH.out.below (by rw [HB.out]; exact e2)
    have hml : m < a.pages.length := by rw [HN.out]; exact hmN
    have hq : (f + i) % a.pages.length = m := by rw [HN.out]; exact hm
    have c0 := (blk_cell e3 0).trans rfl
    have c1 := (blk_cell e4 0).trans rfl
    have c2 := hA.csize
    have c3 := hA.cpages
    have c4 := hA.clv m (by omega)
    rw [HN.out] at c3
    have c5a := HC.out m hml
    have c5 := ((show Below w.heap.size w W by rw [HB.out]; exact e2).cell (World.block_lt_of_cell? w _ c5a)).trans c5a
    have hv5 := HF.out (a.pages[m]'hml) (List.getElem_mem _)
    have hx := HLV.out m (by omega)
    have f2 := blk_frozen e5 0
    have f3 := blk_frozen e6 0
    have k2 := (blk_cell e5 0).trans rfl
    have k3 := (blk_cell e6 0).trans rfl
    have HTR := Aside0.mk (show tryAt a f bytes i = (decide (bytes * 8 / a.size ≤ a.lv.getD m 0) && fitsS (a.pages[m]'hml) bytes) by
      unfold tryAt; rw [hq, List.getD_eq_getElem?_getD (l := a.pages), List.getElem?_eq_getElem hml]; rfl)
    have HE := Aside0.mk (And.intro e1 (And.intro e2 (And.intro e3 (And.intro e4 (And.intro e5 (And.intro e6 (And.intro e7 e8)))))))
    obtain ⟨x, hxx⟩ : ∃ x, a.lv.getD m 0 = x := ⟨_, rfl⟩
    obtain ⟨X, hX⟩ : ∃ X, a.pages[m]'hml = X := ⟨_, rfl⟩
    obtain ⟨S, hS⟩ : ∃ S, a.size = S := ⟨_, rfl⟩
    rw [hxx] at c4 hx HTR
    rw [hX] at c5 hv5 HTR
    rw [hS] at c2 hs hb1 HTR
    have HFF := Aside0.mk (show page_Fits.f X bytes = some (fitsS X bytes, 0) by
      unfold page_Fits.f
      have := validS_spec X hv5
      rw [if_pos ⟨by omega, hb0, by omega, hv5⟩])
    have HIN := Aside0.mk hmI
    have HS := Aside0.mk (And.intro hx (And.intro hb0 (And.intro hb1 hs)))
    have hm0 : (0 : Int) ≤ m := by omega
    have hm1 : (m : Int) < N := by omega
    have hm2 : (m : Int) < 200 := by omega
    have hmo : Try.prog.follows .mixedOrders = true := by kernel_rfl
    clear e1 e2 e3 e4 e5 e6 e7 e8 hA hv hm hmI hxx c5a hX hS hv5 hx d2 hs hb1 hq
    refine wpIn_hideP (fun a w h => h.2.2) (fun ch a d v w h => h.2.2.2.elim) ?_
    intro Q HQ HNO HPP
    by_cases hmay : bytes * 8 / S ≤ x
    · have dm : decide (bytes * 8 / S ≤ x) = true := decide_eq_true hmay
      gi_wp2_with fail
      refine round_region_quiet hmo (by kernel_rfl) (by kernel_rfl) ?_
      repeat (go_big_quiet_step ((go_at_call 128; refine (area_may g m (by omega) x bytes S HS.out.1 ⟨HS.out.2.1, HS.out.2.2.1⟩ HS.out.2.2.2.1 HS.out.2.2.2.2 _ (by exact c4)).mono ?_; rintro e w' ⟨rfl, ⟨m', rfl⟩⟩; exact ⟨by rw [dm], _, World.drewN_drewN ..⟩)))
      refine wpQuiet_nil ?_
      rintro _ ⟨nq2, rfl⟩
      gi_wp2_with fail
      have HF1 := Aside0.mk (show ∀ V V' : World, V.heap = W.heap → Below w.heap.size w V → Below V.heap.size V V' → (Below b w V' ∧ V'.heap[b]? = some (.cells #[.pointer (some ⟨g, 0, none⟩)] 53) ∧ V'.heap[b + 1]? = some (.cells #[.int .i64 bytes] 3) ∧ V'.heap[b + 2]? = some (.cells #[.int .i64 0] 3) ∧ V'.heap[b + 3]? = some (.cells #[.int .i64 0] 28) ∧ V'.heap[q]? = some (.cells #[.pointer (some ⟨g, 0, none⟩)] 53) ∧ V'.heap[q + 1]? = some (.cells #[.int .i64 (f : Int)] 3)) ∧ V'.heap[q + 3]? = W.heap[q + 3]? ∧ V'.heap[q + 2]? = W.heap[q + 2]? by
        intro V V' hV hVB h
        have hk : ∀ k, k < W.heap.size → V'.heap[k]? = W.heap[k]? := fun k hk => by rw [h.block k (by rw [hV]; exact hk), hV]
        have hE := HE.out.2
        have l1 := blk_lt hE.2.1
        refine ⟨⟨?_, (hk _ (blk_lt hE.2.1)).trans hE.2.1, (hk _ (blk_lt hE.2.2.1)).trans hE.2.2.1, (hk _ (blk_lt hE.2.2.2.1)).trans hE.2.2.2.1, (hk _ (blk_lt hE.2.2.2.2.1)).trans hE.2.2.2.2.1, (hk _ (blk_lt hE.2.2.2.2.2.1)).trans hE.2.2.2.2.2.1, (hk _ (blk_lt hE.2.2.2.2.2.2)).trans hE.2.2.2.2.2.2⟩, hk _ (by omega), hk _ (by omega)⟩
        have := below_then hVB hVB.size h
        rw [HB.out] at this
        exact this)
      have HBW := Aside0.mk (show Below w.heap.size w W by rw [HB.out]; exact HE.out.2.1)
      obtain ⟨FT, hft⟩ : ∃ FT, fitsS X bytes = FT := ⟨_, rfl⟩
      rw [hft] at HFF HTR
      clear hft
      have hS : (fun w' : World => w'.cell? ⟨b, 0, none⟩ = some (.pointer (some ⟨g, 0, none⟩)) ∧ w'.cell? ⟨g, 201, none⟩ = some (.slice (some ⟨r, 0, none⟩) N cap) ∧ w'.cell? ⟨r, m, none⟩ = some (.string X) ∧ w'.cell? ⟨b + 1, 0, none⟩ = some (.int .i64 bytes)) ((W.drewN nq2).drew) := ⟨c0, c3, c5, c1⟩
      refine round_region_any hmo (by kernel_rfl) (fun a w h => HNO.out _ _ h) (wpAny_of_held (S := fun w' : World => w'.cell? ⟨b, 0, none⟩ = some (.pointer (some ⟨g, 0, none⟩)) ∧ w'.cell? ⟨g, 201, none⟩ = some (.slice (some ⟨r, 0, none⟩) N cap) ∧ w'.cell? ⟨r, m, none⟩ = some (.string X) ∧ w'.cell? ⟨b + 1, 0, none⟩ = some (.int .i64 bytes)) _ _ _ _ ?_)
      change wpAnyH _ _ _ _ _ _ _ _ (W.drewN nq2).drew
      refine wpAnyH_take (i := 0) (v := (.pointer (some ⟨g, 0, none⟩))) rfl (by kernel_rfl) (by kernel_rfl) (by kernel_rfl) (fun c a w h => HPP.out c a _ _ w h) (Or.inl ⟨by rfl, by intro w hSw; obtain ⟨s1, s2, s3, s4⟩ := hSw; first | (go_simp; done) | (go_simp; with_reducible rfl)⟩) hS ?_
      simp only [Act.put, List.setIfInBounds_toArray, List.set_cons_zero, List.set_cons_succ]
      refine wpAnyH_take (i := 1) (v := (.pointer (some ⟨g, 0, none⟩))) rfl (by kernel_rfl) (by kernel_rfl) (by kernel_rfl) (fun c a w h => HPP.out c a _ _ w h) (Or.inl ⟨by rfl, by intro w hSw; obtain ⟨s1, s2, s3, s4⟩ := hSw; first | (go_simp; done) | (go_simp; with_reducible rfl)⟩) hS ?_
      simp only [Act.put, List.setIfInBounds_toArray, List.set_cons_zero, List.set_cons_succ]
      refine wpAnyH_take (i := 2) (v := (.pointer (some ⟨g, 201, none⟩))) rfl (by kernel_rfl) (by kernel_rfl) (by kernel_rfl) (fun c a w h => HPP.out c a _ _ w h) (Or.inl ⟨by rfl, by intro w hSw; obtain ⟨s1, s2, s3, s4⟩ := hSw; first | (go_simp; done) | (go_simp; with_reducible rfl)⟩) hS ?_
      simp only [Act.put, List.setIfInBounds_toArray, List.set_cons_zero, List.set_cons_succ]
      refine wpAnyH_take (i := 3) (v := (.slice (some ⟨r, 0, none⟩) N cap)) rfl (by kernel_rfl) (by kernel_rfl) (by kernel_rfl) (fun c a w h => HPP.out c a _ _ w h) (Or.inl ⟨by rfl, by intro w hSw; obtain ⟨s1, s2, s3, s4⟩ := hSw; first | (go_simp; done) | (go_simp; with_reducible rfl)⟩) hS ?_
      simp only [Act.put, List.setIfInBounds_toArray, List.set_cons_zero, List.set_cons_succ]
      refine wpAnyH_take (i := 4) (v := (.int .i64 (m : Int))) rfl (by kernel_rfl) (by kernel_rfl) (by kernel_rfl) (fun c a w h => HPP.out c a _ _ w h) (Or.inl ⟨by rfl, by intro w hSw; obtain ⟨s1, s2, s3, s4⟩ := hSw; first | (go_simp; done) | (go_simp; with_reducible rfl)⟩) hS ?_
      simp only [Act.put, List.setIfInBounds_toArray, List.set_cons_zero, List.set_cons_succ]
      refine wpAnyH_take (i := 5) (v := (.pointer (some ⟨r, m, none⟩))) rfl (by kernel_rfl) (by kernel_rfl) (by kernel_rfl) (fun c a w h => HPP.out c a _ _ w h) (Or.inl ⟨by rfl, by intro w hSw; obtain ⟨s1, s2, s3, s4⟩ := hSw; first | (go_simp; done) | (go_simp; with_reducible rfl)⟩) hS ?_
      simp only [Act.put, List.setIfInBounds_toArray, List.set_cons_zero, List.set_cons_succ]
      refine wpAnyH_take (i := 6) (v := (.string X)) rfl (by kernel_rfl) (by kernel_rfl) (by kernel_rfl) (fun c a w h => HPP.out c a _ _ w h) (Or.inl ⟨by rfl, by intro w hSw; obtain ⟨s1, s2, s3, s4⟩ := hSw; first | (go_simp; done) | (go_simp; with_reducible rfl)⟩) hS ?_
      simp only [Act.put, List.setIfInBounds_toArray, List.set_cons_zero, List.set_cons_succ]
      refine wpAnyH_take (i := 7) (v := (.int .i64 bytes)) rfl (by kernel_rfl) (by kernel_rfl) (by kernel_rfl) (fun c a w h => HPP.out c a _ _ w h) (Or.inl ⟨by rfl, by intro w hSw; obtain ⟨s1, s2, s3, s4⟩ := hSw; first | (go_simp; done) | (go_simp; with_reducible rfl)⟩) hS ?_
      simp only [Act.put, List.setIfInBounds_toArray, List.set_cons_zero, List.set_cons_succ]
      refine wpAnyH_ready (rs := [8]) (by kernel_rfl) (by simp) ?_
      refine AllReadyH.cons rfl (fun K hK => ?_) AllReadyH.nil
      go_simp
      refine (page_Fits.calls X bytes FT 0 _ HFF.out).mono ?_
      rintro e w' ⟨rfl, hbF⟩
      have HV := Aside0.mk (HF1.out (W.drewN (nq2 + 1)) _ rfl (pw_below_drewN HBW.out (nq2 + 1)) hbF)
      refine hK.out _ _ ⟨pw_cell_below hbF c0, pw_cell_below hbF c3, pw_cell_below hbF c5, pw_cell_below hbF c1⟩ (fun hS2 => ?_)
      have k2' := (blk_cell HV.out.1.2.2.2.1 0).trans rfl
      have k3' := (blk_cell HV.out.1.2.2.2.2.1 0).trans rfl
      have f2' := blk_frozen HV.out.1.2.2.2.1 0
      have f3' := blk_frozen HV.out.1.2.2.2.2.1 0
      clear hbF hK K hS c0 c1 c2 c3 c4 c5 f2 f3 k2 k3
      try simp only [Act.put, List.setIfInBounds_toArray, List.set_cons_zero, List.set_cons_succ]
      refine wpAnyH_take (i := 9) (v := (.tuple #[.bool FT, .int .i64 0])) rfl (by kernel_rfl) (by kernel_rfl) (by kernel_rfl) (fun c a w h => HPP.out c a _ _ w h) (Or.inl ⟨by rfl, by intro w hSw; first | (go_simp; done) | (go_simp; with_reducible rfl)⟩) hS2 ?_
      simp only [Act.put, List.setIfInBounds_toArray, List.set_cons_zero, List.set_cons_succ]
      refine wpAnyH_take (i := 10) (v := (.bool FT)) rfl (by kernel_rfl) (by kernel_rfl) (by kernel_rfl) (fun c a w h => HPP.out c a _ _ w h) (Or.inl ⟨by rfl, by intro w hSw; first | (go_simp; done) | (go_simp; with_reducible rfl)⟩) hS2 ?_
      simp only [Act.put, List.setIfInBounds_toArray, List.set_cons_zero, List.set_cons_succ]
      refine wpAnyH_take (i := 11) (v := (.int .i64 0)) rfl (by kernel_rfl) (by kernel_rfl) (by kernel_rfl) (fun c a w h => HPP.out c a _ _ w h) (Or.inl ⟨by rfl, by intro w hSw; first | (go_simp; done) | (go_simp; with_reducible rfl)⟩) hS2 ?_
      simp only [Act.put, List.setIfInBounds_toArray, List.set_cons_zero, List.set_cons_succ]
      refine wpAnyH_take (i := 12) (v := (.bool FT)) rfl (by kernel_rfl) (by kernel_rfl) (by kernel_rfl) (fun c a w h => HPP.out c a _ _ w h) (Or.inl ⟨by rfl, by intro w hSw; first | (go_simp; done) | (go_simp; with_reducible rfl)⟩) hS2 ?_
      simp only [Act.put, List.setIfInBounds_toArray, List.set_cons_zero, List.set_cons_succ]
      refine wpAnyH_take (i := 13) (v := (.int .i64 0)) rfl (by kernel_rfl) (by kernel_rfl) (by kernel_rfl) (fun c a w h => HPP.out c a _ _ w h) (Or.inl ⟨by rfl, by intro w hSw; first | (go_simp; done) | (go_simp; with_reducible rfl)⟩) hS2 ?_
      simp only [Act.put, List.setIfInBounds_toArray, List.set_cons_zero, List.set_cons_succ]
      refine wpAnyH_done (by kernel_rfl) ?_ _
      clear hS2
      cases FT with
      | true =>
        gi_wp2_with fail
        refine HQ.out _ _ _ ⟨?_, ?_, rfl, i, hi, HE.out.1, HTR.out.trans (by rw [dm]; rfl), ?_, ?_, ?_⟩
        · exact ((Below.heap_setCell _ _ _ _ (by simp; omega)).trans (Below.heap_setCell _ _ _ _ (by simp; omega))).trans HV.out.2.1
        · exact ((Below.heap_setCell _ _ _ _ (by simp; omega)).trans (Below.heap_setCell _ _ _ _ (by simp; omega))).trans HV.out.2.2
        · exact (HV.out.1.1.setCell (by simp) _).setCell (by simp) _
        · rw [HIN.out]; exact blk_far (blk_set HV.out.1.2.2.2.1 0 _) (by simp) _
        · exact blk_set (blk_far HV.out.1.2.2.2.2.1 (by simp) _) 0 _
      | false =>
        gi_wp2_with fail
        refine HQ.out _ _ _ ⟨HV.out.2.1, HV.out.2.2, ?_, HV.out.1⟩
        intro j hj
        rcases Nat.lt_or_ge j i with h | h
        · exact HE.out.1 j h
        · obtain rfl : j = i := by omega
          exact HTR.out.trans (by rw [Bool.and_false])
    · have dm : decide (bytes * 8 / S ≤ x) = false := decide_eq_false hmay
      gi_wp2_with fail
      refine round_region_quiet hmo (by kernel_rfl) (by kernel_rfl) ?_
      repeat (go_big_quiet_step ((go_at_call 128; refine (area_may g m (by omega) x bytes S HS.out.1 ⟨HS.out.2.1, HS.out.2.2.1⟩ HS.out.2.2.2.1 HS.out.2.2.2.2 _ (by exact c4)).mono ?_; rintro e w' ⟨rfl, ⟨m', rfl⟩⟩; exact ⟨by rw [dm], _, World.drewN_drewN ..⟩)))
      refine wpQuiet_nil ?_
      rintro _ ⟨nq2, rfl⟩
      gi_wp2_with fail
      refine HQ.out _ _ _ ⟨rfl, rfl, ?_, pw_below_drewN HE.out.2.1 _, HE.out.2.2⟩
      intro j hj
      rcases Nat.lt_or_ge j i with h | h
      · exact HE.out.1 j h
      · obtain rfl : j = i := by omega
        exact HTR.out.trans (by rw [dm]; rfl)
  case refine_11 =>
    rintro W ⟨e1, e2, e3, e4, e5, e6, e7, e8⟩ hD
    refine hK4 _ _ ?_
    clear hK4
    refine wpX_of_wp ?_
    have f2 := blk_frozen e5 0
    have f3 := blk_frozen e6 0
    have c2 := (blk_cell e5 0).trans rfl
    have c3 := (blk_cell e6 0).trans rfl
    have HD := Aside0.mk hD
    have HE := Aside0.mk (And.intro e1 (And.intro e2 (And.intro e5 e6)))
    clear e1 e2 e3 e4 e5 e6 e7 e8 hD g0 g1 g2 g3 g4 g5
    go_wp2_with fail
    obtain ⟨W2, hW2⟩ : ∃ W2, (W.setCell ⟨b + 2, 0, none⟩ (.int .i64 0)).setCell ⟨b + 3, 0, none⟩ (.int .i64 13) = W2 := ⟨_, rfl⟩
    have k2 : W2.heap[b + 2]? = some (.cells #[.int .i64 0] 3) := by rw [← hW2]; exact blk_far (blk_set HE.out.2.2.1 0 _) (by simp) _
    have k3 : W2.heap[b + 3]? = some (.cells #[.int .i64 13] 28) := by rw [← hW2]; exact blk_set (blk_far HE.out.2.2.2 (by simp) _) 0 _
    have kD : W2.heap[q + 2]? = some (.deferred (some [])) := by rw [← hW2]; exact ((Below.heap_setCell _ _ _ _ (by simp; omega)).trans (Below.heap_setCell _ _ _ _ (by simp; omega))).trans HD.out
    have kB : Below b w W2 := by rw [← hW2]; exact (HE.out.2.1.setCell (by simp) _).setCell (by simp) _
    rw [hW2]
    have t2 := (blk_cell (blk_putObj (o' := .deferred none) k2 (show b + 2 ≠ q + 2 by omega)) 0).trans rfl
    have t3 := (blk_cell (blk_putObj (o' := .deferred none) k3 (show b + 3 ≠ q + 2 by omega)) 0).trans rfl
    refine leavesM_ret1 (v := .tuple #[.int .i64 0, .int .i64 13]) kD (by simp [results, Try.results114, go_sem, t2, t3]) ?_
    rw [← HR.out]
    have hfn : findA a f bytes = (0, 13) := by
      unfold findA
      rw [List.find?_eq_none.2 (fun x hx => by
        have h1 := HE.out.1 x (by have := List.mem_range.1 hx; simp only [List.length_map, List.length_range]; rw [HN.out] at this; exact this)
        rw [h1]; simp)]
    refine ⟨by rw [hfn], ?_⟩
    rw [HB.out]
    exact below_putObj kB (by omega) _
  case refine_12 =>
    rintro c W ⟨rfl, j, e1, e2, e3, e4, e5, e6⟩ hD
    refine wpX_of_wp (wp_ret ?_)
    have t2 := (blk_cell (blk_putObj (o' := .deferred none) e5 (show b + 2 ≠ q + 2 by omega)) 0).trans rfl
    have t3 := (blk_cell (blk_putObj (o' := .deferred none) e6 (show b + 3 ≠ q + 2 by omega)) 0).trans rfl
    refine leavesM_ret1 (v := .tuple #[.int .i64 (((f : Int) + (j : Int)) % (N : Int)), .int .i64 0]) hD (by simp [results, Try.results114, go_sem, t2, t3]) ?_
    rw [← HR.out]
    have hfn : findA a f bytes = (((f : Int) + (j : Int)) % (N : Int), 0) := by
      unfold findA
      have h1 : (List.range a.pages.length).find? (tryAt a f bytes) = some j := by
        rw [List.find?_range_eq_some]
        exact ⟨e3, by rw [List.mem_range, HN.out]; exact e1, fun j' hj => by rw [e2 j' hj]; rfl⟩
      rw [h1]
      simp only [HN.out]
      rfl
    refine ⟨by rw [hfn], ?_⟩
    rw [HB.out]
    exact below_putObj e4 (by omega) _
  case refine_13 => exact fun _ _ h => h.elim

end Go.Proofs.Ytemglmcddaeedaa.PA

namespace Go.Proofs.Ytemglmcddaeedaa.PA
open Go.RowKit Go.Proofs.YtemglmcddaeedaaW.PrintWords Go.Proofs.YtemglmcddaeedaaW.PrintLast Go.Proofs.YtemglmcddaeedaaW.PrintMore
attribute [local go_sem] max2_int min2_int max_two min_two max_three min_three max_four min_four   -- for this text's walks alone
set_option linter.unusedVariables false
set_option linter.unusedSimpArgs false

/-! ### area_put: function 0 -/
theorem RowK.set1 {w : World} {base : Nat} {r cap : Nat} {l : List ByteArray} (h : RowK sEnc 1 9 w base (.slice (some ⟨r, 0, none⟩) l.length cap) l) (i : Nat) (hi : i < l.length) (p : ByteArray) :
    RowK sEnc 1 9 (w.setCell ⟨r, i, none⟩ (.string p)) base (.slice (some ⟨r, 0, none⟩) l.length cap) (l.set i p) := by
  rcases h with ⟨h, _⟩ | ⟨r', cap', sp, h, hb, hn, hm, hs, hg⟩
  · cases h
  · cases h
    refine .inr ⟨r, cap, sp, by rw [List.length_set], hb, by rw [List.length_set]; exact hn, hm, by rw [List.length_set]; exact hs, ?_⟩
    rw [blk_set hg i (.string p), List.setIfInBounds_toArray, List.set_append_left _ _ (by rw [encs_len sEnc_len]; omega)]
    have : (encs_ sEnc l).set i (.string p) = encs_ sEnc (l.set i p) := by
      clear hs hg hn hb
      induction l generalizing i with
      | nil => simp at hi
      | cons x l ih =>
        cases i with
        | zero => rfl
        | succ i =>
          rw [encs_cons, List.set_cons_succ, encs_cons]
          show (Value.string x :: encs_ sEnc l).set (i + 1) (.string p) = Value.string x :: encs_ sEnc (l.set i p)
          rw [List.set_cons_succ, ih i (by simpa using hi)]
    rw [this]
theorem AreaAt.setpage {w : World} {base g r cap : Nat} {a : AreaS} (h : AreaAt w base g (.slice (some ⟨r, 0, none⟩) a.pages.length cap) a) (i : Nat) (hi : i < a.pages.length) (p : ByteArray) :
    AreaAt (w.setCell ⟨r, i, none⟩ (.string p)) base g (.slice (some ⟨r, 0, none⟩) a.pages.length cap) { a with pages := a.pages.set i p } := by
  have hne : g ≠ r := by have := h.ne; intro e; exact this (by rw [← e]; rfl)
  refine ⟨h.ge, ?_, h.lv, h.row.set1 i hi p⟩
  exact (Below.heap_setCell w ⟨r, i, none⟩ (.string p) g hne).trans h.blk
theorem Keep2.row {w : World} (g r i : Nat) (v : Value) : Keep2 w (w.setCell ⟨r, i, none⟩ v) g (some r) :=
  ⟨rfl, rfl, rfl, by simp [World.setCell], fun k _ _ hk => Below.heap_setCell w _ v k (fun e => hk (by rw [e]))⟩
theorem Keep2.some {w w' : World} {g : Nat} (h : Keep2 w w' g none) (r : Option Nat) : Keep2 w w' g r := ⟨h.os, h.tape, h.output, h.size, fun k hk hg _ => h.block k hk hg (by simp)⟩
theorem Keep2.far {w w' : World} {g : Nat} {r : Option Nat} (h : Keep2 w w' g r) {p : Addr} (hp : w.heap.size ≤ p.block) (v : Value) : Keep2 w (w'.setCell p v) g r :=
  ⟨h.os, h.tape, h.output, by simpa [World.setCell] using h.size, fun k hk hg hr => (Below.heap_setCell w' p v k (by omega)).trans (h.block k hk hg hr)⟩
theorem AreaAt.far {w : World} {base g r cap n : Nat} {a : AreaS} (h : AreaAt w base g (.slice (some ⟨r, 0, none⟩) n cap) a) {p : Addr} (hg : g ≠ p.block) (hr : r ≠ p.block) (v : Value) : AreaAt (w.setCell p v) base g (.slice (some ⟨r, 0, none⟩) n cap) a :=
  ⟨h.ge, (Below.heap_setCell w p v g hg).trans h.blk, h.lv, h.row.set_other p v (by simp [Value.ownBlock]; exact hr)⟩
/-- What Put tells, and the area behind it. -/
def putA (a : AreaS) (f : Nat) (d : ByteArray) (P : Nat → ByteArray × Int × Int) : (Int × Int × Int) × AreaS :=
  if (findA a f d.size).2 = 0 then
    (if (P (findA a f d.size).1.toNat).2.2 = 0 then (((findA a f d.size).1, (P (findA a f d.size).1.toNat).2.1, 0), ⟨a.size, a.pages.set (findA a f d.size).1.toNat (P (findA a f d.size).1.toNat).1, a.lv.set (findA a f d.size).1.toNat (roomS (P (findA a f d.size).1.toNat).1 * 8 / a.size)⟩)
     else ((0, 0, (P (findA a f d.size).1.toNat).2.2), a))
  else ((0, 0, (findA a f d.size).2), a)
theorem findA_range (a : AreaS) (f : Nat) (b : Int) (hp : 0 < a.pages.length) (h : (findA a f b).2 = 0) : ∃ n : Nat, n < a.pages.length ∧ (findA a f b).1 = n := by
  unfold findA at h ⊢
  cases hf : (List.range a.pages.length).find? (tryAt a f b) with
  | none => rw [hf] at h; cases h
  | some j => exact ⟨(f + j) % a.pages.length, Nat.mod_lt _ hp, rfl⟩
set_option maxHeartbeats 2000000 in
set_option maxRecDepth 100000 in
theorem area_Put {base g r cap : Nat} {a : AreaS} (f : Nat) (hf : f < a.pages.length) (hn : a.pages.length ≤ 200) (d : ByteArray) (hd0 : 1 ≤ d.size) (hd1 : (d.size : Int) ≤ a.size) (hs : 32 ≤ a.size ∧ a.size ≤ 4096)
    (hlv : ∀ i, i < 200 → 0 ≤ a.lv.getD i 0 ∧ a.lv.getD i 0 ≤ 255) (hval : ∀ p ∈ a.pages, validS p) (k : Nat) (P : Nat → ByteArray × Int × Int) (hP : ∀ i (hi : i < a.pages.length), page_Put.f k a.pages[i] d = some (P i) ∧ ((P i).2.2 = 0 → ((P i).1.size : Int) = a.size))
    (w : World) (h : AreaAt w base g (.slice (some ⟨r, 0, none⟩) a.pages.length cap) a) :
    Calls Try.prog 74 #[.pointer (some ⟨g, 0, none⟩), .int .i64 (f : Int), .string d] w fun e w' =>
      e = .returned (.tuple #[.agg #[.int .i64 (putA a f d P).1.1, .int .i64 (putA a f d P).1.2.1], .int .i64 (putA a f d P).1.2.2]) ∧
      AreaAt w' base g (.slice (some ⟨r, 0, none⟩) a.pages.length cap) (putA a f d P).2 ∧ Keep2 w w' g (some r) := by
  have HH := Aside0.mk h
  have hb0 := blk_new w (.cells #[.int .i64 0, .int .i64 0] 93)
  have HB0 := Aside0.mk (below_alloc (Below.refl _ w) (.cells #[.int .i64 0, .int .i64 0] 93))
  obtain ⟨b, hb⟩ : ∃ b, w.heap.size = b := ⟨_, rfl⟩
  obtain ⟨W, hW⟩ : ∃ W, w.alloc (.cells #[.int .i64 0, .int .i64 0] 93) = W := ⟨_, rfl⟩
  rw [hW, hb] at hb0
  rw [hW] at HB0
  have H1 := Aside0.mk (HH.out.below HB0.out)
  have HFD := Aside0.mk (fun (W : World) (h : AreaAt W base g (.slice (some ⟨r, 0, none⟩) a.pages.length cap) a) => area_Find_loop f hf hn (d.size : Int) (by omega) hd1 hs hlv hval W h)
  have hde : d.toList ≠ [] := fun e => by have := (toList_nil d).1 e; omega
  have hde2 : d.toList.isEmpty = false := by simpa using hde
  have hgb : g < b := by rw [← hb]; exact blk_lt h.blk
  have HBK := Aside0.mk hb0
  have HP := Aside0.mk hP
  have HX := Aside0.mk (And.intro hb (And.intro hs (And.intro hn hval)))
  clear h hb0 hP hs hlv hval
  by_cases he : (findA a f d.size).2 = 0
  · obtain ⟨n, hnl, hn1⟩ := findA_range a f d.size (by omega) he
    have HFA := Aside0.mk (And.intro hn1 he)
    have HQ := Aside0.mk (show putA a f d P = if (P n).2.2 = 0 then (((n : Int), (P n).2.1, 0), ⟨a.size, a.pages.set n (P n).1, a.lv.set n (roomS (P n).1 * 8 / a.size)⟩) else ((0, 0, (P n).2.2), a) by
      unfold putA; rw [if_pos he, hn1, Int.toNat_natCast])
    rw [HQ.out]
    clear he hn1 HQ
    obtain ⟨hpf, hps⟩ := HP.out n hnl
    have c2 := H1.out.cpages
    obtain ⟨r0, cap0, e0, _, _, hc0, hrl, _, hfr, hc⟩ := HH.out.slice (by omega)
    cases e0
    have HC := Aside0.mk (hc n hnl)
    have HRL := Aside0.mk (show r < b by rw [← hb]; exact hrl)
    have hcb := ((HB0.out.cell (World.block_lt_of_cell? w _ (hc n hnl))).trans (hc n hnl))
    have HPS := Aside0.mk hps
    have HPF := Aside0.mk hpf
    obtain ⟨X, hX⟩ : ∃ X, a.pages[n] = X := ⟨_, rfl⟩
    rw [hX] at HPF hcb
    have hnl1 : (n : Int) < a.pages.length := by omega
    have hn0 : (0 : Int) ≤ n := by omega
    have HNL := Aside0.mk hnl
    have hcp := hc0
    obtain ⟨R1, R2, R3, hR⟩ : ∃ R1 R2 R3, P n = (R1, R2, R3) := ⟨_, _, _, rfl⟩
    rw [hR] at HPF HPS ⊢
    simp only at HPF HPS ⊢
    clear hX hc hpf hps hR hfr hrl
    by_cases h3 : R3 = 0
    · rw [if_pos h3]
      subst h3
      go_enter Try.func74, Try.ntmps74
      go_wp2_with fail
      refine (HFD.out W H1.out).mono ?_
      rw [HFA.out.1, HFA.out.2]
      rintro e w1 ⟨rfl, hb1⟩
      have k0 := (hb1.block b (blk_lt HBK.out)).trans HBK.out
      have c3 := pw_cell_below hb1 c2
      have c4 := pw_cell_below hb1 hcb
      have HA1 := Aside0.mk (H1.out.below hb1)
      have HK := Aside0.mk k0
      have HB1 := Aside0.mk (below_then HB0.out HB0.out.size hb1)
      clear k0 hb1 c2 hcb
      go_wp2_with fail
      refine (page_Put.calls k X d R1 R2 0 w1 HPF.out).mono ?_
      rintro e w2 ⟨rfl, hb2⟩
      have k0 := (hb2.block b (blk_lt HK.out)).trans HK.out
      have c5 := pw_cell_below hb2 c3
      have c6 := pw_cell_below hb2 c4
      have HA2 := Aside0.mk (HA1.out.below hb2)
      obtain ⟨r0, cap0, e0, _, _, _, _, _, hfr, _⟩ := HA2.out.slice (by omega)
      cases e0
      have f6 := hfr n
      have HK2 := Aside0.mk k0
      have HB2 := Aside0.mk (below_then HB1.out HB1.out.size hb2)
      clear k0 hb2 c3 c4 hfr HK HA1
      go_wp2_with fail
      have hA3 := HA2.out.setpage n HNL.out R1
      have hgt : (a.pages.set n R1)[n]'(by rw [List.length_set]; exact HNL.out) = R1 := by simp
      have hN := area_noted n (a := { a with pages := a.pages.set n R1 }) (v := .slice (some ⟨r, 0, none⟩) a.pages.length cap) (by simpa using HNL.out) (by have := HNL.out; have := HX.out.2.2.1; omega) HX.out.2.1 (by simp only [hgt]; first | exact HPS.out rfl | exact HPS.out trivial) (w2.setCell ⟨r, n, none⟩ (.string R1)) hA3
      simp only [hgt] at hN
      have HNN := Aside0.mk hN
      have HK3 := Aside0.mk ((Keep2.of_below HB2.out g (some r)).trans (Keep2.row g r n (.string R1) (w := w2)) (.inl rfl))
      have k0 : (w2.setCell ⟨r, n, none⟩ (.string R1)).heap[b]? = some (.cells #[.int .i64 0, .int .i64 0] 93) := blk_far HK2.out (p := ⟨r, n, none⟩) (by have := HRL.out; show b ≠ r; omega) _
      have HK4 := Aside0.mk k0
      clear hA3 hgt hN k0 HA2 HK2 HB2 c5 c6 f6
      refine HNN.out.mono ?_
      rintro e w3 ⟨rfl, hA4, hK4⟩
      have k0 := (hK4.block b (blk_lt HK4.out) (by omega) (by simp)).trans HK4.out
      have f0 := blk_frozen k0 0
      have f1 := blk_frozen k0 1
      have c0 := (blk_cell k0 0).trans rfl
      have c1 := (blk_cell k0 1).trans rfl
      have HK5 := Aside0.mk k0
      have HA4 := Aside0.mk hA4
      have HKE := Aside0.mk (HK3.out.trans (hK4.some (some r)) (.inl rfl))
      clear k0 hA4 hK4 HNN HK3 HK4
      go_wp2_with fail
      obtain ⟨W3, hW3⟩ : ∃ W3, (w3.setCell ⟨b, 0, none⟩ (.int .i64 (n : Int))).setCell ⟨b, 1, none⟩ (.int .i64 R2) = W3 := ⟨_, rfl⟩
      have k3 : W3.heap[b]? = some (.cells #[.int .i64 (n : Int), .int .i64 R2] 93) := by rw [← hW3]; exact blk_set (blk_set HK5.out 0 _) 1 _
      have t0 := (blk_cell k3 0).trans rfl
      have t1 := (blk_cell k3 1).trans rfl
      have B3 : Keep2 w W3 g (some r) := by rw [← hW3]; exact (HKE.out.far (by rw [HX.out.1]; exact Nat.le_refl b) _).far (by rw [HX.out.1]; exact Nat.le_refl b) _
      have A3 : AreaAt W3 base g (.slice (some ⟨r, 0, none⟩) a.pages.length cap) ⟨a.size, a.pages.set n R1, a.lv.set n (roomS R1 * 8 / a.size)⟩ := by
        rw [← hW3]
        have h9 := HRL.out
        exact (HA4.out.far (p := ⟨b, 0, none⟩) (by show g ≠ b; omega) (by show r ≠ b; omega) _).far (p := ⟨b, 1, none⟩) (by show g ≠ b; omega) (by show r ≠ b; omega) _
      rw [hW3]
      exact bodyPost_ret (v := .tuple #[.agg #[.int .i64 (n : Int), .int .i64 R2], .int .i64 0]) (by simp [results, Try.results74, go_sem, t0, t1]) rfl ⟨rfl, A3, B3⟩
    · rw [if_neg h3]
      have h32 : (R3 != 0) = true := by simpa using h3
      go_enter Try.func74, Try.ntmps74
      go_wp2_with fail
      refine (HFD.out W H1.out).mono ?_
      rw [HFA.out.1, HFA.out.2]
      rintro e w1 ⟨rfl, hb1⟩
      have k0 := (hb1.block b (blk_lt HBK.out)).trans HBK.out
      have c3 := pw_cell_below hb1 c2
      have c4 := pw_cell_below hb1 hcb
      have HK := Aside0.mk k0
      have HB1 := Aside0.mk (below_then HB0.out HB0.out.size hb1)
      clear k0 hb1 c2 hcb
      go_wp2_with fail
      refine (page_Put.calls k X d R1 R2 R3 w1 HPF.out).mono ?_
      rintro e w2 ⟨rfl, hb2⟩
      have k0 := (hb2.block b (blk_lt HK.out)).trans HK.out
      have f0 := blk_frozen k0 0
      have f1 := blk_frozen k0 1
      have c0 := (blk_cell k0 0).trans rfl
      have c1 := (blk_cell k0 1).trans rfl
      have HK2 := Aside0.mk k0
      have HB2 := Aside0.mk (below_then HB1.out HB1.out.size hb2)
      clear k0 hb2 c3 c4 HK
      go_wp2_with fail
      obtain ⟨W3, hW3⟩ : ∃ W3, (w2.setCell ⟨b, 0, none⟩ (.int .i64 0)).setCell ⟨b, 1, none⟩ (.int .i64 0) = W3 := ⟨_, rfl⟩
      have k3 : W3.heap[b]? = some (.cells #[.int .i64 0, .int .i64 0] 93) := by rw [← hW3]; exact blk_set (blk_set HK2.out 0 _) 1 _
      have t0 := (blk_cell k3 0).trans rfl
      have t1 := (blk_cell k3 1).trans rfl
      have B3 : Below w.heap.size w W3 := by rw [← hW3]; exact (HB2.out.setCell (by rw [HX.out.1]; exact Nat.le_refl b) _).setCell (by rw [HX.out.1]; exact Nat.le_refl b) _
      rw [hW3]
      exact bodyPost_ret (v := .tuple #[.agg #[.int .i64 0, .int .i64 0], .int .i64 R3]) (by simp [results, Try.results74, go_sem, t0, t1]) rfl ⟨rfl, HH.out.below B3, Keep2.of_below B3 g _⟩
  · have HQ := Aside0.mk (show putA a f d P = ((0, 0, (findA a f d.size).2), a) by unfold putA; rw [if_neg he])
    rw [HQ.out]
    clear HQ
    obtain ⟨E1, hE1⟩ : ∃ E, (findA a f d.size).1 = E := ⟨_, rfl⟩
    obtain ⟨E2, hE2⟩ : ∃ E, (findA a f d.size).2 = E := ⟨_, rfl⟩
    have HE := Aside0.mk (And.intro hE1 hE2)
    rw [hE2] at he ⊢
    have he2 : (E2 != 0) = true := by simpa using he
    clear hE1 hE2
    go_enter Try.func74, Try.ntmps74
    go_wp2_with fail
    refine (HFD.out W H1.out).mono ?_
    rw [HE.out.1, HE.out.2]
    rintro e w1 ⟨rfl, hb1⟩
    have k0 := (hb1.block b (blk_lt HBK.out)).trans HBK.out
    have f0 := blk_frozen k0 0
    have f1 := blk_frozen k0 1
    have c0 := (blk_cell k0 0).trans rfl
    have c1 := (blk_cell k0 1).trans rfl
    have HK := Aside0.mk k0
    have HB1 := Aside0.mk hb1
    clear k0 hb1
    go_wp2_with fail
    obtain ⟨W3, hW3⟩ : ∃ W3, (w1.setCell ⟨b, 0, none⟩ (.int .i64 0)).setCell ⟨b, 1, none⟩ (.int .i64 0) = W3 := ⟨_, rfl⟩
    have k3 : W3.heap[b]? = some (.cells #[.int .i64 0, .int .i64 0] 93) := by rw [← hW3]; exact blk_set (blk_set HK.out 0 _) 1 _
    have t0 := (blk_cell k3 0).trans rfl
    have t1 := (blk_cell k3 1).trans rfl
    have B3 : Below w.heap.size w W3 := by rw [← hW3]; exact ((below_then HB0.out HB0.out.size HB1.out).setCell (by rw [HX.out.1]; exact Nat.le_refl b) _).setCell (by rw [HX.out.1]; exact Nat.le_refl b) _
    rw [hW3]
    exact bodyPost_ret (v := .tuple #[.agg #[.int .i64 0, .int .i64 0], .int .i64 E2]) (by simp [results, Try.results74, go_sem, t0, t1]) rfl ⟨rfl, HH.out.below B3, Keep2.of_below B3 g _⟩

end Go.Proofs.Ytemglmcddaeedaa.PA

namespace Go.Proofs.Ytemglmcddaeedaa.PA
open Go.RowKit Go.Proofs.YtemglmcddaeedaaW.PrintWords Go.Proofs.YtemglmcddaeedaaW.PrintLast Go.Proofs.YtemglmcddaeedaaW.PrintMore
attribute [local go_sem] max2_int min2_int max_two min_two max_three min_three max_four min_four   -- for this text's walks alone
set_option linter.unusedVariables false
set_option linter.unusedSimpArgs false

/-! ### reader: function 0 -/
theorem grown_drewN (w : World) (n : Nat) (row : Option Nat) : w.grownBy (w.drewN n) row := ⟨rfl, rfl, rfl, Nat.le_refl _, fun _ _ _ => rfl⟩
/-- What the reader's byte tells. -/
def byteV (p : ByteArray) (n : Nat) : Int := if n < p.size then bt p (n : Int) else -1
def byteN (p : ByteArray) (n : Nat) : Nat := if n < p.size then n + 1 else n
set_option maxHeartbeats 1000000 in
set_option maxRecDepth 100000 in
theorem reader_byte (p : ByteArray) (hp : p.size ≤ 1000000) (n : Nat) (q : Nat) (w : World) (hq : w.heap[q]? = some (.cells #[.string p, .int .i64 (n : Int)] 99 (0, 0))) :
    Calls Try.prog 76 #[.pointer (some ⟨q, 0, none⟩)] w fun e w' => e = .returned (.int .i64 (byteV p n)) ∧ w'.heap[q]? = some (.cells #[.string p, .int .i64 (byteN p n : Int)] 99 (0, 0)) ∧ w.grownBy w' (some q) := by
  have c0 := (blk_cell hq 0).trans rfl
  have c1 := (blk_cell hq 1).trans rfl
  have f1 := blk_frozen hq 1
  have HQ := Aside0.mk hq
  clear hq
  by_cases hn : n < p.size
  · have HV := Aside0.mk (show byteV p n = bt p (n : Int) by unfold byteV; rw [if_pos hn])
    have HN := Aside0.mk (show byteN p n = n + 1 by unfold byteN; rw [if_pos hn])
    rw [HV.out, HN.out]
    have hd : decide ((p.size : Int) ≤ n) = false := decide_eq_false (by omega)
    have hb := bt_range p (n : Int)
    have hb0 := hb.1
    have hb1 := hb.2
    have hba := bt_at p (n : Int)
    have e1 : IntKind.i64.wrap ((n : Int) + 1) = (n : Int) + 1 := IntWalk.i64_in _ (by omega)
    have e2 : IntKind.i64.wrap ((n : Int) + 1 - 1) = (n : Int) := by rw [IntKind.wrap_i64]; omega
    have e3 : IntKind.i64.wrap (bt p (n : Int)) = bt p (n : Int) := IntWalk.i64_in _ (by omega)
    have hn1 : (n : Int) < p.size := by omega
    have hn0 : (0 : Int) ≤ n := by omega
    have hn2 : (n : Int) ≤ 1000000 := by omega
    go_enter Try.func76, Try.ntmps76
    go_wp2_with fail
    go_quiet (fail)
    go_wp2_with fail
    obtain ⟨W2, hW2⟩ : ∃ W2, (w.drewN nq).setCell ⟨q, 1, none⟩ (.int .i64 ((n : Int) + 1)) = W2 := ⟨_, rfl⟩
    have k2 : W2.heap[q]? = some (.cells #[.string p, .int .i64 ((n : Int) + 1)] 99 (0, 0)) := by rw [← hW2]; exact blk_set (blk_drewN HQ.out nq) 1 _
    have d0 := (blk_cell k2 0).trans rfl
    have d1 := (blk_cell k2 1).trans rfl
    have HK := Aside0.mk k2
    have HG := Aside0.mk (show w.grownBy W2 (some q) by rw [← hW2]; exact (grown_drewN w nq _).trans (grown_set (w.drewN nq) q 1 _))
    rw [hW2]
    clear hW2 k2 c0 c1 f1
    go_quiet (fail)
    go_wp2
    go_ret
    have hbb : wrap64 ((p[n]'hn).toNat : Int) = bt p (n : Int) := by
      have := hba (by rw [Int.toNat_natCast]; exact hn)
      simp only [Int.toNat_natCast] at this
      rw [this]; unfold wrap64; omega
    exact ⟨ret_int hbb, HK.out, HG.out.trans (grown_drewN _ _ _)⟩
  · have HV := Aside0.mk (show byteV p n = -1 by unfold byteV; rw [if_neg hn])
    have HN := Aside0.mk (show byteN p n = n by unfold byteN; rw [if_neg hn])
    rw [HV.out, HN.out]
    have hd : decide ((p.size : Int) ≤ n) = true := decide_eq_true (by omega)
    go_enter Try.func76, Try.ntmps76
    go_wp2_with fail
    go_quiet (fail)
    go_wp2_with fail
    go_ret
    exact ⟨rfl, HQ.out, ⟨rfl, rfl, rfl, Nat.le_refl _, fun _ _ _ => rfl⟩⟩
/-- What a number that is read tells. -/
def numV (p : ByteArray) (n : Nat) (may : Int → Bool) : Int × Bool := if n + 2 ≤ p.size then (if may (twoS p (n : Int)) then (twoS p (n : Int), true) else (0, false)) else (0, false)
def numN (p : ByteArray) (n : Nat) (may : Int → Bool) : Nat := if n + 2 ≤ p.size then (if may (twoS p (n : Int)) then n + 2 else n) else p.size
set_option maxHeartbeats 2000000 in
set_option maxRecDepth 100000 in
theorem reader_number1 (p : ByteArray) (hp : p.size ≤ 1000000) (n : Nat) (may : Int → Bool) (hmay : ∀ (x : Int) (W : World), 0 ≤ x → x ≤ 65535 → Calls Try.prog 78 #[.int .i64 x] W fun e W' => e = .returned (.bool (may x)) ∧ Below W.heap.size W W')
    (q : Nat) (w : World) (hq : w.heap[q]? = some (.cells #[.string p, .int .i64 (n : Int)] 99 (0, 0))) :
    Calls Try.prog 77 #[.pointer (some ⟨q, 0, none⟩), .func (.func 78) #[] #[]] w fun e w' => e = .returned (.tuple #[.int .i64 (numV p n may).1, .bool (numV p n may).2]) ∧ w'.heap[q]? = some (.cells #[.string p, .int .i64 (numN p n may : Int)] 99 (0, 0)) ∧ w.grownBy w' (some q) := by
  have HQ := Aside0.mk hq
  have HM := Aside0.mk hmay
  clear hq hmay
  by_cases h2 : n + 2 ≤ p.size
  · have hv1 : byteV p n = bt p (n : Int) := by unfold byteV; rw [if_pos (by omega)]
    have hn1 : byteN p n = n + 1 := by unfold byteN; rw [if_pos (by omega)]
    have hv2 : byteV p (n + 1) = bt p ((n : Int) + 1) := by unfold byteV; rw [if_pos (by omega)]; rfl
    have hn2 : byteN p (n + 1) = n + 2 := by unfold byteN; rw [if_pos (by omega)]
    have h3 := twoS_range p (n : Int)
    have hb1 := bt_range p (n : Int)
    have hb2 := bt_range p ((n : Int) + 1)
    have HT := Aside0.mk (show twoS p (n : Int) = 256 * bt p (n : Int) + bt p ((n : Int) + 1) from rfl)
    have HBY := Aside0.mk (And.intro hv1 (And.intro hn1 (And.intro hv2 hn2)))
    have HNV := Aside0.mk (show numV p n may = (if may (twoS p (n : Int)) then (twoS p (n : Int), true) else (0, false)) by unfold numV; rw [if_pos h2])
    have HNN := Aside0.mk (show numN p n may = (if may (twoS p (n : Int)) then n + 2 else n) by unfold numN; rw [if_pos h2])
    obtain ⟨x, hx⟩ : ∃ x, bt p (n : Int) = x := ⟨_, rfl⟩
    obtain ⟨y, hy⟩ : ∃ y, bt p ((n : Int) + 1) = y := ⟨_, rfl⟩
    rw [hx, hy] at HT
    rw [hx] at hb1
    rw [hy] at hb2
    have HXY := Aside0.mk (And.intro hx hy)
    clear hv1 hn1 hv2 hn2 hx hy
    have hx0 := hb1.1
    have hx1 := hb1.2
    have hy0 := hb2.1
    have hy1 := hb2.2
    have d0 : decide (y < 0) = false := decide_eq_false (by omega)
    have e1 : Go.bits .or .i64 (x * 256) y = x * 256 + y := i64_or8 _ _ (by omega) (by omega) (by omega) (by omega) (by omega)
    have e2 : IntKind.i64.wrap (x * 256) = x * 256 := IntWalk.i64_in _ (by omega)
    rw [HT.out] at HNV HNN
    obtain ⟨z, hz⟩ : ∃ z, x * 256 + y = z := ⟨_, rfl⟩
    rw [show 256 * x + y = z by omega] at HNV HNN
    have hz0 : 0 ≤ z := by omega
    have hz1 : z ≤ 65535 := by omega
    rw [hz] at e1
    have e3 : IntKind.i64.wrap ((n : Int) + 2 - 2) = (n : Int) := by rw [IntKind.wrap_i64]; omega
    obtain ⟨m, hm⟩ : ∃ m, may z = m := ⟨_, rfl⟩
    have HMZ := Aside0.mk (And.intro hm hz)
    clear hm hz
    rw [HMZ.out.1] at HNV HNN
    rw [HNV.out, HNN.out]
    clear HNV HNN
    go_enter Try.func77, Try.ntmps77
    go_wp2_with fail
    refine (reader_byte p hp n q w HQ.out).mono ?_
    rw [HBY.out.1, HBY.out.2.1, HXY.out.1]
    rintro e w1 ⟨rfl, hq1, hg1⟩
    have HQ1 := Aside0.mk hq1
    have HG1 := Aside0.mk hg1
    clear hq1 hg1
    go_wp2_with fail
    refine (reader_byte p hp (n + 1) q w1 HQ1.out).mono ?_
    rw [HBY.out.2.2.1, HBY.out.2.2.2, HXY.out.2]
    rintro e w2 ⟨rfl, hq2, hg2⟩
    have HQ2 := Aside0.mk hq2
    have HG2 := Aside0.mk (HG1.out.trans hg2)
    clear hq2 hg2
    go_wp2_with fail
    refine (HM.out z w2 hz0 hz1).mono ?_
    rw [HMZ.out.1]
    rintro e w3 ⟨rfl, hb3⟩
    have HQ3 := Aside0.mk (show w3.heap[q]? = some (.cells #[.string p, .int .i64 ((n : Int) + 2)] 99 (0, 0)) from (hb3.block q (blk_lt HQ2.out)).trans HQ2.out)
    have HG3 := Aside0.mk (show w.grownBy w3 (some q) from HG2.out.trans ⟨hb3.os, hb3.tape, hb3.output, hb3.size, fun k hk _ => hb3.block k hk⟩)
    have c1 := (blk_cell HQ3.out 1).trans rfl
    have f1 := blk_frozen HQ3.out 1
    clear hb3
    cases m with
    | true =>
      go_wp2_with fail
      go_ret2
      exact ⟨rfl, HQ3.out, HG3.out⟩
    | false =>
      go_wp2_with fail
      go_ret2
      exact ⟨rfl, blk_set HQ3.out 1 _, HG3.out.trans (grown_set w3 q 1 _)⟩
  · have HNV := Aside0.mk (show numV p n may = (0, false) by unfold numV; rw [if_neg h2])
    have HNN := Aside0.mk (show numN p n may = p.size by unfold numN; rw [if_neg h2])
    have hv2 : byteV p (byteN p n) = -1 := by
      unfold byteV byteN
      split
      · rw [if_neg (by omega)]
      · rfl
    rw [HNV.out, HNN.out]
    have HV := Aside0.mk hv2
    obtain ⟨x, hx⟩ : ∃ x, byteV p n = x := ⟨_, rfl⟩
    have HX := Aside0.mk hx
    obtain ⟨m, hm⟩ : ∃ m, byteN p n = m := ⟨_, rfl⟩
    have HMM := Aside0.mk hm
    rw [HMM.out] at HV
    obtain ⟨m2, hm2⟩ : ∃ m2, byteN p m = m2 := ⟨_, rfl⟩
    have HM2 := Aside0.mk hm2
    clear hv2 hx hm hm2
    go_enter Try.func77, Try.ntmps77
    go_wp2_with fail
    refine (reader_byte p hp n q w HQ.out).mono ?_
    rw [HX.out, HMM.out]
    rintro e w1 ⟨rfl, hq1, hg1⟩
    have HQ1 := Aside0.mk hq1
    have HG1 := Aside0.mk hg1
    clear hq1 hg1
    go_wp2_with fail
    refine (reader_byte p hp m q w1 HQ1.out).mono ?_
    rw [HV.out, HM2.out]
    rintro e w2 ⟨rfl, hq2, hg2⟩
    have HQ2 := Aside0.mk hq2
    have HG2 := Aside0.mk (HG1.out.trans hg2)
    have c0 := (blk_cell HQ2.out 0).trans rfl
    have c1 := (blk_cell HQ2.out 1).trans rfl
    have f1 := blk_frozen HQ2.out 1
    clear hq2 hg2
    go_wp2_with fail
    go_ret2
    exact ⟨rfl, blk_set HQ2.out 1 _, HG2.out.trans (grown_set w2 q 1 _)⟩
set_option maxHeartbeats 2000000 in
set_option maxRecDepth 100000 in
theorem reader_number2 (p : ByteArray) (hp : p.size ≤ 1000000) (n : Nat) (may : Int → Bool) (hmay : ∀ (x : Int) (W : World), 0 ≤ x → x ≤ 65535 → Calls Try.prog 79 #[.int .i64 x] W fun e W' => e = .returned (.bool (may x)) ∧ Below W.heap.size W W')
    (q : Nat) (w : World) (hq : w.heap[q]? = some (.cells #[.string p, .int .i64 (n : Int)] 99 (0, 0))) :
    Calls Try.prog 77 #[.pointer (some ⟨q, 0, none⟩), .func (.func 79) #[] #[]] w fun e w' => e = .returned (.tuple #[.int .i64 (numV p n may).1, .bool (numV p n may).2]) ∧ w'.heap[q]? = some (.cells #[.string p, .int .i64 (numN p n may : Int)] 99 (0, 0)) ∧ w.grownBy w' (some q) := by
  have HQ := Aside0.mk hq
  have HM := Aside0.mk hmay
  clear hq hmay
  by_cases h2 : n + 2 ≤ p.size
  · have hv1 : byteV p n = bt p (n : Int) := by unfold byteV; rw [if_pos (by omega)]
    have hn1 : byteN p n = n + 1 := by unfold byteN; rw [if_pos (by omega)]
    have hv2 : byteV p (n + 1) = bt p ((n : Int) + 1) := by unfold byteV; rw [if_pos (by omega)]; rfl
    have hn2 : byteN p (n + 1) = n + 2 := by unfold byteN; rw [if_pos (by omega)]
    have h3 := twoS_range p (n : Int)
    have hb1 := bt_range p (n : Int)
    have hb2 := bt_range p ((n : Int) + 1)
    have HT := Aside0.mk (show twoS p (n : Int) = 256 * bt p (n : Int) + bt p ((n : Int) + 1) from rfl)
    have HBY := Aside0.mk (And.intro hv1 (And.intro hn1 (And.intro hv2 hn2)))
    have HNV := Aside0.mk (show numV p n may = (if may (twoS p (n : Int)) then (twoS p (n : Int), true) else (0, false)) by unfold numV; rw [if_pos h2])
    have HNN := Aside0.mk (show numN p n may = (if may (twoS p (n : Int)) then n + 2 else n) by unfold numN; rw [if_pos h2])
    obtain ⟨x, hx⟩ : ∃ x, bt p (n : Int) = x := ⟨_, rfl⟩
    obtain ⟨y, hy⟩ : ∃ y, bt p ((n : Int) + 1) = y := ⟨_, rfl⟩
    rw [hx, hy] at HT
    rw [hx] at hb1
    rw [hy] at hb2
    have HXY := Aside0.mk (And.intro hx hy)
    clear hv1 hn1 hv2 hn2 hx hy
    have hx0 := hb1.1
    have hx1 := hb1.2
    have hy0 := hb2.1
    have hy1 := hb2.2
    have d0 : decide (y < 0) = false := decide_eq_false (by omega)
    have e1 : Go.bits .or .i64 (x * 256) y = x * 256 + y := i64_or8 _ _ (by omega) (by omega) (by omega) (by omega) (by omega)
    have e2 : IntKind.i64.wrap (x * 256) = x * 256 := IntWalk.i64_in _ (by omega)
    rw [HT.out] at HNV HNN
    obtain ⟨z, hz⟩ : ∃ z, x * 256 + y = z := ⟨_, rfl⟩
    rw [show 256 * x + y = z by omega] at HNV HNN
    have hz0 : 0 ≤ z := by omega
    have hz1 : z ≤ 65535 := by omega
    rw [hz] at e1
    have e3 : IntKind.i64.wrap ((n : Int) + 2 - 2) = (n : Int) := by rw [IntKind.wrap_i64]; omega
    obtain ⟨m, hm⟩ : ∃ m, may z = m := ⟨_, rfl⟩
    have HMZ := Aside0.mk (And.intro hm hz)
    clear hm hz
    rw [HMZ.out.1] at HNV HNN
    rw [HNV.out, HNN.out]
    clear HNV HNN
    go_enter Try.func77, Try.ntmps77
    go_wp2_with fail
    refine (reader_byte p hp n q w HQ.out).mono ?_
    rw [HBY.out.1, HBY.out.2.1, HXY.out.1]
    rintro e w1 ⟨rfl, hq1, hg1⟩
    have HQ1 := Aside0.mk hq1
    have HG1 := Aside0.mk hg1
    clear hq1 hg1
    go_wp2_with fail
    refine (reader_byte p hp (n + 1) q w1 HQ1.out).mono ?_
    rw [HBY.out.2.2.1, HBY.out.2.2.2, HXY.out.2]
    rintro e w2 ⟨rfl, hq2, hg2⟩
    have HQ2 := Aside0.mk hq2
    have HG2 := Aside0.mk (HG1.out.trans hg2)
    clear hq2 hg2
    go_wp2_with fail
    refine (HM.out z w2 hz0 hz1).mono ?_
    rw [HMZ.out.1]
    rintro e w3 ⟨rfl, hb3⟩
    have HQ3 := Aside0.mk (show w3.heap[q]? = some (.cells #[.string p, .int .i64 ((n : Int) + 2)] 99 (0, 0)) from (hb3.block q (blk_lt HQ2.out)).trans HQ2.out)
    have HG3 := Aside0.mk (show w.grownBy w3 (some q) from HG2.out.trans ⟨hb3.os, hb3.tape, hb3.output, hb3.size, fun k hk _ => hb3.block k hk⟩)
    have c1 := (blk_cell HQ3.out 1).trans rfl
    have f1 := blk_frozen HQ3.out 1
    clear hb3
    cases m with
    | true =>
      go_wp2_with fail
      go_ret2
      exact ⟨rfl, HQ3.out, HG3.out⟩
    | false =>
      go_wp2_with fail
      go_ret2
      exact ⟨rfl, blk_set HQ3.out 1 _, HG3.out.trans (grown_set w3 q 1 _)⟩
  · have HNV := Aside0.mk (show numV p n may = (0, false) by unfold numV; rw [if_neg h2])
    have HNN := Aside0.mk (show numN p n may = p.size by unfold numN; rw [if_neg h2])
    have hv2 : byteV p (byteN p n) = -1 := by
      unfold byteV byteN
      split
      · rw [if_neg (by omega)]
      · rfl
    rw [HNV.out, HNN.out]
    have HV := Aside0.mk hv2
    obtain ⟨x, hx⟩ : ∃ x, byteV p n = x := ⟨_, rfl⟩
    have HX := Aside0.mk hx
    obtain ⟨m, hm⟩ : ∃ m, byteN p n = m := ⟨_, rfl⟩
    have HMM := Aside0.mk hm
    rw [HMM.out] at HV
    obtain ⟨m2, hm2⟩ : ∃ m2, byteN p m = m2 := ⟨_, rfl⟩
    have HM2 := Aside0.mk hm2
    clear hv2 hx hm hm2
    go_enter Try.func77, Try.ntmps77
    go_wp2_with fail
    refine (reader_byte p hp n q w HQ.out).mono ?_
    rw [HX.out, HMM.out]
    rintro e w1 ⟨rfl, hq1, hg1⟩
    have HQ1 := Aside0.mk hq1
    have HG1 := Aside0.mk hg1
    clear hq1 hg1
    go_wp2_with fail
    refine (reader_byte p hp m q w1 HQ1.out).mono ?_
    rw [HV.out, HM2.out]
    rintro e w2 ⟨rfl, hq2, hg2⟩
    have HQ2 := Aside0.mk hq2
    have HG2 := Aside0.mk (HG1.out.trans hg2)
    have c0 := (blk_cell HQ2.out 0).trans rfl
    have c1 := (blk_cell HQ2.out 1).trans rfl
    have f1 := blk_frozen HQ2.out 1
    clear hq2 hg2
    go_wp2_with fail
    go_ret2
    exact ⟨rfl, blk_set HQ2.out 1 _, HG2.out.trans (grown_set w2 q 1 _)⟩

end Go.Proofs.Ytemglmcddaeedaa.PA

namespace Go.Proofs.Ytemglmcddaeedaa.PA
open Go.RowKit Go.Proofs.YtemglmcddaeedaaW.PrintWords Go.Proofs.YtemglmcddaeedaaW.PrintLast Go.Proofs.YtemglmcddaeedaaW.PrintMore
attribute [local go_sem] max2_int min2_int max_two min_two max_three min_three max_four min_four   -- for this text's walks alone
set_option linter.unusedVariables false
set_option linter.unusedSimpArgs false

/-! ### load: function 0 -/
/-! #### space.Load -/
def sizeB (n : Int) : Bool := decide (32 ≤ n) && decide (n ≤ 4096) && decide (n % 8 = 0)
def countB (n : Int) : Bool := decide (1 ≤ n) && decide (n ≤ 200)
/-- What page.New answers, as far as Load asks. -/
def NewLaw : Prop := ∀ x : Int, 0 ≤ x → x ≤ 65535 → ∃ (q : ByteArray) (e : Int), page_New.f 1 x = some (q, e) ∧ (e = 0 ↔ sizeB x = true) ∧ (e = 0 → (q.size : Int) = x)
theorem load_may1 (HN : NewLaw) (x : Int) (w : World) (h0 : 0 ≤ x) (h1 : x ≤ 65535) : Calls Try.prog 78 #[.int .i64 x] w fun e w' => e = .returned (.bool (sizeB x)) ∧ Below w.heap.size w w' := by
  obtain ⟨q, e, hf, he, _⟩ := HN x h0 h1
  have hb : (e == 0) = sizeB x := by
    cases hs : sizeB x with
    | true => rw [he.2 hs]; rfl
    | false => exact beq_eq_false_iff_ne.2 (fun h => by rw [he.1 h] at hs; cases hs)
  rw [← hb]
  clear hb he
  go_enter Try.func78, Try.ntmps78
  go_wp2_with fail
  refine (page_New.calls 1 x q e w hf).mono ?_
  rintro e1 w1 ⟨rfl, hb⟩
  go_wp2_with fail
  go_ret
  exact ⟨rfl, hb⟩
theorem load_may2 (x : Int) (w : World) : Calls Try.prog 79 #[.int .i64 x] w fun e w' => e = .returned (.bool (countB x)) ∧ Below w.heap.size w w' := by
  unfold countB
  by_cases h1 : 1 ≤ x
  · have d1 : decide (1 ≤ x) = true := decide_eq_true h1
    rw [d1, Bool.true_and]
    go_enter Try.func79, Try.ntmps79
    go_wp2_with fail
    go_ret
    exact ⟨rfl, Below.refl _ _⟩
  · have d1 : decide (1 ≤ x) = false := decide_eq_false h1
    rw [d1, Bool.false_and]
    go_enter Try.func79, Try.ntmps79
    go_wp2_with fail
    go_ret
    exact ⟨rfl, Below.refl _ _⟩
def firstBad {α : Type} (f : Nat → Option α) (n : Nat) : Option α := (List.range n).findSome? f
theorem firstBad_none {α : Type} {f : Nat → Option α} {n : Nat} (h : ∀ j, j < n → f j = none) : firstBad f n = none := by
  unfold firstBad; rw [List.findSome?_eq_none_iff]; intro j hj; exact h j (by simpa using hj)
theorem firstBad_at {α : Type} {f : Nat → Option α} {n i : Nat} {x : α} (hi : i < n) (h : ∀ j, j < i → f j = none) (hx : f i = some x) : firstBad f n = some x := by
  unfold firstBad
  rw [show n = i + (n - i) by omega, List.range_add, List.findSome?_append]
  have h0 : List.findSome? f (List.range i) = none := firstBad_none h
  rw [h0, Option.none_or, List.findSome?_map, show n - i = (n - i - 1) + 1 by omega, List.range_succ_eq_map, List.findSome?_cons]
  simp [hx]
def markV (i : Nat) : Int := ([65, 82, 69, 65] : List Int).getD i 0
def headBad (p : ByteArray) (i : Nat) : Option Int := if byteV p i = markV i then none else some (i : Int)
def pageS (p : ByteArray) (sz : Int) (n i : Nat) : ByteArray := p.extract (8 + n + i * sz.toNat) (8 + n + i * sz.toNat + sz.toNat)
def pageBad (p : ByteArray) (sz : Int) (n i : Nat) : Option Int :=
  if (p.size : Int) < 8 + n + i * sz + sz then some (p.size : Int) else if (wrongS (pageS p sz n i)).2 = 0 then none else some (8 + n + i * sz + (wrongS (pageS p sz n i)).1)
def lvS (p : ByteArray) (sz : Int) (n i : Nat) : Int := roomS (pageS p sz n i) * 8 / sz
def lvBad (p : ByteArray) (sz : Int) (n i : Nat) : Option Int := if bt p (8 + i : Int) = lvS p sz n i then none else some (8 + i : Int)
def loadedS (p : ByteArray) (sz : Int) (n : Nat) : AreaS := ⟨sz, (List.range n).map (pageS p sz n), (List.range n).map (lvS p sz n) ++ zer (200 - n)⟩
def endS (p : ByteArray) (sz : Int) (n : Nat) : Int × Int × Option AreaS := if 8 + n + n * sz < (p.size : Int) then (8 + n + n * sz, 12, none) else (0, 0, some (loadedS p sz n))
/-- Load behind the two numbers. -/
def restS (p : ByteArray) (sz : Int) (n : Nat) : Int × Int × Option AreaS :=
  match firstBad (pageBad p sz n) n with
  | some at_ => (at_, 12, none)
  | none => match firstBad (lvBad p sz n) n with
    | some at_ => (at_, 12, none)
    | none => endS p sz n
/-- Load: the place, the error, the area. -/
def loadS (p : ByteArray) : Int × Int × Option AreaS :=
  if 900000 < p.size then (0, 3, none) else
  match firstBad (headBad p) 4 with
  | some at_ => (at_, 12, none)
  | none => if (numV p 4 sizeB).2 then (if (numV p (numN p 4 sizeB) countB).2 then restS p (numV p 4 sizeB).1 (numV p (numN p 4 sizeB) countB).1.toNat else (numN p (numN p 4 sizeB) countB, 12, none)) else (numN p 4 sizeB, 12, none)
def LoadOut (r : Int × Int × Option AreaS) (w : World) (e : Ending) (w' : World) : Prop :=
  (∃ at_ c, r = (at_, c, none) ∧ e = .returned (.tuple #[.pointer none, .int .i64 at_, .int .i64 c]) ∧ Below w.heap.size w w') ∨
  (∃ a g v, r = (0, 0, some a) ∧ e = .returned (.tuple #[.pointer (some ⟨g, 0, none⟩), .int .i64 0, .int .i64 0]) ∧ AreaAt w' w.heap.size g v a ∧ Below w.heap.size w w')
theorem byteV_range (p : ByteArray) (i : Nat) : -1 ≤ byteV p i ∧ byteV p i ≤ 255 := by
  unfold byteV; split
  · have := bt_range p (i : Int); omega
  · omega
theorem scanE_err_range (p : ByteArray) (n i : Nat) (a : Int) (h : scanE p n i = .error a) : 0 ≤ a ∧ a ≤ 2 + 4 * (i : Int) := by
  induction i generalizing a with
  | zero => cases h
  | succ i ih =>
    simp only [scanE] at h
    cases hs : scanE p n i with
    | error b => rw [hs] at h; cases h; have := ih _ hs; omega
    | ok s =>
      obtain ⟨t, l⟩ := s
      rw [hs] at h
      simp only at h
      split at h
      · cases h
      · split at h
        · cases h; omega
        · cases h
theorem firstNZ_range (p : ByteArray) (top : Int) (i : Nat) (x : Nat) (h : firstNZ p top i = some x) : (x : Int) < top := by
  fun_induction firstNZ p top i with
  | case1 i h1 h2 => cases h; exact h1
  | case2 i h1 h2 ih => exact ih h
  | case3 i h1 => cases h
theorem wrongS_range (p : ByteArray) (hp : p.size ≤ 100000) : 0 ≤ (wrongS p).1 ∧ (wrongS p).1 ≤ 1000000 := by
  unfold wrongS
  have ht := twoS_range p 0
  split
  · split
    · exact ⟨Int.le_refl 0, by decide⟩
    · unfold entriesS
      cases hs : scanE p (twoS p 0).toNat (twoS p 0).toNat with
      | error a => have := scanE_err_range _ _ _ _ hs; simp only; omega
      | ok s =>
        obtain ⟨top, last⟩ := s
        have h2 := scanE_range _ _ _ _ _ hs
        simp only
        by_cases hl : last < ((twoS p 0).toNat : Int)
        · rw [if_pos hl]; simp only; omega
        · rw [if_neg hl]; simp only
          cases hf : firstNZ p top (2 + 4 * (twoS p 0).toNat) with
          | none => simp only; omega
          | some x => have := firstNZ_range _ _ _ _ hf; simp only; omega
  · exact ⟨Int.le_refl 0, by decide⟩
theorem below_grownQ {w W W' : World} {B q : Nat} (h : Below B w W) (hB : B ≤ W.heap.size) (hq : B ≤ q) (g : W.grownBy W' (some q)) : Below B w W' :=
  ⟨g.os.trans h.os, g.tape.trans h.tape, g.output.trans h.output, Nat.le_trans h.size g.size, fun k hk => (g.block k (by omega) (by intro e; cases e; omega)).trans (h.block k hk)⟩
theorem numV_true (p : ByteArray) (n : Nat) (may : Int → Bool) (h : (numV p n may).2 = true) : may (numV p n may).1 = true ∧ 0 ≤ (numV p n may).1 ∧ (numV p n may).1 ≤ 65535 ∧ numN p n may = n + 2 ∧ n + 2 ≤ p.size := by
  have ht := twoS_range p (n : Int)
  unfold numV at h ⊢
  unfold numN
  by_cases h1 : n + 2 ≤ p.size
  · rw [if_pos h1] at h ⊢
    by_cases h2 : may (twoS p (n : Int)) = true
    · rw [if_pos h2] at h ⊢
      rw [if_pos h1, if_pos h2]
      exact ⟨h2, ht.1, ht.2, rfl, h1⟩
    · rw [if_neg h2] at h; cases h
  · rw [if_neg h1] at h; cases h
theorem RowK.weaken {w : World} {base base2 : Nat} {v : Value} {l : List ByteArray} (h : RowK sEnc 1 9 w base v l) (hb : base2 ≤ base) : RowK sEnc 1 9 w base2 v l := by
  rcases h with h | ⟨r, cap, sp, h1, h2, h3⟩
  · exact .inl h
  · exact .inr ⟨r, cap, sp, h1, Nat.le_trans hb h2, h3⟩
theorem AreaAt.weaken {w : World} {base base2 g : Nat} {v : Value} {a : AreaS} (h : AreaAt w base g v a) (hb : base2 ≤ base) : AreaAt w base2 g v a :=
  ⟨Nat.le_trans hb h.ge, h.blk, h.lv, h.row.weaken hb⟩
/-- The area behind i pages. -/
def areaI (p : ByteArray) (sz : Int) (n : Nat) (p0 : ByteArray) (L0 : Int) (i : Nat) : AreaS :=
  ⟨sz, (List.range i).map (pageS p sz n) ++ List.replicate (n - i) p0, (List.range i).map (lvS p sz n) ++ (List.replicate (n - i) L0 ++ zer (200 - n))⟩
theorem areaI_len (p : ByteArray) (sz : Int) (n : Nat) (p0 : ByteArray) (L0 : Int) (i : Nat) (hi : i ≤ n) : (areaI p sz n p0 L0 i).pages.length = n := by
  simp [areaI]; omega
theorem areaI_end (p : ByteArray) (sz : Int) (n : Nat) (p0 : ByteArray) (L0 : Int) : areaI p sz n p0 L0 n = loadedS p sz n := by
  simp [areaI, loadedS]
theorem areaI_zero (p : ByteArray) (sz : Int) (n : Nat) (p0 : ByteArray) (L0 : Int) : areaI p sz n p0 L0 0 = ⟨sz, List.replicate n p0, List.replicate n L0 ++ zer (200 - n)⟩ := by
  simp [areaI]
theorem areaI_step (p : ByteArray) (sz : Int) (n : Nat) (p0 : ByteArray) (L0 : Int) (i : Nat) (hi : i < n) :
    (areaI p sz n p0 L0 i).pages.set i (pageS p sz n i) = (areaI p sz n p0 L0 (i + 1)).pages ∧ (areaI p sz n p0 L0 i).lv.set i (lvS p sz n i) = (areaI p sz n p0 L0 (i + 1)).lv := by
  have h1 := set_at ((List.range i).map (pageS p sz n)) (List.replicate (n - (i + 1)) p0) p0 (pageS p sz n i)
  have h2 := set_at ((List.range i).map (lvS p sz n)) (List.replicate (n - (i + 1)) L0 ++ zer (200 - n)) L0 (lvS p sz n i)
  rw [List.length_map, List.length_range] at h1 h2
  constructor
  · simp only [areaI]
    rw [show n - i = (n - (i + 1)) + 1 by omega, List.replicate_succ, h1, List.range_succ, List.map_append]
    simp
  · simp only [areaI]
    rw [show n - i = (n - (i + 1)) + 1 by omega, List.replicate_succ, List.cons_append, h2, List.range_succ, List.map_append]
    simp
theorem mark_at (i : Nat) (h : i < 4) : wrap64 (((⟨#[65, 82, 69, 65]⟩ : ByteArray)[i]'h).toNat : Int) = markV i := by
  match i, h with
  | 0, _ => unfold wrap64; decide +revert
  | 1, _ => unfold wrap64; decide +revert
  | 2, _ => unfold wrap64; decide +revert
  | 3, _ => unfold wrap64; decide +revert
theorem byteN_of (p : ByteArray) (i : Nat) (x : Int) (h : byteV p i = x) (hx : 0 ≤ x) : i < p.size ∧ byteN p i = i + 1 := by
  unfold byteV at h
  by_cases hi : i < p.size
  · exact ⟨hi, by unfold byteN; rw [if_pos hi]⟩
  · rw [if_neg hi] at h; omega
set_option maxHeartbeats 2000000 in
set_option maxRecDepth 100000 in
theorem space_Load (HN : NewLaw) (p : ByteArray) (w : World) : Calls Try.prog 43 #[.string p] w fun e w' => LoadOut (loadS p) w e w' := by
  obtain ⟨R, hR⟩ : ∃ R, loadS p = R := ⟨_, rfl⟩
  have HR := Aside0.mk hR
  rw [hR]
  have HNW := Aside0.mk HN
  clear HN hR
  by_cases hbig : 900000 < p.size
  · have d1 : decide ((900000 : Int) < p.size) = true := decide_eq_true (by omega)
    go_enter Try.func43, Try.ntmps43
    go_wp2_with fail
    go_ret3
    refine .inl ⟨0, 3, ?_, rfl, Below.refl _ _⟩
    rw [← HR.out]; unfold loadS; rw [if_pos hbig]
  · have d1 : decide ((900000 : Int) < p.size) = false := decide_eq_false (by omega)
    have hp : p.size ≤ 1000000 := by omega
    go_enter Try.func43, Try.ntmps43
    go_wp2_with fail
    obtain ⟨q, hq⟩ : ∃ q, w.heap.size = q := ⟨_, rfl⟩
    obtain ⟨W, hW⟩ : ∃ W, w.alloc (.cells #[.string p, .int .i64 0] 99) = W := ⟨_, rfl⟩
    have HQ0 := Aside0.mk (show W.heap[q]? = some (.cells #[.string p, .int .i64 ((0 : Nat) : Int)] 99 (0, 0)) by rw [← hW, ← hq]; exact blk_new _ _)
    have HB0 := Aside0.mk (show Below q w W by rw [← hW, ← hq]; exact below_alloc (Below.refl _ w) _)
    have HE := Aside0.mk hq
    rw [hq, hW]
    clear hq hW
    go_loopw [24] (fun v24 wr => ∃ i : Nat, i ≤ 4 ∧ i ≤ p.size ∧ v24 = .int .i64 (i : Int) ∧ Aside0 (∀ j, j < i → headBad p j = none) ∧ Aside0 (wr.heap[q]? = some (.cells #[.string p, .int .i64 (i : Int)] 99 (0, 0))) ∧ Aside0 (Below q w wr)) (fun v24 _ => 4 - (intOf v24).toNat)
    case atStart => exact ⟨0, by omega, by omega, rfl, Aside0.mk (fun j hj => absurd hj (Nat.not_lt_zero j)), HQ0, HB0⟩
    case round =>
      clear HQ0 HB0
      obtain ⟨i, hi, his, rfl, HJ, HQ, HB⟩ := hrel
      by_cases hlt : i < 4
      · obtain ⟨x, hx⟩ : ∃ x, byteV p i = x := ⟨_, rfl⟩
        obtain ⟨m, hm⟩ : ∃ m, byteN p i = m := ⟨_, rfl⟩
        have HX := Aside0.mk (And.intro hx hm)
        have HRB := Aside0.mk (reader_byte p hp i q wr HQ.out)
        rw [hx, hm] at HRB
        have hfirst := fun (y : Int) (h : headBad p i = some y) => firstBad_at (f := headBad p) hlt HJ.out h
        have HFB := Aside0.mk hfirst
        have hsz : (i : Int) ≤ p.size := by omega
        clear hx hm hfirst
        have hall : ∀ c : Int, markV i = c → 0 ≤ c → x ≠ c → loadS p = ((i : Int), 12, none) := by
          intro c h1 h2 h3
          have := HFB.out (i : Int) (by unfold headBad; rw [HX.out.1, if_neg (by rw [h1]; exact h3)])
          unfold loadS; rw [if_neg hbig, this]
        have hok : ∀ c : Int, markV i = c → 0 ≤ c → x = c → headBad p i = none ∧ m = i + 1 ∧ i + 1 ≤ p.size := by
          intro c h1 h2 h3
          have := byteN_of p i x HX.out.1 (by omega)
          exact ⟨by unfold headBad; rw [HX.out.1, if_pos (by rw [h1]; exact h3)], HX.out.2 ▸ this.2, this.1⟩
        have HALL := Aside0.mk hall
        have HOK := Aside0.mk hok
        clear hall hok HFB
        obtain ⟨c, hc⟩ : ∃ c, markV i = c := ⟨_, rfl⟩
        have hc0 : 0 ≤ c := by rw [← hc]; obtain rfl | rfl | rfl | rfl : i = 0 ∨ i = 1 ∨ i = 2 ∨ i = 3 := by omega
                               all_goals decide
        have hi4 : (i : Int) < 4 := by omega
        have hi0 : (0 : Int) ≤ i := by omega
        go_wp2_with fail
        refine HRB.out.mono ?_
        rintro e w1 ⟨rfl, hq1, hg1⟩
        have HQ1 := Aside0.mk hq1
        have HB1 := Aside0.mk (below_grownQ HB.out (by have := HB.out.size; have := HE.out; omega) (Nat.le_refl q) hg1)
        clear hq1 hg1
        have HMK := Aside0.mk (show ∀ h : i < (⟨#[65, 82, 69, 65]⟩ : ByteArray).size, wrap64 (((⟨#[65, 82, 69, 65]⟩ : ByteArray)[i]'h).toNat : Int) = c by
          intro h; rw [← hc]; exact mark_at i hlt)
        go_wp2_with fail
        all_goals rename_i hcx
        all_goals rw [HMK.out] at hcx
        · go_ret3
          exact .inl ⟨i, 12, by rw [← HR.out]; exact HALL.out c hc hc0 (by simpa using hcx), rfl, by rw [HE.out]; exact HB1.out⟩
        · have hxc : x = c := by simpa using hcx
          obtain ⟨h1, h2, h3⟩ := HOK.out c hc hc0 hxc
          refine ⟨⟨i + 1, by omega, h3, by go_num, Aside0.mk (fun j hj => ?_), Aside0.mk (by have := HQ1.out; rw [h2] at this; exact this), HB1⟩, by simp [intOf]; omega⟩
          by_cases hj2 : j < i
          · exact HJ.out j hj2
          · obtain rfl : j = i := by omega
            exact h1
      · obtain rfl : i = 4 := by omega
        have HL0 := Aside0.mk (show R = (if (numV p 4 sizeB).2 then (if (numV p (numN p 4 sizeB) countB).2 then restS p (numV p 4 sizeB).1 (numV p (numN p 4 sizeB) countB).1.toNat else (numN p (numN p 4 sizeB) countB, 12, none)) else (numN p 4 sizeB, 12, none)) by
          rw [← HR.out]; unfold loadS; rw [if_neg hbig, firstBad_none HJ.out])
        obtain ⟨N1, hN1⟩ : ∃ N1, numN p 4 sizeB = N1 := ⟨_, rfl⟩
        obtain ⟨V1, hV1⟩ : ∃ V1, (numV p 4 sizeB).1 = V1 := ⟨_, rfl⟩
        obtain ⟨B1, hB1⟩ : ∃ B1, (numV p 4 sizeB).2 = B1 := ⟨_, rfl⟩
        rw [hN1, hV1, hB1] at HL0
        have HNUM := Aside0.mk (reader_number1 p hp 4 sizeB (fun x W h0 h1 => load_may1 HNW.out x W h0 h1) q wr HQ.out)
        rw [hN1, hV1, hB1] at HNUM
        have HNV := Aside0.mk (And.intro hN1 (And.intro hV1 hB1))
        clear hN1 hV1 hB1 HJ
        go_wp2_with fail
        refine HNUM.out.mono ?_
        rintro e w1 ⟨rfl, hq1, hg1⟩
        have HQ1 := Aside0.mk hq1
        have HB1 := Aside0.mk (below_grownQ HB.out (by have := HB.out.size; have := HE.out; omega) (Nat.le_refl q) hg1)
        have c0 := (blk_cell hq1 0).trans rfl
        have c1 := (blk_cell hq1 1).trans rfl
        have f1 := blk_frozen hq1 1
        clear hq1 hg1 HNUM HQ HB
        cases B1 with
        | false =>
          go_wp2_with fail
          go_quiet (fail)
          go_wp2
          go_ret3
          exact .inl ⟨N1, 12, HL0.out, rfl, by rw [HE.out]; exact pw_below_drewN HB1.out _⟩
        | true =>
          have hv := numV_true p 4 sizeB HNV.out.2.2
          rw [HNV.out.1, HNV.out.2.1] at hv
          obtain ⟨hv1, hv2, hv3, rfl, hv5⟩ := hv
          obtain ⟨p0, e0, hpn, he0, hp0⟩ := HNW.out V1 hv2 hv3
          obtain rfl : e0 = 0 := he0.2 hv1
          have HPN := Aside0.mk (And.intro hpn (hp0 rfl))
          clear hpn he0 hp0
          have hsb : 32 ≤ V1 ∧ V1 ≤ 4096 ∧ V1 % 8 = 0 := by
            simp only [sizeB, Bool.and_eq_true, decide_eq_true_eq] at hv1; omega
          clear hv1 hv2 hv3
          have HL1 := Aside0.mk (HL0.out.trans (if_pos rfl))
          clear HL0 HNV
          obtain ⟨N2, hN2⟩ : ∃ N2, numN p (4 + 2) countB = N2 := ⟨_, rfl⟩
          obtain ⟨V2, hV2⟩ : ∃ V2, (numV p (4 + 2) countB).1 = V2 := ⟨_, rfl⟩
          obtain ⟨B2, hB2⟩ : ∃ B2, (numV p (4 + 2) countB).2 = B2 := ⟨_, rfl⟩
          rw [hN2, hV2, hB2] at HL1
          have HNUM := Aside0.mk (reader_number2 p hp (4 + 2) countB (fun x W _ _ => load_may2 x W) q w1 HQ1.out)
          rw [hN2, hV2, hB2] at HNUM
          have HNV := Aside0.mk (And.intro hN2 (And.intro hV2 hB2))
          clear hN2 hV2 hB2 c0 c1 f1
          go_wp2_with fail
          refine HNUM.out.mono ?_
          rintro e w2 ⟨rfl, hq2, hg2⟩
          have HB2 := Aside0.mk (below_grownQ HB1.out (by have := HB1.out.size; have := HE.out; omega) (Nat.le_refl q) hg2)
          have c0 := (blk_cell hq2 0).trans rfl
          have c1 := (blk_cell hq2 1).trans rfl
          have f1 := blk_frozen hq2 1
          clear hq2 hg2 HNUM HQ1 HB1
          cases B2 with
          | false =>
            go_wp2_with fail
            go_quiet (fail)
            go_wp2
            go_ret3
            exact .inl ⟨N2, 12, HL1.out, rfl, by rw [HE.out]; exact pw_below_drewN HB2.out _⟩
          | true =>
            have hv := numV_true p (4 + 2) countB HNV.out.2.2
            rw [HNV.out.1, HNV.out.2.1] at hv
            obtain ⟨hv1, hv2, hv3, rfl, hv6⟩ := hv
            have hcb : 1 ≤ V2 ∧ V2 ≤ 200 := by
              simp only [countB, Bool.and_eq_true, decide_eq_true_eq] at hv1; omega
            obtain ⟨n, rfl⟩ : ∃ n : Nat, V2 = n := ⟨V2.toNat, by omega⟩
            clear hv1 hv2 hv3 HNV c0 c1 f1
            have HL2 := Aside0.mk (show R = restS p V1 n by rw [HL1.out]; exact if_pos rfl)
            clear HL1
            have hnn : 1 ≤ n ∧ n ≤ 200 := by omega
            have HNEW := Aside0.mk (area_New_ok V1 hsb n hnn p0 HPN.out.1 HPN.out.2 w2)
            go_wp2_with fail
            refine HNEW.out.mono ?_
            rintro e w3 ⟨g, v, rfl, hA, hb3⟩
            rw [← areaI_zero p] at hA
            have hA1 := hA.weaken (base2 := q) (by have := HB2.out.size; have := HE.out; omega)
            obtain ⟨r, cap, hv, _, _, hc0, _, _, _, _⟩ := hA1.slice (by rw [areaI_len _ _ _ _ _ _ (by omega)]; omega)
            rw [areaI_len _ _ _ _ _ _ (by omega)] at hv
            subst hv
            have HA0 := Aside0.mk hA1
            have HB3 := Aside0.mk (below_then HB2.out (by have := HB2.out.size; have := HE.out; omega) hb3)
            obtain ⟨L0, hL0⟩ : ∃ L0, roomS p0 * 8 / V1 = L0 := ⟨_, rfl⟩
            rw [hL0] at HA0
            clear hA hA1 hb3 HNEW hL0 HB2
            have hs1 := hsb.1
            have hs2 := hsb.2.1
            have hn1 : (1 : Int) ≤ n := by omega
            have hn2 : (n : Int) ≤ 200 := by omega
            have hps : (p.size : Int) ≤ 900000 := by omega
            have e0 : IntKind.i64.wrap (8 + (n : Int)) = 8 + (n : Int) := IntWalk.i64_in _ (by omega)
            go_wp2_with fail
            go_loopw [2, 68] (fun v2 v68 wr => ∃ i : Nat, i ≤ n ∧ v2 = .pointer (some ⟨g, 0, none⟩) ∧ v68 = .int .i64 (i : Int) ∧ Aside0 (∀ j, j < i → pageBad p V1 n j = none) ∧ Aside0 (AreaAt wr q g (.slice (some ⟨r, 0, none⟩) n cap) (areaI p V1 n p0 L0 i)) ∧ Aside0 (Below q w wr)) (fun _ v68 _ => n - (intOf v68).toNat)
            case atStart => exact ⟨0, by omega, rfl, rfl, Aside0.mk (fun j hj => absurd hj (Nat.not_lt_zero j)), HA0, HB3⟩
            case round =>
              clear HA0 HB3
              obtain ⟨i, hi, rfl, rfl, HJ, HA, HB⟩ := hrel
              by_cases hlt : i < n
              · have hlt1 : (i : Int) < n := by omega
                have hi0 : (0 : Int) ≤ i := by omega
                obtain ⟨P, hP⟩ : ∃ P, (i : Int) * V1 = P := ⟨_, rfl⟩
                have hP0 : 0 ≤ P := by rw [← hP]; exact Int.mul_nonneg hi0 (by omega)
                have hP1 : P ≤ 819200 := by
                  rw [← hP]
                  have h1 : (i : Int) * V1 ≤ 200 * V1 := Int.mul_le_mul_of_nonneg_right (by omega) (by omega)
                  omega
                have hPN : P.toNat = i * V1.toNat := by
                  rw [← hP, Int.toNat_mul hi0 (by omega), Int.toNat_natCast]
                have hPB : ∀ y, pageBad p V1 n i = y → (if (p.size : Int) < 8 + n + P + V1 then some (p.size : Int) else if (wrongS (pageS p V1 n i)).2 = 0 then none else some (8 + n + P + (wrongS (pageS p V1 n i)).1)) = y := by
                  intro y h; rw [← h]; unfold pageBad; rw [hP]
                have HPB := Aside0.mk (show pageBad p V1 n i = (if (p.size : Int) < 8 + n + P + V1 then some (p.size : Int) else if (wrongS (pageS p V1 n i)).2 = 0 then none else some (8 + n + P + (wrongS (pageS p V1 n i)).1)) from (hPB _ rfl).symm)
                have HFB := Aside0.mk (show ∀ y, pageBad p V1 n i = some y → R = (y, 12, none) from fun y h => by
                  rw [HL2.out]; unfold restS; rw [firstBad_at hlt HJ.out h])
                clear hPB
                have e1 : IntKind.i64.wrap ((i : Int) * V1) = P := by rw [hP]; exact IntWalk.i64_in _ (by omega)
                have e2 : IntKind.i64.wrap (8 + (n : Int) + P) = 8 + (n : Int) + P := IntWalk.i64_in _ (by omega)
                have e3 : IntKind.i64.wrap (8 + (n : Int) + P + V1) = 8 + (n : Int) + P + V1 := IntWalk.i64_in _ (by omega)
                by_cases hbp : (p.size : Int) < 8 + n + P + V1
                · have d3 : decide ((p.size : Int) < 8 + n + P + V1) = true := decide_eq_true hbp
                  have hr := HFB.out _ (HPB.out.trans (if_pos hbp))
                  have HRR := Aside0.mk hr
                  clear hr
                  go_wp2_with fail
                  go_ret3
                  exact .inl ⟨_, 12, HRR.out, rfl, by rw [HE.out]; exact HB.out⟩
                · have d3 : decide ((p.size : Int) < 8 + n + P + V1) = false := decide_eq_false hbp
                  have HX := Aside0.mk (show p.extract (8 + (n : Int) + P).toNat (8 + (n : Int) + P + V1).toNat = pageS p V1 n i by
                    unfold pageS
                    rw [show (8 + (n : Int) + P).toNat = 8 + n + i * V1.toNat by omega, show (8 + (n : Int) + P + V1).toNat = 8 + n + i * V1.toNat + V1.toNat by omega])
                  have HXS := Aside0.mk (show ((pageS p V1 n i).size : Int) = V1 by
                    unfold pageS; rw [ByteArray.size_extract, ← hPN]; omega)
                  have HST := Aside0.mk (areaI_step p V1 n p0 L0 i hlt)
                  have HLV := Aside0.mk (show lvS p V1 n i = roomS (pageS p V1 n i) * 8 / V1 from rfl)
                  obtain ⟨X, hX⟩ : ∃ X, pageS p V1 n i = X := ⟨_, rfl⟩
                  rw [hX] at HX HXS HPB HST HLV
                  have hb1 : 8 + (n : Int) + P ≤ 8 + (n : Int) + P + V1 := by omega
                  have hb2 : 8 + (n : Int) + P + V1 ≤ p.size := by omega
                  have hb0 : 0 ≤ 8 + (n : Int) + P := by omega
                  obtain ⟨r1, hr1⟩ : ∃ r1, (wrongS X).1 = r1 := ⟨_, rfl⟩
                  obtain ⟨r2, hr2⟩ : ∃ r2, (wrongS X).2 = r2 := ⟨_, rfl⟩
                  have hXs : X.size ≤ 100000 := by have := HXS.out; omega
                  have hrr := wrongS_range X hXs
                  rw [hr1] at hrr
                  have HW := Aside0.mk (show page_Wrong.f X = some (r1, r2) by unfold page_Wrong.f; rw [if_pos hXs, ← hr1, ← hr2])
                  rw [hr1, hr2] at HPB
                  clear hX hr1 hr2
                  go_wp2_with fail
                  rw [HX.out]
                  refine (page_Wrong.calls X r1 r2 wr HW.out).mono ?_
                  rintro e w4 ⟨rfl, hb4⟩
                  have HA4 := Aside0.mk (HA.out.below hb4)
                  have HB4 := Aside0.mk (below_then HB.out (by have := HB.out.size; have := HE.out; omega) hb4)
                  clear hb4 HA HB
                  by_cases h2 : r2 = 0
                  · have h22 : (r2 != 0) = false := by simpa using h2
                    have hlen := areaI_len p V1 n p0 L0 i (by omega)
                    have c1 := HA4.out.cpages
                    have f1 : w4.frozen? ⟨r, i, none⟩ = false := by
                      obtain ⟨r', cap', hv', _, _, _, _, _, hf, _⟩ := HA4.out.slice (by rw [hlen]; omega)
                      rw [hlen] at hv'; cases hv'; exact hf i
                    have c2 : ∃ y, w4.cell? ⟨r, i, none⟩ = some y := by
                      obtain ⟨r', cap', hv', _, _, _, _, _, hf, hc⟩ := HA4.out.slice (by rw [hlen]; omega)
                      rw [hlen] at hv'; cases hv'; exact ⟨_, hc i (by rw [hlen]; exact hlt)⟩
                    obtain ⟨y, c2⟩ := c2
                    have hA5 := AreaAt.setpage (a := areaI p V1 n p0 L0 i) (by rw [hlen]; exact HA4.out) i (by rw [hlen]; exact hlt) X
                    rw [hlen] at hA5
                    have hnt := area_noted i (a := { areaI p V1 n p0 L0 i with pages := (areaI p V1 n p0 L0 i).pages.set i X }) (by rw [List.length_set, hlen]; exact hlt) (by omega) ⟨hs1, hs2⟩ (by rw [List.getElem_set_self]; exact HXS.out) _ hA5
                    simp only [List.getElem_set_self] at hnt
                    have hlv9 := HLV.out
                    rw [show (areaI p V1 n p0 L0 i).size = V1 from rfl, ← hlv9, HST.out.1, HST.out.2] at hnt
                    have HNT := Aside0.mk hnt
                    have HB5 := Aside0.mk (show Below q w (w4.setCell ⟨r, i, none⟩ (.string X)) from HB4.out.setCell (by
                      obtain ⟨r', cap', hv', hbr, _⟩ := HA4.out.slice (by rw [hlen]; omega)
                      rw [hlen] at hv'; cases hv'; exact hbr) _)
                    have HGE := Aside0.mk HA4.out.ge
                    have HJ1 := Aside0.mk (show ∀ j, j < i + 1 → pageBad p V1 n j = none from fun j hj => by
                      by_cases hj2 : j < i
                      · exact HJ.out j hj2
                      · obtain rfl : j = i := by omega
                        rw [HPB.out, if_neg (by omega), if_pos h2])
                    clear hnt hlv9 hA5 HA4 HB4 HJ HST HLV HX HW HPB HFB hlen
                    go_wp2_with fail
                    refine HNT.out.mono ?_
                    rintro e w6 ⟨rfl, hA6, hK6⟩
                    have HA6 := Aside0.mk hA6
                    have HB6 := Aside0.mk (hK6.below HB5.out (by have := HB5.out.size; have := HE.out; omega) HGE.out (by intro k hk; cases hk))
                    clear hA6 hK6 HNT HB5
                    go_wp2
                    go_roundw
                    case rel => exact ⟨i + 1, by omega, rfl, by go_num, HJ1, HA6, HB6⟩
                    case measure => simp [intOf]; omega
                  · have h22 : (r2 != 0) = true := by simpa using h2
                    have e5 : IntKind.i64.wrap (8 + (n : Int) + P + r1) = 8 + (n : Int) + P + r1 := IntWalk.i64_in _ (by omega)
                    have HRR := Aside0.mk (HFB.out _ (by rw [HPB.out, if_neg (by omega), if_neg h2]))
                    go_wp2_with fail
                    go_ret3
                    exact .inl ⟨_, 12, HRR.out, rfl, by rw [HE.out]; exact HB4.out⟩
              · obtain rfl : i = n := by omega
                rw [areaI_end] at HA
                have hj0 := HJ.out 0 (by omega)
                have hp8 : 8 + (i : Int) < p.size := by
                  by_cases hh : (p.size : Int) < 8 + i + ((0 : Nat) : Int) * V1 + V1
                  · unfold pageBad at hj0; rw [if_pos hh] at hj0; cases hj0
                  · rw [Int.natCast_zero, Int.zero_mul] at hh; omega
                have HL3 := Aside0.mk (show R = (match firstBad (lvBad p V1 i) i with
                    | some at_ => (at_, 12, none)
                    | none => endS p V1 i) by rw [HL2.out]; unfold restS; rw [firstBad_none HJ.out])
                clear HL2 HJ hj0 hlt
                obtain ⟨n, hn⟩ : ∃ n, i = n := ⟨_, rfl⟩
                subst hn
                go_wp2_with fail
                go_loopw [2, 113] (fun v2 v113 wr => ∃ j : Nat, j ≤ i ∧ v2 = .pointer (some ⟨g, 0, none⟩) ∧ v113 = .int .i64 (j : Int) ∧ Aside0 (∀ k, k < j → lvBad p V1 i k = none) ∧ Aside0 (AreaAt wr q g (.slice (some ⟨r, 0, none⟩) i cap) (loadedS p V1 i)) ∧ Aside0 (Below q w wr)) (fun _ v113 _ => i - (intOf v113).toNat)
                case atStart => exact ⟨0, by omega, rfl, rfl, Aside0.mk (fun j hj => absurd hj (Nat.not_lt_zero j)), HA, HB⟩
                case round =>
                  clear HA HB
                  obtain ⟨j, hj, rfl, rfl, HJ, HA, HB⟩ := hrel
                  by_cases hlt : j < i
                  · have hlt1 : (j : Int) < i := by omega
                    have hj0 : (0 : Int) ≤ j := by omega
                    have hj200 : (j : Int) < 200 := by omega
                    have c3 := HA.out.clv j (by omega)
                    have hlvj : (loadedS p V1 i).lv.getD j 0 = lvS p V1 i j := by
                      unfold loadedS
                      rw [List.getD_eq_getElem?_getD, List.getElem?_append_left (by simp [hlt]), List.getElem?_map, List.getElem?_range hlt]; rfl
                    rw [hlvj] at c3
                    obtain ⟨L, hL⟩ : ∃ L, lvS p V1 i j = L := ⟨_, rfl⟩
                    have HLB := Aside0.mk (show lvBad p V1 i j = (if bt p (8 + j : Int) = L then none else some (8 + j : Int)) by unfold lvBad; rw [hL])
                    rw [hL] at c3
                    have HFB := Aside0.mk (show ∀ y, lvBad p V1 i j = some y → R = (y, 12, none) from fun y h => by
                      rw [HL3.out, firstBad_at hlt HJ.out h])
                    have e1 : IntKind.i64.wrap (8 + (j : Int)) = 8 + (j : Int) := IntWalk.i64_in _ (by omega)
                    have hb1 : 8 + (j : Int) < p.size := by omega
                    have hb0 : 0 ≤ 8 + (j : Int) := by omega
                    have hba := bt_at p (8 + (j : Int)) (by omega)
                    clear hL hlvj
                    go_wp2_with fail
                    go_quiet (fail)
                    go_wp2_with fail
                    all_goals rename_i hcx
                    · go_ret3
                      exact .inl ⟨_, 12, HFB.out _ (by rw [HLB.out, if_neg (by simpa using hcx)]), rfl, by rw [HE.out]; exact pw_below_drewN HB.out _⟩
                    · refine ⟨⟨j + 1, by omega, rfl, by go_num, Aside0.mk (fun k hk => ?_), Aside0.mk (HA.out.below (pw_below_drewN (Below.refl _ wr) _)), Aside0.mk (pw_below_drewN HB.out _)⟩, by simp [intOf]; omega⟩
                      by_cases hk2 : k < j
                      · exact HJ.out k hk2
                      · obtain rfl : k = j := by omega
                        rw [HLB.out, if_pos (by simpa using hcx)]
                  · obtain rfl : j = i := by omega
                    have HL4 := Aside0.mk (show R = endS p V1 j by rw [HL3.out, firstBad_none HJ.out])
                    clear HL3 HJ
                    obtain ⟨P, hP⟩ : ∃ P, (j : Int) * V1 = P := ⟨_, rfl⟩
                    have hP0 : 0 ≤ P := by rw [← hP]; exact Int.mul_nonneg (by omega) (by omega)
                    have hP1 : P ≤ 819200 := by
                      rw [← hP]
                      have h1 : (j : Int) * V1 ≤ 200 * V1 := Int.mul_le_mul_of_nonneg_right (by omega) (by omega)
                      omega
                    have hEE := HL4.out
                    unfold endS at hEE
                    rw [hP] at hEE
                    have HEE := Aside0.mk hEE
                    have e1 : IntKind.i64.wrap ((j : Int) * V1) = P := by rw [hP]; exact IntWalk.i64_in _ (by omega)
                    have e2 : IntKind.i64.wrap (8 + (j : Int) + P) = 8 + (j : Int) + P := IntWalk.i64_in _ (by omega)
                    clear hEE HL4 hP
                    by_cases hbe : 8 + (j : Int) + P < p.size
                    · have d3 : decide (8 + (j : Int) + P < p.size) = true := decide_eq_true hbe
                      have HRR := Aside0.mk (HEE.out.trans (if_pos hbe))
                      go_wp2_with fail
                      go_ret3
                      exact .inl ⟨_, 12, HRR.out, rfl, by rw [HE.out]; exact HB.out⟩
                    · have d3 : decide (8 + (j : Int) + P < p.size) = false := decide_eq_false hbe
                      have HRR := Aside0.mk (HEE.out.trans (if_neg hbe))
                      go_wp2_with fail
                      go_ret3
                      exact .inr ⟨_, g, _, HRR.out, rfl, by rw [HE.out]; exact HA.out, by rw [HE.out]; exact HB.out⟩

end Go.Proofs.Ytemglmcddaeedaa.PA

namespace Go.Proofs.Ytemglmcddaeedaa.PA
open Go.RowKit Go.Proofs.YtemglmcddaeedaaW.PrintWords Go.Proofs.YtemglmcddaeedaaW.PrintLast Go.Proofs.YtemglmcddaeedaaW.PrintMore
attribute [local go_sem] max2_int min2_int max_two min_two max_three min_three max_four min_four   -- for this text's walks alone
set_option linter.unusedVariables false
set_option linter.unusedSimpArgs false

/-! ### ringworkref07_Area_Is: function 117 -/
def ringworkref07_Area_Is.f (a0_0 : Int) (l0_1 : List ByteArray) (a1 : Int) : Option (Bool) := if a1 ≥ 0 then (some (decide (a1 < (l0_1.length : Int)))) else (some false)
set_option maxHeartbeats 8000000 in
set_option maxRecDepth 100000 in
theorem ringworkref07_Area_Is.calls (a0_0 : Int) (A0_1 : Option Addr) (c0_1 : Nat) (l0_1 : List ByteArray) (a1 : Int) (r : Bool) (w : World) (hr0_1 : Kd.C Kd.string w A0_1 l0_1.length l0_1) (hc0_1 : l0_1.length ≤ c0_1) (h : ringworkref07_Area_Is.f a0_0 l0_1 a1 = some r) :
    Calls Try.prog 117 #[.agg #[.int .i64 a0_0, .slice A0_1 l0_1.length c0_1], .int .i64 a1] w fun e w' => e = .returned (.bool r) ∧ Below w.heap.size w w' := by
  have hu58 := Try.underlying58
  have HR0_1 := Aside0.mk hr0_1
  have HC0_1 := Aside0.mk hc0_1
  clear hr0_1 hc0_1
  have HB := Aside0.mk (Below.refl w.heap.size w)
  have H : (if a1 ≥ 0 then (some (decide (a1 < (l0_1.length : Int)))) else (some false)) = some r := h
  clear h
  by_cases c3 : a1 ≥ 0
  · rw [if_pos c3] at H
    have c3b0 : decide (0 ≤ a1) = true := decide_eq_true c3
    clear c3
    obtain rfl := Option.some.inj H
    go_enter Try.func117, Try.ntmps117
    go_wp2_with (first | ((with_reducible refine gate_dst (N := 2) rfl ?_); (try (refine gate_guard (by rfl) ?_; dsimp only)); refine box_event ?hg (N := 2) ?hd (cs := #[.int .i64 a0_0, .slice A0_1 l0_1.length c0_1]) (t := 58) ?hr ?_; (case hd => rfl); (case hg => rfl); (case hr => first | (go_simp; done) | (go_simp; rfl)); intro gb393 hg w4 hbox hb; have n0_ := Aside0.mk (below_step (by repeat (first | (with_reducible first | exact HB.out | apply below_alloc | apply pw_below_drewN | apply below_drew1) | exact HB.out)) hb); have n1_ := Aside0.mk (hbox); have n2_ := Aside0.mk ((by rw [hg]; exact (below_size (by repeat (first | (with_reducible first | exact HB.out | apply below_alloc | apply pw_below_drewN | apply below_drew1) | exact HB.out))) : w.heap.size ≤ gb393)); have n3_ := Aside0.mk ((by rw [hg]; exact (below_size (by repeat (first | (with_reducible first | exact HB.out | apply below_alloc | apply pw_below_drewN | apply below_drew1) | exact HB.out))) : w.heap.size ≤ gb393)); clear HB; have HB := n0_; have BK393 := n1_; have GW393 := n2_; have GE393 := n3_; clear n0_ n1_ n2_ n3_; clear hb hbox hg; have hcz5_0 : w4.cell? ⟨gb393, 0, none⟩ = some (.int .i64 a0_0) := (blk_cell BK393.out 0).trans rfl; have hcz5_1 : w4.cell? ⟨gb393, 1, none⟩ = some (.slice A0_1 l0_1.length c0_1) := (blk_cell BK393.out 1).trans rfl; have hfz5_0 := blk_frozen BK393.out 0; have hfz5_1 := blk_frozen BK393.out 1))
    go_ret
    exact ⟨by first | rfl | (simp [errW_none, errW_some] <;> rfl) | (simp [*, errW_none, errW_some] <;> rfl), by repeat (first | (with_reducible first | exact HB.out | apply below_alloc | apply pw_below_drewN | apply below_drew1 | refine below_set ?_ GE393.out) | exact HB.out)⟩
  · rw [if_neg c3] at H
    have c3b0 : decide (0 ≤ a1) = false := decide_eq_false c3
    clear c3
    obtain rfl := Option.some.inj H
    go_enter Try.func117, Try.ntmps117
    go_wp2_with (first | ((with_reducible refine gate_dst (N := 2) rfl ?_); (try (refine gate_guard (by rfl) ?_; dsimp only)); refine box_event ?hg (N := 2) ?hd (cs := #[.int .i64 a0_0, .slice A0_1 l0_1.length c0_1]) (t := 58) ?hr ?_; (case hd => rfl); (case hg => rfl); (case hr => first | (go_simp; done) | (go_simp; rfl)); intro gb393 hg w6 hbox hb; have n0_ := Aside0.mk (below_step (by repeat (first | (with_reducible first | exact HB.out | apply below_alloc | apply pw_below_drewN | apply below_drew1) | exact HB.out)) hb); have n1_ := Aside0.mk (hbox); have n2_ := Aside0.mk ((by rw [hg]; exact (below_size (by repeat (first | (with_reducible first | exact HB.out | apply below_alloc | apply pw_below_drewN | apply below_drew1) | exact HB.out))) : w.heap.size ≤ gb393)); have n3_ := Aside0.mk ((by rw [hg]; exact (below_size (by repeat (first | (with_reducible first | exact HB.out | apply below_alloc | apply pw_below_drewN | apply below_drew1) | exact HB.out))) : w.heap.size ≤ gb393)); clear HB; have HB := n0_; have BK393 := n1_; have GW393 := n2_; have GE393 := n3_; clear n0_ n1_ n2_ n3_; clear hb hbox hg))
    go_ret
    exact ⟨by first | rfl | (simp [errW_none, errW_some] <;> rfl) | (simp [*, errW_none, errW_some] <;> rfl), by repeat (first | (with_reducible first | exact HB.out | apply below_alloc | apply pw_below_drewN | apply below_drew1 | refine below_set ?_ GE393.out) | exact HB.out)⟩

end Go.Proofs.Ytemglmcddaeedaa.PA

namespace Go.Proofs.Ytemglmcddaeedaa.PA
open Go.RowKit Go.Proofs.YtemglmcddaeedaaW.PrintWords Go.Proofs.YtemglmcddaeedaaW.PrintLast Go.Proofs.YtemglmcddaeedaaW.PrintMore
attribute [local go_sem] max2_int min2_int max_two min_two max_three min_three max_four min_four   -- for this text's walks alone
set_option linter.unusedVariables false
set_option linter.unusedSimpArgs false

/-! ### ringworkref06_Two: function 59 -/
def ringworkref06_Two.f (a0 : ByteArray) (a1 : Int) : Option (Int) := if 0 ≤ a1 then (if a1 < (a0.size : Int) then (if 0 ≤ (wrap64 (a1 + 1)) then (if (wrap64 (a1 + 1)) < (a0.size : Int) then (some (wrap64 ((wrap64 (256 * (wrap64 (bt a0 a1)))) + (wrap64 (bt a0 (wrap64 (a1 + 1))))))) else (none)) else (none)) else (none)) else (none)
set_option maxHeartbeats 8000000 in
set_option maxRecDepth 100000 in
theorem ringworkref06_Two.calls (a0 : ByteArray) (a1 : Int) (r : Int) (w : World) (h : ringworkref06_Two.f a0 a1 = some r) :
    Calls Try.prog 59 #[.string a0, .int .i64 a1] w fun e w' => e = .returned (.int .i64 r) ∧ Drawn0 w w' := by
  have H : (if 0 ≤ a1 then (if a1 < (a0.size : Int) then (if 0 ≤ (wrap64 (a1 + 1)) then (if (wrap64 (a1 + 1)) < (a0.size : Int) then (some (wrap64 ((wrap64 (256 * (wrap64 (bt a0 a1)))) + (wrap64 (bt a0 (wrap64 (a1 + 1))))))) else (none)) else (none)) else (none)) else (none)) = some r := h
  clear h
  by_cases c3 : 0 ≤ a1
  · rw [if_pos c3] at H
    have c3b0 : decide (0 ≤ a1) = true := decide_eq_true c3
    clear c3
    by_cases c4 : a1 < (a0.size : Int)
    · rw [if_pos c4] at H
      have c4b0 : decide (a1 < (a0.size : Int)) = true := decide_eq_true c4
      clear c4
      obtain ⟨ji6, hji6⟩ : ∃ j_ : Int, (wrap64 (a1 + 1)) = j_ := ⟨_, rfl⟩
      replace H : (if 0 ≤ (ji6) then (if (ji6) < (a0.size : Int) then (some (wrap64 ((wrap64 (256 * (wrap64 (bt a0 a1)))) + (wrap64 (bt a0 (ji6)))))) else (none)) else (none)) = some r := by first | (rw [hji6] at H; exact H) | (simp only [hji6] at H ⊢; exact H)
      have hji6w : (IntKind.i64.wrap (a1 + 1)) = ji6 := (i64_w _).trans hji6
      by_cases c7 : 0 ≤ (ji6)
      · rw [if_pos c7] at H
        have c7b0 : decide (0 ≤ (ji6)) = true := decide_eq_true c7
        clear c7
        by_cases c8 : (ji6) < (a0.size : Int)
        · rw [if_pos c8] at H
          have c8b0 : decide ((ji6) < (a0.size : Int)) = true := decide_eq_true c8
          clear c8
          obtain rfl := Option.some.inj H
          have p5 : 0 ≤ (a1 : Int) := of_decide_eq_true (by first | (with_reducible assumption) | assumption)
          have q5 : a1 < (a0.size : Int) := of_decide_eq_true (by first | (with_reducible assumption) | assumption)
          have hx5 := bt_at a0 a1
          replace p5 := eq_true p5
          replace q5 := eq_true q5
          have p9 : 0 ≤ ((ji6) : Int) := of_decide_eq_true (by first | (with_reducible assumption) | assumption)
          have q9 : (ji6) < (a0.size : Int) := of_decide_eq_true (by first | (with_reducible assumption) | assumption)
          have hx9 := bt_at a0 (ji6)
          replace p9 := eq_true p9
          replace q9 := eq_true q9
          go_enter Try.func59, Try.ntmps59
          go_wp2
          repeat (go_quiet (fail); try go_wp2)
          go_ret
          exact ⟨by first | rfl | (simp; done) | (simp only [← hji6] <;> (first | rfl | simp)) | (simp [*]; done), by repeat (first | exact Drawn0.refl _ | apply Drawn0.step)⟩
        · rw [if_neg c8] at H
          exact absurd H (by simp)
      · rw [if_neg c7] at H
        exact absurd H (by simp)
    · rw [if_neg c4] at H
      exact absurd H (by simp)
  · rw [if_neg c3] at H
    exact absurd H (by simp)

end Go.Proofs.Ytemglmcddaeedaa.PA

namespace Go.Proofs.Ytemglmcddaeedaa.PA
open Go.RowKit Go.Proofs.YtemglmcddaeedaaW.PrintWords Go.Proofs.YtemglmcddaeedaaW.PrintLast Go.Proofs.YtemglmcddaeedaaW.PrintMore
attribute [local go_sem] max2_int min2_int max_two min_two max_three min_three max_four min_four   -- for this text's walks alone
set_option linter.unusedVariables false
set_option linter.unusedSimpArgs false

/-! ### ringworkref06_CellsOf: function 60 -/
def ringworkref06_CellsOf.l0 : Nat → ByteArray → List (S45) → Int → Option ((List (S45)))
  | 0, _, _, _ => none
  | k + 1, x0, x3, x4 => (ringworkref06_Two.f x0 0).bind fun t184 => (if x4 ≤ t184 then ((ringworkref06_Two.f x0 (wrap64 ((wrap64 (4 * x4)) - 2))).bind fun t185 => ((ringworkref06_Two.f x0 (wrap64 (4 * x4))).bind fun t186 => (if t186 > 0 then (if 0 ≤ t185 then (if t185 ≤ (wrap64 (t185 + t186)) then (if (wrap64 (t185 + t186)) ≤ (x0.size : Int) then (if x3.length < 5864062014805 then (ringworkref06_CellsOf.l0 k x0 (x3 ++ [(⟨x4, x0.extract (t185 : Int).toNat ((wrap64 (t185 + t186)) : Int).toNat⟩ : S45)]) (wrap64 (x4 + 1))) else (none)) else (none)) else (none)) else (none)) else (ringworkref06_CellsOf.l0 k x0 x3 (wrap64 (x4 + 1)))))) else (some x3))
def ringworkref06_CellsOf.f (k : Nat) (a0 : ByteArray) : Option ((List (S45))) := ringworkref06_CellsOf.l0 k a0 ([] : List (S45)) 1
theorem ringworkref06_CellsOf.mono_l : ∀ k, (∀ y0 y1 y2, LeO (ringworkref06_CellsOf.l0 k y0 y1 y2) (ringworkref06_CellsOf.l0 (k + 1) y0 y1 y2))
  | 0 => fun _ _ _ r h => by simp [ringworkref06_CellsOf.l0] at h
  | k + 1 => by
    have ih0 := ringworkref06_CellsOf.mono_l k
    · intro y0 y1 y2
      unfold ringworkref06_CellsOf.l0
      repeat' first
      | (with_reducible exact ih0 _ _ _)
      | (with_reducible exact LeO.refl _)
      | (with_reducible exact LeO.none _)
      | (with_reducible refine LeO.ite ?_ ?_)
      | (with_reducible refine LeO.bind ?_ (fun _ => ?_))
      | exact ih0 _ _ _
      | exact LeO.none _
      | refine LeO.ite ?_ ?_
      | refine LeO.bind ?_ (fun _ => ?_)
theorem ringworkref06_CellsOf.mono : ∀ a0 k, LeO (ringworkref06_CellsOf.f k a0) (ringworkref06_CellsOf.f (k + 1) a0) := by
  intro a0 k
  have ih0 := ringworkref06_CellsOf.mono_l k
  unfold ringworkref06_CellsOf.f
  repeat' first
      | (with_reducible exact ih0 _ _ _)
      | (with_reducible exact LeO.refl _)
      | (with_reducible exact LeO.none _)
      | (with_reducible refine LeO.ite ?_ ?_)
      | (with_reducible refine LeO.bind ?_ (fun _ => ?_))
      | exact ih0 _ _ _
      | exact LeO.none _
      | refine LeO.ite ?_ ?_
      | refine LeO.bind ?_ (fun _ => ?_)
set_option maxHeartbeats 8000000 in
set_option maxRecDepth 100000 in
theorem ringworkref06_CellsOf.calls (k : Nat) (a0 : ByteArray) (r : List (S45)) (w : World) (h : ringworkref06_CellsOf.f k a0 = some r) :
    Calls Try.prog 60 #[.string a0] w fun e w' => ∃ v0_ : Value, e = .returned (v0_) ∧ Kd.R k45 45 w' w.heap.size (fun _ => True) v0_ r ∧ Below w.heap.size w w' := by
  have hu45 := Try.underlying45
  have HB := Aside0.mk (Below.refl w.heap.size w)
  have H : (ringworkref06_CellsOf.l0 k a0 ([] : List (S45)) 1) = some r := h
  clear h
  have H' := Aside0.mk H
  clear H
  go_enter Try.func60, Try.ntmps60
  go_wp2
  go_loopg [3, 4] k (fun kq v3 v4 w' => ∃ (x3_1 : List (S45)) (x4_1 : Int), v4 = .int .i64 x4_1 ∧ Aside0 (ringworkref06_CellsOf.l0 kq a0 x3_1 x4_1 = some r) ∧ Aside0 (kq ≤ k) ∧ Aside0 (Kd.R k45 45 w' w.heap.size (fun _ => True) v3 x3_1) ∧ Aside0 (Below w.heap.size w w'))
  case atStart => exact ⟨(([] : List (S45))), (1), (by first | rfl | (simp; done) | (simp [*]; done)), H', ⟨Nat.le_refl _⟩, ⟨by first | exact Kd.R_nil _ _ _ _ _ | exact Kd.N_nil _ _ _ _ _ | exact Kd.V_nil _ _ _ _ _ | exact Kd.Q_nil _ _ _ _ _ | exact Kd.S_nil _ _ _ _ _⟩, ⟨by repeat (first | (with_reducible first | exact HB.out | apply below_alloc | apply pw_below_drewN | apply below_drew1) | exact HB.out)⟩⟩
  case round =>
    clear H'
    obtain ⟨x3_1, x4_1, rfl, HA, HK1, HO_3, HB⟩ := hrel
    cases gk with
    | zero => exact absurd HA.out (by simp [ringworkref06_CellsOf.l0])
    | succ k1 =>
      have H := HA.out
      clear HA
      simp only [ringworkref06_CellsOf.l0] at H
      replace H := Option.bind_eq_some_iff.mp H
      obtain ⟨t184, A20, H⟩ := H
      replace H : (if x4_1 ≤ t184 then ((ringworkref06_Two.f a0 (wrap64 ((wrap64 (4 * x4_1)) - 2))).bind fun t185 => ((ringworkref06_Two.f a0 (wrap64 (4 * x4_1))).bind fun t186 => (if t186 > 0 then (if 0 ≤ t185 then (if t185 ≤ (wrap64 (t185 + t186)) then (if (wrap64 (t185 + t186)) ≤ (a0.size : Int) then (if x3_1.length < 5864062014805 then (ringworkref06_CellsOf.l0 k1 a0 (x3_1 ++ [(⟨x4_1, a0.extract (t185 : Int).toNat ((wrap64 (t185 + t186)) : Int).toNat⟩ : S45)]) (wrap64 (x4_1 + 1))) else (none)) else (none)) else (none)) else (none)) else (ringworkref06_CellsOf.l0 k1 a0 x3_1 (wrap64 (x4_1 + 1)))))) else (some x3_1)) = some r := H
      have A2 := Aside0.mk A20
      clear A20
      by_cases c3 : x4_1 ≤ t184
      · rw [if_pos c3] at H
        have c3b0 : decide (x4_1 ≤ t184) = true := decide_eq_true c3
        clear c3
        replace H := Option.bind_eq_some_iff.mp H
        obtain ⟨t185, A40, H⟩ := H
        replace H : ((ringworkref06_Two.f a0 (wrap64 (4 * x4_1))).bind fun t186 => (if t186 > 0 then (if 0 ≤ t185 then (if t185 ≤ (wrap64 (t185 + t186)) then (if (wrap64 (t185 + t186)) ≤ (a0.size : Int) then (if x3_1.length < 5864062014805 then (ringworkref06_CellsOf.l0 k1 a0 (x3_1 ++ [(⟨x4_1, a0.extract (t185 : Int).toNat ((wrap64 (t185 + t186)) : Int).toNat⟩ : S45)]) (wrap64 (x4_1 + 1))) else (none)) else (none)) else (none)) else (none)) else (ringworkref06_CellsOf.l0 k1 a0 x3_1 (wrap64 (x4_1 + 1))))) = some r := H
        have A4 := Aside0.mk A40
        clear A40
        replace H := Option.bind_eq_some_iff.mp H
        obtain ⟨t186, A50, H⟩ := H
        replace H : (if t186 > 0 then (if 0 ≤ t185 then (if t185 ≤ (wrap64 (t185 + t186)) then (if (wrap64 (t185 + t186)) ≤ (a0.size : Int) then (if x3_1.length < 5864062014805 then (ringworkref06_CellsOf.l0 k1 a0 (x3_1 ++ [(⟨x4_1, a0.extract (t185 : Int).toNat ((wrap64 (t185 + t186)) : Int).toNat⟩ : S45)]) (wrap64 (x4_1 + 1))) else (none)) else (none)) else (none)) else (none)) else (ringworkref06_CellsOf.l0 k1 a0 x3_1 (wrap64 (x4_1 + 1)))) = some r := H
        have A5 := Aside0.mk A50
        clear A50
        by_cases c6 : t186 > 0
        · rw [if_pos c6] at H
          have c6b0 : decide (0 < t186) = true := decide_eq_true c6
          clear c6
          by_cases c7 : 0 ≤ t185
          · rw [if_pos c7] at H
            have c7b0 := eq_true c7
            have c7b1 : decide (0 ≤ t185) = true := decide_eq_true c7
            clear c7
            by_cases c8 : t185 ≤ (wrap64 (t185 + t186))
            · rw [if_pos c8] at H
              have c8b0 := eq_true c8
              have c8b1 : decide (t185 ≤ (wrap64 (t185 + t186))) = true := decide_eq_true c8
              by_cases c9 : (wrap64 (t185 + t186)) ≤ (a0.size : Int)
              · rw [if_pos c9] at H
                have c9b0 := eq_true c9
                have c9b1 : decide ((wrap64 (t185 + t186)) ≤ (a0.size : Int)) = true := decide_eq_true c9
                by_cases c10 : x3_1.length < 5864062014805
                · rw [if_pos c10] at H
                  have LMc10 := Aside0.mk c10
                  clear c10
                  obtain ⟨y187, hy187⟩ : ∃ y_ : List (S45), y_ = (x3_1 ++ [(⟨x4_1, a0.extract (t185 : Int).toNat ((wrap64 (t185 + t186)) : Int).toNat⟩ : S45)]) := ⟨_, rfl⟩
                  replace H : (ringworkref06_CellsOf.l0 k1 a0 y187 (wrap64 (x4_1 + 1))) = some r := by first | (rw [hy187]; with_reducible exact H) | (have H2_ := (Option.bind_some _ _).symm.trans H; rw [hy187]; with_reducible exact H2_) | (have H2_ := (Option.bind_some _ _).symm.trans H; with_reducible exact H2_) | with_reducible exact H | (rw [hy187]; exact H) | exact H
                  have Ny187 := Aside0.mk hy187
                  clear hy187
                  have H' := Aside0.mk H
                  clear H
                  go_wp2_with (first | ((with_reducible refine gate_callee (f := 59) rfl ?_); refine goesL_ (some 9) rfl rfl Try.func59 (by kernel_rfl) rfl #[.string a0, .int .i64 0] rfl (by (try simp only [List.map_toArray, List.map_cons, List.map_nil]); first | done | rfl | (simp only [List.length_drop, List.length_take]; rfl)) ?_; (with_reducible refine (ringworkref06_Two.calls a0 0 t184 _ A2.out).mono ?_); rintro e w' ⟨rfl, ⟨nd, rfl⟩⟩; refine ⟨_, rfl, ?_⟩) | ((with_reducible refine gate_callee (f := 59) rfl ?_); refine goesL_ (some 17) rfl rfl Try.func59 (by kernel_rfl) rfl #[.string a0, .int .i64 (wrap64 ((wrap64 (4 * x4_1)) - 2))] rfl (by (try simp only [List.map_toArray, List.map_cons, List.map_nil]); first | done | rfl | (simp only [List.length_drop, List.length_take]; rfl)) ?_; (with_reducible refine (ringworkref06_Two.calls a0 (wrap64 ((wrap64 (4 * x4_1)) - 2)) t185 _ A4.out).mono ?_); rintro e w' ⟨rfl, ⟨nd, rfl⟩⟩; refine ⟨_, rfl, ?_⟩) | ((with_reducible refine gate_callee (f := 59) rfl ?_); refine goesL_ (some 21) rfl rfl Try.func59 (by kernel_rfl) rfl #[.string a0, .int .i64 (wrap64 (4 * x4_1))] rfl (by (try simp only [List.map_toArray, List.map_cons, List.map_nil]); first | done | rfl | (simp only [List.length_drop, List.length_take]; rfl)) ?_; (with_reducible refine (ringworkref06_Two.calls a0 (wrap64 (4 * x4_1)) t186 _ A5.out).mono ?_); rintro e w' ⟨rfl, ⟨nd, rfl⟩⟩; refine ⟨_, rfl, ?_⟩) | ((with_reducible refine gate_builtin (b := .append) (xs := #[.tmp 24, .tmp 33]) rfl ?_); at_builtin; refine Kd.R_append k45 (w0 := w) w.heap.size rfl (.tmp 24) (.tmp 33) 22 45 (.agg #[(.int .i64 0), (.string ⟨#[]⟩)]) 24 rfl Try.underlying22 info45 rfl (by decide) (by omega) u3 x3_1 (⟨x4_1, a0.extract (t185 : Int).toNat ((wrap64 (t185 + t186)) : Int).toNat⟩ : S45) [.int .i64 x4_1, .string (a0.extract (t185 : Int).toNat ((wrap64 (t185 + t186)) : Int).toNat)] (fun _ => True) (fun _ => False) rfl rfl ?aP (fun _ hk => hk.elim) ?aF ?aO ?aB ?aS ?aL ?_; (case aP => exact k45_mkM _ _ _ (⟨x4_1, a0.extract (t185 : Int).toNat ((wrap64 (t185 + t186)) : Int).toNat⟩ : S45)); (case aB => exact (by repeat (first | (with_reducible first | exact HB.out | apply below_alloc | apply pw_below_drewN | apply below_drew1) | exact HB.out))); (case aF => exact (fun _ _ => trivial)); (case aO => exact (by (with_reducible repeat (first | apply Kd.R_alloc | apply Kd.R_drewN | apply Kd.R_drew)); exact HO_3.out)); (case aS => exact (below_size (by repeat (first | (with_reducible first | exact HB.out | apply below_alloc | apply pw_below_drewN | apply below_drew1) | exact HB.out)))); (case aL => have := LMc10.out; omega); intro v188 w11 ho hb hg hat; rw [← Ny187.out] at ho; have n0_ := Aside0.mk (hb); have n1_ := Aside0.mk (ho); clear HB; clear HO_3; have HB := n0_; have HO189 := n1_; clear n0_ n1_; clear ho hb hg hat))
                  go_roundg k1
                  case measure => have := HK1.out; omega
                  case rel => exact ⟨(y187), (wrap64 (x4_1 + 1)), (by first | rfl | (simp; done) | (simp [*]; done)), H', ⟨by have := HK1.out; omega⟩, ⟨by (with_reducible repeat (first | apply Kd.R_alloc | apply Kd.R_drewN | apply Kd.R_drew)); exact HO189.out⟩, ⟨by repeat (first | (with_reducible first | exact HB.out | apply below_alloc | apply pw_below_drewN | apply below_drew1) | exact HB.out)⟩⟩
                · rw [if_neg c10] at H
                  exact absurd H (by simp)
              · rw [if_neg c9] at H
                exact absurd H (by simp)
            · rw [if_neg c8] at H
              exact absurd H (by simp)
          · rw [if_neg c7] at H
            exact absurd H (by simp)
        · rw [if_neg c6] at H
          have c6b0 : decide (0 < t186) = false := decide_eq_false c6
          clear c6
          have H' := Aside0.mk H
          clear H
          go_wp2_with (first | ((with_reducible refine gate_callee (f := 59) rfl ?_); refine goesL_ (some 9) rfl rfl Try.func59 (by kernel_rfl) rfl #[.string a0, .int .i64 0] rfl (by (try simp only [List.map_toArray, List.map_cons, List.map_nil]); first | done | rfl | (simp only [List.length_drop, List.length_take]; rfl)) ?_; (with_reducible refine (ringworkref06_Two.calls a0 0 t184 _ A2.out).mono ?_); rintro e w' ⟨rfl, ⟨nd, rfl⟩⟩; refine ⟨_, rfl, ?_⟩) | ((with_reducible refine gate_callee (f := 59) rfl ?_); refine goesL_ (some 17) rfl rfl Try.func59 (by kernel_rfl) rfl #[.string a0, .int .i64 (wrap64 ((wrap64 (4 * x4_1)) - 2))] rfl (by (try simp only [List.map_toArray, List.map_cons, List.map_nil]); first | done | rfl | (simp only [List.length_drop, List.length_take]; rfl)) ?_; (with_reducible refine (ringworkref06_Two.calls a0 (wrap64 ((wrap64 (4 * x4_1)) - 2)) t185 _ A4.out).mono ?_); rintro e w' ⟨rfl, ⟨nd, rfl⟩⟩; refine ⟨_, rfl, ?_⟩) | ((with_reducible refine gate_callee (f := 59) rfl ?_); refine goesL_ (some 21) rfl rfl Try.func59 (by kernel_rfl) rfl #[.string a0, .int .i64 (wrap64 (4 * x4_1))] rfl (by (try simp only [List.map_toArray, List.map_cons, List.map_nil]); first | done | rfl | (simp only [List.length_drop, List.length_take]; rfl)) ?_; (with_reducible refine (ringworkref06_Two.calls a0 (wrap64 (4 * x4_1)) t186 _ A5.out).mono ?_); rintro e w' ⟨rfl, ⟨nd, rfl⟩⟩; refine ⟨_, rfl, ?_⟩))
          go_roundg k1
          case measure => have := HK1.out; omega
          case rel => exact ⟨(x3_1), (wrap64 (x4_1 + 1)), (by first | rfl | (simp; done) | (simp [*]; done)), H', ⟨by have := HK1.out; omega⟩, ⟨by (with_reducible repeat (first | apply Kd.R_alloc | apply Kd.R_drewN | apply Kd.R_drew)); exact HO_3.out⟩, ⟨by repeat (first | (with_reducible first | exact HB.out | apply below_alloc | apply pw_below_drewN | apply below_drew1) | exact HB.out)⟩⟩
      · rw [if_neg c3] at H
        have c3b0 : decide (x4_1 ≤ t184) = false := decide_eq_false c3
        clear c3
        obtain rfl := Option.some.inj H
        go_wp2_with (first | ((with_reducible refine gate_callee (f := 59) rfl ?_); refine goesL_ (some 9) rfl rfl Try.func59 (by kernel_rfl) rfl #[.string a0, .int .i64 0] rfl (by (try simp only [List.map_toArray, List.map_cons, List.map_nil]); first | done | rfl | (simp only [List.length_drop, List.length_take]; rfl)) ?_; (with_reducible refine (ringworkref06_Two.calls a0 0 t184 _ A2.out).mono ?_); rintro e w' ⟨rfl, ⟨nd, rfl⟩⟩; refine ⟨_, rfl, ?_⟩))
        go_ret
        exact ⟨_, by first | rfl | (simp [errW_none, errW_some] <;> rfl) | (simp [*, errW_none, errW_some] <;> rfl), by (with_reducible repeat (first | apply Kd.R_alloc | apply Kd.R_drewN | apply Kd.R_drew)); exact HO_3.out, by repeat (first | (with_reducible first | exact HB.out | apply below_alloc | apply pw_below_drewN | apply below_drew1) | exact HB.out)⟩

end Go.Proofs.Ytemglmcddaeedaa.PA

namespace Go.Proofs.Ytemglmcddaeedaa.PA
open Go.RowKit Go.Proofs.YtemglmcddaeedaaW.PrintWords Go.Proofs.YtemglmcddaeedaaW.PrintLast Go.Proofs.YtemglmcddaeedaaW.PrintMore
attribute [local go_sem] max2_int min2_int max_two min_two max_three min_three max_four min_four   -- for this text's walks alone
set_option linter.unusedVariables false
set_option linter.unusedSimpArgs false

/-! ### ringworkref07_Area_Room: function 118 -/
def ringworkref07_Area_Room.f (k : Nat) (a0_0 : Int) (l0_1 : List ByteArray) (a1 : Int) : Option (Int) := if 0 ≤ a1 then (if a1 < (l0_1.length : Int) then ((ringworkref06_CellsOf.f k (rdOf ByteArray.empty l0_1 a1)).bind fun t396 => ((ringworkref06_Room.f k a0_0 t396).bind fun t399 => (some t399))) else (none)) else (none)
theorem ringworkref07_Area_Room.mono : ∀ a0 a1 a2 k, LeO (ringworkref07_Area_Room.f k a0 a1 a2) (ringworkref07_Area_Room.f (k + 1) a0 a1 a2) := by
  intro a0 a1 a2 k
  unfold ringworkref07_Area_Room.f
  repeat' first
      | (with_reducible exact ringworkref06_CellsOf.mono _ _)
      | (with_reducible exact ringworkref06_Room.mono _ _ _)
      | (with_reducible exact LeO.refl _)
      | (with_reducible exact LeO.none _)
      | (with_reducible refine LeO.ite ?_ ?_)
      | (with_reducible refine LeO.bind ?_ (fun _ => ?_))
      | exact ringworkref06_CellsOf.mono _ _
      | exact ringworkref06_Room.mono _ _ _
      | exact LeO.none _
      | refine LeO.ite ?_ ?_
      | refine LeO.bind ?_ (fun _ => ?_)
def ringworkref07_Area_Room.T1 : Bool × List (List Nat × List Nat) := (true, [([], []), ([0], [0]), ([], []), ([2], [2]), ([], []), ([3, 4], [3, 4]), ([5], [5]), ([6], [6]), ([1, 7, 7], [1, 7]), ([8, 8, 0, 1, 2, 3, 4, 5, 6, 7, 8], [8])])
def ringworkref07_Area_Room.B1 : List Nat := [0, 1, 0, 4, 0, 28, 60, 124, 255, 511]
theorem ringworkref07_Area_Room.tab1 : rtab .any (opsOf Try.f118 1) = ringworkref07_Area_Room.T1 := by kernel_rfl
theorem ringworkref07_Area_Room.bits1 : waitsOk ringworkref07_Area_Room.T1.2 ringworkref07_Area_Room.B1 = true := by kernel_rfl
set_option maxHeartbeats 8000000 in
set_option maxRecDepth 100000 in
theorem ringworkref07_Area_Room.calls (k : Nat) (a0_0 : Int) (A0_1 : Option Addr) (c0_1 : Nat) (l0_1 : List ByteArray) (a1 : Int) (r : Int) (w : World) (hr0_1 : Kd.C Kd.string w A0_1 l0_1.length l0_1) (hc0_1 : l0_1.length ≤ c0_1) (h : ringworkref07_Area_Room.f k a0_0 l0_1 a1 = some r) :
    Calls Try.prog 118 #[.agg #[.int .i64 a0_0, .slice A0_1 l0_1.length c0_1], .int .i64 a1] w fun e w' => e = .returned (.int .i64 r) ∧ Below w.heap.size w w' := by
  have hu58 := Try.underlying58
  have HR0_1 := Aside0.mk hr0_1
  have HC0_1 := Aside0.mk hc0_1
  clear hr0_1 hc0_1
  have HB := Aside0.mk (Below.refl w.heap.size w)
  have H : (if 0 ≤ a1 then (if a1 < (l0_1.length : Int) then ((ringworkref06_CellsOf.f k (rdOf ByteArray.empty l0_1 a1)).bind fun t396 => ((ringworkref06_Room.f k a0_0 t396).bind fun t399 => (some t399))) else (none)) else (none)) = some r := h
  clear h
  by_cases c3 : 0 ≤ a1
  · rw [if_pos c3] at H
    have c3b0 : decide (0 ≤ a1) = true := decide_eq_true c3
    clear c3
    by_cases c4 : a1 < (l0_1.length : Int)
    · rw [if_pos c4] at H
      have c4b0 : decide (a1 < (l0_1.length : Int)) = true := decide_eq_true c4
      clear c4
      replace H := Option.bind_eq_some_iff.mp H
      obtain ⟨t396, A50, H⟩ := H
      replace H : ((ringworkref06_Room.f k a0_0 t396).bind fun t399 => (some t399)) = some r := H
      have A5 := Aside0.mk A50
      clear A50
      replace H := Option.bind_eq_some_iff.mp H
      obtain ⟨t399, A60, H⟩ := H
      replace H : (some t399) = some r := H
      have A6 := Aside0.mk A60
      clear A60
      obtain rfl := Option.some.inj H
      go_enter Try.func118, Try.ntmps118
      try go_wp2_with (first | ((with_reducible refine gate_dst (N := 2) rfl ?_); refine box_event ?hg (N := 2) ?hd (cs := #[.int .i64 a0_0, .slice A0_1 l0_1.length c0_1]) (t := 58) ?hr ?_; (case hd => rfl); (case hg => rfl); (case hr => first | (go_simp; done) | (go_simp; rfl)); intro gb394 hg w7 hbox hb; have n0_ := Aside0.mk (below_step (by repeat (first | (with_reducible first | exact HB.out | apply below_alloc | apply pw_below_drewN | apply below_drew1) | exact HB.out)) hb); have n1_ := Aside0.mk (hbox); have n2_ := Aside0.mk ((by rw [hg]; exact (below_size (by repeat (first | (with_reducible first | exact HB.out | apply below_alloc | apply pw_below_drewN | apply below_drew1) | exact HB.out))) : w.heap.size ≤ gb394)); have n3_ := Aside0.mk ((by rw [hg]; exact (below_size (by repeat (first | (with_reducible first | exact HB.out | apply below_alloc | apply pw_below_drewN | apply below_drew1) | exact HB.out))) : w.heap.size ≤ gb394)); clear HB; have HB := n0_; have BK394 := n1_; have GW394 := n2_; have GE394 := n3_; clear n0_ n1_ n2_ n3_; clear hb hbox hg))
      have n0_ := Aside0.mk (blk_drew BK394.out)
      have n1_ := Aside0.mk (below_drew1 HB.out)
      clear BK394
      clear HB
      have BK394 := n0_
      have HB := n1_
      clear n0_ n1_
      have p395 : 0 ≤ (a1 : Int) := of_decide_eq_true (by first | (with_reducible assumption) | assumption)
      have q395 : a1 < (l0_1.length : Int) := of_decide_eq_true (by first | (with_reducible assumption) | assumption)
      obtain ⟨ad395, e395, hx395_0⟩ := Kd.at_string HR0_1.out a1 p395 q395
      have hw395_0 := hx395_0
      cases e395
      replace hx395_0 := (HB.out.cell (World.block_lt_of_cell? w _ hx395_0)).trans hx395_0
      replace p395 := eq_true p395
      replace q395 := eq_true q395
      refine start_ (n := 10) (S := fun w' => w'.cell? ⟨gb394, 0, none⟩ = some (.int .i64 a0_0) ∧ w'.cell? ⟨gb394, 1, none⟩ = some (.slice (some ad395) l0_1.length c0_1) ∧ w'.cell? (ad395.add (a1).toNat) = some (.string (rdOf ByteArray.empty l0_1 a1))) (ds := []) #[false, false, false, false, false, false, false, false, false, false] (by kernel_rfl) rfl rfl ⟨(blk_cell BK394.out 0).trans rfl, (blk_cell BK394.out 1).trans rfl, ((HB.out.cell (World.block_lt_of_cell? w _ hw395_0)).trans hw395_0)⟩ (fun hHeld => ?_); refine with_tabW ringworkref07_Area_Room.tab1 ringworkref07_Area_Room.bits1 (fun HT_ HW_ => ?_)
      generalize w7.drew = w8 at BK394 HB hx395_0 hHeld ⊢
      refine pure_ (i := 0) (N := some 5) (v := ?_) (a' := ?_) #[true, false, false, false, false, false, false, false, false, false] rfl rfl (any_of HT_.out (by kernel_rfl)) (fun _ _ _ h => h) (Or.inl ⟨by rfl, ?_⟩) ?_ ?_
      rotate_left
      · intro w'
        go_simp
        with_reducible rfl
      rotate_left
      · simp only [Act.put, List.setIfInBounds_toArray, List.set_cons_zero, List.set_cons_succ, i64_w, i32_w]
        rfl
      refine pure_ (i := 2) (N := some 7) (v := ?_) (a' := ?_) #[true, false, true, false, false, false, false, false, false, false] rfl rfl (any_of HT_.out (by kernel_rfl)) (fun _ _ _ h => h) (Or.inl ⟨by rfl, ?_⟩) ?_ ?_
      rotate_left
      · intro w'
        go_simp
        with_reducible rfl
      rotate_left
      · simp only [Act.put, List.setIfInBounds_toArray, List.set_cons_zero, List.set_cons_succ, i64_w, i32_w]
        rfl
      refine pure_ (i := 4) (N := some 9) (v := ?_) (a' := ?_) #[true, false, true, false, true, false, false, false, false, false] rfl rfl (any_of HT_.out (by kernel_rfl)) (fun _ _ _ h => h) (Or.inl ⟨by rfl, ?_⟩) ?_ ?_
      rotate_left
      · intro w'
        go_simp
        with_reducible rfl
      rotate_left
      · simp only [Act.put, List.setIfInBounds_toArray, List.set_cons_zero, List.set_cons_succ, i64_w, i32_w]
        rfl
      refine take_ (i := 1) (N := some 6) (v := ?_) (a' := ?_) #[true, true, true, false, true, false, false, false, false, false] rfl rfl (take_ofW HT_.out HW_.out (by kernel_rfl)) (fun _ _ _ h => h) (Or.inl ⟨by rfl, ?_⟩) hHeld ?_ ?_
      rotate_left
      · rintro w' ⟨s0, s1, s2⟩
        go_simp
        with_reducible rfl
      rotate_left
      · simp only [Act.put, List.setIfInBounds_toArray, List.set_cons_zero, List.set_cons_succ, i64_w, i32_w]
        rfl
      refine take_ (i := 3) (N := some 8) (v := ?_) (a' := ?_) #[true, true, true, true, true, false, false, false, false, false] rfl rfl (take_ofW HT_.out HW_.out (by kernel_rfl)) (fun _ _ _ h => h) (Or.inl ⟨by rfl, ?_⟩) hHeld ?_ ?_
      rotate_left
      · rintro w' ⟨s0, s1, s2⟩
        go_simp
        with_reducible rfl
      rotate_left
      · simp only [Act.put, List.setIfInBounds_toArray, List.set_cons_zero, List.set_cons_succ, i64_w, i32_w]
        rfl
      refine pure_ (i := 5) (N := some 10) (v := ?_) (a' := ?_) #[true, true, true, true, true, true, false, false, false, false] rfl rfl (any_of HT_.out (by kernel_rfl)) (fun _ _ _ h => h) (Or.inl ⟨by rfl, ?_⟩) ?_ ?_
      rotate_left
      · intro w'
        go_simp
        with_reducible rfl
      rotate_left
      · simp only [Act.put, List.setIfInBounds_toArray, List.set_cons_zero, List.set_cons_succ, i64_w, i32_w]
        rfl
      refine take_ (i := 6) (N := some 11) (v := ?_) (a' := ?_) #[true, true, true, true, true, true, true, false, false, false] rfl rfl (take_ofW HT_.out HW_.out (by kernel_rfl)) (fun _ _ _ h => h) (Or.inl ⟨by rfl, ?_⟩) hHeld ?_ ?_
      rotate_left
      · rintro w' ⟨s0, s1, s2⟩
        go_simp
        with_reducible rfl
      rotate_left
      · simp only [Act.put, List.setIfInBounds_toArray, List.set_cons_zero, List.set_cons_succ, i64_w, i32_w]
        rfl
      refine one_ (i := 7) (N := some 12) #[true, true, true, true, true, true, true, true, false, false] rfl rfl (one_of HT_.out (by kernel_rfl)) (by decide) (fun K hK => ?_)
      refine goes_ Try.func60 (by kernel_rfl) rfl #[.string (rdOf ByteArray.empty l0_1 a1)] (by rfl) rfl rfl (by (try simp only [List.map_toArray, List.map_cons, List.map_nil]); first | done | rfl | (simp only [List.length_drop, List.length_take]; rfl)) ?_
      with_reducible refine (ringworkref06_CellsOf.calls k (rdOf ByteArray.empty l0_1 a1) t396 _ A5.out).mono ?_
      rintro e w9 ⟨v397, rfl, ho0, hb⟩
      refine ⟨_, rfl, ?_⟩
      have n0_ := Aside0.mk (Kd.R_lower ho0 (below_size (by repeat (first | (with_reducible first | exact HB.out | apply below_alloc | apply pw_below_drewN | apply below_drew1 | refine below_set ?_ GE394.out) | exact HB.out))))
      have n1_ := Aside0.mk (blk_below (g := gb394) (o := .cells #[.int .i64 a0_0, .slice (some ad395) l0_1.length c0_1] 58 (0, 0)) (by (with_reducible repeat (first | refine blk_drewN ?_ _ | refine blk_drew ?_ | refine blk_alloc ?_ _)); exact BK394.out) hb)
      have n2_ := Aside0.mk (below_step (by repeat (first | (with_reducible first | exact HB.out | apply below_alloc | apply pw_below_drewN | apply below_drew1 | refine below_set ?_ GE394.out) | exact HB.out)) hb)
      clear BK394
      clear HB
      have HO398 := n0_
      have BK394 := n1_
      have HB := n2_
      clear n0_ n1_ n2_
      (try clear hb)
      (try clear hb2)
      (try clear hk)
      (try clear hi)
      (try clear ho0)
      obtain ⟨Ao10, co10, eo10⟩ := Kd.R_slice HO398.out
      (first | subst eo10 | (injection eo10 with f1_ f2_ f3_; have f4_ := f1_.symm; have f5_ := f3_.symm; clear f1_ f2_ f3_; subst f4_; subst f5_))
      refine hK.out _ _ ⟨(blk_cell BK394.out 0).trans rfl, (blk_cell BK394.out 1).trans rfl, ((HB.out.cell (World.block_lt_of_cell? w _ hw395_0)).trans hw395_0)⟩ (fun hHeld => ?_)
      clear hK K
      refine norm_ (a' := ?_) ?_ ?_
      rotate_left
      · show Act.put _ (some 12) _ = _
        simp only [Act.put, List.setIfInBounds_toArray, List.set_cons_zero, List.set_cons_succ, i64_w, i32_w]
        rfl
      refine one_ (i := 8) (N := some 13) #[true, true, true, true, true, true, true, true, true, false] rfl rfl (one_of HT_.out (by kernel_rfl)) (by decide) (fun K hK => ?_)
      refine goes_ Try.func55 (by kernel_rfl) rfl #[.int .i64 a0_0, .slice Ao10 t396.length co10] (by rfl) rfl rfl (by (try simp only [List.map_toArray, List.map_cons, List.map_nil]); first | done | rfl | (simp only [List.length_drop, List.length_take]; rfl)) ?_
      with_reducible refine (ringworkref06_Room.calls k a0_0 _ _ t396 t399 _ ?side1 ?side2 A6.out).mono ?_
      (case side1 => repeat (first | exact (Kd.R_reads' HO398.out).2.2 | (with_reducible refine Kd.C_alloc ?_ _) | (with_reducible refine Kd.C_drewN ?_ _) | (with_reducible refine Kd.C_drew ?_)))
      (case side2 => exact (Kd.R_reads' HO398.out).2.1)
      rintro e w' ⟨rfl, ⟨nd, rfl⟩⟩
      refine ⟨_, rfl, ?_⟩
      refine hK.out _ _ ⟨(blk_cell BK394.out 0).trans rfl, (blk_cell BK394.out 1).trans rfl, ((HB.out.cell (World.block_lt_of_cell? w _ hw395_0)).trans hw395_0)⟩ (fun hHeld => ?_)
      clear hK K
      refine norm_ (a' := ?_) ?_ ?_
      rotate_left
      · show Act.put _ (some 13) _ = _
        simp only [Act.put, List.setIfInBounds_toArray, List.set_cons_zero, List.set_cons_succ, i64_w, i32_w]
        rfl
      refine pure_ (i := 9) (N := some 4) (v := ?_) (a' := ?_) #[true, true, true, true, true, true, true, true, true, true] rfl rfl (any_of HT_.out (by kernel_rfl)) (fun _ _ _ h => h) (Or.inl ⟨by rfl, ?_⟩) ?_ ?_
      rotate_left
      · intro w'
        go_simp
        with_reducible rfl
      rotate_left
      · simp only [Act.put, List.setIfInBounds_toArray, List.set_cons_zero, List.set_cons_succ, i64_w, i32_w]
        rfl
      refine done_ (done_of HT_.out (by kernel_rfl)) ?_
      try go_wp2
      go_ret
      exact ⟨by first | rfl | (simp [errW_none, errW_some] <;> rfl) | (simp [*, errW_none, errW_some] <;> rfl), by repeat (first | (with_reducible first | exact HB.out | apply below_alloc | apply pw_below_drewN | apply below_drew1 | refine below_set ?_ GE394.out) | exact HB.out)⟩
    · rw [if_neg c4] at H
      exact absurd H (by simp)
  · rw [if_neg c3] at H
    exact absurd H (by simp)

end Go.Proofs.Ytemglmcddaeedaa.PA
