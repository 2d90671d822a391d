/- Part of the proof: For every key, number and data the law PieceCuts returns true and never panics: Cut is that of the document; the statement's own conditions and no others. -/
import Derived.Test.YtemglmcddaeedaaPieceCutsA
import Derived.ArgAppend
import Derived.Below
import Derived.BigQuiet
import Derived.ChangeOld
import Derived.Deep.AppendLies
import Derived.Deep.CutBlock
import Derived.Deep.DeepCutAuto
import Derived.Deep.Draws
import Derived.Deep.LoopGhost
import Derived.Deep.OwnRows
import Derived.Deep.QuietTactic
import Derived.Deep.RegionHeld3
import Derived.Deep.RegionLaw
import Derived.Deep.SlicePairs
import Derived.Defers
import Derived.DefersIn
import Derived.KernelRfl
import Derived.Laws.BitsLemmas
import Derived.Laws.BytesArg
import Derived.Laws.CopyOwn
import Derived.Laws.IdiomCopy
import Derived.Laws.MakeOwn
import Derived.Laws.OwnMore
import Derived.Laws.Rows
import Derived.Laws.Slices
import Derived.Lib.AppendStr
import Derived.Lib.AppendZerosOnto
import Derived.Lib.BufferWrite
import Derived.Lib.ConvBytes
import Derived.Lib.Hide
import Derived.Lib.Overlaps
import Derived.LoopIn
import Derived.LoopNIn
import Derived.Maps.AppendAt
import Derived.OpenShut
import Derived.OrdersHeld
import Derived.OwnWalk
import Derived.OwnWalkIn
import Derived.ProofKit
import Derived.RangeFuncBound
import Derived.RangeFuncCalls
import Derived.RangeFuncLeaves
import Derived.RangeFuncNested
import Derived.RangeFuncRecord
import Derived.Recover
import Derived.RecoverIn
import Derived.RowKit
import Derived.RowKit3
import Derived.Shelf.Abstract
import Derived.Shelf.RegionOpen
import Derived.ShutString
import Derived.SizedLaws
import Derived.StillTailTactics
import Derived.Tactics
import Derived.TacticsInMore
import Derived.Test.YtemglmcddaeedaaProg
import Derived.Test.YtemglmcddaeedaaRows
import Derived.Test.YtemglmcddaeedaaWApart
import Derived.Test.YtemglmcddaeedaaWArr
import Derived.Test.YtemglmcddaeedaaWAt
import Derived.Test.YtemglmcddaeedaaWEqStruct
import Derived.Test.YtemglmcddaeedaaWFoot
import Derived.Test.YtemglmcddaeedaaWFootNe
import Derived.Test.YtemglmcddaeedaaWFour
import Derived.Test.YtemglmcddaeedaaWGuard
import Derived.Test.YtemglmcddaeedaaWInv
import Derived.Test.YtemglmcddaeedaaWInvWords
import Derived.Test.YtemglmcddaeedaaWKept
import Derived.Test.YtemglmcddaeedaaWLast
import Derived.Test.YtemglmcddaeedaaWMore
import Derived.Test.YtemglmcddaeedaaWN
import Derived.Test.YtemglmcddaeedaaWNEv
import Derived.Test.YtemglmcddaeedaaWQPut
import Derived.Test.YtemglmcddaeedaaWRepsOne
import Derived.Test.YtemglmcddaeedaaWShare
import Derived.Test.YtemglmcddaeedaaWTab
import Derived.Test.YtemglmcddaeedaaWWords
import Derived.Test.YtemglmcddaeedaaWZeros
import Derived.WalkKit
import Derived.WalkLawsBesides
import Derived.WalkSpells
import Derived.WideLaws
namespace Go.Proofs.Ytemglmcddaeedaa.PA
open Go.RowKit Go.Proofs.YtemglmcddaeedaaW.PrintWords Go.Proofs.YtemglmcddaeedaaW.PrintLast Go.Proofs.YtemglmcddaeedaaW.PrintMore
attribute [local go_sem] max2_int min2_int max_two min_two max_three min_three max_four min_four   -- for this text's walks alone
set_option linter.unusedVariables false
set_option linter.unusedSimpArgs false

/-! ### page_find: function 0 -/
/-- Where a line stands among cells in order, or would. -/
def idxS (l : List S45) (n : Int) : Nat := (l.takeWhile (fun c => decide (c.f0 < n))).length
theorem idxS_le (l : List S45) (n : Int) : idxS l n ≤ l.length := by
  unfold idxS
  induction l with
  | nil => simp
  | cons c r ih =>
    rw [List.takeWhile_cons]
    split
    · simp only [List.length_cons]; omega
    · simp
theorem idxS_spec : ∀ {l : List S45}, CellsOk l → ∀ (n : Int) (h : Nat) (hl : h < l.length), l[h].f0 < n ↔ h < idxS l n := by
  intro l
  induction l with
  | nil => intro _ n h hl; simp at hl
  | cons c r ih =>
    intro hok n h hl
    unfold idxS
    rw [List.takeWhile_cons]
    by_cases hc : c.f0 < n
    · rw [if_pos (decide_eq_true hc)]
      cases h with
      | zero => simp [hc]
      | succ h =>
        have := ih hok.tail n h (by simpa using hl)
        simp only [List.getElem_cons_succ, List.length_cons]
        rw [this]
        unfold idxS
        omega
    · rw [if_neg (by simpa using hc)]
      cases h with
      | zero => simp [hc]
      | succ h =>
        have h1 := hok.lt (r[h]'(by simpa using hl)) (List.getElem_mem _)
        simp only [List.getElem_cons_succ, List.length_nil, Nat.not_lt_zero, iff_false]
        omega
theorem idxS_iff {l : List S45} (hok : CellsOk l) (n : Int) (h : Nat) (hl : h < l.length) : l[h].f0 < n ↔ h < idxS l n := idxS_spec hok n h hl
def foundS (l : List S45) (n : Int) : Bool := match l[idxS l n]? with | some c => decide (c.f0 = n) | none => false
set_option maxHeartbeats 4000000 in
theorem find1_calls (c : S45) (n : Int) (h0 : 0 ≤ c.f0 ∧ c.f0 ≤ 1000) (h1 : -1000 ≤ n ∧ n ≤ 1000) (w : World) :
    Calls Try.prog 110 #[.agg #[.int .i64 c.f0, .string c.f1], .int .i64 n] w fun e w' => e = .returned (.int .i64 (c.f0 - n)) ∧ Below w.heap.size w w' := by
  have h2 := h0.1
  have h3 := h0.2
  have h4 := h1.1
  have h5 := h1.2
  clear h0 h1
  have hb := blk_new w (.cells #[.int .i64 c.f0, .string c.f1] 45)
  have c0 := blk_cell hb 0
  simp only [List.getElem?_toArray, List.getElem?_cons_zero] at c0
  have HB := Aside0.mk (below_alloc (Below.refl _ w) (.cells #[.int .i64 c.f0, .string c.f1] 45))
  clear hb
  go_enter Try.func110, Try.ntmps110
  go_wp2
  go_ret
  exact ⟨rfl, HB.out⟩
set_option maxHeartbeats 4000000 in
set_option maxRecDepth 100000 in
theorem bsearch_calls (l : List S45) (A : Option Addr) (c : Nat) (n : Int) (w : World) (hok : CellsOk l) (hn : -1000 ≤ n ∧ n ≤ 1000) (hl : l.length ≤ 1000) (hC : Kd.C k45 w A l.length l) :
    Calls Try.prog 109 #[.slice A l.length c, .int .i64 n, .func (.func 110) #[] #[]] w fun e w' => e = .returned (.tuple #[.int .i64 (idxS l n), .bool (foundS l n)]) ∧ Below w.heap.size w w' := by
  have HOK := Aside0.mk hok
  have HC := Aside0.mk hC
  have HI := Aside0.mk (idxS_le l n)
  clear hok hC
  go_enter Try.func109, Try.ntmps109
  go_wp2
  go_loopw [9, 10] (fun v9 v10 wr => ∃ i j : Nat, i ≤ idxS l n ∧ idxS l n ≤ j ∧ j ≤ l.length ∧ v9 = .int .i64 (i : Int) ∧ v10 = .int .i64 (j : Int) ∧ Aside0 (Below w.heap.size w wr)) (fun v9 v10 _ => (intOf v10).toNat - (intOf v9).toNat)
  case atStart => exact ⟨0, l.length, by omega, HI.out, by omega, rfl, rfl, ⟨Below.refl _ _⟩⟩
  case round =>
    obtain ⟨i, j, hi, hij, hj, rfl, rfl, HB⟩ := hrel
    by_cases hlt : i < j
    · have hm0 : i ≤ (i + j) / 2 := by omega
      have hm1 : (i + j) / 2 < j := by omega
      obtain ⟨h, hh⟩ : ∃ h, (i + j) / 2 = h := ⟨_, rfl⟩
      rw [hh] at hm0 hm1
      have hhl : h < l.length := by omega
      obtain ⟨ad, e1, hx0, hx1⟩ := at_T45 HC.out (h : Int) (by omega) (by omega)
      cases e1
      rw [rd_get l h hhl] at hx0 hx1
      replace hx0 := (HB.out.cell (World.block_lt_of_cell? w _ hx0)).trans hx0
      replace hx1 := (HB.out.cell (World.block_lt_of_cell? w _ hx1)).trans hx1
      simp only [Int.toNat_natCast] at hx0 hx1
      have HS := Aside0.mk (idxS_spec HOK.out n h hhl)
      have hE := HOK.out.each l[h] (List.getElem_mem _)
      obtain ⟨X, hX⟩ : ∃ X, l[h] = X := ⟨_, rfl⟩
      rw [hX] at hx0 hx1 HS hE
      have hE1 : 0 ≤ X.f0 := by omega
      have hE2 : X.f0 ≤ 1000 := by omega
      have HH := Aside0.mk hh
      clear hX hh hE
      have hw1 : (((i : Int) + (j : Int)) / 2) = (h : Int) := by have := HH.out; omega
      by_cases hcmp : X.f0 < n
      · have hd : decide (X.f0 - n < 0) = true := decide_eq_true (by omega)
        go_wp2_with (go_at_call 110; refine (find1_calls X n ⟨hE1, hE2⟩ hn _).mono ?_; rintro e w' ⟨rfl, hb1⟩)
        go_roundw
        case rel => exact ⟨h + 1, j, by have := HS.out.1 hcmp; omega, hij, hj, by go_num, rfl, ⟨below_then HB.out HB.out.size hb1⟩⟩
        case measure => simp [intOf]; omega
      · have hd : decide (X.f0 - n < 0) = false := decide_eq_false (by omega)
        have hge : ¬ h < idxS l n := fun hh => hcmp (HS.out.2 hh)
        go_wp2_with (go_at_call 110; refine (find1_calls X n ⟨hE1, hE2⟩ hn _).mono ?_; rintro e w' ⟨rfl, hb1⟩)
        go_roundw
        case rel => exact ⟨i, h, hi, by omega, by omega, rfl, rfl, ⟨below_then HB.out HB.out.size hb1⟩⟩
        case measure => simp [intOf]; omega
    · obtain ⟨m, hm⟩ : ∃ m, idxS l n = m := ⟨_, rfl⟩
      rw [hm] at hi hij
      have hmi : i = m := by omega
      have hmj : j = m := by omega
      subst hmi
      subst hmj
      clear hi hij hlt
      have HM := Aside0.mk hm
      rw [hm]
      clear hm
      by_cases hlt : j < l.length
      · obtain ⟨ad, e1, hx0, hx1⟩ := at_T45 HC.out (j : Int) (by omega) (by omega)
        cases e1
        rw [rd_get l j hlt] at hx0 hx1
        replace hx0 := (HB.out.cell (World.block_lt_of_cell? w _ hx0)).trans hx0
        replace hx1 := (HB.out.cell (World.block_lt_of_cell? w _ hx1)).trans hx1
        simp only [Int.toNat_natCast] at hx0 hx1
        have hE := HOK.out.each l[j] (List.getElem_mem _)
        have HF := Aside0.mk (show foundS l n = decide (l[j].f0 = n) by unfold foundS; rw [HM.out, List.getElem?_eq_getElem hlt])
        obtain ⟨X, hX⟩ : ∃ X, l[j] = X := ⟨_, rfl⟩
        rw [hX] at hx0 hx1 HF hE
        have hE1 : 0 ≤ X.f0 := by omega
        have hE2 : X.f0 ≤ 1000 := by omega
        clear hX hE
        have hlti : decide (j < l.length) = true := decide_eq_true hlt
        go_wp2_with (go_at_call 110; refine (find1_calls X n ⟨hE1, hE2⟩ hn _).mono ?_; rintro e w' ⟨rfl, hb1⟩)
        go_ret2
        refine ⟨?_, below_then HB.out HB.out.size hb1⟩
        rw [HF.out, HM.out]
        have : ((X.f0 - n) == (0 : Int)) = decide (X.f0 = n) := by rw [Bool.eq_iff_iff]; simp; omega
        first | rfl | (rw [← this]; rfl)
      · have HF := Aside0.mk (show foundS l n = false by unfold foundS; rw [HM.out, List.getElem?_eq_none (by omega)])
        have hlti : decide (j < l.length) = false := decide_eq_false hlt
        go_wp2_with (go_at_call 110; fail)
        go_ret2
        exact ⟨by rw [HF.out, HM.out]; rfl, HB.out⟩
set_option maxHeartbeats 4000000 in
theorem find_calls (l : List S45) (A : Option Addr) (c : Nat) (n : Int) (w : World) (hok : CellsOk l) (hn : -1000 ≤ n ∧ n ≤ 1000) (hl : l.length ≤ 1000) (hC : Kd.C k45 w A l.length l) :
    Calls Try.prog 66 #[.slice A l.length c, .int .i64 n] w fun e w' => e = .returned (.tuple #[.int .i64 (idxS l n), .bool (foundS l n)]) ∧ Below w.heap.size w w' := by
  go_enter Try.func66, Try.ntmps66
  go_wp2_with (go_at_call 109; refine (bsearch_calls l A c n _ hok hn hl hC).mono ?_; rintro e w' ⟨rfl, hb1⟩)
  go_ret2
  exact ⟨rfl, hb1⟩

end Go.Proofs.Ytemglmcddaeedaa.PA

namespace Go.Proofs.Ytemglmcddaeedaa.PA
open Go.RowKit Go.Proofs.YtemglmcddaeedaaW.PrintWords Go.Proofs.YtemglmcddaeedaaW.PrintLast Go.Proofs.YtemglmcddaeedaaW.PrintMore
attribute [local go_sem] max2_int min2_int max_two min_two max_three min_three max_four min_four   -- for this text's walks alone
set_option linter.unusedVariables false
set_option linter.unusedSimpArgs false

/-! ### page_asked: function 65 -/
def page_asked.f (a0 : ByteArray) (a1 : Int) : Option (Int) := (page_Valid.f a0).bind fun t241 => (if t241 = true then ((page_line.f a1).bind fun t242 => (if t242 = true then (some 0) else (some 7))) else (some 1))
set_option maxHeartbeats 8000000 in
set_option maxRecDepth 100000 in
theorem page_asked.calls (a0 : ByteArray) (a1 : Int) (r : Int) (w : World) (h : page_asked.f a0 a1 = some r) :
    Calls Try.prog 65 #[.string a0, .int .i64 a1] w fun e w' => e = .returned (.int .i64 r) ∧ Below w.heap.size w w' := by
  have HB := Aside0.mk (Below.refl w.heap.size w)
  have H : ((page_Valid.f a0).bind fun t241 => (if t241 = true then ((page_line.f a1).bind fun t242 => (if t242 = true then (some 0) else (some 7))) else (some 1))) = some r := h
  clear h
  replace H := Option.bind_eq_some_iff.mp H
  obtain ⟨t241, A30, H⟩ := H
  replace H : (if t241 = true then ((page_line.f a1).bind fun t242 => (if t242 = true then (some 0) else (some 7))) else (some 1)) = some r := H
  have A3 := Aside0.mk A30
  clear A30
  by_cases c4 : t241 = true
  · subst c4
    have H1 : ((page_line.f a1).bind fun t242 => (if t242 = true then (some 0) else (some 7))) = some r := by rw [if_pos rfl] at H; exact H
    clear H
    have H := H1
    clear H1
    replace H := Option.bind_eq_some_iff.mp H
    obtain ⟨t242, A50, H⟩ := H
    replace H : (if t242 = true then (some 0) else (some 7)) = some r := H
    have A5 := Aside0.mk A50
    clear A50
    by_cases c6 : t242 = true
    · subst c6
      have H1 : (some 0) = some r := by rw [if_pos rfl] at H; exact H
      clear H
      have H := H1
      clear H1
      obtain rfl := Option.some.inj H
      go_enter Try.func65, Try.ntmps65
      go_wp2_with (first | ((with_reducible refine gate_callee (f := 21) rfl ?_); refine goesL_ (some 7) rfl rfl Try.func21 (by kernel_rfl) rfl #[.string a0] rfl (by (try simp only [List.map_toArray, List.map_cons, List.map_nil]); first | done | rfl | (simp only [List.length_drop, List.length_take]; rfl)) ?_; (with_reducible refine (page_Valid.calls a0 true _ A3.out).mono ?_); rintro e w7 ⟨rfl, hb⟩; refine ⟨_, rfl, ?_⟩; have n0_ := Aside0.mk (below_step (by repeat (first | (with_reducible first | exact HB.out | apply below_alloc | apply pw_below_drewN | apply below_drew1) | exact HB.out)) hb); clear HB; have HB := n0_; clear n0_; (try clear hb); (try clear hb2); (try clear hk); (try clear hi)) | ((with_reducible refine gate_callee (f := 52) rfl ?_); refine goesL_ (some 11) rfl rfl Try.func52 (by kernel_rfl) rfl #[.int .i64 a1] rfl (by (try simp only [List.map_toArray, List.map_cons, List.map_nil]); first | done | rfl | (simp only [List.length_drop, List.length_take]; rfl)) ?_; (with_reducible refine (page_line.calls a1 true _ A5.out).mono ?_); rintro e w' ⟨rfl, ⟨nd, rfl⟩⟩; refine ⟨_, rfl, ?_⟩))
      go_ret
      exact ⟨by first | rfl | (simp [errW_none, errW_some] <;> rfl) | (simp [*, errW_none, errW_some] <;> rfl), by repeat (first | (with_reducible first | exact HB.out | apply below_alloc | apply pw_below_drewN | apply below_drew1) | exact HB.out)⟩
    · replace c6 := Bool.eq_false_iff.mpr c6
      subst c6
      have H1 : (some 7) = some r := by rw [if_neg (show ¬ (false = true) by decide)] at H; exact H
      clear H
      have H := H1
      clear H1
      obtain rfl := Option.some.inj H
      go_enter Try.func65, Try.ntmps65
      go_wp2_with (first | ((with_reducible refine gate_callee (f := 21) rfl ?_); refine goesL_ (some 7) rfl rfl Try.func21 (by kernel_rfl) rfl #[.string a0] rfl (by (try simp only [List.map_toArray, List.map_cons, List.map_nil]); first | done | rfl | (simp only [List.length_drop, List.length_take]; rfl)) ?_; (with_reducible refine (page_Valid.calls a0 true _ A3.out).mono ?_); rintro e w8 ⟨rfl, hb⟩; refine ⟨_, rfl, ?_⟩; have n0_ := Aside0.mk (below_step (by repeat (first | (with_reducible first | exact HB.out | apply below_alloc | apply pw_below_drewN | apply below_drew1) | exact HB.out)) hb); clear HB; have HB := n0_; clear n0_; (try clear hb); (try clear hb2); (try clear hk); (try clear hi)) | ((with_reducible refine gate_callee (f := 52) rfl ?_); refine goesL_ (some 11) rfl rfl Try.func52 (by kernel_rfl) rfl #[.int .i64 a1] rfl (by (try simp only [List.map_toArray, List.map_cons, List.map_nil]); first | done | rfl | (simp only [List.length_drop, List.length_take]; rfl)) ?_; (with_reducible refine (page_line.calls a1 false _ A5.out).mono ?_); rintro e w' ⟨rfl, ⟨nd, rfl⟩⟩; refine ⟨_, rfl, ?_⟩))
      go_ret
      exact ⟨by first | rfl | (simp [errW_none, errW_some] <;> rfl) | (simp [*, errW_none, errW_some] <;> rfl), by repeat (first | (with_reducible first | exact HB.out | apply below_alloc | apply pw_below_drewN | apply below_drew1) | exact HB.out)⟩
  · replace c4 := Bool.eq_false_iff.mpr c4
    subst c4
    have H1 : (some 1) = some r := by rw [if_neg (show ¬ (false = true) by decide)] at H; exact H
    clear H
    have H := H1
    clear H1
    obtain rfl := Option.some.inj H
    go_enter Try.func65, Try.ntmps65
    go_wp2_with (first | ((with_reducible refine gate_callee (f := 21) rfl ?_); refine goesL_ (some 7) rfl rfl Try.func21 (by kernel_rfl) rfl #[.string a0] rfl (by (try simp only [List.map_toArray, List.map_cons, List.map_nil]); first | done | rfl | (simp only [List.length_drop, List.length_take]; rfl)) ?_; (with_reducible refine (page_Valid.calls a0 false _ A3.out).mono ?_); rintro e w9 ⟨rfl, hb⟩; refine ⟨_, rfl, ?_⟩; have n0_ := Aside0.mk (below_step (by repeat (first | (with_reducible first | exact HB.out | apply below_alloc | apply pw_below_drewN | apply below_drew1) | exact HB.out)) hb); clear HB; have HB := n0_; clear n0_; (try clear hb); (try clear hb2); (try clear hk); (try clear hi)))
    go_ret
    exact ⟨by first | rfl | (simp [errW_none, errW_some] <;> rfl) | (simp [*, errW_none, errW_some] <;> rfl), by repeat (first | (with_reducible first | exact HB.out | apply below_alloc | apply pw_below_drewN | apply below_drew1) | exact HB.out)⟩

end Go.Proofs.Ytemglmcddaeedaa.PA

namespace Go.Proofs.Ytemglmcddaeedaa.PA
open Go.RowKit Go.Proofs.YtemglmcddaeedaaW.PrintWords Go.Proofs.YtemglmcddaeedaaW.PrintLast Go.Proofs.YtemglmcddaeedaaW.PrintMore
attribute [local go_sem] max2_int min2_int max_two min_two max_three min_three max_four min_four   -- for this text's walks alone
set_option linter.unusedVariables false
set_option linter.unusedSimpArgs false

/-! ### page_edit: function 0 -/
/-! #### cells found, put, taken -/
theorem CellsOk_iff {l : List S45} : CellsOk l ↔ (∀ c ∈ l, 1 ≤ c.f0 ∧ c.f0 ≤ 200 ∧ 0 < c.f1.size) ∧ l.Pairwise (fun a b => a.f0 < b.f0) := by
  induction l with
  | nil => exact ⟨fun _ => ⟨by simp, List.Pairwise.nil⟩, fun _ => trivial⟩
  | cons c r ih =>
    constructor
    · intro h
      exact ⟨h.each, List.pairwise_cons.2 ⟨h.lt, (ih.1 h.tail).2⟩⟩
    · intro h
      have h2 := List.pairwise_cons.1 h.2
      exact CellsOk.mk (h.1 c (by simp)) h2.1 (ih.2 ⟨fun x hx => h.1 x (by simp [hx]), h2.2⟩)
theorem idx_split {l : List S45} (hok : CellsOk l) (n : Int) :
    (∀ x ∈ l.take (idxS l n), x.f0 < n) ∧ (∀ x ∈ l.drop (idxS l n), n ≤ x.f0) ∧
      (foundS l n = true → ∃ c, l[idxS l n]? = some c ∧ c.f0 = n) ∧ (foundS l n = false → ∀ x ∈ l.drop (idxS l n), n < x.f0) := by
  have h1 : ∀ x ∈ l.drop (idxS l n), n ≤ x.f0 := by
    intro x hx
    obtain ⟨j, hj, rfl⟩ := List.getElem_of_mem hx
    rw [List.getElem_drop]
    rw [List.length_drop] at hj
    have := idxS_spec hok n (idxS l n + j) (by omega)
    omega
  refine ⟨fun x hx => ?_, h1, fun hf => ?_, fun hf x hx => ?_⟩
  · obtain ⟨j, hj, rfl⟩ := List.getElem_of_mem hx
    rw [List.getElem_take]
    rw [List.length_take] at hj
    exact (idxS_spec hok n j (by omega)).2 (by omega)
  · unfold foundS at hf
    split at hf
    · rename_i c hc; exact ⟨c, hc, of_decide_eq_true hf⟩
    · cases hf
  · obtain ⟨j, hj, rfl⟩ := List.getElem_of_mem hx
    rw [List.length_drop] at hj
    have hlt : idxS l n < l.length := by omega
    unfold foundS at hf
    rw [List.getElem?_eq_getElem hlt] at hf
    have h0 : ¬ l[idxS l n].f0 = n := of_decide_eq_false hf
    have h2 : ¬ l[idxS l n].f0 < n := fun h => absurd ((idxS_spec hok n _ hlt).1 h) (Nat.lt_irrefl _)
    rw [List.getElem_drop]
    cases j with
    | zero => simp only [Nat.add_zero]; omega
    | succ j =>
      have hp := (CellsOk_iff.1 hok).2
      have := List.pairwise_iff_getElem.1 hp (idxS l n) (idxS l n + (j + 1)) hlt (by omega) (by omega)
      omega
/-- The cells with one more. -/
def insS (l : List S45) (n : Int) (d : ByteArray) : List S45 := l.take (idxS l n) ++ ⟨n, d⟩ :: l.drop (idxS l n)
def delS (l : List S45) (n : Int) : List S45 := l.take (idxS l n) ++ l.drop (idxS l n + 1)
def repS (l : List S45) (n : Int) (d : ByteArray) : List S45 := l.take (idxS l n) ++ ⟨n, d⟩ :: l.drop (idxS l n + 1)
theorem mem_take_drop {α : Type} {l : List α} {i j : Nat} {x : α} (h : x ∈ l.take i ∨ x ∈ l.drop j) : x ∈ l := by
  rcases h with h | h
  · exact List.mem_of_mem_take h
  · exact List.mem_of_mem_drop h
theorem ok_three {a b : List S45} {c : S45} (ha : CellsOk a) (hb : CellsOk b) (hc : 1 ≤ c.f0 ∧ c.f0 ≤ 200 ∧ 0 < c.f1.size) (h1 : ∀ x ∈ a, x.f0 < c.f0) (h2 : ∀ x ∈ b, c.f0 < x.f0) : CellsOk (a ++ c :: b) := by
  rw [CellsOk_iff] at ha hb ⊢
  refine ⟨fun x hx => ?_, ?_⟩
  · rcases List.mem_append.1 hx with h | h
    · exact ha.1 x h
    · rcases List.mem_cons.1 h with rfl | h
      · exact hc
      · exact hb.1 x h
  · refine List.pairwise_append.2 ⟨ha.2, List.pairwise_cons.2 ⟨h2, hb.2⟩, fun x hx y hy => ?_⟩
    rcases List.mem_cons.1 hy with rfl | hy
    · exact h1 x hx
    · have := h1 x hx; have := h2 y hy; omega
theorem ok_sub {l a : List S45} (h : CellsOk l) (hs : a.Sublist l) : CellsOk a := by
  rw [CellsOk_iff] at h ⊢
  exact ⟨fun x hx => h.1 x (hs.subset hx), h.2.sublist hs⟩
theorem insS_ok {l : List S45} (h : CellsOk l) {n : Int} {d : ByteArray} (hn : 1 ≤ n ∧ n ≤ 200) (hd : 0 < d.size) (hf : foundS l n = false) : CellsOk (insS l n d) := by
  have hs := idx_split h n
  exact ok_three (ok_sub h (List.take_sublist _ _)) (ok_sub h (List.drop_sublist _ _)) ⟨hn.1, hn.2, hd⟩ hs.1 (hs.2.2.2 hf)
theorem drop_succ_lt {l : List S45} (h : CellsOk l) {n : Int} (hf : foundS l n = true) : ∀ x ∈ l.drop (idxS l n + 1), n < x.f0 := by
  obtain ⟨c, hc, hcn⟩ := (idx_split h n).2.2.1 hf
  obtain ⟨hlt, he⟩ := List.getElem?_eq_some_iff.1 hc
  intro x hx
  obtain ⟨j, hj, rfl⟩ := List.getElem_of_mem hx
  rw [List.length_drop] at hj
  rw [List.getElem_drop]
  have := List.pairwise_iff_getElem.1 (CellsOk_iff.1 h).2 (idxS l n) (idxS l n + 1 + j) hlt (by omega) (by omega)
  rw [he] at this
  omega
theorem repS_ok {l : List S45} (h : CellsOk l) {n : Int} {d : ByteArray} (hn : 1 ≤ n ∧ n ≤ 200) (hd : 0 < d.size) (hf : foundS l n = true) : CellsOk (repS l n d) :=
  ok_three (ok_sub h (List.take_sublist _ _)) (ok_sub h (List.drop_sublist _ _)) ⟨hn.1, hn.2, hd⟩ (idx_split h n).1 (drop_succ_lt h hf)
theorem delS_ok {l : List S45} (h : CellsOk l) (n : Int) : CellsOk (delS l n) := by
  unfold delS
  refine ok_sub h ?_
  have : (l.take (idxS l n) ++ l.drop (idxS l n + 1)).Sublist (l.take (idxS l n) ++ l.drop (idxS l n)) :=
    List.Sublist.append (List.Sublist.refl _) (by rw [← List.drop_drop]; exact List.drop_sublist _ _)
  rwa [List.take_append_drop] at this
theorem bytes_sub {a l : List S45} (hs : a.Sublist l) : bytesL a ≤ bytesL l := by
  induction hs with
  | slnil => exact Nat.le_refl _
  | cons x _ ih => rw [bytesL_cons]; omega
  | cons_cons x _ ih => rw [bytesL_cons, bytesL_cons]; omega
theorem insS_bytes (l : List S45) (n : Int) (d : ByteArray) : bytesL (insS l n d) = bytesL l + d.size := by
  have h := bytesL_append (l.take (idxS l n)) (l.drop (idxS l n))
  rw [List.take_append_drop] at h
  unfold insS
  rw [bytesL_append, bytesL_cons]
  show _ + (d.size + _) = _
  omega
theorem repS_bytes (l : List S45) (n : Int) (d : ByteArray) : bytesL (repS l n d) ≤ bytesL l + d.size := by
  have h := bytesL_append (l.take (idxS l n)) (l.drop (idxS l n))
  rw [List.take_append_drop] at h
  have h2 : bytesL (l.drop (idxS l n + 1)) ≤ bytesL (l.drop (idxS l n)) := bytes_sub (by rw [← List.drop_drop]; exact List.drop_sublist _ _)
  unfold repS
  rw [bytesL_append, bytesL_cons]
  show _ + (d.size + _) ≤ _
  omega
theorem delS_bytes (l : List S45) (n : Int) : bytesL (delS l n) ≤ bytesL l := by
  have h := bytesL_append (l.take (idxS l n)) (l.drop (idxS l n))
  rw [List.take_append_drop] at h
  have h2 : bytesL (l.drop (idxS l n + 1)) ≤ bytesL (l.drop (idxS l n)) := bytes_sub (by rw [← List.drop_drop]; exact List.drop_sublist _ _)
  unfold delS
  rw [bytesL_append]
  omega
/-- What page.filled answers. -/
def filledS (n : Int) (l : List S45) : ByteArray × Int := if needsL l > n then (⟨#[]⟩, 13) else (strOfNums (builtL n.toNat l), 0)
theorem filled_f {n : Int} {l : List S45} (h0 : 32 ≤ n) (h1 : n ≤ 4096) (h : CellsOk l) (hb : bytesL l ≤ 1000000000000) : page_filled.f n l = some (filledS n l) := by
  unfold page_filled.f filledS
  rw [if_pos ⟨h0, h1, h, hb⟩]
  split <;> rfl
/-- The cells of a page. -/
def cellsP (p : ByteArray) : List S45 := cellsS p (twoS p 0).toNat
theorem cellsP_ok {p : ByteArray} (hv : validS p) : CellsOk (cellsP p) ∧ (cellsP p).length ≤ 200 ∧ bytesL (cellsP p) ≤ p.size ∧ 32 ≤ p.size ∧ p.size ≤ 4096 := by
  obtain ⟨g1, g2, g3, g4⟩ := valid_reads p hv
  obtain ⟨q1, q2, q3, q4, q5, _⟩ := validS_spec p hv
  have hl := cellsS_length p (twoS p 0).toNat
  have h0 := lastL_nonneg g1
  refine ⟨g1, ?_, ?_, q1, q2⟩
  · unfold cellsP; omega
  · unfold needsL at g2; unfold cellsP; omega
theorem asked_f (p : ByteArray) (n : Int) (h : p.size ≤ 100000) : page_asked.f p n = some (if validS p then (if 1 ≤ n ∧ n ≤ 200 then 0 else 7) else 1) := by
  have hV : page_Valid.f p = some (decide (validS p)) := by
    unfold page_Valid.f page_Wrong.f
    rw [if_pos h, Option.bind_some]
    unfold validS
    by_cases hw : (wrongS p).2 = 0
    · first | rw [if_pos hw, decide_eq_true hw] | simp [hw]
    · first | rw [if_neg hw, decide_eq_false hw] | simp [hw]
  have hL : page_line.f n = some (decide (1 ≤ n ∧ n ≤ 200)) := by
    unfold page_line.f
    by_cases h1 : 1 ≤ n <;> by_cases h2 : n ≤ 200 <;> simp [h1, h2] <;> omega
  unfold page_asked.f
  rw [hV, Option.bind_some, hL, Option.bind_some]
  by_cases hv : validS p <;> by_cases hn : 1 ≤ n ∧ n ≤ 200 <;> simp [hv, hn]

end Go.Proofs.Ytemglmcddaeedaa.PA

namespace Go.Proofs.Ytemglmcddaeedaa.PA
open Go.RowKit Go.Proofs.YtemglmcddaeedaaW.PrintWords Go.Proofs.YtemglmcddaeedaaW.PrintLast Go.Proofs.YtemglmcddaeedaaW.PrintMore
attribute [local go_sem] max2_int min2_int max_two min_two max_three min_three max_four min_four   -- for this text's walks alone
set_option linter.unusedVariables false
set_option linter.unusedSimpArgs false

/-! ### page_Get: function 32 -/
def getS (p : ByteArray) (n : Int) : ByteArray × Int :=
  if validS p then (if 1 ≤ n ∧ n ≤ 200 then (if foundS (cellsP p) n then ((rd_T45 (cellsP p) (idxS (cellsP p) n)).f1, 0) else (⟨#[]⟩, 8)) else (⟨#[]⟩, 7)) else (⟨#[]⟩, 1)
def page_Get.f (a0 : ByteArray) (a1 : Int) : Option (ByteArray × Int) := if a0.size ≤ 100000 then some (getS a0 a1) else none
theorem cells_f {p : ByteArray} (hv : validS p) : page_cells.f p = some (cellsP p) := by unfold page_cells.f; rw [if_pos hv]; rfl
theorem found_lt {l : List S45} {n : Int} (h : foundS l n = true) : idxS l n < l.length := by
  unfold foundS at h
  split at h
  · rename_i c hc; exact (List.getElem?_eq_some_iff.1 hc).1
  · cases h
set_option maxHeartbeats 4000000 in
set_option maxRecDepth 100000 in
theorem page_Get.calls (a0 : ByteArray) (a1 : Int) (r1 : ByteArray) (r2 : Int) (w : World) (h : page_Get.f a0 a1 = some (r1, r2)) :
    Calls Try.prog 32 #[.string a0, .int .i64 a1] w fun e w' => e = .returned (.tuple #[.string r1, .int .i64 r2]) ∧ Below w.heap.size w w' := by
  unfold page_Get.f at h
  split at h
  rotate_left
  · cases h
  rename_i hs
  have HA := Aside0.mk (asked_f a0 a1 hs)
  have h := Option.some.inj h
  unfold getS at h
  by_cases hv : validS a0
  · rw [if_pos hv] at h
    rw [if_pos hv] at HA
    by_cases hn : 1 ≤ a1 ∧ a1 ≤ 200
    · rw [if_pos hn] at h
      rw [if_pos hn] at HA
      obtain ⟨k1, k2, k3, k4, k5⟩ := cellsP_ok hv
      have HK := Aside0.mk (And.intro k1 k2)
      have HCF := Aside0.mk (cells_f hv)
      have HFL := Aside0.mk (fun h => found_lt (l := cellsP a0) (n := a1) h)
      obtain ⟨l, hl⟩ : ∃ l, cellsP a0 = l := ⟨_, rfl⟩
      rw [hl] at h HK HCF HFL
      obtain ⟨ix, hix⟩ : ∃ ix, idxS l a1 = ix := ⟨_, rfl⟩
      rw [hix] at h HFL
      have HIX := Aside0.mk hix
      clear k1 k2 k3 hl hix
      by_cases hf : foundS l a1 = true
      · rw [if_pos hf] at h
        obtain ⟨rfl, rfl⟩ := Prod.mk.inj h
        clear h
        have hlt := HFL.out hf
        have HF := Aside0.mk hf
        clear hf
        go_enter Try.func32, Try.ntmps32
        go_wp2_with (go_at_call 65; refine (page_asked.calls a0 a1 0 _ HA.out).mono ?_; rintro e w1 ⟨rfl, hb1⟩)
        go_wp2_with (go_at_call 49; refine (page_cells.calls a0 l _ HCF.out).mono ?_; rintro e w2 ⟨v, rfl, hR, hb2⟩)
        have HB := Aside0.mk (below_then hb1 hb1.size hb2)
        obtain ⟨A, c, rfl, hc, hC⟩ := Kd.R_reads hR
        obtain ⟨ad, e1, hx0, hx1⟩ := at_T45 hC (ix : Int) (by omega) (by omega)
        cases e1
        simp only [Int.toNat_natCast] at hx0 hx1
        obtain ⟨X, hX⟩ : ∃ X, rd_T45 l (ix : Int) = X := ⟨_, rfl⟩
        rw [hX] at hx0 hx1
        have HX := Aside0.mk hX
        have hll := HK.out.2
        clear hR hX hb1 hb2
        go_wp2_with (go_at_call 66; refine (find_calls l (some ad) c a1 _ HK.out.1 (by omega) (by omega) hC).mono ?_; rw [HF.out, HIX.out]; rintro e w3 ⟨rfl, hb3⟩; have hy1 := (hb3.cell (World.block_lt_of_cell? w2 _ hx1)).trans hx1; have HB3 := Aside0.mk hb3; clear hb3)
        go_ret2
        rw [HX.out]
        exact ⟨rfl, below_then HB.out HB.out.size HB3.out⟩
      · have hf0 := Bool.eq_false_iff.2 hf
        rw [hf0, if_neg (by decide)] at h
        obtain ⟨rfl, rfl⟩ := Prod.mk.inj h
        clear h hf
        have HF := Aside0.mk hf0
        clear hf0
        go_enter Try.func32, Try.ntmps32
        go_wp2_with (go_at_call 65; refine (page_asked.calls a0 a1 0 _ HA.out).mono ?_; rintro e w1 ⟨rfl, hb1⟩)
        go_wp2_with (go_at_call 49; refine (page_cells.calls a0 l _ HCF.out).mono ?_; rintro e w2 ⟨v, rfl, hR, hb2⟩)
        have HB := Aside0.mk (below_then hb1 hb1.size hb2)
        obtain ⟨A, c, rfl, hc, hC⟩ := Kd.R_reads hR
        have hll := HK.out.2
        clear hR hb1 hb2
        go_wp2_with (go_at_call 66; refine (find_calls l A c a1 _ HK.out.1 (by omega) (by omega) hC).mono ?_; rw [HF.out, HIX.out]; rintro e w3 ⟨rfl, hb3⟩; have HB3 := Aside0.mk hb3; clear hb3)
        go_ret2
        exact ⟨rfl, below_then HB.out HB.out.size HB3.out⟩
    · rw [if_neg hn] at h
      rw [if_neg hn] at HA
      obtain ⟨rfl, rfl⟩ := Prod.mk.inj h
      clear h hn hv
      go_enter Try.func32, Try.ntmps32
      go_wp2_with (go_at_call 65; refine (page_asked.calls a0 a1 7 _ HA.out).mono ?_; rintro e w1 ⟨rfl, hb1⟩)
      go_ret2
      exact ⟨rfl, hb1⟩
  · rw [if_neg hv] at h
    rw [if_neg hv] at HA
    obtain ⟨rfl, rfl⟩ := Prod.mk.inj h
    clear h hv
    go_enter Try.func32, Try.ntmps32
    go_wp2_with (go_at_call 65; refine (page_asked.calls a0 a1 1 _ HA.out).mono ?_; rintro e w1 ⟨rfl, hb1⟩)
    go_ret2
    exact ⟨rfl, hb1⟩

end Go.Proofs.Ytemglmcddaeedaa.PA

namespace Go.Proofs.Ytemglmcddaeedaa.PA
open Go.RowKit Go.Proofs.YtemglmcddaeedaaW.PrintWords Go.Proofs.YtemglmcddaeedaaW.PrintLast Go.Proofs.YtemglmcddaeedaaW.PrintMore
attribute [local go_sem] max2_int min2_int max_two min_two max_three min_three max_four min_four   -- for this text's walks alone
set_option linter.unusedVariables false
set_option linter.unusedSimpArgs false

/-! ### rowk: function 0 -/
/-! #### rows of elements of several plain cells, known whole -/
section
variable {α : Type} {enc : α → List Value} {k : Nat}
def encs_ (enc : α → List Value) (l : List α) : List Value := l.flatMap enc
theorem encs_nil : encs_ enc [] = [] := rfl
theorem encs_cons (x : α) (l : List α) : encs_ enc (x :: l) = enc x ++ encs_ enc l := by simp [encs_]
theorem encs_one (x : α) : encs_ enc [x] = enc x := by simp [encs_]
theorem encs_app (a b : List α) : encs_ enc (a ++ b) = encs_ enc a ++ encs_ enc b := by simp [encs_]
theorem encs_len (hk : ∀ x, (enc x).length = k) (l : List α) : (encs_ enc l).length = l.length * k := by
  induction l with
  | nil => simp [encs_]
  | cons x l ih => rw [encs_cons, List.length_append, hk, ih, List.length_cons, Nat.add_mul, Nat.one_mul, Nat.add_comm]
theorem encs_oneCell (h1 : ∀ x, ∀ v ∈ enc x, v.oneCell' = true) (l : List α) : ∀ v ∈ encs_ enc l, v.oneCell' = true := by
  intro v hv
  obtain ⟨x, _, hx⟩ := List.mem_flatMap.1 hv
  exact h1 x v hx
theorem encs_take (hk : ∀ x, (enc x).length = k) (l : List α) (i : Nat) (hi : i ≤ l.length) : (encs_ enc l).take (i * k) = encs_ enc (l.take i) := by
  have h : encs_ enc l = encs_ enc (l.take i) ++ encs_ enc (l.drop i) := by rw [← encs_app, List.take_append_drop]
  have hl : (encs_ enc (l.take i)).length = i * k := by rw [encs_len hk, List.length_take, Nat.min_eq_left hi]
  rw [h, ← hl, List.take_left]
theorem encs_drop (hk : ∀ x, (enc x).length = k) (l : List α) (i : Nat) (hi : i ≤ l.length) : (encs_ enc l).drop (i * k) = encs_ enc (l.drop i) := by
  have h : encs_ enc l = encs_ enc (l.take i) ++ encs_ enc (l.drop i) := by rw [← encs_app, List.take_append_drop]
  have hl : (encs_ enc (l.take i)).length = i * k := by rw [encs_len hk, List.length_take, Nat.min_eq_left hi]
  rw [h, ← hl, List.drop_left]
theorem encs_get (hk : ∀ x, (enc x).length = k) (l : List α) (i j : Nat) (hi : i < l.length) (hj : j < k) : (encs_ enc l)[i * k + j]? = (enc l[i])[j]? := by
  have h : encs_ enc l = encs_ enc (l.take i) ++ (enc l[i] ++ encs_ enc (l.drop (i + 1))) := by
    rw [← encs_cons, ← encs_app]; congr 1
    rw [← List.drop_eq_getElem_cons hi, List.take_append_drop]
  have hl : (encs_ enc (l.take i)).length = i * k := by rw [encs_len hk, List.length_take, Nat.min_eq_left (by omega)]
  rw [h, List.getElem?_append_right (by omega), hl, Nat.add_sub_cancel_left, List.getElem?_append_left (by rw [hk]; exact hj)]
/-- A row of one's own (from base on), known whole. -/
def RowK (enc : α → List Value) (k : Nat) (e : TypeId) (w : World) (base : Nat) (v : Value) (l : List α) : Prop :=
  (v = .slice none 0 0 ∧ l = []) ∨ ∃ g cap sp, v = .slice (some ⟨g, 0, none⟩) l.length cap ∧ base ≤ g ∧ l.length ≤ cap ∧ cap ≤ maxLen ∧ sp.length = (cap - l.length) * k ∧ w.heap[g]? = some (.cells (encs_ enc l ++ sp).toArray e (0, 0))
theorem RowK.owns (hk : ∀ x, (enc x).length = k) {e : TypeId} {w : World} {base : Nat} {v : Value} {l : List α} (h : RowK enc k e w base v l) : w.ownsRow base e k v l.length (encs_ enc l) := by
  refine ⟨encs_len hk l, ?_⟩
  rcases h with ⟨rfl, rfl⟩ | ⟨g, cap, sp, rfl, hb, hn, hm, hs, hg⟩
  · exact .inl ⟨rfl, rfl⟩
  · refine .inr ⟨g, cap, _, rfl, hb, hg, hn, hm, ?_, ?_⟩
    · simp only [List.size_toArray, List.length_append, encs_len hk, hs]
      rw [← Nat.add_mul]; congr 1; omega
    · rw [← encs_len hk]; simp
theorem RowK.of_owns (hk : ∀ x, (enc x).length = k) {e : TypeId} {w : World} {base : Nat} {v : Value} {l : List α} (h : w.ownsRow base e k v l.length (encs_ enc l)) : RowK enc k e w base v l := by
  rcases h.2 with ⟨rfl, h0⟩ | ⟨g, cap, cur, rfl, hb, hg, hn, hm, hs, ht⟩
  · exact .inl ⟨rfl, List.eq_nil_of_length_eq_zero h0⟩
  · refine .inr ⟨g, cap, cur.toList.drop (l.length * k), rfl, hb, hn, hm, ?_, ?_⟩
    · rw [List.length_drop, Array.length_toList, hs, Nat.sub_mul]
    · rw [← ht, List.take_append_drop]; exact hg
theorem RowK.below {e : TypeId} {w w1 : World} {base : Nat} {v : Value} {l : List α} (h : RowK enc k e w base v l) (hb : Below w.heap.size w w1) : RowK enc k e w1 base v l := by
  rcases h with h | ⟨g, cap, sp, rfl, h1, hn, hm, hs, hg⟩
  · exact .inl h
  · exact .inr ⟨g, cap, sp, rfl, h1, hn, hm, hs, (hb.block g (blk_lt hg)).trans hg⟩
theorem RowK.nil (e : TypeId) (w : World) (base : Nat) : RowK enc k e w base (.slice none 0 0) [] := .inl ⟨rfl, rfl⟩
end
section
variable {P : Program}
/-- copy onto a row known whole, elements of several cells. -/
theorem run_copy_rowK (w : World) (dT sT ty elem : TypeId) (g o dLen dCap : Nat) (a : Addr) (sLen sCap size : Nat) (cur : Array Value) (t : TypeId) (cs : List Value)
    (hu : P.underlying dT = some (.slice elem)) (hs : (P.info? elem).map (·.size) = some size)
    (hg : w.heap[g]? = some (.cells cur t (0, 0))) (hn : cs.length = Nat.min sLen dLen * size)
    (hsrc : ∀ j v, cs[j]? = some v → w.cell? (a.add j) = some v) (hfit : o + cs.length ≤ cur.size) (h1 : ∀ v ∈ cs, v.oneCell' = true) :
    (Builtin.copy_ #[dT, sT] ty #[.slice (some ⟨g, o, none⟩) dLen dCap, .slice (some a) sLen sCap]).run P w =
      .ok (goInt (Nat.min sLen dLen)) (w.setRow g (splice cur.toList o cs).toArray) := by
  have hl := run_loadCells_list (P := P) w a cs hsrc
  have hst := run_storeCells_at P g o t cs 0 cur w hg (by simpa using hfit) h1
  cases hq : P.info? elem with
  | none => simp [hq] at hs
  | some i =>
    have hi : i.size = size := by simpa [hq] using hs
    rw [hn] at hl
    simp only [Nat.add_zero] at hst
    simp [Builtin.copy_, run_underlying hu, Builtin.lenOf, Builtin.firstCells, sizeOf, typeInfo, hq, hi, hl, hst, splice]
theorem run_append_roomK (w : World) (t ty e : TypeId) (size : Nat) (ht : P.underlying t = some (.slice e)) (hs : (P.info? e).map (·.size) = some size)
    (g sLen sCap : Nat) (a : Addr) (m c : Nat) (cur : Array Value) (tt : TypeId) (hg : w.heap[g]? = some (.cells cur tt (0, 0))) (news : List Value) (hl : news.length = m * size) (hnews : ∀ j u, news[j]? = some u → w.cell? (a.add j) = some u) (h1 : ∀ u ∈ news, u.oneCell' = true)
    (hroom : sLen + m ≤ sCap) (hfit : sLen * size + news.length ≤ cur.size) :
    (Builtin.append_ #[t, t] ty #[.slice (some ⟨g, 0, none⟩) sLen sCap, .slice (some a) m c]).run P w = .ok (.slice (some ⟨g, 0, none⟩) (sLen + m) sCap) (w.setRow g (splice cur.toList (sLen * size) news).toArray) := by
  cases hq : P.info? e with
  | none => simp [hq] at hs
  | some i =>
    have hi : i.size = size := by simpa [hq] using hs
    subst hi
    have hfc := run_firstCells_some (P := P) w i.size m a m c news hl hnews
    have hst := run_storeCells_at P g (sLen * i.size) tt news 0 cur w hg (by simpa using hfit) h1
    simp only [Nat.add_zero] at hst
    simp [Builtin.append_, run_underlying ht, sizeOf, typeInfo, hq, Builtin.lenOf, hroom, hfc, hst, splice, add_plain]
/-- copy where its run is known by an equation. -/
theorem wp_copy_runE (w : World) {o : Oper} {a : Act} {K : Act → World → Prop} {Q : Exit → Act → World → Prop} (d s : Operand) (t t' : TypeId)
    (ho : o.op = .call { callee := .builtin .copy, args := #[d, s], argTypes := #[t, t'] }) (v u : Value) (hd : a.eval d = v) (hs : a.eval s = u) {v' : Value} {w' : World}
    (hr : (Builtin.copy_ #[t, t'] o.type #[v, u]).run P w = .ok v' w') (h : K (a.put o.dst v') w') : o.wp P a w K Q := by
  unfold Oper.wp execOp
  simp only [ho, resolve, invoke, builtin, Sem.run_bind, Sem.run_pure, Result.andThen_ok, List.map_toArray, List.map_cons, List.map_nil, hd, hs, hr]
  exact h
theorem wpList_copy_runE (w : World) {ops : Array Oper} {rest : List Oper} {o : Oper} {a : Act} {Q : Exit → Act → World → Prop} (hgd : o.guard = none) (d s : Operand) (t t' : TypeId)
    (ho : o.op = .call { callee := .builtin .copy, args := #[d, s], argTypes := #[t, t'] }) (v u : Value) (hd : a.eval d = v) (hs : a.eval s = u) {v' : Value} {w' : World}
    (hr : (Builtin.copy_ #[t, t'] o.type #[v, u]).run P w = .ok v' w') (h : wpList P ops Q rest (a.put o.dst v') w') : wpList P ops Q (o :: rest) a w :=
  wpList_plain hgd fun _ hK => wp_copy_runE w d s t t' ho v u hd hs hr (hK _ _ h)
theorem step_copy_runE {ops : Array Oper} {o : Oper} {a : Act} {w : World} {K : Act → World → Prop} {Q : Exit → Act → World → Prop} {E : Prop}
    (hg : o.guard = none) (d x : Operand) (dT sT : TypeId) (hop : o.op = Op.call { callee := Callee.builtin Builtin.copy, args := #[d, x], argTypes := #[dT, sT] })
    (v u : Value) (hd : a.eval d = v) (hx : a.eval x = u) {v' : Value} {w' : World} (hr : (Builtin.copy_ #[dT, sT] o.type #[v, u]).run P w = .ok v' w') (hK : K (a.put o.dst v') w') :
    if Region.wanted o (yielded ops a.tmps) = true then Oper.wp P o a w K Q else E := by
  have hw : Region.wanted o (yielded ops a.tmps) = true := by simp [Region.wanted, hg]
  rw [if_pos hw]
  exact wp_copy_runE w d x dT sT hop v u hd hx hr hK
theorem step_append_runE {ops : Array Oper} {o : Oper} {a : Act} {w : World} {K : Act → World → Prop} {Q : Exit → Act → World → Prop} {E : Prop}
    (hg : o.guard = none) (d x : Operand) (dT sT : TypeId) (hop : o.op = Op.call { callee := Callee.builtin Builtin.append, args := #[d, x], argTypes := #[dT, sT] })
    (v u : Value) (hd : a.eval d = v) (hx : a.eval x = u) {v' : Value} {w' : World} (hr : (Builtin.append_ #[dT, sT] o.type #[v, u]).run P w = .ok v' w') (hK : K (a.put o.dst v') w') :
    if Region.wanted o (yielded ops a.tmps) = true then Oper.wp P o a w K Q else E := by
  have hw : Region.wanted o (yielded ops a.tmps) = true := by simp [Region.wanted, hg]
  rw [if_pos hw]
  unfold Oper.wp execOp
  simp only [hop, resolve, invoke, builtin, Sem.run_bind, Sem.run_pure, Result.andThen_ok, List.map_toArray, List.map_cons, List.map_nil, hd, hx, hr]
  exact hK
theorem wpList_append_runE (w : World) {ops : Array Oper} {rest : List Oper} {o : Oper} {a : Act} {Q : Exit → Act → World → Prop} (hgd : o.guard = none) (d s : Operand) (t t' : TypeId)
    (ho : o.op = .call { callee := .builtin .append, args := #[d, s], argTypes := #[t, t'] }) (v u : Value) (hd : a.eval d = v) (hs : a.eval s = u) {v' : Value} {w' : World}
    (hr : (Builtin.append_ #[t, t'] o.type #[v, u]).run P w = .ok v' w') (h : wpList P ops Q rest (a.put o.dst v') w') : wpList P ops Q (o :: rest) a w :=
  wpList_plain hgd fun _ hK => by
    unfold Oper.wp execOp
    simp only [ho, resolve, invoke, builtin, Sem.run_bind, Sem.run_pure, Result.andThen_ok, List.map_toArray, List.map_cons, List.map_nil, hd, hs, hr]
    exact hK _ _ h
theorem wpList_clear_runE (w : World) {ops : Array Oper} {rest : List Oper} {o : Oper} {a : Act} {Q : Exit → Act → World → Prop} (hgd : o.guard = none) (d : Operand) (t : TypeId)
    (ho : o.op = .call { callee := .builtin .clear, args := #[d], argTypes := #[t] }) (v : Value) (hd : a.eval d = v) {v' : Value} {w' : World}
    (hr : (Builtin.clear_ #[t] o.type #[v]).run P w = .ok v' w') (h : wpList P ops Q rest (a.put o.dst v') w') : wpList P ops Q (o :: rest) a w :=
  wpList_plain hgd fun _ hK => by
    unfold Oper.wp execOp
    simp only [ho, resolve, invoke, builtin, Sem.run_bind, Sem.run_pure, Result.andThen_ok, List.map_toArray, List.map_cons, List.map_nil, hd, hr]
    exact hK _ _ h
end
theorem splice_ins {β : Type} (T D s S c : List β) (k t : Nat) (hT : T.length = t) (hs : s.length = k) (hc : c.length = k) : splice (splice (T ++ D ++ (s ++ S)) (t + k) D) t c = T ++ (c ++ (D ++ S)) := by
  have hL : (T ++ D ++ (s ++ S)).length = t + D.length + (k + S.length) := by simp only [List.length_append]; omega
  have e1 : (T ++ D ++ (s ++ S)).drop (t + k + D.length) = S := by
    rw [show T ++ D ++ (s ++ S) = (T ++ D ++ s) ++ S by simp, List.drop_left' (by simp only [List.length_append]; omega)]
  have e2 : (T ++ D ++ (s ++ S)).take t = T := by rw [List.append_assoc, List.take_left' hT]
  have hY : ((T ++ D ++ (s ++ S)).take (t + k)).length = t + k := by rw [List.length_take]; omega
  have e3 : ((T ++ D ++ (s ++ S)).take (t + k)).take t = T := by rw [List.take_take, Nat.min_eq_left (by omega), e2]
  unfold splice
  rw [e1, List.take_append_of_le_length (by omega), e3, hc, List.drop_left' hY]
theorem grown_drew (w : World) (row : Option Nat) : w.grownBy w.drew row := ⟨rfl, rfl, rfl, Nat.le_refl _, fun _ _ _ => rfl⟩
theorem splice_two {β : Type} (T Z c D : List β) (k t : Nat) (hT : T.length = t) (hc : c.length = k) : splice (splice (T ++ Z) t c) (t + k) D = T ++ (c ++ (D ++ Z.drop (k + D.length))) := by
  have e1 : splice (T ++ Z) t c = (T ++ c) ++ Z.drop k := by
    unfold splice
    rw [List.take_left' hT, hc, ← hT, List.drop_append, List.drop_of_length_le (by omega), show T.length + k - T.length = k by omega]
    simp
  have h2 : (T ++ c).length = t + k := by simp only [List.length_append]; omega
  rw [e1]
  unfold splice
  rw [List.take_left' h2, ← h2, List.drop_append, List.drop_of_length_le (by omega), show (T ++ c).length + D.length - (T ++ c).length = D.length by omega, List.drop_drop]
  simp

end Go.Proofs.Ytemglmcddaeedaa.PA

namespace Go.Proofs.Ytemglmcddaeedaa.PA
open Go.RowKit Go.Proofs.YtemglmcddaeedaaW.PrintWords Go.Proofs.YtemglmcddaeedaaW.PrintLast Go.Proofs.YtemglmcddaeedaaW.PrintMore
attribute [local go_sem] max2_int min2_int max_two min_two max_three min_three max_four min_four   -- for this text's walks alone
set_option linter.unusedVariables false
set_option linter.unusedSimpArgs false

/-! ### page_insert: function 0 -/
def cv (c : S45) : List Value := [.int .i64 c.f0, .string c.f1]
theorem cv_len (x : S45) : (cv x).length = 2 := rfl
theorem cv_one (x : S45) : ∀ v ∈ cv x, v.oneCell' = true := by
  intro v hv
  simp only [cv, List.mem_cons, List.not_mem_nil, or_false] at hv
  rcases hv with rfl | rfl <;> rfl
/-- s[a:b] of a row at any place, elements of two cells, in the spelling of the walk. -/
theorem ins_copy (w : World) (ty : TypeId) (g o dLen dCap o2 g2 sLen sCap : Nat) (cur : Array Value) (cs : List Value) (hg : w.heap[g]? = some (.cells cur 45 (0, 0))) (hn : cs.length = Nat.min sLen dLen * 2)
    (hsrc : ∀ j v, cs[j]? = some v → w.cell? ⟨g2, o2 + j, none⟩ = some v) (hfit : o + cs.length ≤ cur.size) (h1 : ∀ v ∈ cs, v.oneCell' = true) :
    (Builtin.copy_ #[22, 22] ty #[.slice (some ⟨g, o, none⟩) dLen dCap, .slice (some ⟨g2, o2, none⟩) sLen sCap]).run Try.prog w =
      .ok (goInt (Nat.min sLen dLen)) (w.setRow g (splice cur.toList o cs).toArray) :=
  run_copy_rowK w _ _ ty 45 g o dLen dCap ⟨g2, o2, none⟩ sLen sCap 2 cur 45 cs Try.underlying22 (by kernel_rfl) hg hn (fun j v hj => by rw [Addr.add_lit]; exact hsrc j v hj) hfit h1
set_option maxHeartbeats 4000000 in
set_option maxRecDepth 100000 in
theorem insert_room (l : List S45) (i : Nat) (hi : i < l.length) (x : S45) (w : World) (g cap vb : Nat) (sp : List Value) (hcap : l.length + 1 ≤ cap) (hm : cap ≤ maxLen) (hsp : sp.length = (cap - l.length) * 2)
    (hg : w.heap[g]? = some (.cells (encs_ cv l ++ sp).toArray 45 (0, 0))) (hvb : w.heap[vb]? = some (.cells (cv x).toArray 45 (0, 0))) (hne : vb ≠ g) :
    Calls Try.prog 72 #[.slice (some ⟨g, 0, none⟩) l.length cap, .int .i64 (i : Int), .slice (some ⟨vb, 0, none⟩) 1 1] w fun e w' =>
      e = .returned (.slice (some ⟨g, 0, none⟩) (l.length + 1) cap) ∧ w'.heap[g]? = some (.cells (encs_ cv (l.take i ++ x :: l.drop i) ++ sp.drop 2).toArray 45 (0, 0)) ∧ w.grownBy w' (some g) := by
  have hov : ∀ (W : World) n m c, W.heap[g]? = some (.cells (encs_ cv l ++ sp).toArray 45 (0, 0)) → W.heap[vb]? = some (.cells (cv x).toArray 45 (0, 0)) → (callFunc 112 #[.slice (some ⟨vb, 0, none⟩) 1 1, .slice (some ⟨g, n, none⟩) m c]).run Try.prog W = .ok (.value (.bool false)) W := by
    intro W n m c h1 h2
    rw [run_callFunc_extern Try.func112 (by kernel_rfl) (by kernel_rfl) (by kernel_rfl) (e := Extern.SlicesOverlaps.overlaps #[22, 22] #[4]) (by kernel_rfl),
      Lib.run_overlaps_apart W 22 4 45 Try.underlying22 2 (fun W => by kernel_rfl) ⟨vb, 0, none⟩ ⟨g, n, none⟩ 1 1 m c hne 45 45 2 ((encs_ cv l ++ sp).length) (by simp [World.shape?, h2, cv]) (by simp [World.shape?, h1]) (by rw [List.length_append, encs_len cv_len]; omega) (blk_frozen h2 0) (blk_frozen h2 2)]
    rfl
  obtain ⟨n, hn⟩ : ∃ n, l.length = n := ⟨_, rfl⟩
  unfold maxLen at hm
  have hcl : (encs_ cv (l.drop i)).length = (n - i) * 2 := by rw [encs_len cv_len, List.length_drop, hn]
  have hcs := encs_drop (enc := cv) cv_len l i (by omega)
  have hct := encs_take (enc := cv) cv_len l i (by omega)
  have hll : (encs_ cv l).length = n * 2 := by rw [encs_len cv_len, hn]
  rw [hn] at hcap hi hsp ⊢
  obtain ⟨R1, hR1⟩ : ∃ R1 : List Value, splice (encs_ cv l ++ sp) ((i + 1) * 2) (encs_ cv (l.drop i)) = R1 := ⟨_, rfl⟩
  obtain ⟨W1, hW1⟩ : ∃ W1, w.drew.setRow g R1.toArray = W1 := ⟨_, rfl⟩
  have hG1 : W1.heap[g]? = some (.cells R1.toArray 45 (0, 0)) := by rw [← hW1]; exact setRow_heap w.drew g _ _ _ _ (blk_drew hg)
  have hV1 : W1.heap[vb]? = some (.cells (cv x).toArray 45 (0, 0)) := by rw [← hW1, setRow_other w.drew g vb _ hne]; exact hvb
  have hRl : R1.length = cap * 2 := by
    rw [← hR1]
    simp only [splice, List.length_append, List.length_take, List.length_drop, hcl, hll, hsp]
    omega
  have hcp1 : ∀ ty dc sc, (Builtin.copy_ #[22, 22] ty #[.slice (some ⟨g, (i + 1) * 2, none⟩) (n - i) dc, .slice (some ⟨g, i * 2, none⟩) (n + 1 - i) sc]).run Try.prog w.drew = .ok (goInt (Nat.min (n + 1 - i) (n - i))) W1 := fun ty dc sc => by
    rw [← hW1, ← hR1]
    exact ins_copy w.drew ty g _ _ dc (i * 2) g _ sc _ (encs_ cv (l.drop i)) (blk_drew hg) (by rw [hcl]; congr 1; simp only [Nat.min_def]; split <;> omega)
      (fun j v hj => by
        rw [blk_cell (blk_drew hg)]
        rw [← hcs, List.getElem?_drop] at hj
        simp only [List.getElem?_toArray]
        rw [List.getElem?_append_left (List.getElem?_eq_some_iff.1 hj).1]
        exact hj) (by simp only [List.size_toArray, List.length_append, hcl, hll, hsp]; omega) (encs_oneCell cv_one _)
  obtain ⟨R2, hR2⟩ : ∃ R2 : List Value, splice R1 (i * 2) (cv x) = R2 := ⟨_, rfl⟩
  have hcp2 : ∀ ty dc, (Builtin.copy_ #[22, 22] ty #[.slice (some ⟨g, i * 2, none⟩) (n + 1 - i) dc, .slice (some ⟨vb, 0, none⟩) 1 1]).run Try.prog W1 = .ok (goInt (Nat.min 1 (n + 1 - i))) (W1.setRow g R2.toArray) := fun ty dc => by
    rw [← hR2]
    exact ins_copy W1 ty g _ _ dc 0 vb _ 1 _ (cv x) hG1 (by rw [cv_len]; simp only [Nat.min_def]; split <;> omega)
      (fun j v hj => by
        rw [blk_cell hV1]
        simpa using hj) (by simp only [List.size_toArray, hRl, cv_len]; omega) (cv_one _)
  have hfin : R2 = encs_ cv (l.take i ++ x :: l.drop i) ++ sp.drop 2 := by
    rw [← hR2, ← hR1, encs_app, encs_cons, ← hct, ← hcs]
    have h2 : (sp.take 2).length = 2 := by rw [List.length_take]; omega
    have hT : ((encs_ cv l).take (i * 2)).length = i * 2 := by rw [List.length_take]; omega
    have e := splice_ins ((encs_ cv l).take (i * 2)) ((encs_ cv l).drop (i * 2)) (sp.take 2) (sp.drop 2) (cv x) 2 (i * 2) hT h2 (cv_len x)
    rw [List.take_append_drop, List.take_append_drop, show i * 2 + 2 = (i + 1) * 2 by omega] at e
    rw [e]
    simp
  have hz1 : ¬ ((1 : Int) = 0) := by omega
  have hz2 : ¬ ((i : Int) = (n : Int)) := by omega
  have hin : i ≤ n := by omega
  have hw1 : IntKind.i64.wrap ((i : Int) + 1) = (i : Int) + 1 := by rw [IntKind.wrap_i64]; omega
  have hb1 : (0 : Int) ≤ (i : Int) + 1 := by omega
  have htn : ((i : Int) + 1).toNat = i + 1 := by omega
  have hb2 : ¬ (cap = i + 1) := by omega
  have hb3 : (i : Int) ≤ (n : Int) + 1 := by omega
  have hb4 : ¬ (cap = i) := by omega
  have HG := Aside0.mk hg
  have HV := Aside0.mk hvb
  have HN := Aside0.mk hn
  have HX := Aside0.mk (And.intro hW1 (And.intro hG1 hfin))
  clear hg hvb hn hcl hcs hct hll hsp hW1 hG1 hV1 hRl hfin hR1 hR2
  go_enter Try.func72, Try.ntmps72
  go_wp2_with (simp only [hov _ _ _ _ HG.out HV.out])
  go_region_law (refine step_copy_runE rfl _ _ 22 22 rfl _ _ (by simp [Act.eval, Act.put]) (by simp [Act.eval, Act.put]) (hcp1 _ _ _) ?_)
  go_wp2_with (at_builtin; refine wpList_copy_runE _ rfl _ _ 22 22 rfl _ _ rfl rfl (hcp2 _ _) ?_)
  go_ret
  refine ⟨rfl, ?_, ?_⟩
  · rw [← HX.out.2.2]; exact setRow_heap W1 g _ _ _ _ HX.out.2.1
  · rw [← HX.out.1]; exact (grown_drew w _).trans ((grown_setRow _ _ _).trans (grown_setRow _ _ _))
set_option maxHeartbeats 4000000 in
set_option maxRecDepth 100000 in
theorem insert_grow (l : List S45) (i : Nat) (hi : i < l.length) (x : S45) (w : World) (g cap vb : Nat) (sp : List Value) (hcap : l.length ≤ cap) (hcap2 : cap < l.length + 1) (hm : cap ≤ 1000000) (hsp : sp.length = (cap - l.length) * 2)
    (hg : w.heap[g]? = some (.cells (encs_ cv l ++ sp).toArray 45 (0, 0))) (hvb : w.heap[vb]? = some (.cells (cv x).toArray 45 (0, 0))) :
    Calls Try.prog 72 #[.slice (some ⟨g, 0, none⟩) l.length cap, .int .i64 (i : Int), .slice (some ⟨vb, 0, none⟩) 1 1] w fun e w' =>
      ∃ G SP, e = .returned (.slice (some ⟨w.heap.size, 0, none⟩) (l.length + 1) G) ∧ l.length + 1 ≤ G ∧ G ≤ maxLen ∧ SP.length = (G - (l.length + 1)) * 2 ∧ w'.heap[w.heap.size]? = some (.cells (encs_ cv (l.take i ++ x :: l.drop i) ++ SP).toArray 45 (0, 0)) ∧ Below w.heap.size w w' := by
  obtain ⟨n, hn⟩ : ∃ n, l.length = n := ⟨_, rfl⟩
  have hcl : (encs_ cv (l.drop i)).length = (n - i) * 2 := by rw [encs_len cv_len, List.length_drop, hn]
  have hcs := encs_drop (enc := cv) cv_len l i (by omega)
  have hct := encs_take (enc := cv) cv_len l i (by omega)
  have hll : (encs_ cv l).length = n * 2 := by rw [encs_len cv_len, hn]
  rw [hn] at hcap hcap2 hi hsp ⊢
  obtain ⟨i0, hi0, hz0, hzs, hzb⟩ := info_parts (show (Try.prog.info? 45).map (fun i => (i.zero, i.size, i.bytes)) = some (some (.agg #[.int .i64 0, .string ⟨#[]⟩]), 2, 24) by kernel_rfl)
  have hkk : (n : Int) + 1 - (i : Int) = ((n + 1 - i : Nat) : Int) := by omega
  have hik : i + (n + 1 - i) = n + 1 := by omega
  have hold : (Builtin.firstCells i0.size i (.slice (some ⟨g, 0, none⟩) i cap)).run Try.prog w.drew = .ok (encs_ cv (l.take i)).toArray w.drew := by
    rw [hzs]
    exact run_firstCells_some w.drew 2 i ⟨g, 0, none⟩ i cap (encs_ cv (l.take i)) (by rw [encs_len cv_len, List.length_take]; omega) (fun j v hj => by
      rw [add_plain, blk_cell (blk_drew hg)]
      rw [← hct, List.getElem?_take] at hj
      split at hj
      · simp only [List.getElem?_toArray]
        rw [List.getElem?_append_left (List.getElem?_eq_some_iff.1 hj).1]
        exact hj
      · cases hj)
  obtain ⟨G, hG⟩ : ∃ G, G = grownCap w (n + 1) cap 45 := ⟨_, rfl⟩
  obtain ⟨ROW, hROW⟩ : ∃ ROW : Array Value, ROW = (encs_ cv (l.take i)).toArray ++ Builtin.zeroCells (Value.agg #[.int .i64 0, .string ⟨#[]⟩]).cells (n + 1 - i) ++ Builtin.zeroCells (Value.agg #[.int .i64 0, .string ⟨#[]⟩]).cells (G - (n + 1)) := ⟨_, rfl⟩
  have hrz : ∀ ty, (Builtin.append_ #[22, 3] ty #[.slice (some ⟨g, 0, none⟩) i cap, .int .i64 ((n : Int) + 1 - (i : Int))]).run Try.prog w =
      .ok (.slice (some ⟨w.heap.size, 0, none⟩) (n + 1) G) (w.drew.alloc (.cells ROW 45)) := fun ty => by
    have h := Lib.run_append_grow_zeros w 22 3 ty 45 i0 _ .i64 .i64 Try.underlying22 Try.underlying3 hi0 hz0 (some ⟨g, 0, none⟩) i cap _ hold (n + 1 - i) (by omega) (by omega) (by omega) (by omega) (by rw [hzb]; omega) (by rw [hzb, hik]; exact growslice_fits (by omega) (by omega))
    rw [hik] at h
    rw [hkk, hROW, hG]
    exact h
  have hGn : n + 1 ≤ G := by rw [hG]; exact grownCap_ge w _ _ _
  have hGm : G ≤ maxLen := by rw [hG]; exact grownCap_le_maxLen w (n + 1) cap 45 (by unfold maxLen; omega)
  have hdl : (encs_ cv (l.drop i)).length = (n - i) * 2 := hcl
  have hb1 := blk_lt hg
  have hv1 := blk_lt hvb
  obtain ⟨Z, hZ, hZl⟩ : ∃ Z, ROW.toList = encs_ cv (l.take i) ++ Z ∧ Z.length = (G - i) * 2 := by
    refine ⟨(Builtin.zeroCells (Value.agg #[.int .i64 0, .string ⟨#[]⟩]).cells (n + 1 - i) ++ Builtin.zeroCells (Value.agg #[.int .i64 0, .string ⟨#[]⟩]).cells (G - (n + 1))).toList, by rw [hROW]; simp, ?_⟩
    simp [Builtin.zeroCells, Value.cells]
    omega
  have hROW2 : ROW = (encs_ cv (l.take i) ++ Z).toArray := by rw [← hZ]
  have hTl : (encs_ cv (l.take i)).length = i * 2 := by rw [encs_len cv_len, List.length_take]; omega
  obtain ⟨b, hb⟩ : ∃ b, w.heap.size = b := ⟨_, rfl⟩
  simp only [hb]
  obtain ⟨Wa, hWa⟩ : ∃ Wa, (w.alloc (.cells ROW 45)).drew = Wa := ⟨_, rfl⟩
  have hrz' : ∀ ty, (Builtin.append_ #[22, 3] ty #[.slice (some ⟨g, 0, none⟩) i cap, .int .i64 ((n : Int) + 1 - (i : Int))]).run Try.prog w = .ok (.slice (some ⟨b, 0, none⟩) (n + 1) G) Wa := fun ty => by
    rw [hrz ty, ← hWa, ← hb]; rfl
  have hBa : Below b w Wa := by rw [← hWa, ← hb]; exact (below_alloc (Below.refl _ w) _).drew
  have hGb : Wa.heap[b]? = some (.cells (encs_ cv (l.take i) ++ Z).toArray 45 (0, 0)) := by rw [← hWa, ← hb, ← hROW2]; exact blk_drew (blk_new w _)
  have hGg : Wa.heap[g]? = some (.cells (encs_ cv l ++ sp).toArray 45 (0, 0)) := (hBa.block g (by omega)).trans hg
  have hGv : Wa.heap[vb]? = some (.cells (cv x).toArray 45 (0, 0)) := (hBa.block vb (by omega)).trans hvb
  obtain ⟨R1, hR1⟩ : ∃ R1 : List Value, splice (encs_ cv (l.take i) ++ Z) (i * 2) (cv x) = R1 := ⟨_, rfl⟩
  obtain ⟨Wb, hWb⟩ : ∃ Wb, Wa.setRow b R1.toArray = Wb := ⟨_, rfl⟩
  have hRl : R1.length = G * 2 := by
    rw [← hR1]
    simp only [splice, List.length_append, List.length_take, List.length_drop, cv_len, hTl, hZl]
    omega
  have hcpA : ∀ ty dc, (Builtin.copy_ #[22, 22] ty #[.slice (some ⟨b, i * 2, none⟩) (n + 1 - i) dc, .slice (some ⟨vb, 0, none⟩) 1 1]).run Try.prog Wa = .ok (goInt (Nat.min 1 (n + 1 - i))) Wb := fun ty dc => by
    rw [← hWb, ← hR1]
    exact ins_copy Wa ty b _ _ dc 0 vb _ 1 _ (cv x) hGb (by rw [cv_len]; simp only [Nat.min_def]; split <;> omega)
      (fun j v hj => by
        rw [blk_cell hGv]
        simpa using hj) (by simp only [List.size_toArray, List.length_append, hTl, hZl, cv_len]; omega) (cv_one _)
  have hGb2 : Wb.heap[b]? = some (.cells R1.toArray 45 (0, 0)) := by rw [← hWb]; exact setRow_heap Wa b _ _ _ _ hGb
  have hGg2 : Wb.heap[g]? = some (.cells (encs_ cv l ++ sp).toArray 45 (0, 0)) := by rw [← hWb, setRow_other Wa b g _ (by omega)]; exact hGg
  obtain ⟨R2, hR2⟩ : ∃ R2 : List Value, splice R1 ((i + 1) * 2) (encs_ cv (l.drop i)) = R2 := ⟨_, rfl⟩
  have hcpB : ∀ ty dc sc, (Builtin.copy_ #[22, 22] ty #[.slice (some ⟨b, (i + 1) * 2, none⟩) (n - i) dc, .slice (some ⟨g, i * 2, none⟩) (n - i) sc]).run Try.prog Wb.drew = .ok (goInt (Nat.min (n - i) (n - i))) (Wb.drew.setRow b R2.toArray) := fun ty dc sc => by
    rw [← hR2]
    exact ins_copy Wb.drew ty b _ _ dc (i * 2) g _ sc _ (encs_ cv (l.drop i)) (blk_drew hGb2) (by rw [hdl]; congr 1; simp only [Nat.min_def]; split <;> omega)
      (fun j v hj => by
        rw [blk_cell (blk_drew hGg2)]
        rw [← hcs, List.getElem?_drop] at hj
        simp only [List.getElem?_toArray]
        rw [List.getElem?_append_left (List.getElem?_eq_some_iff.1 hj).1]
        exact hj) (by simp only [List.size_toArray, hRl, hdl]; omega) (encs_oneCell cv_one _)
  have hfin : ∃ SP : List Value, SP.length = (G - (n + 1)) * 2 ∧ R2 = encs_ cv (l.take i ++ x :: l.drop i) ++ SP := by
    have e := splice_two (encs_ cv (l.take i)) Z (cv x) (encs_ cv (l.drop i)) 2 (i * 2) hTl (cv_len x)
    rw [hR1, show i * 2 + 2 = (i + 1) * 2 by omega, hR2] at e
    refine ⟨_, ?_, e.trans (by rw [encs_app, encs_cons]; simp; rfl)⟩
    rw [List.length_drop, hZl, hdl]
    omega
  have hBb : Below b w (Wb.drew.setRow b R2.toArray) := by
    refine (hBa.grown (w' := Wb) (row := some b) ?_ (by rw [← hWa, ← hb]; simp) (by intro k hk; cases hk; omega)).grown (row := some b) ((grown_drew Wb _).trans (grown_setRow _ _ _)) ?_ (by intro k hk; cases hk; omega)
    · rw [← hWb]; exact grown_setRow _ _ _
    · rw [← hWb, ← hWa, ← hb]; simp [World.setRow]
  have hz1 : ¬ ((1 : Int) = 0) := by omega
  have hz2 : ¬ ((i : Int) = (n : Int)) := by omega
  have hz3 : (cap : Int) < (n : Int) + 1 := by omega
  have hin : i ≤ n := by omega
  have hw1 : IntKind.i64.wrap ((i : Int) + 1) = (i : Int) + 1 := by rw [IntKind.wrap_i64]; omega
  have hb2 : (0 : Int) ≤ (i : Int) + 1 := by omega
  have htn : ((i : Int) + 1).toNat = i + 1 := by omega
  have hb3 : (i : Int) ≤ (n : Int) := by omega
  have hGi : ¬ (G = i) := by omega
  have hGim : ¬ (G = i + 1) := by omega
  have hci : ¬ (cap = i) := by omega
  have hG63 : G ≤ 9223372036854775807 := by unfold maxLen at hGm; omega
  have HN := Aside0.mk hn
  have HX := Aside0.mk (And.intro hGb2 (And.intro hfin hBb))
  have HM := Aside0.mk (And.intro hGn hGm)
  clear hg hvb hn hcl hcs hct hll hsp hkk hik hold hG hROW hrz hdl hZ hZl hROW2 hTl hWa hGb hGg hGv hR1 hWb hRl hGb2 hGg2 hR2 hfin hBa hBb hi0 hz0 hzs hzb hGm
  go_enter Try.func72, Try.ntmps72
  go_wp2_with (first
    | (at_builtin; refine wpList_append_runE _ rfl _ _ _ _ rfl _ _ rfl rfl (hrz' _) ?_)
    | (at_builtin; refine wpList_copy_runE _ rfl _ _ 22 22 rfl _ _ rfl rfl (hcpA _ _) ?_))
  go_region_law (refine step_copy_runE rfl _ _ 22 22 rfl _ _ (by simp [Act.eval, Act.put]) (by simp [Act.eval, Act.put]) (hcpB _ _ _) ?_)
  go_wp2
  go_ret
  obtain ⟨SP, h1, h2⟩ := HX.out.2.1
  refine ⟨G, SP, rfl, HM.out.1, HM.out.2, h1, ?_, HX.out.2.2⟩
  rw [← h2]
  exact setRow_heap Wb.drew b _ _ _ _ (blk_drew HX.out.1)
theorem reps_cv (w : World) (base : Nat) (ok : Nat → Prop) (l : List S45) : Reps (k45.M w base ok) 2 l (encs_ cv l) := by
  refine ⟨encs_len cv_len l, fun j p hj => ?_⟩
  obtain ⟨hlt, he⟩ := List.getElem?_eq_some_iff.1 hj
  have : ((encs_ cv l).drop (j * 2)).take 2 = cv p := by
    rw [encs_drop cv_len l j (by omega), List.drop_eq_getElem_cons hlt, he, encs_cons]
    exact List.take_left' (cv_len p)
  rw [this]
  exact k45_mkM w base ok p
theorem cv_of_reps {w : World} {base : Nat} {ok : Nat → Prop} : ∀ {l : List S45} {cs : List Value}, Reps (k45.M w base ok) 2 l cs → cs = encs_ cv l := by
  intro l
  induction l with
  | nil => intro cs h; exact List.eq_nil_of_length_eq_zero (by simpa using h.1)
  | cons x l ih =>
    intro cs h
    have h0 := k45_openM (h.2 0 x rfl)
    simp only [Nat.zero_mul, List.drop_zero] at h0
    have h1 : Reps (k45.M w base ok) 2 l (cs.drop 2) := by
      refine ⟨by rw [List.length_drop, h.1, List.length_cons]; omega, fun j p hj => ?_⟩
      have := h.2 (j + 1) p (by simpa using hj)
      rw [show (j + 1) * 2 = 2 + j * 2 by omega, ← List.drop_drop] at this
      exact this
    rw [encs_cons, ← ih h1, show cv x = cs.take 2 from h0.symm, List.take_append_drop]
theorem R_of_row {w : World} {base : Nat} {v : Value} {l : List S45} (h : RowK cv 2 45 w base v l) : Kd.R k45 45 w base (fun _ => True) v l :=
  ⟨fun _ _ => trivial, encs_ cv l, h.owns cv_len, reps_cv _ _ _ _⟩
theorem row_of_R {w : World} {base : Nat} {ok : Nat → Prop} {v : Value} {l : List S45} (h : Kd.R k45 45 w base ok v l) : RowK cv 2 45 w base v l := by
  obtain ⟨_, inner, ho, hr⟩ := h
  rw [cv_of_reps hr] at ho
  exact RowK.of_owns cv_len ho
theorem insert_end (l : List S45) (x : S45) (v : Value) (w : World) (base vb : Nat) (hl : l.length ≤ 100000) (hbase : base ≤ w.heap.size) (HO : RowK cv 2 45 w base v l)
    (hvb : w.heap[vb]? = some (.cells (cv x).toArray 45 (0, 0))) (hvb2 : some vb ≠ v.ownBlock) :
    Calls Try.prog 72 #[v, .int .i64 (l.length : Int), .slice (some ⟨vb, 0, none⟩) 1 1] w fun e w' =>
      ∃ v', e = .returned v' ∧ Kd.R k45 45 w' base (fun _ => True) v' (l ++ [x]) ∧ Below base w w' := by
  have HR : ReadsRow (k45.M w base (fun k => some k ≠ v.ownBlock)) 2 w (some ⟨vb, 0, none⟩) 1 [x] := ⟨rfl, by omega, fun _ => ⟨_, rfl, fun j p hj => by
    match j, hj with
    | 0, hj =>
      cases hj
      exact ⟨cv x, rfl, k45_mkM w base _ x, fun i u hu => by rw [Nat.zero_mul, Nat.zero_add, add_plain, blk_cell hvb]; simpa using hu⟩⟩⟩
  have H0 := Aside0.mk (R_of_row HO)
  have HR := Aside0.mk HR
  have HB := Aside0.mk hbase
  obtain ⟨A, c, rfl, hc⟩ : ∃ A c, v = .slice A l.length c ∧ l.length ≤ c := by
    obtain ⟨A, c, e, h, _⟩ := Kd.R_reads H0.out
    exact ⟨A, c, e, h⟩
  have hz1 : ¬ ((1 : Int) = 0) := by omega
  clear HO hvb hvb2 hbase
  obtain ⟨n, hn⟩ : ∃ n, l.length = n := ⟨_, rfl⟩
  have HN := Aside0.mk hn
  rw [hn] at hl hc ⊢
  rw [hn] at HR H0
  clear hn
  have hcn : n ≤ c := hc
  cases A with
  | none =>
    go_enter Try.func72, Try.ntmps72
    go_wp2_with (at_builtin; refine Kd.R_append_rows k45 base rfl (.tmp 23) (.tmp 24) 22 45 (.agg #[.int .i64 0, .string ⟨#[]⟩]) 24 rfl Try.underlying22 (by kernel_rfl) rfl (by decide) (by decide) _ l [x] _ 1 1 (fun _ => True) _ rfl rfl H0.out HR.out (fun _ _ h => h) (fun k h => ⟨trivial, h⟩) (fun _ _ => trivial) (Below.refl _ _) HB.out (by rw [HN.out]; omega) ?_; intro v1 w1 h1 h2 h3 h4)
    go_ret
    exact ⟨v1, rfl, h1, h2⟩
  | some ad =>
    obtain ⟨ab, ao, asp⟩ := ad
    go_enter Try.func72, Try.ntmps72
    go_wp2_with (at_builtin; refine Kd.R_append_rows k45 base rfl (.tmp 23) (.tmp 24) 22 45 (.agg #[.int .i64 0, .string ⟨#[]⟩]) 24 rfl Try.underlying22 (by kernel_rfl) rfl (by decide) (by decide) _ l [x] _ 1 1 (fun _ => True) _ rfl rfl H0.out HR.out (fun _ _ h => h) (fun k h => ⟨trivial, h⟩) (fun _ _ => trivial) (Below.refl _ _) HB.out (by rw [HN.out]; omega) ?_; intro v1 w1 h1 h2 h3 h4)
    all_goals (go_ret; exact ⟨v1, rfl, h1, h2⟩)
/-- slices.Insert of one cell into a row of one's own. -/
theorem insert_calls (l : List S45) (i : Nat) (hi : i ≤ l.length) (x : S45) (v : Value) (w : World) (base vb : Nat) (hl : l.length ≤ 100000) (hbase : base ≤ w.heap.size)
    (HO : Kd.R k45 45 w base (fun _ => True) v l) (hvb : w.heap[vb]? = some (.cells (cv x).toArray 45 (0, 0))) (hvb2 : some vb ≠ v.ownBlock) :
    Calls Try.prog 72 #[v, .int .i64 (i : Int), .slice (some ⟨vb, 0, none⟩) 1 1] w fun e w' =>
      ∃ v', e = .returned v' ∧ Kd.R k45 45 w' base (fun _ => True) v' (l.take i ++ x :: l.drop i) ∧ Below base w w' := by
  by_cases h : i = l.length
  · subst h
    rw [List.take_length, List.drop_length]
    exact insert_end l x v w base vb hl hbase (row_of_R HO) hvb hvb2
  · rcases row_of_R HO with ⟨rfl, rfl⟩ | ⟨g, cap, sp, rfl, hb, hn, hm, hs, hg⟩
    · exact absurd (Nat.le_antisymm hi (Nat.zero_le _)) h
    · have hll : (l.take i ++ x :: l.drop i).length = l.length + 1 := by simp; omega
      by_cases hr : l.length + 1 ≤ cap
      · refine (insert_room l i (by omega) x w g cap vb sp hr hm hs hg hvb (fun e => hvb2 (by rw [e]; rfl))).mono ?_
        rintro e w' ⟨rfl, h1, h2⟩
        refine ⟨_, rfl, R_of_row (.inr ⟨g, cap, sp.drop 2, by rw [hll], hb, by omega, hm, by rw [List.length_drop, hs, hll]; omega, h1⟩), ?_⟩
        exact (Below.refl base w).grown h2 hbase (by intro k hk; cases hk; exact hb)
      · refine (insert_grow l i (by omega) x w g cap vb sp hn (by omega) (by omega) hs hg hvb).mono ?_
        rintro e w' ⟨G, SP, rfl, h1, h2, h3, h4, h5⟩
        refine ⟨_, rfl, R_of_row (.inr ⟨w.heap.size, G, SP, by rw [hll], hbase, by omega, h2, by rw [hll]; exact h3, h4⟩), ?_⟩
        exact ⟨h5.os, h5.tape, h5.output, h5.size, fun k hk => h5.block k (by omega)⟩

end Go.Proofs.Ytemglmcddaeedaa.PA

namespace Go.Proofs.Ytemglmcddaeedaa.PA
open Go.RowKit Go.Proofs.YtemglmcddaeedaaW.PrintWords Go.Proofs.YtemglmcddaeedaaW.PrintLast Go.Proofs.YtemglmcddaeedaaW.PrintMore
attribute [local go_sem] max2_int min2_int max_two min_two max_three min_three max_four min_four   -- for this text's walks alone
set_option linter.unusedVariables false
set_option linter.unusedSimpArgs false

/-! ### page_PutAt: function 35 -/
def putAtS (p : ByteArray) (n : Int) (d : ByteArray) : ByteArray × Int :=
  if d.size = 0 then (⟨#[]⟩, 1) else if validS p then (if 1 ≤ n ∧ n ≤ 200 then (if foundS (cellsP p) n = true then (⟨#[]⟩, 6) else filledS p.size (insS (cellsP p) n d)) else (⟨#[]⟩, 7)) else (⟨#[]⟩, 1)
def page_PutAt.f (a0 : ByteArray) (a1 : Int) (a2 : ByteArray) : Option (ByteArray × Int) := if a0.size ≤ 100000 ∧ a2.size ≤ 100000 then some (putAtS a0 a1 a2) else none
set_option maxHeartbeats 1000000 in
set_option maxRecDepth 100000 in
theorem page_PutAt.calls (a0 : ByteArray) (a1 : Int) (a2 : ByteArray) (r1 : ByteArray) (r2 : Int) (w : World) (h : page_PutAt.f a0 a1 a2 = some (r1, r2)) :
    Calls Try.prog 35 #[.string a0, .int .i64 a1, .string a2] w fun e w' => e = .returned (.tuple #[.string r1, .int .i64 r2]) ∧ Below w.heap.size w w' := by
  unfold page_PutAt.f at h
  split at h
  rotate_left
  · cases h
  rename_i hs
  have HA := Aside0.mk (asked_f a0 a1 hs.1)
  have h := Option.some.inj h
  unfold putAtS at h
  by_cases hd : a2.size = 0
  · rw [if_pos hd] at h
    obtain ⟨rfl, rfl⟩ := Prod.mk.inj h
    have e1 := (toList_nil a2).2 hd
    clear h hd
    go_enter Try.func35, Try.ntmps35
    go_wp2
    go_ret2
    exact ⟨rfl, Below.refl _ _⟩
  rw [if_neg hd] at h
  have e1 : ¬ a2.toList = [] := fun e => hd ((toList_nil a2).1 e)
  have e2 : a2.toList.isEmpty = false := by simpa using e1
  have hd0 : 0 < a2.size := by omega
  by_cases hv : validS a0
  rotate_left
  · rw [if_neg hv] at h
    rw [if_neg hv] at HA
    obtain ⟨rfl, rfl⟩ := Prod.mk.inj h
    clear h hv
    go_enter Try.func35, Try.ntmps35
    go_wp2_with (go_at_call 65; refine (page_asked.calls a0 a1 1 _ HA.out).mono ?_; rintro e w1 ⟨rfl, hb1⟩)
    go_ret2
    exact ⟨rfl, hb1⟩
  rw [if_pos hv] at h
  rw [if_pos hv] at HA
  by_cases hn : 1 ≤ a1 ∧ a1 ≤ 200
  rotate_left
  · rw [if_neg hn] at h
    rw [if_neg hn] at HA
    obtain ⟨rfl, rfl⟩ := Prod.mk.inj h
    clear h hn hv
    go_enter Try.func35, Try.ntmps35
    go_wp2_with (go_at_call 65; refine (page_asked.calls a0 a1 7 _ HA.out).mono ?_; rintro e w1 ⟨rfl, hb1⟩)
    go_ret2
    exact ⟨rfl, hb1⟩
  rw [if_pos hn] at h
  rw [if_pos hn] at HA
  obtain ⟨k1, k2, k3, k4, k5⟩ := cellsP_ok hv
  have HCF := Aside0.mk (cells_f hv)
  obtain ⟨l, hl⟩ : ∃ l, cellsP a0 = l := ⟨_, rfl⟩
  rw [hl] at h HCF k1 k2 k3
  have HK := Aside0.mk (And.intro k1 k2)
  have hll := k2
  clear hl hv
  by_cases hf : foundS l a1 = true
  · rw [if_pos hf] at h
    have HF := Aside0.mk hf
    obtain ⟨rfl, rfl⟩ := Prod.mk.inj h
    obtain ⟨ix, hix⟩ : ∃ ix, idxS l a1 = ix := ⟨_, rfl⟩
    have HIX := Aside0.mk hix
    clear h hf hix k1 k3 hs hd
    go_enter Try.func35, Try.ntmps35
    go_wp2_with (go_at_call 65; refine (page_asked.calls a0 a1 0 _ HA.out).mono ?_; rintro e w1 ⟨rfl, hb1⟩)
    go_wp2_with (go_at_call 49; refine (page_cells.calls a0 l _ HCF.out).mono ?_; rintro e w2 ⟨v, rfl, hR, hb2⟩)
    have HB := Aside0.mk (below_then hb1 hb1.size hb2)
    obtain ⟨A, c, rfl, hc, hC⟩ := Kd.R_reads hR
    have HC := Aside0.mk hC
    clear hR hb1 hb2 hC
    go_wp2_with (go_at_call 66; refine (find_calls l A c a1 _ HK.out.1 (by omega) (by omega) HC.out).mono ?_; rw [HF.out, HIX.out]; rintro e w3 ⟨rfl, hb3⟩)
    go_ret2
    exact ⟨rfl, below_then HB.out HB.out.size hb3⟩
  · have hf0 := Bool.eq_false_iff.2 hf
    rw [hf0, if_neg (by decide)] at h
    have HF := Aside0.mk hf0
    obtain ⟨M, hM⟩ : ∃ M, insS l a1 a2 = M := ⟨_, rfl⟩
    have hMo : CellsOk M := by rw [← hM]; exact insS_ok k1 hn hd0 hf0
    have hMb : bytesL M ≤ 1000000000000 := by rw [← hM]; have hb := insS_bytes l a1 a2; have hs1 := hs; omega
    have HM := Aside0.mk (show page_filled.f (a0.size : Int) M = some (r1, r2) by rw [filled_f (by omega) (by omega) hMo hMb, ← hM]; exact congrArg some h)
    have HMD := Aside0.mk hM
    have HLT := Aside0.mk (fun h => found_lt (l := l) (n := a1) h)
    obtain ⟨ix, hix⟩ : ∃ ix, idxS l a1 = ix := ⟨_, rfl⟩
    have HIX := Aside0.mk hix
    have HIL := Aside0.mk (idxS_le l a1)
    clear h hf hM hMo hMb k1 k3 hix hs hd
    go_enter Try.func35, Try.ntmps35
    go_wp2_with (go_at_call 65; refine (page_asked.calls a0 a1 0 _ HA.out).mono ?_; rintro e w1 ⟨rfl, hb1⟩)
    go_wp2_with (go_at_call 49; refine (page_cells.calls a0 l _ HCF.out).mono ?_; rintro e w2 ⟨v, rfl, hR, hb2⟩)
    have HB := Aside0.mk (below_then hb1 hb1.size hb2)
    have HR := Aside0.mk hR
    obtain ⟨A, c, rfl, hc, hC⟩ := Kd.R_reads hR
    have HC := Aside0.mk hC
    clear hR hC
    go_wp2_with fail
    refine (find_calls l A c a1 _ HK.out.1 (by omega) (by omega) HC.out).mono ?_
    rw [HF.out, HIX.out]
    rintro e w3 ⟨rfl, hb3⟩
    have HR3 := Aside0.mk (Kd.R_below (Kd.R_lower HR.out (base' := w.heap.size) (by have := hb1.size; omega)) hb3)
    have HB3 := Aside0.mk (below_then HB.out HB.out.size hb3)
    have HL3 := Aside0.mk (fun k hk => own_lt (Kd.R_own HR3.out).choose_spec k hk)
    clear hb1 hb2 hb3
    have HDM := Aside0.mk (show l.take ix ++ (⟨a1, a2⟩ : S45) :: l.drop ix = M by rw [← HIX.out]; exact HMD.out)
    have hix2 : ix ≤ l.length := by rw [← HIX.out]; exact HIL.out
    go_wp2_with fail
    refine (insert_calls l ix hix2 ⟨a1, a2⟩ _ _ w.heap.size w3.heap.size (by omega) (by have := HB3.out.size; simp; omega) (Kd.R_below HR3.out (below_alloc (Below.refl _ w3) _)) (blk_new w3 _) (fun e => Nat.lt_irrefl _ (HL3.out _ e.symm))).mono ?_
    rintro e w4 ⟨v4, rfl, hR4, hB4⟩
    rw [HDM.out] at hR4
    obtain ⟨A9, c9, rfl, hc9, hC9⟩ := Kd.R_reads hR4
    have HC9 := Aside0.mk hC9
    have HB4 := Aside0.mk ((below_alloc HB3.out (.cells (cv ⟨a1, a2⟩).toArray 45)).trans hB4)
    clear hR4 hB4 hC9 HR3
    go_wp2_with fail
    refine (page_filled.calls (a0.size : Int) A9 c9 M r1 r2 _ HC9.out hc9 HM.out).mono ?_
    rintro e w9 ⟨rfl, hb9⟩
    go_wp2
    go_ret2
    exact ⟨rfl, below_then HB4.out HB4.out.size hb9⟩

end Go.Proofs.Ytemglmcddaeedaa.PA

namespace Go.Proofs.Ytemglmcddaeedaa.PA
open Go.RowKit Go.Proofs.YtemglmcddaeedaaW.PrintWords Go.Proofs.YtemglmcddaeedaaW.PrintLast Go.Proofs.YtemglmcddaeedaaW.PrintMore
attribute [local go_sem] max2_int min2_int max_two min_two max_three min_three max_four min_four   -- for this text's walks alone
set_option linter.unusedVariables false
set_option linter.unusedSimpArgs false

/-! ### page_Put: function 29 -/
def page_Put.j0 : Nat → ByteArray → ByteArray → Bool → Option (ByteArray × Int × Int)
  | 0, _, _, _ => none
  | k + 1, x0, x1, x16 => if x16 = true then (some ((⟨#[]⟩ : ByteArray), 0, 1)) else ((page_Next.f x0).bind fun bt259 => (if bt259.2 = 0 then ((page_PutAt.f x0 bt259.1 x1).bind fun bt261 => (if bt261.2 = 0 then (some (bt261.1, bt259.1, 0)) else (some ((⟨#[]⟩ : ByteArray), 0, bt261.2)))) else (some ((⟨#[]⟩ : ByteArray), 0, bt259.2))))
def page_Put.f (k : Nat) (a0 : ByteArray) (a1 : ByteArray) : Option (ByteArray × Int × Int) := (page_Valid.f a0).bind fun t258 => (if t258 = true then (page_Put.j0 k a0 a1 (a1.toList == ([] : List UInt8))) else (page_Put.j0 k a0 a1 true))
theorem page_Put.mono_l : ∀ k, (∀ y0 y1 y2, LeO (page_Put.j0 k y0 y1 y2) (page_Put.j0 (k + 1) y0 y1 y2))
  | 0 => fun _ _ _ r h => by simp [page_Put.j0] at h
  | k + 1 => by
    have ih0 := page_Put.mono_l k
    · intro y0 y1 y2
      unfold page_Put.j0
      repeat' first
      | (with_reducible exact ih0 _ _ _)
      | (with_reducible exact LeO.refl _)
      | (with_reducible exact LeO.none _)
      | (with_reducible refine LeO.ite ?_ ?_)
      | (with_reducible refine LeO.bind ?_ (fun _ => ?_))
      | exact ih0 _ _ _
      | exact LeO.none _
      | refine LeO.ite ?_ ?_
      | refine LeO.bind ?_ (fun _ => ?_)
theorem page_Put.mono : ∀ a0 a1 k, LeO (page_Put.f k a0 a1) (page_Put.f (k + 1) a0 a1) := by
  intro a0 a1 k
  have ih0 := page_Put.mono_l k
  unfold page_Put.f
  repeat' first
      | (with_reducible exact ih0 _ _ _)
      | (with_reducible exact LeO.refl _)
      | (with_reducible exact LeO.none _)
      | (with_reducible refine LeO.ite ?_ ?_)
      | (with_reducible refine LeO.bind ?_ (fun _ => ?_))
      | exact ih0 _ _ _
      | exact LeO.none _
      | refine LeO.ite ?_ ?_
      | refine LeO.bind ?_ (fun _ => ?_)
set_option maxHeartbeats 8000000 in
set_option maxRecDepth 100000 in
theorem page_Put.calls (k : Nat) (a0 : ByteArray) (a1 : ByteArray) (r1 : ByteArray) (r2 : Int) (r3 : Int) (w : World) (h : page_Put.f k a0 a1 = some (r1, r2, r3)) :
    Calls Try.prog 29 #[.string a0, .string a1] w fun e w' => e = .returned (.tuple #[.string r1, .int .i64 r2, .int .i64 r3]) ∧ Below w.heap.size w w' := by
  have HB := Aside0.mk (Below.refl w.heap.size w)
  have H : ((page_Valid.f a0).bind fun t258 => (if t258 = true then (page_Put.j0 k a0 a1 (a1.toList == ([] : List UInt8))) else (page_Put.j0 k a0 a1 true))) = some (r1, r2, r3) := h
  clear h
  have HC3 := Aside0.mk H
  clear H
  go_enter Try.func29, Try.ntmps29
  go_upto_region 1 with (fail)
  go_cut [16] (fun v16 wc => ∃ (kq : Nat) (x16_2 : Bool), v16 = .bool x16_2 ∧ Aside0 (page_Put.j0 kq a0 a1 x16_2 = some (r1, r2, r3)) ∧ Aside0 (kq ≤ k) ∧ Aside0 (Below w.heap.size w wc))
  case first =>
    have H := HC3.out
    clear HC3
    replace H := Option.bind_eq_some_iff.mp H
    obtain ⟨t258, A40, H⟩ := H
    replace H : (if t258 = true then (page_Put.j0 k a0 a1 (a1.toList == ([] : List UInt8))) else (page_Put.j0 k a0 a1 true)) = some (r1, r2, r3) := H
    have A4 := Aside0.mk A40
    clear A40
    by_cases c5 : t258 = true
    · subst c5
      have H1 : (page_Put.j0 k a0 a1 (a1.toList == ([] : List UInt8))) = some (r1, r2, r3) := by rw [if_pos rfl] at H; exact H
      clear H
      have H := H1
      clear H1
      have H' := Aside0.mk H
      clear H
      go_wp2_with (first | ((with_reducible refine gate_callee (f := 21) rfl ?_); refine goesL_ (some 11) rfl rfl Try.func21 (by kernel_rfl) rfl #[.string a0] rfl (by (try simp only [List.map_toArray, List.map_cons, List.map_nil]); first | done | rfl | (simp only [List.length_drop, List.length_take]; rfl)) ?_; (with_reducible refine (page_Valid.calls a0 true _ A4.out).mono ?_); rintro e w6 ⟨rfl, hb⟩; refine ⟨_, rfl, ?_⟩; have n0_ := Aside0.mk (below_step (by repeat (first | (with_reducible first | exact HB.out | apply below_alloc | apply pw_below_drewN | apply below_drew1) | exact HB.out)) hb); clear HB; have HB := n0_; clear n0_; (try clear hb); (try clear hb2); (try clear hk); (try clear hi)))
      go_meet
      case rel => exact ⟨_, ((a1.toList == ([] : List UInt8))), (by first | rfl | (simp; done) | (simp [*]; done)), H', ⟨by first | omega | exact Nat.le_refl _⟩, ⟨by repeat (first | (with_reducible first | exact HB.out | apply below_alloc | apply pw_below_drewN | apply below_drew1) | exact HB.out)⟩⟩
    · replace c5 := Bool.eq_false_iff.mpr c5
      subst c5
      have H1 : (page_Put.j0 k a0 a1 true) = some (r1, r2, r3) := by rw [if_neg (show ¬ (false = true) by decide)] at H; exact H
      clear H
      have H := H1
      clear H1
      have H' := Aside0.mk H
      clear H
      go_wp2_with (first | ((with_reducible refine gate_callee (f := 21) rfl ?_); refine goesL_ (some 11) rfl rfl Try.func21 (by kernel_rfl) rfl #[.string a0] rfl (by (try simp only [List.map_toArray, List.map_cons, List.map_nil]); first | done | rfl | (simp only [List.length_drop, List.length_take]; rfl)) ?_; (with_reducible refine (page_Valid.calls a0 false _ A4.out).mono ?_); rintro e w7 ⟨rfl, hb⟩; refine ⟨_, rfl, ?_⟩; have n0_ := Aside0.mk (below_step (by repeat (first | (with_reducible first | exact HB.out | apply below_alloc | apply pw_below_drewN | apply below_drew1) | exact HB.out)) hb); clear HB; have HB := n0_; clear n0_; (try clear hb); (try clear hb2); (try clear hk); (try clear hi)))
      go_meet
      case rel => exact ⟨_, (true), (by first | rfl | (simp; done) | (simp [*]; done)), H', ⟨by first | omega | exact Nat.le_refl _⟩, ⟨by repeat (first | (with_reducible first | exact HB.out | apply below_alloc | apply pw_below_drewN | apply below_drew1) | exact HB.out)⟩⟩
  case rest =>
    clear HC3
    try clear c2
    try clear p2
    try clear c5
    obtain ⟨kq, x16_2, rfl, HA, HJ2, HB⟩ := hcut
    cases kq with
    | zero => exact absurd HA.out (by simp [page_Put.j0])
    | succ kj2 =>
      have H := HA.out
      clear HA
      simp only [page_Put.j0] at H
      by_cases c8 : x16_2 = true
      · subst c8
        have H1 : (some ((⟨#[]⟩ : ByteArray), 0, 1)) = some (r1, r2, r3) := by rw [if_pos rfl] at H; exact H
        clear H
        have H := H1
        clear H1
        simp only [Option.some.injEq, Prod.mk.injEq] at H
        obtain ⟨rfl, rfl, rfl⟩ := H
        go_wp2
        go_ret3
        exact ⟨by first | rfl | (simp [errW_none, errW_some] <;> rfl) | (simp [*, errW_none, errW_some] <;> rfl), by repeat (first | (with_reducible first | exact HB.out | apply below_alloc | apply pw_below_drewN | apply below_drew1) | exact HB.out)⟩
      · replace c8 := Bool.eq_false_iff.mpr c8
        subst c8
        have H1 : ((page_Next.f a0).bind fun bt259 => (if bt259.2 = 0 then ((page_PutAt.f a0 bt259.1 a1).bind fun bt261 => (if bt261.2 = 0 then (some (bt261.1, bt259.1, 0)) else (some ((⟨#[]⟩ : ByteArray), 0, bt261.2)))) else (some ((⟨#[]⟩ : ByteArray), 0, bt259.2)))) = some (r1, r2, r3) := by rw [if_neg (show ¬ (false = true) by decide)] at H; exact H
        clear H
        have H := H1
        clear H1
        replace H := Option.bind_eq_some_iff.mp H
        obtain ⟨⟨t259, t260⟩, A90, H⟩ := H
        replace H : (if t260 = 0 then ((page_PutAt.f a0 t259 a1).bind fun bt261 => (if bt261.2 = 0 then (some (bt261.1, t259, 0)) else (some ((⟨#[]⟩ : ByteArray), 0, bt261.2)))) else (some ((⟨#[]⟩ : ByteArray), 0, t260))) = some (r1, r2, r3) := H
        have A9 := Aside0.mk A90
        clear A90
        by_cases c10 : t260 = 0
        · rw [if_pos c10] at H
          have c10b0 : (t260 == 0) = true := beq_iff_eq.mpr c10
          have c10b1 : (t260 != 0) = false := bne_eq_false_iff_eq.mpr c10
          clear c10
          replace H := Option.bind_eq_some_iff.mp H
          obtain ⟨⟨t261, t262⟩, A110, H⟩ := H
          replace H : (if t262 = 0 then (some (t261, t259, 0)) else (some ((⟨#[]⟩ : ByteArray), 0, t262))) = some (r1, r2, r3) := H
          have A11 := Aside0.mk A110
          clear A110
          by_cases c12 : t262 = 0
          · rw [if_pos c12] at H
            have c12b0 : (t262 == 0) = true := beq_iff_eq.mpr c12
            have c12b1 : (t262 != 0) = false := bne_eq_false_iff_eq.mpr c12
            clear c12
            simp only [Option.some.injEq, Prod.mk.injEq] at H
            obtain ⟨rfl, rfl, rfl⟩ := H
            go_wp2_with (first | ((with_reducible refine gate_callee (f := 27) rfl ?_); refine goesL_ (some 19) rfl rfl Try.func27 (by kernel_rfl) rfl #[.string a0] rfl (by (try simp only [List.map_toArray, List.map_cons, List.map_nil]); first | done | rfl | (simp only [List.length_drop, List.length_take]; rfl)) ?_; (with_reducible refine (page_Next.calls a0 t259 t260 _ A9.out).mono ?_); rintro e w13 ⟨rfl, hb⟩; refine ⟨_, rfl, ?_⟩; have n0_ := Aside0.mk (below_step (by repeat (first | (with_reducible first | exact HB.out | apply below_alloc | apply pw_below_drewN | apply below_drew1) | exact HB.out)) hb); clear HB; have HB := n0_; clear n0_; (try clear hb); (try clear hb2); (try clear hk); (try clear hi)) | ((with_reducible refine gate_callee (f := 35) rfl ?_); refine goesL_ (some 29) rfl rfl Try.func35 (by kernel_rfl) rfl #[.string a0, .int .i64 t259, .string a1] rfl (by (try simp only [List.map_toArray, List.map_cons, List.map_nil]); first | done | rfl | (simp only [List.length_drop, List.length_take]; rfl)) ?_; (with_reducible refine (page_PutAt.calls a0 t259 a1 t261 t262 _ A11.out).mono ?_); rintro e w14 ⟨rfl, hb⟩; refine ⟨_, rfl, ?_⟩; have n0_ := Aside0.mk (below_step (by repeat (first | (with_reducible first | exact HB.out | apply below_alloc | apply pw_below_drewN | apply below_drew1) | exact HB.out)) hb); clear HB; have HB := n0_; clear n0_; (try clear hb); (try clear hb2); (try clear hk); (try clear hi)))
            go_ret3
            exact ⟨by first | rfl | (simp [errW_none, errW_some] <;> rfl) | (simp [*, errW_none, errW_some] <;> rfl), by repeat (first | (with_reducible first | exact HB.out | apply below_alloc | apply pw_below_drewN | apply below_drew1) | exact HB.out)⟩
          · rw [if_neg c12] at H
            have c12b0 : (t262 == 0) = false := beq_eq_false_iff_ne.mpr c12
            have c12b1 : (t262 != 0) = true := bne_iff_ne.mpr c12
            simp only [Option.some.injEq, Prod.mk.injEq] at H
            obtain ⟨rfl, rfl, rfl⟩ := H
            go_wp2_with (first | ((with_reducible refine gate_callee (f := 27) rfl ?_); refine goesL_ (some 19) rfl rfl Try.func27 (by kernel_rfl) rfl #[.string a0] rfl (by (try simp only [List.map_toArray, List.map_cons, List.map_nil]); first | done | rfl | (simp only [List.length_drop, List.length_take]; rfl)) ?_; (with_reducible refine (page_Next.calls a0 t259 t260 _ A9.out).mono ?_); rintro e w15 ⟨rfl, hb⟩; refine ⟨_, rfl, ?_⟩; have n0_ := Aside0.mk (below_step (by repeat (first | (with_reducible first | exact HB.out | apply below_alloc | apply pw_below_drewN | apply below_drew1) | exact HB.out)) hb); clear HB; have HB := n0_; clear n0_; (try clear hb); (try clear hb2); (try clear hk); (try clear hi)) | ((with_reducible refine gate_callee (f := 35) rfl ?_); refine goesL_ (some 29) rfl rfl Try.func35 (by kernel_rfl) rfl #[.string a0, .int .i64 t259, .string a1] rfl (by (try simp only [List.map_toArray, List.map_cons, List.map_nil]); first | done | rfl | (simp only [List.length_drop, List.length_take]; rfl)) ?_; (with_reducible refine (page_PutAt.calls a0 t259 a1 t261 t262 _ A11.out).mono ?_); rintro e w16 ⟨rfl, hb⟩; refine ⟨_, rfl, ?_⟩; have n0_ := Aside0.mk (below_step (by repeat (first | (with_reducible first | exact HB.out | apply below_alloc | apply pw_below_drewN | apply below_drew1) | exact HB.out)) hb); clear HB; have HB := n0_; clear n0_; (try clear hb); (try clear hb2); (try clear hk); (try clear hi)))
            go_ret3
            exact ⟨by first | rfl | (simp [errW_none, errW_some] <;> rfl) | (simp [*, errW_none, errW_some] <;> rfl), by repeat (first | (with_reducible first | exact HB.out | apply below_alloc | apply pw_below_drewN | apply below_drew1) | exact HB.out)⟩
        · rw [if_neg c10] at H
          have c10b0 : (t260 == 0) = false := beq_eq_false_iff_ne.mpr c10
          have c10b1 : (t260 != 0) = true := bne_iff_ne.mpr c10
          simp only [Option.some.injEq, Prod.mk.injEq] at H
          obtain ⟨rfl, rfl, rfl⟩ := H
          go_wp2_with (first | ((with_reducible refine gate_callee (f := 27) rfl ?_); refine goesL_ (some 19) rfl rfl Try.func27 (by kernel_rfl) rfl #[.string a0] rfl (by (try simp only [List.map_toArray, List.map_cons, List.map_nil]); first | done | rfl | (simp only [List.length_drop, List.length_take]; rfl)) ?_; (with_reducible refine (page_Next.calls a0 t259 t260 _ A9.out).mono ?_); rintro e w17 ⟨rfl, hb⟩; refine ⟨_, rfl, ?_⟩; have n0_ := Aside0.mk (below_step (by repeat (first | (with_reducible first | exact HB.out | apply below_alloc | apply pw_below_drewN | apply below_drew1) | exact HB.out)) hb); clear HB; have HB := n0_; clear n0_; (try clear hb); (try clear hb2); (try clear hk); (try clear hi)))
          go_ret3
          exact ⟨by first | rfl | (simp [errW_none, errW_some] <;> rfl) | (simp [*, errW_none, errW_some] <;> rfl), by repeat (first | (with_reducible first | exact HB.out | apply below_alloc | apply pw_below_drewN | apply below_drew1) | exact HB.out)⟩

end Go.Proofs.Ytemglmcddaeedaa.PA

namespace Go.Proofs.Ytemglmcddaeedaa.PA
open Go.RowKit Go.Proofs.YtemglmcddaeedaaW.PrintWords Go.Proofs.YtemglmcddaeedaaW.PrintLast Go.Proofs.YtemglmcddaeedaaW.PrintMore
attribute [local go_sem] max2_int min2_int max_two min_two max_three min_three max_four min_four   -- for this text's walks alone
set_option linter.unusedVariables false
set_option linter.unusedSimpArgs false

/-! ### sp_area: function 0 -/
/-! #### an area in memory -/
structure AreaS where
  size : Int
  pages : List ByteArray
  lv : List Int
def sEnc (s : ByteArray) : List Value := [.string s]
theorem sEnc_len (x : ByteArray) : (sEnc x).length = 1 := rfl
theorem sEnc_one (x : ByteArray) : ∀ v ∈ sEnc x, v.oneCell' = true := by
  intro v hv; simp only [sEnc, List.mem_singleton] at hv; rw [hv]; rfl
def areaCells (a : AreaS) (v : Value) : List Value := nums .u8 a.lv ++ [.int .i64 a.size, v]
structure AreaAt (w : World) (base g : Nat) (v : Value) (a : AreaS) : Prop where
  ge : base ≤ g
  blk : w.heap[g]? = some (.cells (areaCells a v).toArray 106 (0, 0))
  lv : a.lv.length = 200
  row : RowK sEnc 1 9 w base v a.pages
theorem AreaAt.below {w w1 : World} {base g : Nat} {v : Value} {a : AreaS} (h : AreaAt w base g v a) (hb : Below w.heap.size w w1) : AreaAt w1 base g v a :=
  ⟨h.ge, (hb.block g (blk_lt h.blk)).trans h.blk, h.lv, h.row.below hb⟩
theorem AreaAt.csize {w : World} {base g : Nat} {v : Value} {a : AreaS} (h : AreaAt w base g v a) : w.cell? ⟨g, 200, none⟩ = some (.int .i64 a.size) := by
  rw [blk_cell h.blk]
  simp only [areaCells, List.getElem?_toArray]
  rw [List.getElem?_append_right (by rw [nums_length, h.lv]; omega), nums_length, h.lv]; rfl
theorem AreaAt.cpages {w : World} {base g : Nat} {v : Value} {a : AreaS} (h : AreaAt w base g v a) : w.cell? ⟨g, 201, none⟩ = some v := by
  rw [blk_cell h.blk]
  simp only [areaCells, List.getElem?_toArray]
  rw [List.getElem?_append_right (by rw [nums_length, h.lv]; omega), nums_length, h.lv]; rfl
theorem AreaAt.clv {w : World} {base g : Nat} {v : Value} {a : AreaS} (h : AreaAt w base g v a) (i : Nat) (hi : i < 200) : w.cell? ⟨g, i, none⟩ = some (.int .u8 (a.lv.getD i 0)) := by
  rw [blk_cell h.blk]
  have := h.lv
  simp only [areaCells, List.getElem?_toArray]
  rw [List.getElem?_append_left (by rw [nums_length]; omega)]
  simp only [nums, List.getElem?_map, List.getElem?_eq_getElem (show i < a.lv.length by omega), Option.map_some, List.getD_eq_getElem?_getD, Option.getD_some]
theorem AreaAt.slice {w : World} {base g : Nat} {v : Value} {a : AreaS} (h : AreaAt w base g v a) (hn : 0 < a.pages.length) :
    ∃ r cap, v = .slice (some ⟨r, 0, none⟩) a.pages.length cap ∧ base ≤ r ∧ a.pages.length ≤ cap ∧ cap ≤ 9223372036854775807 ∧ r < w.heap.size ∧ r ≠ g ∧ (∀ i, w.frozen? ⟨r, i, none⟩ = false) ∧
      (∀ i (hi : i < a.pages.length), w.cell? ⟨r, i, none⟩ = some (.string a.pages[i])) := by
  rcases h.row with ⟨_, e⟩ | ⟨r, cap, sp, rfl, hb, hn2, hm, hs, hg⟩
  · rw [e] at hn; simp at hn
  · refine ⟨r, cap, rfl, hb, hn2, by unfold maxLen at hm; omega, blk_lt hg, blk_ne hg h.blk (by decide), fun i => blk_frozen hg i, fun i hi => ?_⟩
    rw [blk_cell hg]
    simp only [List.getElem?_toArray]
    rw [List.getElem?_append_left (by rw [encs_len sEnc_len]; omega)]
    have := encs_get (enc := sEnc) sEnc_len a.pages i 0 hi (by decide)
    rw [Nat.mul_one, Nat.add_zero] at this
    rw [this]; rfl
/-- All but two blocks stay. -/
structure Keep2 (w w' : World) (g : Nat) (r : Option Nat) : Prop where
  os : w'.os = w.os
  tape : w'.tape = w.tape
  output : w'.output = w.output
  size : w.heap.size ≤ w'.heap.size
  block : ∀ k, k < w.heap.size → k ≠ g → some k ≠ r → w'.heap[k]? = w.heap[k]?
theorem Keep2.of_below {w w' : World} (h : Below w.heap.size w w') (g : Nat) (r : Option Nat) : Keep2 w w' g r := ⟨h.os, h.tape, h.output, h.size, fun k hk _ _ => h.block k hk⟩
theorem Keep2.refl (w : World) (g : Nat) (r : Option Nat) : Keep2 w w g r := ⟨rfl, rfl, rfl, Nat.le_refl _, fun _ _ _ _ => rfl⟩
theorem Keep2.trans {w w1 w2 : World} {g : Nat} {r r1 : Option Nat} (h : Keep2 w w1 g r) (k : Keep2 w1 w2 g r1) (hr : r1 = r ∨ ∃ b, r1 = some b ∧ w.heap.size ≤ b) : Keep2 w w2 g r :=
  ⟨k.os.trans h.os, k.tape.trans h.tape, k.output.trans h.output, Nat.le_trans h.size k.size, fun i hi hg hr2 =>
    (k.block i (Nat.lt_of_lt_of_le hi h.size) hg (by
      rcases hr with rfl | ⟨b, rfl, hb⟩
      · exact hr2
      · intro e; cases e; omega)).trans (h.block i hi hg hr2)⟩
theorem Keep2.below {w0 w w' : World} {g : Nat} {r : Option Nat} {B : Nat} (h : Keep2 w w' g r) (hb : Below B w0 w) (hB : B ≤ w.heap.size) (hg : B ≤ g) (hr : ∀ k, r = some k → B ≤ k) : Below B w0 w' :=
  ⟨h.os.trans hb.os, h.tape.trans hb.tape, h.output.trans hb.output, Nat.le_trans hb.size h.size, fun k hk =>
    (h.block k (by omega) (by omega) (fun e => by have := hr k e.symm; omega)).trans (hb.block k hk)⟩
theorem Keep2.set {w : World} (g i : Nat) (v : Value) (r : Option Nat) : Keep2 w (w.setCell ⟨g, i, none⟩ v) g r :=
  ⟨rfl, rfl, rfl, by simp [World.setCell], fun k _ hk _ => Below.heap_setCell w _ v k hk⟩
theorem Keep2.drewN {w w' : World} {g : Nat} {r : Option Nat} (h : Keep2 w w' g r) (n : Nat) : Keep2 w (w'.drewN n) g r := ⟨h.os, h.tape, h.output, h.size, h.block⟩

end Go.Proofs.Ytemglmcddaeedaa.PA

namespace Go.Proofs.Ytemglmcddaeedaa.PA
open Go.RowKit Go.Proofs.YtemglmcddaeedaaW.PrintWords Go.Proofs.YtemglmcddaeedaaW.PrintLast Go.Proofs.YtemglmcddaeedaaW.PrintMore
attribute [local go_sem] max2_int min2_int max_two min_two max_three min_three max_four min_four   -- for this text's walks alone
set_option linter.unusedVariables false
set_option linter.unusedSimpArgs false

/-! ### area_note: function 0 -/
theorem AreaAt.drewN {w : World} {base g : Nat} {v : Value} {a : AreaS} (h : AreaAt w base g v a) (n : Nat) : AreaAt (w.drewN n) base g v a := ⟨h.ge, h.blk, h.lv, h.row⟩
theorem RowK.set_other {α : Type} {enc : α → List Value} {k : Nat} {e : TypeId} {w : World} {base : Nat} {v : Value} {l : List α} (h : RowK enc k e w base v l) (p : Addr) (x : Value) (hne : v.ownBlock ≠ some p.block) : RowK enc k e (w.setCell p x) base v l := by
  rcases h with h | ⟨g, cap, sp, rfl, h1, hn, hm, hs, hg⟩
  · exact .inl h
  · exact .inr ⟨g, cap, sp, rfl, h1, hn, hm, hs, (Below.heap_setCell w p x g (fun e => hne (by rw [← e]; rfl))).trans hg⟩
theorem AreaAt.ne {w : World} {base g : Nat} {v : Value} {a : AreaS} (h : AreaAt w base g v a) : v.ownBlock ≠ some g := by
  rcases h.row with ⟨rfl, _⟩ | ⟨r, cap, sp, rfl, hb, hn2, hm, hs, hg⟩
  · simp [Value.ownBlock]
  · intro e
    have : r = g := by simpa [Value.ownBlock] using e
    exact blk_ne hg h.blk (by decide) this
theorem AreaAt.setlv {w : World} {base g : Nat} {v : Value} {a : AreaS} (h : AreaAt w base g v a) (n : Nat) (hn : n < 200) (x : Int) : AreaAt (w.setCell ⟨g, n, none⟩ (.int .u8 x)) base g v { a with lv := a.lv.set n x } := by
  refine ⟨h.ge, ?_, by simp [h.lv], h.row.set_other _ _ h.ne⟩
  rw [blk_set h.blk n (.int .u8 x)]
  have hl := h.lv
  have : (areaCells a v).toArray.setIfInBounds n (.int .u8 x) = (areaCells { a with lv := a.lv.set n x } v).toArray := by
    rw [List.setIfInBounds_toArray]
    unfold areaCells
    rw [List.set_append_left _ _ (by rw [nums_length]; omega)]
    simp [nums, List.map_set]
  rw [this]
set_option maxHeartbeats 1000000 in
set_option maxRecDepth 100000 in
theorem area_note (g : Nat) (n : Nat) (hn : n < 200) (room size : Int) (h0 : 0 ≤ room) (h1 : room ≤ size) (h2 : 32 ≤ size) (h3 : size ≤ 4096) (w : World) (t : TypeId) (cs : Array Value) (hg : w.heap[g]? = some (.cells cs t (0, 0))) (hcs : 200 ≤ cs.size) :
    Calls Try.prog 116 #[.pointer (some ⟨g, 0, none⟩), .int .i64 (n : Int), .int .i64 room, .int .i64 size] w fun e w' => e = .returned (.tuple #[]) ∧ ∃ m, w' = (w.drewN m).setCell ⟨g, n, none⟩ (.int .u8 (room * 8 / size)) := by
  obtain ⟨X, hX⟩ : ∃ X, cs[n]? = some X := ⟨cs[n]'(by omega), Array.getElem?_eq_getElem (by omega)⟩
  have c1 := (blk_cell hg n).trans hX
  have f1 := blk_frozen hg n
  have hq0 : 0 ≤ room * 8 / size := Int.ediv_nonneg (by omega) (by omega)
  have hq1 : room * 8 / size ≤ 255 := by
    have : room * 8 / size < 9 := Int.ediv_lt_of_lt_mul (by omega) (by omega)
    omega
  have hn1 : (n : Int) < 200 := by omega
  have e1 : IntKind.i64.wrap (room * 8) = room * 8 := by rw [IntKind.wrap_i64]; omega
  have e2 : Int.tdiv (room * 8) size = room * 8 / size := Int.tdiv_eq_ediv_of_nonneg (by omega)
  have e3 : IntKind.i64.wrap (room * 8 / size) = room * 8 / size := by rw [IntKind.wrap_i64]; omega
  have e4 : IntKind.u8.wrap (room * 8 / size) = room * 8 / size := by rw [IntKind.wrap_u8]; omega
  have hs0 : ¬ size = 0 := by omega
  have hs1 : (size == 0) = false := by simpa using hs0
  have hn0 : (0 : Int) ≤ n := by omega
  clear hg hcs hX
  go_enter Try.func116, Try.ntmps116
  go_wp2_with fail
  go_still_tail 10, (by kernel_rfl)
  repeat go_step
  go_end0
  exact ⟨rfl, 1, rfl⟩
/-- The room that page.Free tells. -/
def roomS (p : ByteArray) : Int := if validS p then (p.size : Int) - needsL (cellsP p) else 0
theorem roomS_range (p : ByteArray) (h : p.size ≤ 100000) : 0 ≤ roomS p ∧ roomS p ≤ p.size := by
  unfold roomS
  by_cases hv : validS p
  · rw [if_pos hv]
    obtain ⟨g1, g2, g3, g4⟩ := valid_reads p hv
    have h0 := lastL_nonneg g1
    unfold needsL at *
    unfold cellsP
    omega
  · rw [if_neg hv]; omega
theorem Free_room (p : ByteArray) (h : p.size ≤ 100000) : page_Free.f p = some (roomS p, if validS p then 0 else 1) := by
  unfold page_Free.f roomS
  rw [if_pos h]
  by_cases hv : validS p
  · rw [if_pos hv, if_pos hv, if_pos hv]; rfl
  · rw [if_neg hv, if_neg hv, if_neg hv]
set_option maxHeartbeats 1000000 in
set_option maxRecDepth 100000 in
theorem area_noted {base g : Nat} {v : Value} {a : AreaS} (n : Nat) (hn : n < a.pages.length) (hn2 : n < 200) (hs : 32 ≤ a.size ∧ a.size ≤ 4096) (hp : (a.pages[n].size : Int) = a.size) (w : World) (h : AreaAt w base g v a) :
    Calls Try.prog 80 #[.pointer (some ⟨g, 0, none⟩), .int .i64 (n : Int)] w fun e w' => e = .returned (.tuple #[]) ∧ AreaAt w' base g v { a with lv := a.lv.set n (roomS a.pages[n] * 8 / a.size) } ∧ Keep2 w w' g none := by
  have H := Aside0.mk h
  obtain ⟨r, cap, rfl, _, _, hc0, _, _, _, hc⟩ := h.slice (by omega)
  have c1 := h.cpages
  have c2 := hc n hn
  have c3 := h.csize
  have hR := roomS_range a.pages[n] (by omega)
  have HF := Aside0.mk (Free_room a.pages[n] (by omega))
  rw [hp] at hR
  obtain ⟨X, hX⟩ : ∃ X, a.pages[n] = X := ⟨_, rfl⟩
  rw [hX] at c2 HF hR ⊢
  obtain ⟨m, hm⟩ : ∃ m, a.pages.length = m := ⟨_, rfl⟩
  rw [hm] at c1 hn H
  obtain ⟨R, hRR⟩ : ∃ R, roomS X = R := ⟨_, rfl⟩
  rw [hRR] at HF hR ⊢
  obtain ⟨E, hE⟩ : ∃ E : Int, (if validS X then (0 : Int) else 1) = E := ⟨_, rfl⟩
  rw [hE] at HF
  clear hE
  obtain ⟨S, hS⟩ : ∃ S, a.size = S := ⟨_, rfl⟩
  rw [hS] at c3 hR hs ⊢
  have hR0 := hR.1
  have hR1 := hR.2
  have hs0 := hs.1
  have hs1 := hs.2
  have hn1 : (n : Int) < m := by omega
  have HM := Aside0.mk hm
  have HS := Aside0.mk hS
  clear h hX hm hRR hS hp hR hc hs
  go_enter Try.func80, Try.ntmps80
  go_wp2_with fail
  refine (page_Free.calls X R E w HF.out).mono ?_
  rintro e w1 ⟨rfl, hb⟩
  replace c1 := pw_cell_below hb c1
  replace c3 := pw_cell_below hb c3
  have H1 := Aside0.mk (H.out.below hb)
  have HB := Aside0.mk hb
  clear c2 hb
  go_wp2_with fail
  go_still_tail 9, (by kernel_rfl)
  go_wp2_with fail
  refine (area_note g n hn2 R S hR0 hR1 hs0 hs1 w1.drew 106 _ (show _ from H1.out.blk) (by simp [areaCells, nums_length, H1.out.lv])).mono ?_
  rintro e w2 ⟨rfl, q, rfl⟩
  go_wp2
  go_end0
  rw [HM.out]
  have h9 := (H1.out.drewN (1 + q)).setlv n hn2 (R * 8 / S)
  rw [HS.out] at h9
  exact ⟨rfl, h9, (Keep2.of_below HB.out g none).trans (((Keep2.refl w1 g none).drewN (1 + q)).trans (Keep2.set g n _ none) (.inl rfl)) (.inl rfl)⟩

end Go.Proofs.Ytemglmcddaeedaa.PA

namespace Go.Proofs.Ytemglmcddaeedaa.PA
open Go.RowKit Go.Proofs.YtemglmcddaeedaaW.PrintWords Go.Proofs.YtemglmcddaeedaaW.PrintLast Go.Proofs.YtemglmcddaeedaaW.PrintMore
attribute [local go_sem] max2_int min2_int max_two min_two max_three min_three max_four min_four   -- for this text's walks alone
set_option linter.unusedVariables false
set_option linter.unusedSimpArgs false

/-! ### area_New: function 0 -/
theorem reps_s (w : World) (base : Nat) (ok : Nat → Prop) (l : List ByteArray) : Reps (Kd.string.M w base ok) 1 l (encs_ sEnc l) := by
  refine ⟨encs_len sEnc_len l, fun j p hj => ?_⟩
  obtain ⟨hlt, he⟩ := List.getElem?_eq_some_iff.1 hj
  have : ((encs_ sEnc l).drop (j * 1)).take 1 = sEnc p := by
    rw [encs_drop sEnc_len l j (by omega), List.drop_eq_getElem_cons hlt, he, encs_cons]
    exact List.take_left' (sEnc_len p)
  rw [this]
  exact rfl
theorem s_of_reps {w : World} {base : Nat} {ok : Nat → Prop} : ∀ {l : List ByteArray} {cs : List Value}, Reps (Kd.string.M w base ok) 1 l cs → cs = encs_ sEnc l := by
  intro l
  induction l with
  | nil => intro cs h; exact List.eq_nil_of_length_eq_zero (by simpa using h.1)
  | cons x l ih =>
    intro cs h
    have h0 : (cs.drop (0 * 1)).take 1 = [.string x] := h.2 0 x rfl
    simp only [Nat.zero_mul, List.drop_zero] at h0
    have h1 : Reps (Kd.string.M w base ok) 1 l (cs.drop 1) := by
      refine ⟨by rw [List.length_drop, h.1, List.length_cons]; omega, fun j p hj => ?_⟩
      have := h.2 (j + 1) p (by simpa using hj)
      rw [show (j + 1) * 1 = 1 + j * 1 by omega, ← List.drop_drop] at this
      exact this
    rw [encs_cons, ← ih h1, show sEnc x = cs.take 1 from h0.symm, List.take_append_drop]
theorem sR_of_row {w : World} {base : Nat} {v : Value} {l : List ByteArray} (h : RowK sEnc 1 9 w base v l) : Kd.R Kd.string 9 w base (fun _ => True) v l :=
  ⟨fun _ _ => trivial, encs_ sEnc l, h.owns sEnc_len, reps_s _ _ _ _⟩
theorem row_of_sR {w : World} {base : Nat} {ok : Nat → Prop} {v : Value} {l : List ByteArray} (h : Kd.R Kd.string 9 w base ok v l) : RowK sEnc 1 9 w base v l := by
  obtain ⟨_, inner, ho, hr⟩ := h
  rw [s_of_reps hr] at ho
  exact RowK.of_owns sEnc_len ho
theorem AreaAt.setpages {w : World} {g base : Nat} {v v1 : Value} {a : AreaS} {l : List ByteArray} (hge : base ≤ g) (hb : w.heap[g]? = some (.cells (areaCells a v).toArray 106 (0, 0))) (hlv : a.lv.length = 200) (hr : RowK sEnc 1 9 w base v1 l) :
    AreaAt (w.setCell ⟨g, 201, none⟩ v1) base g v1 { a with pages := l } := by
  have hne : v1.ownBlock ≠ some g := by
    rcases hr with ⟨rfl, _⟩ | ⟨r, cap, sp, rfl, _, hn2, hm, hs, hg⟩
    · simp [Value.ownBlock]
    · intro e
      have : r = g := by simpa [Value.ownBlock] using e
      exact blk_ne hg hb (by decide) this
  refine ⟨hge, ?_, hlv, hr.set_other _ _ hne⟩
  rw [blk_set hb 201 v1]
  have : (areaCells a v).toArray.setIfInBounds 201 v1 = (areaCells { a with pages := l } v1).toArray := by
    rw [List.setIfInBounds_toArray]
    unfold areaCells
    rw [List.set_append_right _ _ (by rw [nums_length]; omega), nums_length, hlv]
    rfl
  rw [this]
theorem blk_pages {w : World} {g : Nat} {v : Value} {a : AreaS} {t : TypeId} (hb : w.heap[g]? = some (.cells (areaCells a v).toArray t (0, 0))) (hlv : a.lv.length = 200) : w.cell? ⟨g, 201, none⟩ = some v := by
  rw [blk_cell hb]
  simp only [areaCells, List.getElem?_toArray]
  rw [List.getElem?_append_right (by rw [nums_length, hlv]; omega), nums_length, hlv]; rfl
theorem zero_area (n : Int) : Try.zeroCells106.setIfInBounds 200 (.int .i64 n) = (areaCells ⟨n, [], zer 200⟩ (.slice none 0 0)).toArray := by kernel_rfl
theorem lv_step (L : Int) (i : Nat) (hi : i < 200) : (List.replicate i L ++ zer (200 - i)).set i L = List.replicate (i + 1) L ++ zer (200 - (i + 1)) := by
  have e : zer (200 - i) = 0 :: zer (200 - (i + 1)) := by rw [show 200 - i = (200 - (i + 1)) + 1 by omega]; rfl
  rw [e]
  have := set_at (List.replicate i L) (zer (200 - (i + 1))) 0 L
  rw [List.length_replicate] at this
  rw [this, List.replicate_succ']
  simp
set_option maxHeartbeats 1000000 in
set_option maxRecDepth 100000 in
theorem area_New_ok (n : Int) (hn : 32 ≤ n ∧ n ≤ 4096 ∧ n % 8 = 0) (k : Nat) (hk : 1 ≤ k ∧ k ≤ 200) (p : ByteArray) (hp : page_New.f 1 n = some (p, 0)) (hps : (p.size : Int) = n) (w : World) :
    Calls Try.prog 73 #[.int .i64 n, .int .i64 (k : Int)] w fun e w' => ∃ g v, e = .returned (.tuple #[.pointer (some ⟨g, 0, none⟩), .int .i64 0]) ∧
      AreaAt w' w.heap.size g v ⟨n, List.replicate k p, List.replicate k (roomS p * 8 / n) ++ zer (200 - k)⟩ ∧ Below w.heap.size w w' := by
  have HP := Aside0.mk hp
  have HN := Aside0.mk hn
  have HPS := Aside0.mk hps
  clear hp hn hps
  have hk1 : (1 : Int) ≤ k := by omega
  have hk2 : (k : Int) ≤ 200 := by omega
  have hk3 : decide ((k : Int) < 1) = false := decide_eq_false (by omega)
  have hk4 : decide ((200 : Int) < k) = false := decide_eq_false (by omega)
  go_enter Try.func73, Try.ntmps73
  go_wp2_with fail
  refine (page_New.calls 1 n p 0 w HP.out).mono ?_
  rintro e w1 ⟨rfl, hb⟩
  go_wp2_with fail
  rw [zero_area n]
  obtain ⟨g, hg⟩ : ∃ g, w1.heap.size = g := ⟨_, rfl⟩
  have hA0 : AreaAt (w1.alloc (.cells (areaCells ⟨n, [], zer 200⟩ (.slice none 0 0)).toArray 106)) w.heap.size g (.slice none 0 0) ⟨n, [], zer 200⟩ :=
    ⟨by rw [← hg]; exact hb.size, by rw [← hg]; exact blk_new _ _, by simp [zer], RowK.nil _ _ _⟩
  have hB0 : Below w.heap.size w (w1.alloc (.cells (areaCells ⟨n, [], zer 200⟩ (.slice none 0 0)).toArray 106)) := below_alloc hb _
  have HA0 := Aside0.mk hA0
  have HB0 := Aside0.mk hB0
  simp only [hg]
  clear hA0 hB0 hg hb
  go_loopw [29] (fun v29 wr => ∃ (i : Nat) (v : Value), i ≤ k ∧ v29 = .int .i64 (i : Int) ∧ Aside0 (AreaAt wr w.heap.size g v ⟨n, List.replicate i p, List.replicate i (roomS p * 8 / n) ++ zer (200 - i)⟩) ∧ Aside0 (Below w.heap.size w wr)) (fun v29 _ => k - (intOf v29).toNat)
  case atStart => exact ⟨0, _, by omega, rfl, HA0, HB0⟩
  case round =>
    clear HA0 HB0
    obtain ⟨i, v, hi, rfl, HA, HB⟩ := hrel
    by_cases hlt : i < k
    · have hlt1 : (i : Int) < k := by omega
      have HO := Aside0.mk (Kd.R_below (sR_of_row HA.out.row) (below_alloc (Below.refl _ wr) (.cells #[.string p] 9)))
      have hlen : (List.replicate i p).length = i := List.length_replicate ..
      obtain ⟨A, c, rfl, hc, _⟩ := Kd.R_reads HO.out
      rw [hlen] at HO HA hc
      have HR := Aside0.mk (show ReadsRow (Kd.string.M (wr.alloc (.cells #[.string p] 9)) w.heap.size (fun k => some k ≠ (Value.slice A i c).ownBlock)) 1 (wr.alloc (.cells #[.string p] 9)) (some ⟨wr.heap.size, 0, none⟩) 1 [p] from
        ⟨rfl, by omega, fun _ => ⟨_, rfl, fun j q hj => by
          match j, hj with
          | 0, hj =>
            cases hj
            exact ⟨[.string p], rfl, rfl, fun i u hu => by rw [Nat.zero_mul, Nat.zero_add, add_plain, blk_cell (blk_new wr _)]; simpa using hu⟩⟩⟩)
      have HB1 := Aside0.mk (below_alloc HB.out (.cells #[.string p] 9))
      have HG := Aside0.mk (blk_alloc HA.out.blk (.cells #[.string p] 9))
      have HNE := Aside0.mk HA.out.ne
      have HL := Aside0.mk hlen
      have HLV := Aside0.mk HA.out.lv
      have c1 := HA.out.cpages
      clear hlen
      go_wp2_with (at_builtin; go_must (refine Kd.R_append_rows Kd.string w.heap.size rfl (.tmp 36) (.tmp 38) 56 9 (.string ⟨#[]⟩) 16 rfl Try.underlying56 (by kernel_rfl) rfl (by decide) (by decide) _ (List.replicate i p) [p] _ 1 1 (fun _ => True) _ rfl rfl HO.out HR.out (fun _ _ h => h) (fun k h => ⟨trivial, h⟩) (fun _ _ => trivial) HB1.out HB1.out.size (by rw [HL.out]; omega) ?_); intro v1 w2 h1 h2 h3 h4; rw [← List.replicate_succ'] at h1; obtain ⟨A1, cc1, rfl, _, _⟩ := Kd.R_reads h1; rw [List.length_replicate] at h1; simp only [List.length_replicate]; have HG2 := blk_grown HG.out h3 (fun e => HNE.out e.symm); have f1 := blk_frozen HG2 201; have c2 := blk_pages HG2 HLV.out; have HQ := Aside0.mk (And.intro h1 (And.intro h2 (And.intro HG2 h3))); clear HG2 h1 h2 h3 h4)
      have hA1 : AreaAt (w2.setCell ⟨g, 201, none⟩ (.slice A1 (i + 1) cc1)) w.heap.size g (.slice A1 (i + 1) cc1) ⟨n, List.replicate (i + 1) p, List.replicate i (roomS p * 8 / n) ++ zer (200 - i)⟩ :=
        AreaAt.setpages (a := ⟨n, List.replicate i p, List.replicate i (roomS p * 8 / n) ++ zer (200 - i)⟩) HA.out.ge HQ.out.2.2.1 HLV.out (row_of_sR HQ.out.1)
      have hB1 : Below w.heap.size w (w2.setCell ⟨g, 201, none⟩ (.slice A1 (i + 1) cc1)) := HQ.out.2.1.setCell HA.out.ge _
      have HB2 := Aside0.mk hB1
      have hgt : (List.replicate (i + 1) p)[i]'(by simp) = p := by simp
      have hN := area_noted i (a := ⟨n, List.replicate (i + 1) p, List.replicate i (roomS p * 8 / n) ++ zer (200 - i)⟩) (by simp) (by omega) ⟨HN.out.1, HN.out.2.1⟩ (by simp only [hgt]; exact HPS.out) _ hA1
      have hst := lv_step (roomS p * 8 / n) i (by omega)
      simp only [hgt, hst] at hN
      have HNN := Aside0.mk hN
      have HGE := Aside0.mk HA.out.ge
      clear hA1 hB1 hN hgt hst HA HO HR HB1 HG HNE HL HLV HQ HB c1 c2 f1
      refine HNN.out.mono ?_
      rintro e w3 ⟨rfl, hA3, hK3⟩
      have HA3 := Aside0.mk hA3
      have HB3 := Aside0.mk (hK3.below HB2.out HB2.out.size HGE.out (by intro k hk; cases hk))
      clear hA3 hK3 HNN HB2
      go_wp2
      go_roundw
      case rel => exact ⟨i + 1, _, by omega, by go_num, HA3, HB3⟩
      case measure => simp [intOf]; omega
    · obtain rfl : i = k := by omega
      go_wp2
      go_ret2
      exact ⟨g, v, rfl, HA.out, HB.out⟩

end Go.Proofs.Ytemglmcddaeedaa.PA

namespace Go.Proofs.Ytemglmcddaeedaa.PA
open Go.RowKit Go.Proofs.YtemglmcddaeedaaW.PrintWords Go.Proofs.YtemglmcddaeedaaW.PrintLast Go.Proofs.YtemglmcddaeedaaW.PrintMore
attribute [local go_sem] max2_int min2_int max_two min_two max_three min_three max_four min_four   -- for this text's walks alone
set_option linter.unusedVariables false
set_option linter.unusedSimpArgs false

/-! ### area_reads: function 0 -/
set_option maxHeartbeats 1000000 in
theorem area_Size {base g : Nat} {v : Value} {a : AreaS} (w : World) (h : AreaAt w base g v a) :
    Calls Try.prog 82 #[.pointer (some ⟨g, 0, none⟩)] w fun e w' => e = .returned (.int .i64 a.size) ∧ Below w.heap.size w w' := by
  have c1 := h.csize
  have H := Aside0.mk h
  clear h
  go_enter Try.func82, Try.ntmps82
  go_wp2
  go_ret
  exact ⟨rfl, Below.refl _ _⟩
set_option maxHeartbeats 1000000 in
theorem area_Pages {base g : Nat} {v : Value} {a : AreaS} (w : World) (h : AreaAt w base g v a) (hp : 0 < a.pages.length) :
    Calls Try.prog 83 #[.pointer (some ⟨g, 0, none⟩)] w fun e w' => e = .returned (.int .i64 a.pages.length) ∧ Below w.heap.size w w' := by
  have c1 := h.cpages
  obtain ⟨r, cap, rfl, _⟩ := h.slice hp
  clear h
  go_enter Try.func83, Try.ntmps83
  go_wp2
  go_ret
  exact ⟨rfl, Below.refl _ _⟩
/-- What asked answers. -/
def askedA (a : AreaS) (n : Int) : Int := if 0 ≤ n ∧ n < a.pages.length then 0 else 7
set_option maxHeartbeats 1000000 in
theorem area_asked {base g : Nat} {v : Value} {a : AreaS} (n : Int) (w : World) (h : AreaAt w base g v a) (hp : 0 < a.pages.length) :
    Calls Try.prog 115 #[.pointer (some ⟨g, 0, none⟩), .int .i64 n] w fun e w' => e = .returned (.int .i64 (askedA a n)) ∧ Below w.heap.size w w' := by
  have c1 := h.cpages
  obtain ⟨r, cap, rfl, _⟩ := h.slice hp
  clear h
  obtain ⟨m, hm⟩ : ∃ m, a.pages.length = m := ⟨_, rfl⟩
  unfold askedA
  rw [hm] at c1 ⊢
  clear hm hp
  by_cases h0 : 0 ≤ n
  · have d0 : decide (n < 0) = false := decide_eq_false (by omega)
    by_cases h1 : n < m
    · rw [if_pos ⟨h0, h1⟩]
      have d1 : decide ((m : Int) ≤ n) = false := decide_eq_false (by omega)
      go_enter Try.func115, Try.ntmps115
      go_wp2
      go_ret
      exact ⟨rfl, Below.refl _ _⟩
    · rw [if_neg (fun h => h1 h.2)]
      have d1 : decide ((m : Int) ≤ n) = true := decide_eq_true (by omega)
      go_enter Try.func115, Try.ntmps115
      go_wp2
      go_ret
      exact ⟨rfl, Below.refl _ _⟩
  · rw [if_neg (fun h => h0 h.1)]
    have d0 : decide (n < 0) = true := decide_eq_true (by omega)
    go_enter Try.func115, Try.ntmps115
    go_wp2
    go_ret
    exact ⟨rfl, Below.refl _ _⟩
set_option maxHeartbeats 1000000 in
theorem area_Page_ok {base g : Nat} {v : Value} {a : AreaS} (n : Nat) (hn : n < a.pages.length) (w : World) (h : AreaAt w base g v a) :
    Calls Try.prog 86 #[.pointer (some ⟨g, 0, none⟩), .int .i64 (n : Int)] w fun e w' => e = .returned (.tuple #[.string a.pages[n], .int .i64 0]) ∧ Below w.heap.size w w' := by
  have H := Aside0.mk h
  have HA := Aside0.mk (show askedA a n = 0 by unfold askedA; rw [if_pos ⟨by omega, by omega⟩])
  obtain ⟨r, cap, rfl, _, _, hc0, _, _, _, hc⟩ := h.slice (by omega)
  have c1 := h.cpages
  have c2 := hc n hn
  obtain ⟨X, hX⟩ : ∃ X, a.pages[n] = X := ⟨_, rfl⟩
  rw [hX] at c2 ⊢
  obtain ⟨m, hm⟩ : ∃ m, a.pages.length = m := ⟨_, rfl⟩
  rw [hm] at c1 hn H
  have hn1 : (n : Int) < m := by omega
  have HM := Aside0.mk hm
  clear h hc hX hm
  go_enter Try.func86, Try.ntmps86
  go_wp2_with fail
  refine (area_asked n w H.out (by rw [HM.out]; omega)).mono ?_
  rw [HA.out]
  rintro e w1 ⟨rfl, hb⟩
  replace c1 := pw_cell_below hb c1
  replace c2 := pw_cell_below hb c2
  go_wp2
  go_ret2
  exact ⟨rfl, hb⟩
set_option maxHeartbeats 1000000 in
theorem area_Level_ok {base g : Nat} {v : Value} {a : AreaS} (n : Nat) (hn : n < a.pages.length) (hn2 : n < 200) (hl : 0 ≤ a.lv.getD n 0 ∧ a.lv.getD n 0 ≤ 255) (w : World) (h : AreaAt w base g v a) :
    Calls Try.prog 87 #[.pointer (some ⟨g, 0, none⟩), .int .i64 (n : Int)] w fun e w' => e = .returned (.tuple #[.int .i64 (a.lv.getD n 0), .int .i64 0]) ∧ Below w.heap.size w w' := by
  have H := Aside0.mk h
  have HA := Aside0.mk (show askedA a n = 0 by unfold askedA; rw [if_pos ⟨by omega, by omega⟩])
  have c1 := h.clv n hn2
  obtain ⟨X, hX⟩ : ∃ X, a.lv.getD n 0 = X := ⟨_, rfl⟩
  rw [hX] at c1 hl ⊢
  have hl1 := hl.1
  have hl2 := hl.2
  clear h hX hl
  have hn3 : (n : Int) < 200 := by omega
  go_enter Try.func87, Try.ntmps87
  go_wp2_with fail
  refine (area_asked n w H.out (by omega)).mono ?_
  rw [HA.out]
  rintro e w1 ⟨rfl, hb⟩
  replace c1 := pw_cell_below hb c1
  go_wp2
  go_ret2
  exact ⟨rfl, hb⟩

end Go.Proofs.Ytemglmcddaeedaa.PA

namespace Go.Proofs.Ytemglmcddaeedaa.PA
open Go.RowKit Go.Proofs.YtemglmcddaeedaaW.PrintWords Go.Proofs.YtemglmcddaeedaaW.PrintLast Go.Proofs.YtemglmcddaeedaaW.PrintMore
attribute [local go_sem] max2_int min2_int max_two min_two max_three min_three max_four min_four   -- for this text's walks alone
set_option linter.unusedVariables false
set_option linter.unusedSimpArgs false

/-! ### area_more: function 0 -/
/-- The sum of the rooms. -/
def roomsL (l : List ByteArray) : Int := (l.map roomS).sum
theorem roomsL_take (l : List ByteArray) (i : Nat) (h : i < l.length) : roomsL (l.take (i + 1)) = roomsL (l.take i) + roomS l[i] := by
  unfold roomsL
  rw [List.take_succ_eq_append_getElem h, List.map_append, List.sum_append]
  simp only [List.map_cons, List.map_nil, List.sum_cons, List.sum_nil]; omega
theorem roomsL_range (l : List ByteArray) (h : ∀ p ∈ l, p.size ≤ 100000) : ∀ i, i ≤ l.length → 0 ≤ roomsL (l.take i) ∧ roomsL (l.take i) ≤ 100000 * i := by
  intro i
  induction i with
  | zero => intro _; simp [roomsL]
  | succ i ih =>
    intro hi
    have h1 := ih (by omega)
    have h2 := roomS_range l[i] (h _ (List.getElem_mem _))
    have h3 := h l[i] (List.getElem_mem _)
    rw [roomsL_take l i (by omega)]
    omega
set_option maxHeartbeats 1000000 in
set_option maxRecDepth 100000 in
theorem area_Free {base g : Nat} {v : Value} {a : AreaS} (hp : 0 < a.pages.length) (hp2 : a.pages.length ≤ 1000) (hs : ∀ p ∈ a.pages, p.size ≤ 100000) (w : World) (h : AreaAt w base g v a) :
    Calls Try.prog 84 #[.pointer (some ⟨g, 0, none⟩)] w fun e w' => e = .returned (.int .i64 (roomsL a.pages)) ∧ Below w.heap.size w w' := by
  obtain ⟨sz, l, lv⟩ := a
  dsimp only at *
  have H := Aside0.mk h
  have HS := Aside0.mk hs
  obtain ⟨r, cap, rfl, _, _, hc0, _, _, _, hc⟩ := h.slice hp
  dsimp only at hc hc0
  have HC := Aside0.mk hc
  have HP := Aside0.mk h.cpages
  dsimp only at HP
  clear h hc hs
  go_enter Try.func84, Try.ntmps84
  go_wp2_with fail
  refine (area_Pages w H.out hp).mono ?_
  dsimp only
  rintro e w1 ⟨rfl, hb⟩
  have HB := Aside0.mk hb
  clear hb
  go_wp2_with fail
  go_loopw [3, 9] (fun v3 v9 wr => ∃ i : Nat, i ≤ l.length ∧ v3 = .int .i64 (roomsL (l.take i)) ∧ v9 = .int .i64 (i : Int) ∧ Aside0 (Below w.heap.size w wr)) (fun _ v9 _ => l.length - (intOf v9).toNat)
  case atStart => exact ⟨0, by omega, by simp [roomsL], by simp, HB⟩
  case round =>
    obtain ⟨i, hi, rfl, rfl, HB⟩ := hrel
    by_cases hlt : i < l.length
    · have c1 := pw_cell_below HB.out HP.out
      have c2 := pw_cell_below HB.out (HC.out i hlt)
      have hpz := HS.out l[i] (List.getElem_mem _)
      have HF := Aside0.mk (Free_room l[i] hpz)
      have h1 := roomsL_range l HS.out i hi
      have h2 := roomS_range l[i] hpz
      have HT := Aside0.mk (roomsL_take l i hlt)
      obtain ⟨X, hX⟩ : ∃ X, l[i] = X := ⟨_, rfl⟩
      rw [hX] at c2 HF h2 HT hpz
      obtain ⟨S, hS⟩ : ∃ S, roomsL (l.take i) = S := ⟨_, rfl⟩
      rw [hS] at h1 HT
      simp only [hS]
      obtain ⟨R, hR⟩ : ∃ R, roomS X = R := ⟨_, rfl⟩
      rw [hR] at HF h2 HT
      obtain ⟨E, hE⟩ : ∃ E : Int, (if validS X then (0 : Int) else 1) = E := ⟨_, rfl⟩
      rw [hE] at HF
      have b1 := h1.1
      have b2 : S ≤ 100000000 := by omega
      have b3 := h2.1
      have b4 : R ≤ 100000 := by omega
      have hi1 : (i : Int) < l.length := by omega
      clear hX hS hR hE h1 h2
      go_wp2_with (go_at_call 25; refine (page_Free.calls X R E _ HF.out).mono ?_; rintro e w2 ⟨rfl, hb2⟩)
      go_roundw
      case rel => exact ⟨i + 1, by omega, by rw [HT.out], by go_num, ⟨below_then HB.out HB.out.size hb2⟩⟩
      case measure => simp [intOf]; omega
    · have HE := Aside0.mk (show l.take i = l from List.take_of_length_le (by omega))
      go_wp2
      go_ret
      exact ⟨by rw [HE.out]; rfl, HB.out⟩
/-- What may tells. -/
theorem area_may (g n : Nat) (hn : n < 200) (x bytes size : Int) (hx : 0 ≤ x ∧ x ≤ 255) (hb : 1 ≤ bytes ∧ bytes ≤ size) (h2 : 32 ≤ size) (h3 : size ≤ 4096) (w : World) (hc : w.cell? ⟨g, n, none⟩ = some (.int .u8 x)) :
    Calls Try.prog 128 #[.pointer (some ⟨g, 0, none⟩), .int .i64 (n : Int), .int .i64 bytes, .int .i64 size] w fun e w' => e = .returned (.bool (decide (bytes * 8 / size ≤ x))) ∧ Drawn0 w w' := by
  have e1 : IntKind.i64.wrap (bytes * 8) = bytes * 8 := by rw [IntKind.wrap_i64]; omega
  have e2 : Int.tdiv (bytes * 8) size = bytes * 8 / size := Int.tdiv_eq_ediv_of_nonneg (by omega)
  have q0 : 0 ≤ bytes * 8 / size := Int.ediv_nonneg (by omega) (by omega)
  have q1 : bytes * 8 / size < 9 := Int.ediv_lt_of_lt_mul (by omega) (by omega)
  have e3 : IntKind.i64.wrap (bytes * 8 / size) = bytes * 8 / size := by rw [IntKind.wrap_i64]; omega
  have hs0 : ¬ size = 0 := by omega
  have hs1 : (size == 0) = false := by simpa using hs0
  have hn0 : (0 : Int) ≤ n := by omega
  have hn1 : (n : Int) < 200 := by omega
  have hx0 := hx.1
  have hx1 := hx.2
  have e4 : IntKind.i64.wrap x = x := by rw [IntKind.wrap_i64]; omega
  clear hx hb
  go_enter Try.func128, Try.ntmps128
  go_wp2_with fail
  go_quiet (fail)
  go_wp2
  go_ret
  exact ⟨rfl, ⟨_, rfl⟩⟩
/-- What Get tells of a place. -/
def getA (a : AreaS) (n line : Int) : ByteArray × Int := if 0 ≤ n ∧ n < a.pages.length then getS (a.pages.getD n.toNat ⟨#[]⟩) line else (⟨#[]⟩, 7)
set_option maxHeartbeats 1000000 in
set_option maxRecDepth 100000 in
theorem area_Get {base g : Nat} {v : Value} {a : AreaS} (n line : Int) (hp : 0 < a.pages.length) (hs : ∀ p ∈ a.pages, p.size ≤ 100000) (w : World) (h : AreaAt w base g v a) :
    Calls Try.prog 75 #[.pointer (some ⟨g, 0, none⟩), .agg #[.int .i64 n, .int .i64 line]] w fun e w' => e = .returned (.tuple #[.string (getA a n line).1, .int .i64 (getA a n line).2]) ∧ Below w.heap.size w w' := by
  obtain ⟨sz, l, lv⟩ := a
  dsimp only at *
  have hb0 := blk_new w (.cells #[.int .i64 n, .int .i64 line] 93)
  have HB0 := Aside0.mk (below_alloc (Below.refl _ w) (.cells #[.int .i64 n, .int .i64 line] 93))
  have hA := h.below HB0.out
  obtain ⟨W, hW⟩ : ∃ W, w.alloc (.cells #[.int .i64 n, .int .i64 line] 93) = W := ⟨_, rfl⟩
  obtain ⟨b, hbb⟩ : ∃ b, w.heap.size = b := ⟨_, rfl⟩
  rw [hW, hbb] at hb0
  rw [hW] at hA HB0
  have d0 := (blk_cell hb0 0).trans rfl
  have d1 := (blk_cell hb0 1).trans rfl
  have H := Aside0.mk hA
  have HS := Aside0.mk hs
  have HP := Aside0.mk hp
  clear h hs hb0 hp
  by_cases hin : 0 ≤ n ∧ n < l.length
  · have HA := Aside0.mk (show askedA ⟨sz, l, lv⟩ n = 0 by unfold askedA; rw [if_pos hin])
    obtain ⟨m, rfl⟩ := Int.eq_ofNat_of_zero_le hin.1
    have hm : m < l.length := by omega
    obtain ⟨r, cap, rfl, _, _, hc0, _, _, _, hc⟩ := hA.slice (by dsimp only; omega)
    have HG := Aside0.mk (show getA ⟨sz, l, lv⟩ (m : Int) line = getS l[m] line by
      unfold getA; dsimp only; rw [if_pos hin, Int.toNat_natCast, List.getD_eq_getElem?_getD, List.getElem?_eq_getElem hm]; rfl)
    rw [HG.out]
    have hgf : page_Get.f l[m] line = some ((getS l[m] line).1, (getS l[m] line).2) := by unfold page_Get.f; rw [if_pos (HS.out _ (List.getElem_mem _))]
    have c1 := hA.cpages
    have c2 := hc m hm
    dsimp only at c1 c2
    obtain ⟨X, hX⟩ : ∃ X, l[m] = X := ⟨_, rfl⟩
    rw [hX] at c2 hgf ⊢
    obtain ⟨R1, hR1⟩ : ∃ R1, (getS X line).1 = R1 := ⟨_, rfl⟩
    obtain ⟨R2, hR2⟩ : ∃ R2, (getS X line).2 = R2 := ⟨_, rfl⟩
    rw [hR1, hR2] at hgf ⊢
    have HF := Aside0.mk hgf
    obtain ⟨N, hN⟩ : ∃ N, l.length = N := ⟨_, rfl⟩
    rw [hN] at c1 hm
    have hm1 : (m : Int) < N := by omega
    have hm0 : (0 : Int) ≤ m := by omega
    have HN := Aside0.mk hN
    clear hA hc hX hR1 hR2 hgf hin HG hN
    go_enter Try.func75, Try.ntmps75
    simp only [hW, hbb]
    go_wp2_with fail
    refine (area_asked (m : Int) W H.out HP.out).mono ?_
    rw [HA.out]
    rintro e w1 ⟨rfl, hb⟩
    replace c1 := pw_cell_below hb c1
    replace c2 := pw_cell_below hb c2
    replace d0 := pw_cell_below hb d0
    replace d1 := pw_cell_below hb d1
    have HB := Aside0.mk hb
    clear hb
    go_wp2_with fail
    go_region_held3 (fun w' => w'.cell? ⟨b, 0, none⟩ = some (.int .i64 (m : Int)) ∧ w'.cell? ⟨b, 1, none⟩ = some (.int .i64 line) ∧ w'.cell? ⟨g, 201, none⟩ = some (.slice (some ⟨r, 0, none⟩) N cap) ∧ w'.cell? ⟨r, m, none⟩ = some (.string X))
      (first | go_keep | exact ⟨pw_cell_below hb2 d0, pw_cell_below hb2 d1, pw_cell_below hb2 c1, pw_cell_below hb2 c2⟩)
      (first | (go_at_call 32; refine (page_Get.calls X line R1 R2 _ HF.out).mono ?_; rintro e w2 ⟨rfl, hb2⟩))
    go_wp2
    go_ret2
    exact ⟨rfl, hbb ▸ below_then HB0.out HB0.out.size (below_then (below_drew HB.out) HB.out.size hb2)⟩
  · have HA := Aside0.mk (show askedA ⟨sz, l, lv⟩ n = 7 by unfold askedA; rw [if_neg hin])
    have HG := Aside0.mk (show getA ⟨sz, l, lv⟩ n line = (⟨#[]⟩, 7) by unfold getA; dsimp only; rw [if_neg hin])
    rw [HG.out]
    clear hA hin HG
    go_enter Try.func75, Try.ntmps75
    simp only [hW, hbb]
    go_wp2_with fail
    refine (area_asked n W H.out HP.out).mono ?_
    rw [HA.out]
    rintro e w1 ⟨rfl, hb⟩
    go_wp2
    go_ret2
    exact ⟨rfl, hbb ▸ below_then HB0.out HB0.out.size hb⟩

end Go.Proofs.Ytemglmcddaeedaa.PA

namespace Go.Proofs.Ytemglmcddaeedaa.PA
open Go.RowKit Go.Proofs.YtemglmcddaeedaaW.PrintWords Go.Proofs.YtemglmcddaeedaaW.PrintLast Go.Proofs.YtemglmcddaeedaaW.PrintMore
attribute [local go_sem] max2_int min2_int max_two min_two max_three min_three max_four min_four   -- for this text's walks alone
set_option linter.unusedVariables false
set_option linter.unusedSimpArgs false

/-! ### area_near: function 0 -/
attribute [local go_sem] Oper.semAt_some
def nearV (f n : Nat) (i : Nat) : Array Value := #[.int .i64 (((f : Int) + (i : Int)) % (n : Int))]
set_option maxHeartbeats 4000000 in
set_option maxRecDepth 100000 in
theorem near1_iter (f n : Nat) (hf : f < n) (hn : n ≤ 1000) (ab fb g r cap : Nat) :
    IterC Try.prog 136 #[.pointer (some ⟨ab, 0, none⟩), .pointer (some ⟨fb, 0, none⟩)] 1 ((List.range n).map (nearV f n))
      (fun W => W.cell? ⟨ab, 0, none⟩ = some (.pointer (some ⟨g, 0, none⟩)) ∧ W.cell? ⟨fb, 0, none⟩ = some (.int .i64 (f : Int)) ∧ W.cell? ⟨g, 201, none⟩ = some (.slice (some ⟨r, 0, none⟩) n cap)) := by
  intro l rec J R W hps hJd hJK hJl hRd hround hdone h0
  have HJd := Aside0.mk hJd
  have HJK := Aside0.mk hJK
  have HJl := Aside0.mk hJl
  have HRd := Aside0.mk hRd
  have HR := Aside0.mk hround
  have HD := Aside0.mk hdone
  have HPS := Aside0.mk hps
  clear hJd hJK hJl hRd hround hdone hps
  obtain ⟨hb1, hb2, hb3⟩ := HJK.out 0 W h0
  have H0 := Aside0.mk h0
  clear h0
  refine callsIn_of_wp Try.func136 rfl trivial ?_ rfl
  simp only [Try.ntmps136, List.size_toArray, List.length_cons, List.length_nil, Nat.reduceAdd, Nat.reduceSub, Array.replicate_succ, Array.replicate_zero, List.push_toArray, List.append_toArray, List.nil_append, List.cons_append]
  gi_wp2_with fail
  gi_loopw [10] (fun v10 wr => ∃ i : Nat, i ≤ n ∧ v10 = .int .i64 (i : Int) ∧ Aside0 (J i wr)) (fun v10 _ => n - (intOf v10).toNat)
  case atStart => exact ⟨0, by omega, by simp, H0⟩
  case round =>
    clear H0 hb1 hb2 hb3
    obtain ⟨i, hi, rfl, HI⟩ := hrel
    by_cases hlt : i < n
    · obtain ⟨hb1, hb2, hb3⟩ := HJK.out i wr HI.out
      have hl := HJl.out i wr HI.out
      have hlt' : (i : Int) < n := by omega
      have hx1 : IntKind.i64.wrap ((f : Int) + (i : Int)) = (f : Int) + (i : Int) := IntWalk.i64_in _ (by omega)
      have hx2 : Int.tmod ((f : Int) + (i : Int)) (n : Int) = ((f : Int) + (i : Int)) % (n : Int) := Int.tmod_eq_emod_of_nonneg (by omega)
      have hq0 : 0 ≤ ((f : Int) + (i : Int)) % (n : Int) := Int.emod_nonneg _ (by omega)
      have hq1 : ((f : Int) + (i : Int)) % (n : Int) < n := Int.emod_lt_of_pos _ (by omega)
      have hx3 : IntKind.i64.wrap (((f : Int) + (i : Int)) % (n : Int)) = ((f : Int) + (i : Int)) % (n : Int) := IntWalk.i64_in _ (by omega)
      have hn0 : ¬ ((n : Int) = 0) := by omega
      have hn1 : ((n : Int) == 0) = false := by simpa using hn0
      have hv : ((List.range n).map (nearV f n))[i]? = some (nearV f n i) := by simp [hlt]
      have hr := fun m => HR.out i (nearV f n i) (wr.drewN m) hv (HJd.out i wr m HI.out)
      have hy : ∀ m, (Instr.yield l (nearV f n i)).run Try.prog (wr.drewN m) = .ok (.round l rec.fn ((rec.params.zip (nearV f n i)).foldl (fun tmps (t, a) => tmps.setIfInBounds t a) rec.tmps) rec.assign rec.body) (wr.drewN m) :=
        fun m => run_yield hl (by rw [HPS.out]; rfl)
      obtain ⟨tm, htm⟩ : ∃ tm, ((rec.params.zip (nearV f n i)).foldl (fun tmps (t, a) => tmps.setIfInBounds t a) rec.tmps) = tm := ⟨_, rfl⟩
      simp only [RoundOf, htm] at hr
      rw [htm] at hy
      unfold nearV at hy
      have hyd := hy 1
      have hrd := hr 1
      rw [show wr.drewN 1 = wr.drew from rfl] at hyd hrd
      have HR1 := Aside0.mk hrd
      clear hr hy hrd htm hv hl
      have hmo : Try.prog.follows .mixedOrders = true := by kernel_rfl
      gi_wp2_with fail
      gi_region_with_o (first
        | (with_reducible refine ⟨rfl, ?_⟩; (with_reducible refine HR1.out.mono ?_); rintro e W3 (⟨go, rfl, hJ3, hR3⟩ | ⟨ch, rfl, hR3⟩); rotate_left; (simp +zetaDelta only [Exit.then, Exit.inBlock, bodyPost]; exact ⟨trivial, hR3⟩)))
      all_goals
        cases go
        · gi_wp2_with fail
          refine bodyPost_ret (results_none rfl _ _ _) rfl (hR3 (by first | rfl | trivial))
        · have HJ4 := Aside0.mk (hJ3 rfl)
          clear hJ3 hR3
          gi_wp2_with fail
          go_roundw
          case rel => exact ⟨i + 1, by omega, by go_num, HJ4⟩
          case measure => simp [intOf]; omega
    · gi_wp2_with fail
      go_end0
      exact HD.out _ (by have h1 : i = n := by omega
                         subst h1; simpa using HI.out)

end Go.Proofs.Ytemglmcddaeedaa.PA

namespace Go.Proofs.Ytemglmcddaeedaa.PA
open Go.RowKit Go.Proofs.YtemglmcddaeedaaW.PrintWords Go.Proofs.YtemglmcddaeedaaW.PrintLast Go.Proofs.YtemglmcddaeedaaW.PrintMore
attribute [local go_sem] max2_int min2_int max_two min_two max_three min_three max_four min_four   -- for this text's walks alone
set_option linter.unusedVariables false
set_option linter.unusedSimpArgs false

/-! ### page_Fits: function 129 -/
attribute [local go_sem] max2_int max_two
def maxL (l : List S45) : Int := if leastL l ≤ lastL l then lastL l else leastL l
def fitsS (p : ByteArray) (b : Int) : Bool := decide (leastL (cellsP p) ≤ 200 ∧ b ≤ p.size ∧ 2 + 4 * maxL (cellsP p) + (bytesL (cellsP p) : Int) + b ≤ p.size)
def page_Fits.f (a0 : ByteArray) (a1 : Int) : Option (Bool × Int) := if a0.size ≤ 100000 ∧ 1 ≤ a1 ∧ a1 ≤ 100000 ∧ validS a0 then some (fitsS a0 a1, 0) else none
set_option maxHeartbeats 2000000 in
set_option maxRecDepth 100000 in
theorem page_Fits.calls (a0 : ByteArray) (a1 : Int) (r1 : Bool) (r2 : Int) (w : World) (h : page_Fits.f a0 a1 = some (r1, r2)) :
    Calls Try.prog 129 #[.string a0, .int .i64 a1] w fun e w' => e = .returned (.tuple #[.bool r1, .int .i64 r2]) ∧ Below w.heap.size w w' := by
  unfold page_Fits.f at h
  split at h
  rotate_left
  · cases h
  rename_i hs
  obtain ⟨hs1, hb1, hb2, hv⟩ := hs
  obtain ⟨rfl, rfl⟩ := Prod.mk.inj (Option.some.inj h)
  clear h
  obtain ⟨k1, k2, k3, k4, k5⟩ := cellsP_ok hv
  have hN : page_Next.f a0 = some (if leastL (cellsP a0) > 200 then (0, 13) else (leastL (cellsP a0), 0)) := by unfold page_Next.f; rw [if_pos hs1, if_pos hv]; rfl
  have HCF := Aside0.mk (cells_f hv)
  have hlr := leastL_range (cellsP a0) (cellsP a0).length (Nat.le_refl _)
  rw [List.take_length] at hlr
  have hln := lastL_nonneg k1
  have HFS := Aside0.mk (show fitsS a0 a1 = decide (leastL (cellsP a0) ≤ 200 ∧ a1 ≤ a0.size ∧ 2 + 4 * maxL (cellsP a0) + (bytesL (cellsP a0) : Int) + a1 ≤ a0.size) from rfl)
  obtain ⟨l, hl⟩ : ∃ l, cellsP a0 = l := ⟨_, rfl⟩
  rw [hl] at hN HCF hlr hln k1 k2 k3 HFS
  clear hl hv
  have d0 : decide (a1 < 0) = false := decide_eq_false (by omega)
  have d1 : (a1 == 0) = false := by simpa using (show ¬ a1 = 0 by omega)
  by_cases hbig : leastL l > 200
  · rw [if_pos hbig] at hN
    have HN := Aside0.mk hN
    rw [HFS.out, decide_eq_false (fun h => by omega)]
    clear hN hlr hln hbig
    go_enter Try.func129, Try.ntmps129
    go_wp2_with (go_at_call 27; refine (page_Next.calls a0 0 13 _ HN.out).mono ?_; rintro e w1 ⟨rfl, hb⟩)
    go_ret2
    exact ⟨rfl, hb⟩
  · rw [if_neg hbig] at hN
    by_cases hlen : a1 > (a0.size : Int)
    · have d2 : decide ((a0.size : Int) < a1) = true := decide_eq_true (by omega)
      rw [HFS.out, decide_eq_false (fun h => by omega)]
      have HN := Aside0.mk hN
      clear hN hlr hln hbig
      obtain ⟨L, hL⟩ : ∃ L, leastL l = L := ⟨_, rfl⟩
      rw [hL] at HN
      clear hL
      go_enter Try.func129, Try.ntmps129
      go_wp2_with (go_at_call 27; refine (page_Next.calls a0 L 0 _ HN.out).mono ?_; rintro e w1 ⟨rfl, hb⟩)
      go_ret2
      exact ⟨rfl, hb⟩
    · have d2 : decide ((a0.size : Int) < a1) = false := decide_eq_false (by omega)
      have hbt := bytesL_take_le l
      have HE := Aside0.mk (show fitsS a0 a1 = decide (2 + 4 * maxL l + (bytesL l : Int) + a1 ≤ a0.size) by
        rw [HFS.out, decide_eq_decide]; exact ⟨fun h => h.2.2, fun h => ⟨by omega, by omega, h⟩⟩)
      rw [HE.out]
      clear HFS
      have HN := Aside0.mk hN
      have HM := Aside0.mk (show maxL l = if leastL l ≤ lastL l then lastL l else leastL l from rfl)
      have HBT := Aside0.mk hbt
      have HLR := Aside0.mk (lastL_rd l)
      obtain ⟨L, hL⟩ : ∃ L, leastL l = L := ⟨_, rfl⟩
      obtain ⟨M, hM⟩ : ∃ M, lastL l = M := ⟨_, rfl⟩
      obtain ⟨X, hX⟩ : ∃ X, maxL l = X := ⟨_, rfl⟩
      rw [hL] at HN hlr hbig
      rw [hL, hM, hX] at HM
      rw [hM] at hln HLR
      rw [hX]
      have hL1 := hlr.1
      have hL2 : L ≤ 200 := by omega
      have hM1 := hln.1
      have hM2 := hln.2
      have hx1 : 0 ≤ X ∧ X ≤ 200 := by rw [HM.out]; split <;> omega
      have hx2 := hx1.1
      have hx3 := hx1.2
      have HX := Aside0.mk hX
      have HML := Aside0.mk hM
      clear hN hL hM hX hbt hlr hln hx1 hbig HE
      by_cases hz : 0 < l.length
      · have hd : decide (0 < l.length) = true := decide_eq_true hz
        have hl0 : (0 : Int) < l.length := by omega
        have HLR1 := Aside0.mk (HLR.out hz)
        by_cases hLM : L < M
        · obtain rfl : X = M := by rw [HM.out, if_pos (by omega)]
          have hd2 : decide (L < X) = true := decide_eq_true hLM
          go_enter Try.func129, Try.ntmps129
          go_wp2_with (go_at_call 27; refine (page_Next.calls a0 L 0 _ HN.out).mono ?_; rintro e w1 ⟨rfl, hb⟩)
          refine (page_cells.calls a0 l _ HCF.out).mono ?_
          rintro e w2 ⟨v, rfl, hR, hb2⟩
          have HB := Aside0.mk (below_then hb hb.size hb2)
          obtain ⟨A, c, rfl, hc, hC⟩ := Kd.R_reads hR
          have HC := Aside0.mk hC
          clear hR hC hb hb2
          obtain ⟨ad, e1, hx0, hx1⟩ := at_T45 HC.out ((l.length : Int) - 1) (by omega) (by omega)
          cases e1
          rw [show ((l.length : Int) - 1).toNat = l.length - 1 by omega, ← HLR1.out] at hx0
          clear hx1
          go_wp2_with fail
          go_loopw [10, 55] (fun v10 v55 wr => ∃ i : Nat, i ≤ l.length ∧ v10 = .int .i64 (bytesL (l.take i) : Int) ∧ v55 = .int .i64 (i : Int) ∧ Aside0 (Below w.heap.size w wr) ∧ Aside0 (Kd.C k45 wr (some ad) l.length l)) (fun _ v55 _ => l.length - (intOf v55).toNat)
          case atStart => exact ⟨0, by omega, by simp [bytesL], by simp, HB, HC⟩
          case round =>
            clear HB HC
            obtain ⟨i, hi, rfl, rfl, HB, HC⟩ := hrel
            by_cases hlt : i < l.length
            · obtain ⟨ad2, e2, hy0, hy1⟩ := at_T45 HC.out (i : Int) (by omega) (by omega)
              cases e2
              rw [rd_get l i hlt] at hy0 hy1
              simp only [Int.toNat_natCast] at hy0 hy1
              have hT := bytesL_take_succ l i hlt
              have hT1 := HBT.out (i + 1)
              obtain ⟨Y, hY⟩ : ∃ Y, l[i] = Y := ⟨_, rfl⟩
              rw [hY] at hy0 hy1 hT
              obtain ⟨S, hS⟩ : ∃ S, bytesL (l.take i) = S := ⟨_, rfl⟩
              rw [hS] at hT
              simp only [hS]
              have hs4 : (S : Int) + Y.f1.size ≤ 5000 := by omega
              have hi1 : (i : Int) < l.length := by omega
              have HT := Aside0.mk hT
              have hbk := blk_new wr (.cells #[.int .i64 Y.f0, .string Y.f1] 45)
              have c0 := (blk_cell hbk 0).trans rfl
              have c1 := (blk_cell hbk 1).trans rfl
              have HB2 := Aside0.mk (below_alloc HB.out (.cells #[.int .i64 Y.f0, .string Y.f1] 45))
              have HC2 := Aside0.mk (Kd.C_below HC.out (below_alloc (Below.refl _ wr) (.cells #[.int .i64 Y.f0, .string Y.f1] 45)))
              clear hY hS hT hT1 hbk HB HC
              go_wp2
              go_roundw
              case rel => exact ⟨i + 1, by omega, by rw [HT.out]; go_num, by go_num, HB2, HC2⟩
              case measure => simp [intOf]; omega
            · have HE := Aside0.mk (show l.take i = l from List.take_of_length_le (by omega))
              simp only [HE.out]
              have hby : (bytesL l : Int) ≤ 5000 := by omega
              have hby0 : (0 : Int) ≤ bytesL l := by omega
              go_wp2
              go_ret2
              exact ⟨by rfl, HB.out⟩
        · obtain rfl : X = L := by rw [HM.out]; split <;> omega
          have hd2 : decide (X < M) = false := decide_eq_false hLM
          go_enter Try.func129, Try.ntmps129
          go_wp2_with (go_at_call 27; refine (page_Next.calls a0 X 0 _ HN.out).mono ?_; rintro e w1 ⟨rfl, hb⟩)
          refine (page_cells.calls a0 l _ HCF.out).mono ?_
          rintro e w2 ⟨v, rfl, hR, hb2⟩
          have HB := Aside0.mk (below_then hb hb.size hb2)
          obtain ⟨A, c, rfl, hc, hC⟩ := Kd.R_reads hR
          have HC := Aside0.mk hC
          clear hR hC hb hb2
          obtain ⟨ad, e1, hx0, hx1⟩ := at_T45 HC.out ((l.length : Int) - 1) (by omega) (by omega)
          cases e1
          rw [show ((l.length : Int) - 1).toNat = l.length - 1 by omega, ← HLR1.out] at hx0
          clear hx1
          go_wp2_with fail
          go_loopw [10, 55] (fun v10 v55 wr => ∃ i : Nat, i ≤ l.length ∧ v10 = .int .i64 (bytesL (l.take i) : Int) ∧ v55 = .int .i64 (i : Int) ∧ Aside0 (Below w.heap.size w wr) ∧ Aside0 (Kd.C k45 wr (some ad) l.length l)) (fun _ v55 _ => l.length - (intOf v55).toNat)
          case atStart => exact ⟨0, by omega, by simp [bytesL], by simp, HB, HC⟩
          case round =>
            clear HB HC
            obtain ⟨i, hi, rfl, rfl, HB, HC⟩ := hrel
            by_cases hlt : i < l.length
            · obtain ⟨ad2, e2, hy0, hy1⟩ := at_T45 HC.out (i : Int) (by omega) (by omega)
              cases e2
              rw [rd_get l i hlt] at hy0 hy1
              simp only [Int.toNat_natCast] at hy0 hy1
              have hT := bytesL_take_succ l i hlt
              have hT1 := HBT.out (i + 1)
              obtain ⟨Y, hY⟩ : ∃ Y, l[i] = Y := ⟨_, rfl⟩
              rw [hY] at hy0 hy1 hT
              obtain ⟨S, hS⟩ : ∃ S, bytesL (l.take i) = S := ⟨_, rfl⟩
              rw [hS] at hT
              simp only [hS]
              have hs4 : (S : Int) + Y.f1.size ≤ 5000 := by omega
              have hi1 : (i : Int) < l.length := by omega
              have HT := Aside0.mk hT
              have hbk := blk_new wr (.cells #[.int .i64 Y.f0, .string Y.f1] 45)
              have c0 := (blk_cell hbk 0).trans rfl
              have c1 := (blk_cell hbk 1).trans rfl
              have HB2 := Aside0.mk (below_alloc HB.out (.cells #[.int .i64 Y.f0, .string Y.f1] 45))
              have HC2 := Aside0.mk (Kd.C_below HC.out (below_alloc (Below.refl _ wr) (.cells #[.int .i64 Y.f0, .string Y.f1] 45)))
              clear hY hS hT hT1 hbk HB HC
              go_wp2
              go_roundw
              case rel => exact ⟨i + 1, by omega, by rw [HT.out]; go_num, by go_num, HB2, HC2⟩
              case measure => simp [intOf]; omega
            · have HE := Aside0.mk (show l.take i = l from List.take_of_length_le (by omega))
              simp only [HE.out]
              have hby : (bytesL l : Int) ≤ 5000 := by omega
              have hby0 : (0 : Int) ≤ bytesL l := by omega
              go_wp2
              go_ret2
              exact ⟨by rfl, HB.out⟩
      · have hd : decide (0 < l.length) = false := decide_eq_false hz
        obtain rfl : X = L := by
          have : l = [] := List.eq_nil_of_length_eq_zero (by omega)
          have h0 : M = 0 := by rw [← HML.out, this]; rfl
          rw [HM.out]; split <;> omega
        go_enter Try.func129, Try.ntmps129
        go_wp2_with (go_at_call 27; refine (page_Next.calls a0 X 0 _ HN.out).mono ?_; rintro e w1 ⟨rfl, hb⟩)
        refine (page_cells.calls a0 l _ HCF.out).mono ?_
        rintro e w2 ⟨v, rfl, hR, hb2⟩
        have HB := Aside0.mk (below_then hb hb.size hb2)
        obtain ⟨A, c, rfl, hc, hC⟩ := Kd.R_reads hR
        have HC := Aside0.mk hC
        clear hR hC hb hb2
        go_wp2_with fail
        go_loopw [10, 55] (fun v10 v55 wr => ∃ i : Nat, i ≤ l.length ∧ v10 = .int .i64 (bytesL (l.take i) : Int) ∧ v55 = .int .i64 (i : Int) ∧ Aside0 (Below w.heap.size w wr) ∧ Aside0 (Kd.C k45 wr A l.length l)) (fun _ v55 _ => l.length - (intOf v55).toNat)
        case atStart => exact ⟨0, by omega, by simp [bytesL], by simp, HB, HC⟩
        case round =>
          clear HB HC
          obtain ⟨i, hi, rfl, rfl, HB, HC⟩ := hrel
          by_cases hlt : i < l.length
          · exact absurd hlt (by omega)
          · have HE := Aside0.mk (show l.take i = l from List.take_of_length_le (by omega))
            simp only [HE.out]
            have hby : (bytesL l : Int) ≤ 5000 := by omega
            have hby0 : (0 : Int) ≤ bytesL l := by omega
            go_wp2
            go_ret2
            exact ⟨by rfl, HB.out⟩

end Go.Proofs.Ytemglmcddaeedaa.PA

namespace Go.Proofs.Ytemglmcddaeedaa.PA
open Go.RowKit Go.Proofs.YtemglmcddaeedaaW.PrintWords Go.Proofs.YtemglmcddaeedaaW.PrintLast Go.Proofs.YtemglmcddaeedaaW.PrintMore
attribute [local go_sem] max2_int min2_int max_two min_two max_three min_three max_four min_four   -- for this text's walks alone
set_option linter.unusedVariables false
set_option linter.unusedSimpArgs false

/-! ### area_find: function 0 -/
attribute [local go_sem] Oper.semAt_some
theorem leavesM_ret1 {P : Program} {fn : Func} {tmps : Array Value} {R : Ending → World → Prop} {v : Value} {W : World} {D : Nat} (hD : W.heap[D]? = some (.deferred (some [])))
    (hr : (results fn tmps).run P (W.putObj D (.deferred none)) = .ok v (W.putObj D (.deferred none))) (hR : R (.returned v) (W.putObj D (.deferred none))) : LeavesInM Fence.wide 0 P fn tmps R [{ target := .collected D, args := #[] }] .returning W :=
  ⟨by simp, .inl ⟨D, _, rfl, run_takeDeferred hD, v, hr, hR⟩⟩
theorem wpIn_hideP {P : Program} {F : Fence} {n : Nat} {c : Code} {Q : Exit → Act → World → Prop} {a : Act} {w : World} (hn : ∀ a w, ¬ Q .outgrown a w) (hp : ∀ ch a d v w, Q (.panic ch) (Act.put a d v) w → Q (.panic ch) a w)
    (h : ∀ Q', Aside0 (∀ e a w, Q e a w → Q' e a w) → Aside0 (∀ a w, ¬ Q' .outgrown a w) → Aside0 (∀ ch a d v w, Q' (.panic ch) (Act.put a d v) w → Q' (.panic ch) a w) → c.wpIn F n P Q' a w) : c.wpIn F n P Q a w := h Q (Aside0.mk fun _ _ _ h => h) (Aside0.mk hn) (Aside0.mk hp)
/-- Whether the j-th page that is looked at is taken. -/
def tryAt (a : AreaS) (f : Nat) (bytes : Int) (j : Nat) : Bool :=
  decide (bytes * 8 / a.size ≤ a.lv.getD ((f + j) % a.pages.length) 0) && fitsS (a.pages.getD ((f + j) % a.pages.length) ⟨#[]⟩) bytes
def findA (a : AreaS) (f : Nat) (bytes : Int) : Int × Int :=
  match (List.range a.pages.length).find? (tryAt a f bytes) with
  | some j => ((((f + j) % a.pages.length : Nat) : Int), 0)
  | none => (0, 13)
set_option maxHeartbeats 4000000 in
set_option maxRecDepth 100000 in
theorem near_calls (g : Nat) (f : Int) (w : World) : Calls Try.prog 127 #[.pointer (some ⟨g, 0, none⟩), .int .i64 f] w fun e w' =>
    e = .returned (.func (.func 136) #[] #[.pointer (some ⟨w.heap.size, 0, none⟩), .pointer (some ⟨w.heap.size + 1, 0, none⟩)]) ∧ w' = (w.alloc (.cells #[.pointer (some ⟨g, 0, none⟩)] 53)).alloc (.cells #[.int .i64 f] 3) := by
  go_enter Try.func127, Try.ntmps127
  go_wp2
  go_ret
  exact ⟨rfl, rfl⟩
set_option maxHeartbeats 4000000 in
set_option maxRecDepth 100000 in
theorem area_Find_loop {base g : Nat} {v : Value} {a : AreaS} (f : Nat) (hf : f < a.pages.length) (hn : a.pages.length ≤ 200) (bytes : Int) (hb0 : 1 ≤ bytes) (hb1 : bytes ≤ a.size) (hs : 32 ≤ a.size ∧ a.size ≤ 4096)
    (hlv : ∀ i, i < 200 → 0 ≤ a.lv.getD i 0 ∧ a.lv.getD i 0 ≤ 255) (hfit : ∀ p ∈ a.pages, validS p) (w : World) (h : AreaAt w base g v a) :
    Calls Try.prog 114 #[.pointer (some ⟨g, 0, none⟩), .int .i64 (f : Int), .int .i64 bytes] w fun e w' => e = .returned (.tuple #[.int .i64 (findA a f bytes).1, .int .i64 (findA a f bytes).2]) ∧ Below w.heap.size w w' := by
  refine calls_of_wpX Try.func114 rfl ?_
  simp only [Try.ntmps114, List.size_toArray, List.length_cons, List.length_nil, Nat.reduceAdd, Nat.reduceSub, Array.replicate_succ, Array.replicate_zero, List.push_toArray, List.append_toArray, List.nil_append, List.cons_append]
  obtain ⟨R, hR⟩ : ∃ R : Ending → World → Prop, (fun e w' => e = .returned (.tuple #[.int .i64 (findA a f bytes).1, .int .i64 (findA a f bytes).2]) ∧ Below w.heap.size w w') = R := ⟨_, rfl⟩
  rw [hR]
  have HR := Aside0.mk hR
  have HF := Aside0.mk hfit
  have HLV := Aside0.mk hlv
  have HA := Aside0.mk (show askedA a (f : Int) = 0 by unfold askedA; rw [if_pos ⟨by omega, by omega⟩])
  obtain ⟨r, cap, rfl, _, _, hc0, _, _, _, hc⟩ := h.slice (by omega)
  have HC := Aside0.mk hc
  have HH := Aside0.mk h
  clear hR hfit hlv hc h
  obtain ⟨b, hb⟩ : ∃ b, w.heap.size = b := ⟨_, rfl⟩
  obtain ⟨W0, hW⟩ : ∃ W, (((w.alloc (.cells #[.pointer (some ⟨g, 0, none⟩)] 53)).alloc (.cells #[.int .i64 bytes] 3)).alloc (.cells #[.int .i64 0] 3)).alloc (.cells #[.int .i64 0] 28) = W := ⟨_, rfl⟩
  have hsz : W0.heap.size = b + 4 := by rw [← hW, ← hb]; simp
  have hB0 : Below w.heap.size w W0 := by rw [← hW]; exact below_alloc (below_alloc (below_alloc (below_alloc (Below.refl _ w) _) _) _) _
  have h0 : W0.heap[b]? = some (.cells #[.pointer (some ⟨g, 0, none⟩)] 53) := by rw [← hW, ← hb]; exact blk_alloc (blk_alloc (blk_alloc (blk_new _ _) _) _) _
  have h1 : W0.heap[b + 1]? = some (.cells #[.int .i64 bytes] 3) := by rw [← hW, ← hb]; have := blk_alloc (blk_alloc (blk_new (w.alloc (.cells #[.pointer (some ⟨g, 0, none⟩)] 53)) (.cells #[.int .i64 bytes] 3)) (.cells #[.int .i64 0] 3)) (.cells #[.int .i64 0] 28); simpa using this
  have h2 : W0.heap[b + 2]? = some (.cells #[.int .i64 0] 3) := by rw [← hW, ← hb]; have := blk_alloc (blk_new ((w.alloc (.cells #[.pointer (some ⟨g, 0, none⟩)] 53)).alloc (.cells #[.int .i64 bytes] 3)) (.cells #[.int .i64 0] 3)) (.cells #[.int .i64 0] 28); simpa using this
  have h3 : W0.heap[b + 3]? = some (.cells #[.int .i64 0] 28) := by rw [← hW, ← hb]; have := blk_new (((w.alloc (.cells #[.pointer (some ⟨g, 0, none⟩)] 53)).alloc (.cells #[.int .i64 bytes] 3)).alloc (.cells #[.int .i64 0] 3)) (.cells #[.int .i64 0] 28); simpa using this
  have hH0 := HH.out.below hB0
  have c0 := (blk_cell h0 0).trans rfl
  have c1 := (blk_cell h1 0).trans rfl
  have HZ := Aside0.mk hH0.csize
  have HB0 := Aside0.mk hB0
  have HBK := Aside0.mk (And.intro h0 (And.intro h1 (And.intro h2 h3)))
  have HH0 := Aside0.mk hH0
  have HSZ := Aside0.mk hsz
  have HB := Aside0.mk hb
  have d1 : decide (bytes < 1) = false := decide_eq_false (by omega)
  have d2 : decide (a.size < bytes) = false := decide_eq_false (by omega)
  clear h0 h1 h2 h3 hH0 hB0 hsz
  refine wpX_seq_k ?_
  intro K hK
  go_wp2_with fail
  simp only [hb, hW, Nat.add_assoc, Nat.reduceAdd]
  clear hW hb
  refine wpX_seq_k ?_
  intro K1 hK1
  go_wp2_with fail
  refine (area_asked (f : Int) W0 HH0.out (by omega)).mono ?_
  rw [HA.out]
  rintro e w1 ⟨rfl, hb⟩
  have HA1 := Aside0.mk (HH0.out.below hb)
  have HB1 := Aside0.mk hb
  have HK1 := Aside0.mk (And.intro (hb.block b (blk_lt HBK.out.1) |>.trans HBK.out.1) (And.intro (hb.block (b + 1) (blk_lt HBK.out.2.1) |>.trans HBK.out.2.1) (And.intro (hb.block (b + 2) (blk_lt HBK.out.2.2.1) |>.trans HBK.out.2.2.1) (hb.block (b + 3) (blk_lt HBK.out.2.2.2) |>.trans HBK.out.2.2.2))))
  replace c0 := pw_cell_below hb c0
  replace c1 := pw_cell_below hb c1
  have c2 := HA1.out.csize
  clear hb
  go_wp2_with fail
  refine wpX_seq_k ?_
  intro K2 hK2
  go_wp2_with fail
  refine wpX_seq_k ?_
  intro K3 hK3
  go_wp2_with fail
  go_quiet (fail)
  go_wp2_with fail
  refine wpX_seq_x ?_
  intro K4 hK4
  refine wpX_seq_k ?_
  intro K5 hK5
  go_wp2_with fail
  obtain ⟨q, hq⟩ : ∃ q, w1.heap.size = q := ⟨_, rfl⟩
  have hqb : b + 4 ≤ q := by rw [← hq, ← HSZ.out]; exact HB1.out.size
  obtain ⟨W1, hW1⟩ : ∃ W, ((w1.drewN nq).alloc (.cells #[.pointer (some ⟨g, 0, none⟩)] 53)).alloc (.cells #[.int .i64 (f : Int)] 3) = W := ⟨_, rfl⟩
  have hs1 : W1.heap.size = q + 2 := by rw [← hW1, ← hq]; simp
  have hb2 : Below b w W1 := by
    have h9 := below_alloc (below_alloc (pw_below_drewN (below_then HB0.out HB0.out.size HB1.out) nq) (.cells #[.pointer (some ⟨g, 0, none⟩)] 53)) (.cells #[.int .i64 (f : Int)] 3)
    rw [HB.out, hW1] at h9; exact h9
  have g0 : W1.heap[b]? = some (.cells #[.pointer (some ⟨g, 0, none⟩)] 53) := by rw [← hW1]; exact blk_alloc (blk_alloc (blk_drewN HK1.out.1 nq) _) _
  have g1 : W1.heap[b + 1]? = some (.cells #[.int .i64 bytes] 3) := by rw [← hW1]; exact blk_alloc (blk_alloc (blk_drewN HK1.out.2.1 nq) _) _
  have g2 : W1.heap[b + 2]? = some (.cells #[.int .i64 0] 3) := by rw [← hW1]; exact blk_alloc (blk_alloc (blk_drewN HK1.out.2.2.1 nq) _) _
  have g3 : W1.heap[b + 3]? = some (.cells #[.int .i64 0] 28) := by rw [← hW1]; exact blk_alloc (blk_alloc (blk_drewN HK1.out.2.2.2 nq) _) _
  have g4 : W1.heap[q]? = some (.cells #[.pointer (some ⟨g, 0, none⟩)] 53) := by rw [← hW1, ← hq]; exact blk_alloc (blk_new (w1.drewN nq) _) _
  have g5 : W1.heap[q + 1]? = some (.cells #[.int .i64 (f : Int)] 3) := by rw [← hW1, ← hq]; have := blk_new ((w1.drewN nq).alloc (.cells #[.pointer (some ⟨g, 0, none⟩)] 53)) (.cells #[.int .i64 (f : Int)] 3); simpa using this
  refine (near_calls g (f : Int) (w1.drewN nq)).mono ?_
  rintro e w2 ⟨rfl, rfl⟩
  rw [hW1]
  have hq' : (w1.drewN nq).heap.size = q := hq
  simp only [hq']
  go_wp2_with fail
  clear hq hq' c0 c1 c2 hW1
  refine wpX_block ?_
  obtain ⟨N, hN⟩ : ∃ N, a.pages.length = N := ⟨_, rfl⟩
  have HN := Aside0.mk hN
  have hfN : f < N := by omega
  have hN2 : N ≤ 200 := by omega
  have hKp : ∀ W : World, Below b w W → W.heap[q]? = some (.cells #[.pointer (some ⟨g, 0, none⟩)] 53) → W.heap[q + 1]? = some (.cells #[.int .i64 (f : Int)] 3) →
      W.cell? ⟨q, 0, none⟩ = some (.pointer (some ⟨g, 0, none⟩)) ∧ W.cell? ⟨q + 1, 0, none⟩ = some (.int .i64 (f : Int)) ∧ W.cell? ⟨g, 201, none⟩ = some (.slice (some ⟨r, 0, none⟩) N cap) := fun W h1 h2 h3 =>
    ⟨(blk_cell h2 0).trans rfl, (blk_cell h3 0).trans rfl, by have := (HH.out.below (by rw [HB.out]; exact h1)).cpages; rw [HN.out] at this; exact this⟩
  have HKP := Aside0.mk hKp
  clear hKp hN
  refine wpX_range (gf := 136) (lb := #[.pointer (some ⟨q, 0, none⟩), .pointer (some ⟨q + 1, 0, none⟩)]) (xs := (List.range N).map (nearV f N))
    (Kp := fun W => W.cell? ⟨q, 0, none⟩ = some (.pointer (some ⟨g, 0, none⟩)) ∧ W.cell? ⟨q + 1, 0, none⟩ = some (.int .i64 (f : Int)) ∧ W.cell? ⟨g, 201, none⟩ = some (.slice (some ⟨r, 0, none⟩) N cap)) rfl (fun _ _ => rfl) (near1_iter f N hfN (by omega) q (q + 1) g r cap) (by simp [nearV])
    (fun i W => (∀ j, j < i → tryAt a f bytes j = false) ∧ Below b w W ∧ W.heap[b]? = some (.cells #[.pointer (some ⟨g, 0, none⟩)] 53) ∧ W.heap[b + 1]? = some (.cells #[.int .i64 bytes] 3) ∧ W.heap[b + 2]? = some (.cells #[.int .i64 0] 3) ∧ W.heap[b + 3]? = some (.cells #[.int .i64 0] 28) ∧ W.heap[q]? = some (.cells #[.pointer (some ⟨g, 0, none⟩)] 53) ∧ W.heap[q + 1]? = some (.cells #[.int .i64 (f : Int)] 3))
    (fun i a₁ W => ((∀ j, j < i → tryAt a f bytes j = false) ∧ Below b w W ∧ W.heap[b]? = some (.cells #[.pointer (some ⟨g, 0, none⟩)] 53) ∧ W.heap[b + 1]? = some (.cells #[.int .i64 bytes] 3) ∧ W.heap[b + 2]? = some (.cells #[.int .i64 0] 3) ∧ W.heap[b + 3]? = some (.cells #[.int .i64 0] 28) ∧ W.heap[q]? = some (.cells #[.pointer (some ⟨g, 0, none⟩)] 53) ∧ W.heap[q + 1]? = some (.cells #[.int .i64 (f : Int)] 3)) ∧
      a₁ = { tmps := #[.pointer (some ⟨g, 0, none⟩), .int .i64 (f : Int), .int .i64 bytes, .pointer (some ⟨b, 0, none⟩), undef, .pointer (some ⟨b + 1, 0, none⟩), .pointer (some ⟨b + 2, 0, none⟩), .pointer (some ⟨b + 3, 0, none⟩), .int .i64 0, .int .i64 (((f : Int) + (i : Int)) % (N : Int)), undef, undef, .pointer (some ⟨g, 0, none⟩), .int .i64 (f : Int), .int .i64 0, .int .i64 0, .bool false, undef, .int .i64 bytes, .bool false, .int .i64 bytes,
          .pointer (some ⟨g, 0, none⟩), .pointer (some ⟨g, 0, none⟩), .pointer (some ⟨g, 200, none⟩), .int .i64 a.size, .bool false, .pointer (some ⟨g, 0, none⟩), .int .i64 (f : Int), .func (.func 136) #[] #[.pointer (some ⟨q, 0, none⟩), .pointer (some ⟨q + 1, 0, none⟩)], .int .i64 (((f : Int) + (i : Int)) % (N : Int)),
          undef, undef, undef, undef, undef, undef, undef, undef, undef, undef, undef, undef, undef, undef, undef, undef, undef, undef, undef, undef, undef, undef, undef, undef, undef], defers := [] })
    (fun c W => c = .ret ∧ ∃ j, j < N ∧ (∀ j', j' < j → tryAt a f bytes j' = false) ∧ tryAt a f bytes j = true ∧ Below b w W ∧ W.heap[b + 2]? = some (.cells #[.int .i64 (((f : Int) + (j : Int)) % (N : Int))] 3) ∧ W.heap[b + 3]? = some (.cells #[.int .i64 0] 28))
    (fun _ _ => False)
    ?_ ?_ ?_ ?_ ?_ ?_ ?_ ?_ ?_ ?_ ?_ ?_ ?_
  all_goals try simp only [hs1, Nat.add_assoc, Nat.reduceAdd]
  case refine_1 =>
    rintro i W o o' ⟨e1, e2, e3, e4, e5, e6, e7, e8⟩ -
    exact ⟨e1, below_putObj e2 (by omega) _, blk_putObj e3 (by omega), blk_putObj e4 (by omega), blk_putObj e5 (by omega), blk_putObj e6 (by omega), blk_putObj e7 (by omega), blk_putObj e8 (by omega)⟩
  case refine_2 =>
    rintro i a₁ W o o' ⟨⟨e1, e2, e3, e4, e5, e6, e7, e8⟩, e9⟩ -
    exact ⟨⟨e1, below_putObj e2 (by omega) _, blk_putObj e3 (by omega), blk_putObj e4 (by omega), blk_putObj e5 (by omega), blk_putObj e6 (by omega), blk_putObj e7 (by omega), blk_putObj e8 (by omega)⟩, e9⟩
  case refine_3 =>
    rintro c W o o' ⟨rfl, j, e1, e2, e3, e4, e5, e6⟩ -
    exact ⟨rfl, j, e1, e2, e3, below_putObj e4 (by omega) _, blk_putObj e5 (by omega), blk_putObj e6 (by omega)⟩
  case refine_4 =>
    rintro i W m ⟨e1, e2, e3, e4, e5, e6, e7, e8⟩
    exact ⟨e1, pw_below_drewN e2 m, e3, e4, e5, e6, e7, e8⟩
  case refine_5 =>
    rintro c W m ⟨rfl, j, e1, e2, e3, e4, e5, e6⟩
    exact ⟨rfl, j, e1, e2, e3, pw_below_drewN e4 m, e5, e6⟩
  case refine_6 => exact fun _ _ _ h => h.elim
  case refine_7 =>
    rintro i W ⟨e1, e2, e3, e4, e5, e6, e7, e8⟩
    exact HKP.out W e2 e7 e8
  case refine_8 =>
    intro rec
    have hl : w.heap.size ≤ W1.heap.size := by rw [hs1, HB.out]; omega
    exact ⟨fun j hj => by omega, by have := below_alloc (below_alloc (by rw [HB.out]; exact hb2 : Below w.heap.size w W1) (.deferred (some []))) (.loop rec); rw [HB.out] at this; exact this, blk_alloc (blk_alloc g0 _) _, blk_alloc (blk_alloc g1 _) _, blk_alloc (blk_alloc g2 _) _, blk_alloc (blk_alloc g3 _) _, blk_alloc (blk_alloc g4 _) _, blk_alloc (blk_alloc g5 _) _⟩
  case refine_9 =>
    rintro i v W hv ⟨e1, e2, e3, e4, e5, e6, e7, e8⟩ hlt
    refine wpIn_hide ?_
    intro Q HQ
    have HR1 := Aside0.mk (And.intro HQ.out (And.intro e1 (And.intro e2 (And.intro e3 (And.intro e4 (And.intro e5 (And.intro e6 (And.intro e7 e8))))))))
    have hvv : v = nearV f N i := by
      rcases List.getElem?_eq_some_iff.1 hv with ⟨q1, q2⟩
      rw [← q2]; simp
    clear HQ hv e1 e2 e3 e4 e5 e6 e7 e8
    subst hvv
    unfold nearV
    simp only [List.zip_toArray, List.zip_cons_cons, List.zip_nil_right, List.size_toArray, List.length_cons, List.length_nil, Nat.reduceAdd, List.foldl_toArray', List.foldl_cons, List.foldl_nil]
    gi_wp2_with fail
    refine HR1.out.1 _ _ _ ⟨⟨HR1.out.2, rfl⟩, rfl, rfl⟩
  case refine_10 =>
    rintro i v a₁ W hv ⟨⟨e1, e2, e3, e4, e5, e6, e7, e8⟩, rfl⟩ hlt
    clear hK4 g0 g1 g2 g3 g4 g5 hb2 hs1
    have hi : i < N := by
      have := (List.getElem?_eq_some_iff.1 hv).1
      simpa using this
    obtain ⟨m, hm⟩ : ∃ m : Nat, (f + i) % N = m := ⟨_, rfl⟩
    have hmN : m < N := by rw [← hm]; exact Nat.mod_lt _ (by omega)
    have hmI : ((f : Int) + (i : Int)) % (N : Int) = (m : Int) := by rw [← hm]; rfl
    simp only [hmI]
    have hA := HH.out.below (by rw [HB.out]; exact e2)
    have hml : m < a.pages.length := by rw [HN.out]; exact hmN
    have hq : (f + i) % a.pages.length = m := by rw [HN.out]; exact hm
    have c0 := (blk_cell e3 0).trans rfl
    have c1 := (blk_cell e4 0).trans rfl
    have c2 := hA.csize
    have c3 := hA.cpages
    have c4 := hA.clv m (by omega)
    rw [HN.out] at c3
    have c5a := HC.out m hml
    have c5 := ((show Below w.heap.size w W by rw [HB.out]; exact e2).cell (World.block_lt_of_cell? w _ c5a)).trans c5a
    have hv5 := HF.out (a.pages[m]'hml) (List.getElem_mem _)
    have hx := HLV.out m (by omega)
    have f2 := blk_frozen e5 0
    have f3 := blk_frozen e6 0
    have k2 := (blk_cell e5 0).trans rfl
    have k3 := (blk_cell e6 0).trans rfl
    have HTR := Aside0.mk (show tryAt a f bytes i = (decide (bytes * 8 / a.size ≤ a.lv.getD m 0) && fitsS (a.pages[m]'hml) bytes) by
      unfold tryAt; rw [hq, List.getD_eq_getElem?_getD (l := a.pages), List.getElem?_eq_getElem hml]; rfl)
    have HE := Aside0.mk (And.intro e1 (And.intro e2 (And.intro e3 (And.intro e4 (And.intro e5 (And.intro e6 (And.intro e7 e8)))))))
    obtain ⟨x, hxx⟩ : ∃ x, a.lv.getD m 0 = x := ⟨_, rfl⟩
    obtain ⟨X, hX⟩ : ∃ X, a.pages[m]'hml = X := ⟨_, rfl⟩
    obtain ⟨S, hS⟩ : ∃ S, a.size = S := ⟨_, rfl⟩
    rw [hxx] at c4 hx HTR
    rw [hX] at c5 hv5 HTR
    rw [hS] at c2 hs hb1 HTR
    have HFF := Aside0.mk (show page_Fits.f X bytes = some (fitsS X bytes, 0) by
      unfold page_Fits.f
      have := validS_spec X hv5
      rw [if_pos ⟨by omega, hb0, by omega, hv5⟩])
    have HIN := Aside0.mk hmI
    have HS := Aside0.mk (And.intro hx (And.intro hb0 (And.intro hb1 hs)))
    have hm0 : (0 : Int) ≤ m := by omega
    have hm1 : (m : Int) < N := by omega
    have hm2 : (m : Int) < 200 := by omega
    have hmo : Try.prog.follows .mixedOrders = true := by kernel_rfl
    clear e1 e2 e3 e4 e5 e6 e7 e8 hA hv hm hmI hxx c5a hX hS hv5 hx d2 hs hb1 hq
    refine wpIn_hideP (fun a w h => h.2.2) (fun ch a d v w h => h.2.2.2.elim) ?_
    intro Q HQ HNO HPP
    by_cases hmay : bytes * 8 / S ≤ x
    · have dm : decide (bytes * 8 / S ≤ x) = true := decide_eq_true hmay
      gi_wp2_with fail
      refine round_region_quiet hmo (by kernel_rfl) (by kernel_rfl) ?_
      repeat (go_big_quiet_step ((go_at_call 128; refine (area_may g m (by omega) x bytes S HS.out.1 ⟨HS.out.2.1, HS.out.2.2.1⟩ HS.out.2.2.2.1 HS.out.2.2.2.2 _ (by exact c4)).mono ?_; rintro e w' ⟨rfl, ⟨m', rfl⟩⟩; exact ⟨by rw [dm], _, World.drewN_drewN ..⟩)))
      refine wpQuiet_nil ?_
      rintro _ ⟨nq2, rfl⟩
      gi_wp2_with fail
      have HF1 := Aside0.mk (show ∀ V V' : World, V.heap = W.heap → Below w.heap.size w V → Below V.heap.size V V' → (Below b w V' ∧ V'.heap[b]? = some (.cells #[.pointer (some ⟨g, 0, none⟩)] 53) ∧ V'.heap[b + 1]? = some (.cells #[.int .i64 bytes] 3) ∧ V'.heap[b + 2]? = some (.cells #[.int .i64 0] 3) ∧ V'.heap[b + 3]? = some (.cells #[.int .i64 0] 28) ∧ V'.heap[q]? = some (.cells #[.pointer (some ⟨g, 0, none⟩)] 53) ∧ V'.heap[q + 1]? = some (.cells #[.int .i64 (f : Int)] 3)) ∧ V'.heap[q + 3]? = W.heap[q + 3]? ∧ V'.heap[q + 2]? = W.heap[q + 2]? by
        intro V V' hV hVB h
        have hk : ∀ k, k < W.heap.size → V'.heap[k]? = W.heap[k]? := fun k hk => by rw [h.block k (by rw [hV]; exact hk), hV]
        have hE := HE.out.2
        have l1 := blk_lt hE.2.1
        refine ⟨⟨?_, (hk _ (blk_lt hE.2.1)).trans hE.2.1, (hk _ (blk_lt hE.2.2.1)).trans hE.2.2.1, (hk _ (blk_lt hE.2.2.2.1)).trans hE.2.2.2.1, (hk _ (blk_lt hE.2.2.2.2.1)).trans hE.2.2.2.2.1, (hk _ (blk_lt hE.2.2.2.2.2.1)).trans hE.2.2.2.2.2.1, (hk _ (blk_lt hE.2.2.2.2.2.2)).trans hE.2.2.2.2.2.2⟩, hk _ (by omega), hk _ (by omega)⟩
        have := below_then hVB hVB.size h
        rw [HB.out] at this
        exact this)
      have HBW := Aside0.mk (show Below w.heap.size w W by rw [HB.out]; exact HE.out.2.1)
      obtain ⟨FT, hft⟩ : ∃ FT, fitsS X bytes = FT := ⟨_, rfl⟩
      rw [hft] at HFF HTR
      clear hft
      have hS : (fun w' : World => w'.cell? ⟨b, 0, none⟩ = some (.pointer (some ⟨g, 0, none⟩)) ∧ w'.cell? ⟨g, 201, none⟩ = some (.slice (some ⟨r, 0, none⟩) N cap) ∧ w'.cell? ⟨r, m, none⟩ = some (.string X) ∧ w'.cell? ⟨b + 1, 0, none⟩ = some (.int .i64 bytes)) ((W.drewN nq2).drew) := ⟨c0, c3, c5, c1⟩
      refine round_region_any hmo (by kernel_rfl) (fun a w h => HNO.out _ _ h) (wpAny_of_held (S := fun w' : World => w'.cell? ⟨b, 0, none⟩ = some (.pointer (some ⟨g, 0, none⟩)) ∧ w'.cell? ⟨g, 201, none⟩ = some (.slice (some ⟨r, 0, none⟩) N cap) ∧ w'.cell? ⟨r, m, none⟩ = some (.string X) ∧ w'.cell? ⟨b + 1, 0, none⟩ = some (.int .i64 bytes)) _ _ _ _ ?_)
      change wpAnyH _ _ _ _ _ _ _ _ (W.drewN nq2).drew
      refine wpAnyH_take (i := 0) (v := (.pointer (some ⟨g, 0, none⟩))) rfl (by kernel_rfl) (by kernel_rfl) (by kernel_rfl) (fun c a w h => HPP.out c a _ _ w h) (Or.inl ⟨by rfl, by intro w hSw; obtain ⟨s1, s2, s3, s4⟩ := hSw; first | (go_simp; done) | (go_simp; with_reducible rfl)⟩) hS ?_
      simp only [Act.put, List.setIfInBounds_toArray, List.set_cons_zero, List.set_cons_succ]
      refine wpAnyH_take (i := 1) (v := (.pointer (some ⟨g, 0, none⟩))) rfl (by kernel_rfl) (by kernel_rfl) (by kernel_rfl) (fun c a w h => HPP.out c a _ _ w h) (Or.inl ⟨by rfl, by intro w hSw; obtain ⟨s1, s2, s3, s4⟩ := hSw; first | (go_simp; done) | (go_simp; with_reducible rfl)⟩) hS ?_
      simp only [Act.put, List.setIfInBounds_toArray, List.set_cons_zero, List.set_cons_succ]
      refine wpAnyH_take (i := 2) (v := (.pointer (some ⟨g, 201, none⟩))) rfl (by kernel_rfl) (by kernel_rfl) (by kernel_rfl) (fun c a w h => HPP.out c a _ _ w h) (Or.inl ⟨by rfl, by intro w hSw; obtain ⟨s1, s2, s3, s4⟩ := hSw; first | (go_simp; done) | (go_simp; with_reducible rfl)⟩) hS ?_
      simp only [Act.put, List.setIfInBounds_toArray, List.set_cons_zero, List.set_cons_succ]
      refine wpAnyH_take (i := 3) (v := (.slice (some ⟨r, 0, none⟩) N cap)) rfl (by kernel_rfl) (by kernel_rfl) (by kernel_rfl) (fun c a w h => HPP.out c a _ _ w h) (Or.inl ⟨by rfl, by intro w hSw; obtain ⟨s1, s2, s3, s4⟩ := hSw; first | (go_simp; done) | (go_simp; with_reducible rfl)⟩) hS ?_
      simp only [Act.put, List.setIfInBounds_toArray, List.set_cons_zero, List.set_cons_succ]
      refine wpAnyH_take (i := 4) (v := (.int .i64 (m : Int))) rfl (by kernel_rfl) (by kernel_rfl) (by kernel_rfl) (fun c a w h => HPP.out c a _ _ w h) (Or.inl ⟨by rfl, by intro w hSw; obtain ⟨s1, s2, s3, s4⟩ := hSw; first | (go_simp; done) | (go_simp; with_reducible rfl)⟩) hS ?_
      simp only [Act.put, List.setIfInBounds_toArray, List.set_cons_zero, List.set_cons_succ]
      refine wpAnyH_take (i := 5) (v := (.pointer (some ⟨r, m, none⟩))) rfl (by kernel_rfl) (by kernel_rfl) (by kernel_rfl) (fun c a w h => HPP.out c a _ _ w h) (Or.inl ⟨by rfl, by intro w hSw; obtain ⟨s1, s2, s3, s4⟩ := hSw; first | (go_simp; done) | (go_simp; with_reducible rfl)⟩) hS ?_
      simp only [Act.put, List.setIfInBounds_toArray, List.set_cons_zero, List.set_cons_succ]
      refine wpAnyH_take (i := 6) (v := (.string X)) rfl (by kernel_rfl) (by kernel_rfl) (by kernel_rfl) (fun c a w h => HPP.out c a _ _ w h) (Or.inl ⟨by rfl, by intro w hSw; obtain ⟨s1, s2, s3, s4⟩ := hSw; first | (go_simp; done) | (go_simp; with_reducible rfl)⟩) hS ?_
      simp only [Act.put, List.setIfInBounds_toArray, List.set_cons_zero, List.set_cons_succ]
      refine wpAnyH_take (i := 7) (v := (.int .i64 bytes)) rfl (by kernel_rfl) (by kernel_rfl) (by kernel_rfl) (fun c a w h => HPP.out c a _ _ w h) (Or.inl ⟨by rfl, by intro w hSw; obtain ⟨s1, s2, s3, s4⟩ := hSw; first | (go_simp; done) | (go_simp; with_reducible rfl)⟩) hS ?_
      simp only [Act.put, List.setIfInBounds_toArray, List.set_cons_zero, List.set_cons_succ]
      refine wpAnyH_ready (rs := [8]) (by kernel_rfl) (by simp) ?_
      refine AllReadyH.cons rfl (fun K hK => ?_) AllReadyH.nil
      go_simp
      refine (page_Fits.calls X bytes FT 0 _ HFF.out).mono ?_
      rintro e w' ⟨rfl, hbF⟩
      have HV := Aside0.mk (HF1.out (W.drewN (nq2 + 1)) _ rfl (pw_below_drewN HBW.out (nq2 + 1)) hbF)
      refine hK.out _ _ ⟨pw_cell_below hbF c0, pw_cell_below hbF c3, pw_cell_below hbF c5, pw_cell_below hbF c1⟩ (fun hS2 => ?_)
      have k2' := (blk_cell HV.out.1.2.2.2.1 0).trans rfl
      have k3' := (blk_cell HV.out.1.2.2.2.2.1 0).trans rfl
      have f2' := blk_frozen HV.out.1.2.2.2.1 0
      have f3' := blk_frozen HV.out.1.2.2.2.2.1 0
      clear hbF hK K hS c0 c1 c2 c3 c4 c5 f2 f3 k2 k3
      try simp only [Act.put, List.setIfInBounds_toArray, List.set_cons_zero, List.set_cons_succ]
      refine wpAnyH_take (i := 9) (v := (.tuple #[.bool FT, .int .i64 0])) rfl (by kernel_rfl) (by kernel_rfl) (by kernel_rfl) (fun c a w h => HPP.out c a _ _ w h) (Or.inl ⟨by rfl, by intro w hSw; first | (go_simp; done) | (go_simp; with_reducible rfl)⟩) hS2 ?_
      simp only [Act.put, List.setIfInBounds_toArray, List.set_cons_zero, List.set_cons_succ]
      refine wpAnyH_take (i := 10) (v := (.bool FT)) rfl (by kernel_rfl) (by kernel_rfl) (by kernel_rfl) (fun c a w h => HPP.out c a _ _ w h) (Or.inl ⟨by rfl, by intro w hSw; first | (go_simp; done) | (go_simp; with_reducible rfl)⟩) hS2 ?_
      simp only [Act.put, List.setIfInBounds_toArray, List.set_cons_zero, List.set_cons_succ]
      refine wpAnyH_take (i := 11) (v := (.int .i64 0)) rfl (by kernel_rfl) (by kernel_rfl) (by kernel_rfl) (fun c a w h => HPP.out c a _ _ w h) (Or.inl ⟨by rfl, by intro w hSw; first | (go_simp; done) | (go_simp; with_reducible rfl)⟩) hS2 ?_
      simp only [Act.put, List.setIfInBounds_toArray, List.set_cons_zero, List.set_cons_succ]
      refine wpAnyH_take (i := 12) (v := (.bool FT)) rfl (by kernel_rfl) (by kernel_rfl) (by kernel_rfl) (fun c a w h => HPP.out c a _ _ w h) (Or.inl ⟨by rfl, by intro w hSw; first | (go_simp; done) | (go_simp; with_reducible rfl)⟩) hS2 ?_
      simp only [Act.put, List.setIfInBounds_toArray, List.set_cons_zero, List.set_cons_succ]
      refine wpAnyH_take (i := 13) (v := (.int .i64 0)) rfl (by kernel_rfl) (by kernel_rfl) (by kernel_rfl) (fun c a w h => HPP.out c a _ _ w h) (Or.inl ⟨by rfl, by intro w hSw; first | (go_simp; done) | (go_simp; with_reducible rfl)⟩) hS2 ?_
      simp only [Act.put, List.setIfInBounds_toArray, List.set_cons_zero, List.set_cons_succ]
      refine wpAnyH_done (by kernel_rfl) ?_ _
      clear hS2
      cases FT with
      | true =>
        gi_wp2_with fail
        refine HQ.out _ _ _ ⟨?_, ?_, rfl, i, hi, HE.out.1, HTR.out.trans (by rw [dm]; rfl), ?_, ?_, ?_⟩
        · exact ((Below.heap_setCell _ _ _ _ (by simp; omega)).trans (Below.heap_setCell _ _ _ _ (by simp; omega))).trans HV.out.2.1
        · exact ((Below.heap_setCell _ _ _ _ (by simp; omega)).trans (Below.heap_setCell _ _ _ _ (by simp; omega))).trans HV.out.2.2
        · exact (HV.out.1.1.setCell (by simp) _).setCell (by simp) _
        · rw [HIN.out]; exact blk_far (blk_set HV.out.1.2.2.2.1 0 _) (by simp) _
        · exact blk_set (blk_far HV.out.1.2.2.2.2.1 (by simp) _) 0 _
      | false =>
        gi_wp2_with fail
        refine HQ.out _ _ _ ⟨HV.out.2.1, HV.out.2.2, ?_, HV.out.1⟩
        intro j hj
        rcases Nat.lt_or_ge j i with h | h
        · exact HE.out.1 j h
        · obtain rfl : j = i := by omega
          exact HTR.out.trans (by rw [Bool.and_false])
    · have dm : decide (bytes * 8 / S ≤ x) = false := decide_eq_false hmay
      gi_wp2_with fail
      refine round_region_quiet hmo (by kernel_rfl) (by kernel_rfl) ?_
      repeat (go_big_quiet_step ((go_at_call 128; refine (area_may g m (by omega) x bytes S HS.out.1 ⟨HS.out.2.1, HS.out.2.2.1⟩ HS.out.2.2.2.1 HS.out.2.2.2.2 _ (by exact c4)).mono ?_; rintro e w' ⟨rfl, ⟨m', rfl⟩⟩; exact ⟨by rw [dm], _, World.drewN_drewN ..⟩)))
      refine wpQuiet_nil ?_
      rintro _ ⟨nq2, rfl⟩
      gi_wp2_with fail
      refine HQ.out _ _ _ ⟨rfl, rfl, ?_, pw_below_drewN HE.out.2.1 _, HE.out.2.2⟩
      intro j hj
      rcases Nat.lt_or_ge j i with h | h
      · exact HE.out.1 j h
      · obtain rfl : j = i := by omega
        exact HTR.out.trans (by rw [dm]; rfl)
  case refine_11 =>
    rintro W ⟨e1, e2, e3, e4, e5, e6, e7, e8⟩ hD
    refine hK4 _ _ ?_
    clear hK4
    refine wpX_of_wp ?_
    have f2 := blk_frozen e5 0
    have f3 := blk_frozen e6 0
    have c2 := (blk_cell e5 0).trans rfl
    have c3 := (blk_cell e6 0).trans rfl
    have HD := Aside0.mk hD
    have HE := Aside0.mk (And.intro e1 (And.intro e2 (And.intro e5 e6)))
    clear e1 e2 e3 e4 e5 e6 e7 e8 hD g0 g1 g2 g3 g4 g5
    go_wp2_with fail
    obtain ⟨W2, hW2⟩ : ∃ W2, (W.setCell ⟨b + 2, 0, none⟩ (.int .i64 0)).setCell ⟨b + 3, 0, none⟩ (.int .i64 13) = W2 := ⟨_, rfl⟩
    have k2 : W2.heap[b + 2]? = some (.cells #[.int .i64 0] 3) := by rw [← hW2]; exact blk_far (blk_set HE.out.2.2.1 0 _) (by simp) _
    have k3 : W2.heap[b + 3]? = some (.cells #[.int .i64 13] 28) := by rw [← hW2]; exact blk_set (blk_far HE.out.2.2.2 (by simp) _) 0 _
    have kD : W2.heap[q + 2]? = some (.deferred (some [])) := by rw [← hW2]; exact ((Below.heap_setCell _ _ _ _ (by simp; omega)).trans (Below.heap_setCell _ _ _ _ (by simp; omega))).trans HD.out
    have kB : Below b w W2 := by rw [← hW2]; exact (HE.out.2.1.setCell (by simp) _).setCell (by simp) _
    rw [hW2]
    have t2 := (blk_cell (blk_putObj (o' := .deferred none) k2 (show b + 2 ≠ q + 2 by omega)) 0).trans rfl
    have t3 := (blk_cell (blk_putObj (o' := .deferred none) k3 (show b + 3 ≠ q + 2 by omega)) 0).trans rfl
    refine leavesM_ret1 (v := .tuple #[.int .i64 0, .int .i64 13]) kD (by simp [results, Try.results114, go_sem, t2, t3]) ?_
    rw [← HR.out]
    have hfn : findA a f bytes = (0, 13) := by
      unfold findA
      rw [List.find?_eq_none.2 (fun x hx => by
        have h1 := HE.out.1 x (by have := List.mem_range.1 hx; simp only [List.length_map, List.length_range]; rw [HN.out] at this; exact this)
        rw [h1]; simp)]
    refine ⟨by rw [hfn], ?_⟩
    rw [HB.out]
    exact below_putObj kB (by omega) _
  case refine_12 =>
    rintro c W ⟨rfl, j, e1, e2, e3, e4, e5, e6⟩ hD
    refine wpX_of_wp (wp_ret ?_)
    have t2 := (blk_cell (blk_putObj (o' := .deferred none) e5 (show b + 2 ≠ q + 2 by omega)) 0).trans rfl
    have t3 := (blk_cell (blk_putObj (o' := .deferred none) e6 (show b + 3 ≠ q + 2 by omega)) 0).trans rfl
    refine leavesM_ret1 (v := .tuple #[.int .i64 (((f : Int) + (j : Int)) % (N : Int)), .int .i64 0]) hD (by simp [results, Try.results114, go_sem, t2, t3]) ?_
    rw [← HR.out]
    have hfn : findA a f bytes = (((f : Int) + (j : Int)) % (N : Int), 0) := by
      unfold findA
      have h1 : (List.range a.pages.length).find? (tryAt a f bytes) = some j := by
        rw [List.find?_range_eq_some]
        exact ⟨e3, by rw [List.mem_range, HN.out]; exact e1, fun j' hj => by rw [e2 j' hj]; rfl⟩
      rw [h1]
      simp only [HN.out]
      rfl
    refine ⟨by rw [hfn], ?_⟩
    rw [HB.out]
    exact below_putObj e4 (by omega) _
  case refine_13 => exact fun _ _ h => h.elim

end Go.Proofs.Ytemglmcddaeedaa.PA

namespace Go.Proofs.Ytemglmcddaeedaa.PA
open Go.RowKit Go.Proofs.YtemglmcddaeedaaW.PrintWords Go.Proofs.YtemglmcddaeedaaW.PrintLast Go.Proofs.YtemglmcddaeedaaW.PrintMore
attribute [local go_sem] max2_int min2_int max_two min_two max_three min_three max_four min_four   -- for this text's walks alone
set_option linter.unusedVariables false
set_option linter.unusedSimpArgs false

/-! ### area_put: function 0 -/
theorem RowK.set1 {w : World} {base : Nat} {r cap : Nat} {l : List ByteArray} (h : RowK sEnc 1 9 w base (.slice (some ⟨r, 0, none⟩) l.length cap) l) (i : Nat) (hi : i < l.length) (p : ByteArray) :
    RowK sEnc 1 9 (w.setCell ⟨r, i, none⟩ (.string p)) base (.slice (some ⟨r, 0, none⟩) l.length cap) (l.set i p) := by
  rcases h with ⟨h, _⟩ | ⟨r', cap', sp, h, hb, hn, hm, hs, hg⟩
  · cases h
  · cases h
    refine .inr ⟨r, cap, sp, by rw [List.length_set], hb, by rw [List.length_set]; exact hn, hm, by rw [List.length_set]; exact hs, ?_⟩
    rw [blk_set hg i (.string p), List.setIfInBounds_toArray, List.set_append_left _ _ (by rw [encs_len sEnc_len]; omega)]
    have : (encs_ sEnc l).set i (.string p) = encs_ sEnc (l.set i p) := by
      clear hs hg hn hb
      induction l generalizing i with
      | nil => simp at hi
      | cons x l ih =>
        cases i with
        | zero => rfl
        | succ i =>
          rw [encs_cons, List.set_cons_succ, encs_cons]
          show (Value.string x :: encs_ sEnc l).set (i + 1) (.string p) = Value.string x :: encs_ sEnc (l.set i p)
          rw [List.set_cons_succ, ih i (by simpa using hi)]
    rw [this]
theorem AreaAt.setpage {w : World} {base g r cap : Nat} {a : AreaS} (h : AreaAt w base g (.slice (some ⟨r, 0, none⟩) a.pages.length cap) a) (i : Nat) (hi : i < a.pages.length) (p : ByteArray) :
    AreaAt (w.setCell ⟨r, i, none⟩ (.string p)) base g (.slice (some ⟨r, 0, none⟩) a.pages.length cap) { a with pages := a.pages.set i p } := by
  have hne : g ≠ r := by have := h.ne; intro e; exact this (by rw [← e]; rfl)
  refine ⟨h.ge, ?_, h.lv, h.row.set1 i hi p⟩
  exact (Below.heap_setCell w ⟨r, i, none⟩ (.string p) g hne).trans h.blk
theorem Keep2.row {w : World} (g r i : Nat) (v : Value) : Keep2 w (w.setCell ⟨r, i, none⟩ v) g (some r) :=
  ⟨rfl, rfl, rfl, by simp [World.setCell], fun k _ _ hk => Below.heap_setCell w _ v k (fun e => hk (by rw [e]))⟩
theorem Keep2.some {w w' : World} {g : Nat} (h : Keep2 w w' g none) (r : Option Nat) : Keep2 w w' g r := ⟨h.os, h.tape, h.output, h.size, fun k hk hg _ => h.block k hk hg (by simp)⟩
theorem Keep2.far {w w' : World} {g : Nat} {r : Option Nat} (h : Keep2 w w' g r) {p : Addr} (hp : w.heap.size ≤ p.block) (v : Value) : Keep2 w (w'.setCell p v) g r :=
  ⟨h.os, h.tape, h.output, by simpa [World.setCell] using h.size, fun k hk hg hr => (Below.heap_setCell w' p v k (by omega)).trans (h.block k hk hg hr)⟩
theorem AreaAt.far {w : World} {base g r cap n : Nat} {a : AreaS} (h : AreaAt w base g (.slice (some ⟨r, 0, none⟩) n cap) a) {p : Addr} (hg : g ≠ p.block) (hr : r ≠ p.block) (v : Value) : AreaAt (w.setCell p v) base g (.slice (some ⟨r, 0, none⟩) n cap) a :=
  ⟨h.ge, (Below.heap_setCell w p v g hg).trans h.blk, h.lv, h.row.set_other p v (by simp [Value.ownBlock]; exact hr)⟩
/-- What Put tells, and the area behind it. -/
def putA (a : AreaS) (f : Nat) (d : ByteArray) (P : Nat → ByteArray × Int × Int) : (Int × Int × Int) × AreaS :=
  if (findA a f d.size).2 = 0 then
    (if (P (findA a f d.size).1.toNat).2.2 = 0 then (((findA a f d.size).1, (P (findA a f d.size).1.toNat).2.1, 0), ⟨a.size, a.pages.set (findA a f d.size).1.toNat (P (findA a f d.size).1.toNat).1, a.lv.set (findA a f d.size).1.toNat (roomS (P (findA a f d.size).1.toNat).1 * 8 / a.size)⟩)
     else ((0, 0, (P (findA a f d.size).1.toNat).2.2), a))
  else ((0, 0, (findA a f d.size).2), a)
theorem findA_range (a : AreaS) (f : Nat) (b : Int) (hp : 0 < a.pages.length) (h : (findA a f b).2 = 0) : ∃ n : Nat, n < a.pages.length ∧ (findA a f b).1 = n := by
  unfold findA at h ⊢
  cases hf : (List.range a.pages.length).find? (tryAt a f b) with
  | none => rw [hf] at h; cases h
  | some j => exact ⟨(f + j) % a.pages.length, Nat.mod_lt _ hp, rfl⟩
set_option maxHeartbeats 2000000 in
set_option maxRecDepth 100000 in
theorem area_Put {base g r cap : Nat} {a : AreaS} (f : Nat) (hf : f < a.pages.length) (hn : a.pages.length ≤ 200) (d : ByteArray) (hd0 : 1 ≤ d.size) (hd1 : (d.size : Int) ≤ a.size) (hs : 32 ≤ a.size ∧ a.size ≤ 4096)
    (hlv : ∀ i, i < 200 → 0 ≤ a.lv.getD i 0 ∧ a.lv.getD i 0 ≤ 255) (hval : ∀ p ∈ a.pages, validS p) (k : Nat) (P : Nat → ByteArray × Int × Int) (hP : ∀ i (hi : i < a.pages.length), page_Put.f k a.pages[i] d = some (P i) ∧ ((P i).2.2 = 0 → ((P i).1.size : Int) = a.size))
    (w : World) (h : AreaAt w base g (.slice (some ⟨r, 0, none⟩) a.pages.length cap) a) :
    Calls Try.prog 74 #[.pointer (some ⟨g, 0, none⟩), .int .i64 (f : Int), .string d] w fun e w' =>
      e = .returned (.tuple #[.agg #[.int .i64 (putA a f d P).1.1, .int .i64 (putA a f d P).1.2.1], .int .i64 (putA a f d P).1.2.2]) ∧
      AreaAt w' base g (.slice (some ⟨r, 0, none⟩) a.pages.length cap) (putA a f d P).2 ∧ Keep2 w w' g (some r) := by
  have HH := Aside0.mk h
  have hb0 := blk_new w (.cells #[.int .i64 0, .int .i64 0] 93)
  have HB0 := Aside0.mk (below_alloc (Below.refl _ w) (.cells #[.int .i64 0, .int .i64 0] 93))
  obtain ⟨b, hb⟩ : ∃ b, w.heap.size = b := ⟨_, rfl⟩
  obtain ⟨W, hW⟩ : ∃ W, w.alloc (.cells #[.int .i64 0, .int .i64 0] 93) = W := ⟨_, rfl⟩
  rw [hW, hb] at hb0
  rw [hW] at HB0
  have H1 := Aside0.mk (HH.out.below HB0.out)
  have HFD := Aside0.mk (fun (W : World) (h : AreaAt W base g (.slice (some ⟨r, 0, none⟩) a.pages.length cap) a) => area_Find_loop f hf hn (d.size : Int) (by omega) hd1 hs hlv hval W h)
  have hde : d.toList ≠ [] := fun e => by have := (toList_nil d).1 e; omega
  have hde2 : d.toList.isEmpty = false := by simpa using hde
  have hgb : g < b := by rw [← hb]; exact blk_lt h.blk
  have HBK := Aside0.mk hb0
  have HP := Aside0.mk hP
  have HX := Aside0.mk (And.intro hb (And.intro hs (And.intro hn hval)))
  clear h hb0 hP hs hlv hval
  by_cases he : (findA a f d.size).2 = 0
  · obtain ⟨n, hnl, hn1⟩ := findA_range a f d.size (by omega) he
    have HFA := Aside0.mk (And.intro hn1 he)
    have HQ := Aside0.mk (show putA a f d P = if (P n).2.2 = 0 then (((n : Int), (P n).2.1, 0), ⟨a.size, a.pages.set n (P n).1, a.lv.set n (roomS (P n).1 * 8 / a.size)⟩) else ((0, 0, (P n).2.2), a) by
      unfold putA; rw [if_pos he, hn1, Int.toNat_natCast])
    rw [HQ.out]
    clear he hn1 HQ
    obtain ⟨hpf, hps⟩ := HP.out n hnl
    have c2 := H1.out.cpages
    obtain ⟨r0, cap0, e0, _, _, hc0, hrl, _, hfr, hc⟩ := HH.out.slice (by omega)
    cases e0
    have HC := Aside0.mk (hc n hnl)
    have HRL := Aside0.mk (show r < b by rw [← hb]; exact hrl)
    have hcb := ((HB0.out.cell (World.block_lt_of_cell? w _ (hc n hnl))).trans (hc n hnl))
    have HPS := Aside0.mk hps
    have HPF := Aside0.mk hpf
    obtain ⟨X, hX⟩ : ∃ X, a.pages[n] = X := ⟨_, rfl⟩
    rw [hX] at HPF hcb
    have hnl1 : (n : Int) < a.pages.length := by omega
    have hn0 : (0 : Int) ≤ n := by omega
    have HNL := Aside0.mk hnl
    have hcp := hc0
    obtain ⟨R1, R2, R3, hR⟩ : ∃ R1 R2 R3, P n = (R1, R2, R3) := ⟨_, _, _, rfl⟩
    rw [hR] at HPF HPS ⊢
    simp only at HPF HPS ⊢
    clear hX hc hpf hps hR hfr hrl
    by_cases h3 : R3 = 0
    · rw [if_pos h3]
      subst h3
      go_enter Try.func74, Try.ntmps74
      go_wp2_with fail
      refine (HFD.out W H1.out).mono ?_
      rw [HFA.out.1, HFA.out.2]
      rintro e w1 ⟨rfl, hb1⟩
      have k0 := (hb1.block b (blk_lt HBK.out)).trans HBK.out
      have c3 := pw_cell_below hb1 c2
      have c4 := pw_cell_below hb1 hcb
      have HA1 := Aside0.mk (H1.out.below hb1)
      have HK := Aside0.mk k0
      have HB1 := Aside0.mk (below_then HB0.out HB0.out.size hb1)
      clear k0 hb1 c2 hcb
      go_wp2_with fail
      refine (page_Put.calls k X d R1 R2 0 w1 HPF.out).mono ?_
      rintro e w2 ⟨rfl, hb2⟩
      have k0 := (hb2.block b (blk_lt HK.out)).trans HK.out
      have c5 := pw_cell_below hb2 c3
      have c6 := pw_cell_below hb2 c4
      have HA2 := Aside0.mk (HA1.out.below hb2)
      obtain ⟨r0, cap0, e0, _, _, _, _, _, hfr, _⟩ := HA2.out.slice (by omega)
      cases e0
      have f6 := hfr n
      have HK2 := Aside0.mk k0
      have HB2 := Aside0.mk (below_then HB1.out HB1.out.size hb2)
      clear k0 hb2 c3 c4 hfr HK HA1
      go_wp2_with fail
      have hA3 := HA2.out.setpage n HNL.out R1
      have hgt : (a.pages.set n R1)[n]'(by rw [List.length_set]; exact HNL.out) = R1 := by simp
      have hN := area_noted n (a := { a with pages := a.pages.set n R1 }) (v := .slice (some ⟨r, 0, none⟩) a.pages.length cap) (by simpa using HNL.out) (by have := HNL.out; have := HX.out.2.2.1; omega) HX.out.2.1 (by simp only [hgt]; first | exact HPS.out rfl | exact HPS.out trivial) (w2.setCell ⟨r, n, none⟩ (.string R1)) hA3
      simp only [hgt] at hN
      have HNN := Aside0.mk hN
      have HK3 := Aside0.mk ((Keep2.of_below HB2.out g (some r)).trans (Keep2.row g r n (.string R1) (w := w2)) (.inl rfl))
      have k0 : (w2.setCell ⟨r, n, none⟩ (.string R1)).heap[b]? = some (.cells #[.int .i64 0, .int .i64 0] 93) := blk_far HK2.out (p := ⟨r, n, none⟩) (by have := HRL.out; show b ≠ r; omega) _
      have HK4 := Aside0.mk k0
      clear hA3 hgt hN k0 HA2 HK2 HB2 c5 c6 f6
      refine HNN.out.mono ?_
      rintro e w3 ⟨rfl, hA4, hK4⟩
      have k0 := (hK4.block b (blk_lt HK4.out) (by omega) (by simp)).trans HK4.out
      have f0 := blk_frozen k0 0
      have f1 := blk_frozen k0 1
      have c0 := (blk_cell k0 0).trans rfl
      have c1 := (blk_cell k0 1).trans rfl
      have HK5 := Aside0.mk k0
      have HA4 := Aside0.mk hA4
      have HKE := Aside0.mk (HK3.out.trans (hK4.some (some r)) (.inl rfl))
      clear k0 hA4 hK4 HNN HK3 HK4
      go_wp2_with fail
      obtain ⟨W3, hW3⟩ : ∃ W3, (w3.setCell ⟨b, 0, none⟩ (.int .i64 (n : Int))).setCell ⟨b, 1, none⟩ (.int .i64 R2) = W3 := ⟨_, rfl⟩
      have k3 : W3.heap[b]? = some (.cells #[.int .i64 (n : Int), .int .i64 R2] 93) := by rw [← hW3]; exact blk_set (blk_set HK5.out 0 _) 1 _
      have t0 := (blk_cell k3 0).trans rfl
      have t1 := (blk_cell k3 1).trans rfl
      have B3 : Keep2 w W3 g (some r) := by rw [← hW3]; exact (HKE.out.far (by rw [HX.out.1]; exact Nat.le_refl b) _).far (by rw [HX.out.1]; exact Nat.le_refl b) _
      have A3 : AreaAt W3 base g (.slice (some ⟨r, 0, none⟩) a.pages.length cap) ⟨a.size, a.pages.set n R1, a.lv.set n (roomS R1 * 8 / a.size)⟩ := by
        rw [← hW3]
        have h9 := HRL.out
        exact (HA4.out.far (p := ⟨b, 0, none⟩) (by show g ≠ b; omega) (by show r ≠ b; omega) _).far (p := ⟨b, 1, none⟩) (by show g ≠ b; omega) (by show r ≠ b; omega) _
      rw [hW3]
      exact bodyPost_ret (v := .tuple #[.agg #[.int .i64 (n : Int), .int .i64 R2], .int .i64 0]) (by simp [results, Try.results74, go_sem, t0, t1]) rfl ⟨rfl, A3, B3⟩
    · rw [if_neg h3]
      have h32 : (R3 != 0) = true := by simpa using h3
      go_enter Try.func74, Try.ntmps74
      go_wp2_with fail
      refine (HFD.out W H1.out).mono ?_
      rw [HFA.out.1, HFA.out.2]
      rintro e w1 ⟨rfl, hb1⟩
      have k0 := (hb1.block b (blk_lt HBK.out)).trans HBK.out
      have c3 := pw_cell_below hb1 c2
      have c4 := pw_cell_below hb1 hcb
      have HK := Aside0.mk k0
      have HB1 := Aside0.mk (below_then HB0.out HB0.out.size hb1)
      clear k0 hb1 c2 hcb
      go_wp2_with fail
      refine (page_Put.calls k X d R1 R2 R3 w1 HPF.out).mono ?_
      rintro e w2 ⟨rfl, hb2⟩
      have k0 := (hb2.block b (blk_lt HK.out)).trans HK.out
      have f0 := blk_frozen k0 0
      have f1 := blk_frozen k0 1
      have c0 := (blk_cell k0 0).trans rfl
      have c1 := (blk_cell k0 1).trans rfl
      have HK2 := Aside0.mk k0
      have HB2 := Aside0.mk (below_then HB1.out HB1.out.size hb2)
      clear k0 hb2 c3 c4 HK
      go_wp2_with fail
      obtain ⟨W3, hW3⟩ : ∃ W3, (w2.setCell ⟨b, 0, none⟩ (.int .i64 0)).setCell ⟨b, 1, none⟩ (.int .i64 0) = W3 := ⟨_, rfl⟩
      have k3 : W3.heap[b]? = some (.cells #[.int .i64 0, .int .i64 0] 93) := by rw [← hW3]; exact blk_set (blk_set HK2.out 0 _) 1 _
      have t0 := (blk_cell k3 0).trans rfl
      have t1 := (blk_cell k3 1).trans rfl
      have B3 : Below w.heap.size w W3 := by rw [← hW3]; exact (HB2.out.setCell (by rw [HX.out.1]; exact Nat.le_refl b) _).setCell (by rw [HX.out.1]; exact Nat.le_refl b) _
      rw [hW3]
      exact bodyPost_ret (v := .tuple #[.agg #[.int .i64 0, .int .i64 0], .int .i64 R3]) (by simp [results, Try.results74, go_sem, t0, t1]) rfl ⟨rfl, HH.out.below B3, Keep2.of_below B3 g _⟩
  · have HQ := Aside0.mk (show putA a f d P = ((0, 0, (findA a f d.size).2), a) by unfold putA; rw [if_neg he])
    rw [HQ.out]
    clear HQ
    obtain ⟨E1, hE1⟩ : ∃ E, (findA a f d.size).1 = E := ⟨_, rfl⟩
    obtain ⟨E2, hE2⟩ : ∃ E, (findA a f d.size).2 = E := ⟨_, rfl⟩
    have HE := Aside0.mk (And.intro hE1 hE2)
    rw [hE2] at he ⊢
    have he2 : (E2 != 0) = true := by simpa using he
    clear hE1 hE2
    go_enter Try.func74, Try.ntmps74
    go_wp2_with fail
    refine (HFD.out W H1.out).mono ?_
    rw [HE.out.1, HE.out.2]
    rintro e w1 ⟨rfl, hb1⟩
    have k0 := (hb1.block b (blk_lt HBK.out)).trans HBK.out
    have f0 := blk_frozen k0 0
    have f1 := blk_frozen k0 1
    have c0 := (blk_cell k0 0).trans rfl
    have c1 := (blk_cell k0 1).trans rfl
    have HK := Aside0.mk k0
    have HB1 := Aside0.mk hb1
    clear k0 hb1
    go_wp2_with fail
    obtain ⟨W3, hW3⟩ : ∃ W3, (w1.setCell ⟨b, 0, none⟩ (.int .i64 0)).setCell ⟨b, 1, none⟩ (.int .i64 0) = W3 := ⟨_, rfl⟩
    have k3 : W3.heap[b]? = some (.cells #[.int .i64 0, .int .i64 0] 93) := by rw [← hW3]; exact blk_set (blk_set HK.out 0 _) 1 _
    have t0 := (blk_cell k3 0).trans rfl
    have t1 := (blk_cell k3 1).trans rfl
    have B3 : Below w.heap.size w W3 := by rw [← hW3]; exact ((below_then HB0.out HB0.out.size HB1.out).setCell (by rw [HX.out.1]; exact Nat.le_refl b) _).setCell (by rw [HX.out.1]; exact Nat.le_refl b) _
    rw [hW3]
    exact bodyPost_ret (v := .tuple #[.agg #[.int .i64 0, .int .i64 0], .int .i64 E2]) (by simp [results, Try.results74, go_sem, t0, t1]) rfl ⟨rfl, HH.out.below B3, Keep2.of_below B3 g _⟩

end Go.Proofs.Ytemglmcddaeedaa.PA

namespace Go.Proofs.Ytemglmcddaeedaa.PA
open Go.RowKit Go.Proofs.YtemglmcddaeedaaW.PrintWords Go.Proofs.YtemglmcddaeedaaW.PrintLast Go.Proofs.YtemglmcddaeedaaW.PrintMore
attribute [local go_sem] max2_int min2_int max_two min_two max_three min_three max_four min_four   -- for this text's walks alone
set_option linter.unusedVariables false
set_option linter.unusedSimpArgs false

/-! ### awake07: function 0 -/
/-! #### the law's awake -/
def abcS : ByteArray := ⟨#[97, 98, 99]⟩
def AwakeLaw : Prop := ∃ (p0 p1 : ByteArray) (k : Nat), page_New.f 1 32 = some (p0, 0) ∧ (p0.size : Int) = 32 ∧ validS p0 ∧ fitsS p0 3 = true ∧ page_Put.f k p0 abcS = some (p1, 1, 0) ∧ (p1.size : Int) = 32 ∧ getS p1 1 = (abcS, 0)
theorem abc_list : (abcS.toList == ([97, 98, 99] : List UInt8)) = true := by
  decide +kernel
theorem getD_range {l : List Int} (h : ∀ x ∈ l, 0 ≤ x ∧ x ≤ 255) (i : Nat) : 0 ≤ l.getD i 0 ∧ l.getD i 0 ≤ 255 := by
  rw [List.getD_eq_getElem?_getD]
  cases hx : l[i]? with
  | none => exact ⟨Int.le_refl _, by decide⟩
  | some x => exact h x (List.mem_of_getElem? hx)
theorem zer_mem {n : Nat} {x : Int} (h : x ∈ zer n) : x = 0 := by
  unfold zer at h; exact (List.mem_replicate.1 h).2
set_option maxHeartbeats 2000000 in
set_option maxRecDepth 100000 in
theorem awake07 (H : AwakeLaw) (w : World) : Calls Try.prog 42 #[] w fun e w' => e = .returned (.bool true) ∧ Below w.heap.size w w' := by
  obtain ⟨p0, p1, k, hn, hs0, hv, hf, hp, hs1, hg⟩ := H
  have HNEW := Aside0.mk (area_New_ok 32 (by decide) 2 (by decide) p0 hn hs0 w)
  have HP := Aside0.mk hp
  have HG := Aside0.mk hg
  have HS := Aside0.mk (And.intro hs0 hs1)
  have HV := Aside0.mk (And.intro hv hf)
  clear hn hs0 hv hf hp hs1 hg
  have hroom := roomS_range p0 (by have := HS.out.1; omega)
  rw [HS.out.1] at hroom
  obtain ⟨L, hL⟩ : ∃ L, roomS p0 * 8 / 32 = L := ⟨_, rfl⟩
  have hL0 : 0 ≤ L ∧ L ≤ 255 := by omega
  rw [hL] at HNEW
  clear hL hroom
  go_enter Try.func42, Try.ntmps42
  go_wp2_with fail
  refine HNEW.out.mono ?_
  rintro e w1 ⟨g, v, rfl, hA, hb1⟩
  have hlist : (List.replicate 2 p0) = [p0, p0] := rfl
  rw [hlist] at hA
  obtain ⟨r, cap, rfl, hbr, _, _, _, _, _, _⟩ := hA.slice (by simp)
  have hA' : AreaAt w1 w.heap.size g (.slice (some ⟨r, 0, none⟩) 2 cap) ⟨32, [p0, p0], [L, L] ++ zer 198⟩ := hA
  have hput := area_Put (a := ⟨32, [p0, p0], [L, L] ++ zer 198⟩) 1 (by simp) (by simp) abcS (by decide) (show (3 : Int) ≤ 32 by decide) (show (32 : Int) ≤ 32 ∧ (32 : Int) ≤ 4096 by decide)
    (fun i _ => getD_range (by
      intro x hx
      rcases List.mem_append.1 hx with h | h
      · simp only [List.mem_cons, List.not_mem_nil, or_false, or_self] at h; rw [h]; exact hL0
      · rw [zer_mem h]; decide) i)
    (by intro p hp; simp only [List.mem_cons, List.not_mem_nil, or_false, or_self] at hp; rw [hp]; exact HV.out.1) k (fun _ => (p1, 1, 0))
    (by
      intro i hi
      have : ([p0, p0] : List ByteArray)[i]'hi = p0 := by
        match i, hi with
        | 0, _ => rfl
        | 1, _ => rfl
      refine ⟨?_, fun _ => HS.out.2⟩
      rw [show ({ size := 32, pages := [p0, p0], lv := [L, L] ++ zer 198 } : AreaS).pages[i]'hi = p0 from this]
      exact HP.out) w1 hA'
  have ht : tryAt ⟨32, [p0, p0], [L, L] ++ zer 198⟩ 1 3 0 = true := by
    show (decide ((3 * 8 / 32 : Int) ≤ L) && fitsS p0 3) = true
    rw [HV.out.2, Bool.and_true]
    exact decide_eq_true (by omega)
  have hfind : findA ⟨32, [p0, p0], [L, L] ++ zer 198⟩ 1 ((abcS.size : Nat) : Int) = (1, 0) := by
    unfold findA
    have : (List.range 2).find? (tryAt ⟨32, [p0, p0], [L, L] ++ zer 198⟩ 1 3) = some 0 := by
      rw [show List.range 2 = [0, 1] from rfl, List.find?_cons, ht]
    rw [show (AreaS.pages ⟨32, [p0, p0], [L, L] ++ zer 198⟩).length = 2 from rfl, show ((abcS.size : Nat) : Int) = 3 from rfl, this]
    rfl
  have hpa : putA ⟨32, [p0, p0], [L, L] ++ zer 198⟩ 1 abcS (fun _ => (p1, 1, 0)) = ((1, 1, 0), ⟨32, [p0, p1], ([L, L] ++ zer 198).set 1 (roomS p1 * 8 / 32)⟩) := by
    unfold putA
    rw [hfind]
    rfl
  rw [hpa] at hput
  dsimp only at hput
  have HPUT := Aside0.mk hput
  have HB1 := Aside0.mk hb1
  have HGE := Aside0.mk (And.intro hA.ge hbr)
  clear hpa hfind ht hput hA' hA hlist HNEW hb1 hbr
  go_wp2_with fail
  refine HPUT.out.mono ?_
  rintro e w2 ⟨rfl, hA2, hK2⟩
  have HA2 := Aside0.mk hA2
  have HB2 := Aside0.mk (hK2.below HB1.out HB1.out.size HGE.out.1 (by intro k hk; cases hk; exact HGE.out.2))
  clear hA2 hK2 HPUT HB1
  go_wp2_with fail
  obtain ⟨b, hb⟩ : ∃ b, w2.heap.size = b := ⟨_, rfl⟩
  obtain ⟨W3, hW3⟩ : ∃ W3, w2.alloc (.cells #[.int .i64 1, .int .i64 1] 93) = W3 := ⟨_, rfl⟩
  have hB3 : Below w2.heap.size w2 W3 := by rw [← hW3]; exact below_alloc (Below.refl _ w2) _
  have hk3 : W3.heap[b]? = some (.cells #[.int .i64 1, .int .i64 1] 93 (0, 0)) := by rw [← hW3, ← hb]; exact blk_new _ _
  have hget := area_Get (a := ⟨32, [p0, p1], ([L, L] ++ zer 198).set 1 (roomS p1 * 8 / 32)⟩) 1 1 (by simp) (by
    intro p hp
    have h0 := HS.out
    simp only [List.mem_cons, List.not_mem_nil, or_false] at hp
    rcases hp with rfl | rfl <;> omega) W3 (HA2.out.below hB3)
  have hga : getA ⟨32, [p0, p1], ([L, L] ++ zer 198).set 1 (roomS p1 * 8 / 32)⟩ 1 1 = (abcS, 0) := by
    unfold getA
    rw [if_pos (show (0 : Int) ≤ 1 ∧ (1 : Int) < (([p0, p1] : List ByteArray).length : Int) from ⟨by decide, by simp⟩)]
    exact HG.out
  rw [hga] at hget
  have HGET := Aside0.mk hget
  have HK3 := Aside0.mk hk3
  have HB3 := Aside0.mk (below_then HB2.out HB2.out.size hB3)
  simp only [hW3, hb]
  clear hga hget hk3 hB3 hW3 hb HA2 HB2
  refine HGET.out.mono ?_
  rintro e w4 ⟨rfl, hb4⟩
  have d0 := pw_cell_below hb4 ((blk_cell HK3.out 0).trans rfl)
  have d1 := pw_cell_below hb4 ((blk_cell HK3.out 1).trans rfl)
  have HB4 := Aside0.mk (below_then HB3.out HB3.out.size hb4)
  clear hb4 HGET HK3 HB3
  go_wp2_with fail
  go_ret
  exact ⟨congrArg (fun x => Ending.returned (Value.bool x)) abc_list, HB4.out⟩

end Go.Proofs.Ytemglmcddaeedaa.PA

namespace Go.Proofs.Ytemglmcddaeedaa.PA
open Go.RowKit Go.Proofs.YtemglmcddaeedaaW.PrintWords Go.Proofs.YtemglmcddaeedaaW.PrintLast Go.Proofs.YtemglmcddaeedaaW.PrintMore
attribute [local go_sem] max2_int min2_int max_two min_two max_three min_three max_four min_four   -- for this text's walks alone
set_option linter.unusedVariables false
set_option linter.unusedSimpArgs false

/-! ### heap: function 0 -/
/-! #### a heap in memory -/
structure HeapAt (w : World) (base h g : Nat) (v : Value) (a : AreaS) (most : Int) (b : Nat) : Prop where
  blk : w.heap[h]? = some (.cells #[.pointer (some ⟨g, 0, none⟩), .int .i64 most, .map (some b)] 139 (0, 0))
  ge : base ≤ h
  area : AreaAt w base g v a
theorem HeapAt.below {w w1 : World} {base h g b : Nat} {v : Value} {a : AreaS} {most : Int} (H : HeapAt w base h g v a most b) (hb : Below w.heap.size w w1) : HeapAt w1 base h g v a most b :=
  ⟨(hb.block h (blk_lt H.blk)).trans H.blk, H.ge, H.area.below hb⟩
theorem heap_pages {base h g b : Nat} {v : Value} {a : AreaS} {most : Int} (w : World) (H : HeapAt w base h g v a most b) :
    Calls Try.prog 130 #[.pointer (some ⟨h, 0, none⟩)] w fun e w' => e = .returned (.pointer (some ⟨g, 0, none⟩)) ∧ Below w.heap.size w w' := by
  have c0 := (blk_cell H.blk 0).trans rfl
  clear H
  go_enter Try.func130, Try.ntmps130
  go_wp2_with fail
  go_ret
  exact ⟨rfl, Below.refl _ _⟩
theorem heap_Pages {base h g b : Nat} {v : Value} {a : AreaS} {most : Int} (w : World) (H : HeapAt w base h g v a most b) (hp : 0 < a.pages.length) :
    Calls Try.prog 119 #[.pointer (some ⟨h, 0, none⟩)] w fun e w' => e = .returned (.int .i64 a.pages.length) ∧ Below w.heap.size w w' := by
  have HH := Aside0.mk H
  clear H
  go_enter Try.func119, Try.ntmps119
  go_wp2_with fail
  refine (heap_pages w HH.out).mono ?_
  rintro e w1 ⟨rfl, hb⟩
  have HB := Aside0.mk hb
  have HA := Aside0.mk (HH.out.below hb)
  clear hb HH
  go_wp2_with fail
  refine (area_Pages w1 HA.out.area hp).mono ?_
  rintro e w2 ⟨rfl, hb2⟩
  have HB2 := Aside0.mk (below_then HB.out HB.out.size hb2)
  clear hb2
  go_wp2_with fail
  go_ret
  exact ⟨rfl, HB2.out⟩
set_option maxRecDepth 100000 in
theorem piece_New_ok (n : Int) (hn : 32 ≤ n ∧ n ≤ 4096 ∧ n % 8 = 0) (k : Nat) (hk : 1 ≤ k ∧ k ≤ 200) (most : Int) (hm : 1 ≤ most ∧ most ≤ 1000) (p : ByteArray) (hp : page_New.f 1 n = some (p, 0)) (hps : (p.size : Int) = n) (w : World) :
    Calls Try.prog 88 #[.int .i64 n, .int .i64 (k : Int), .int .i64 most] w fun e w' => ∃ h g v b, e = .returned (.tuple #[.pointer (some ⟨h, 0, none⟩), .int .i64 0]) ∧
      HeapAt w' w.heap.size h g v ⟨n, List.replicate k p, List.replicate k (roomS p * 8 / n) ++ zer (200 - k)⟩ most b ∧ w'.heap[b]? = some (.map #[] 0) ∧ w.heap.size ≤ b ∧ Below w.heap.size w w' := by
  have HN := Aside0.mk (area_New_ok n hn k hk p hp hps w)
  have d1 : decide (most < 1) = false := decide_eq_false (by omega)
  have d2 : decide (1000 < most) = false := decide_eq_false (by omega)
  clear hn hk hp hps hm
  go_enter Try.func88, Try.ntmps88
  go_wp2_with fail
  refine HN.out.mono ?_
  rintro e w1 ⟨g, v, rfl, hA, hb⟩
  have HA := Aside0.mk hA
  have HB := Aside0.mk hb
  clear hA hb HN
  have hmk : (Instr.makeMap 135 none).run Try.prog w1 = .ok (.map (some w1.heap.size)) (w1.alloc (.map #[] 0)) := run_makeMap _ w1
  go_wp2_with fail
  obtain ⟨W, hW⟩ : ∃ W, w1.alloc (.map #[] 0) = W := ⟨_, rfl⟩
  have hsz : W.heap.size = w1.heap.size + 1 := by rw [← hW]; exact World.size_alloc _ _
  have hB2 : Below w.heap.size w W := by rw [← hW]; exact below_alloc HB.out _
  have hB1 : Below w1.heap.size w1 W := by rw [← hW]; exact below_alloc (Below.refl _ w1) _
  have hbm : W.heap[w1.heap.size]? = some (.map #[] 0) := by rw [← hW]; exact blk_new _ _
  rw [hW, ← hsz]
  go_ret2
  refine ⟨W.heap.size, g, v, w1.heap.size, rfl, ⟨blk_new _ _, hB2.size, (HA.out.below hB1).below (below_alloc (Below.refl _ W) _)⟩, blk_alloc hbm _, HB.out.size, below_alloc hB2 _⟩

end Go.Proofs.Ytemglmcddaeedaa.PA

namespace Go.Proofs.Ytemglmcddaeedaa.PA
open Go.RowKit Go.Proofs.YtemglmcddaeedaaW.PrintWords Go.Proofs.YtemglmcddaeedaaW.PrintLast Go.Proofs.YtemglmcddaeedaaW.PrintMore
attribute [local go_sem] max2_int min2_int max_two min_two max_three min_three max_four min_four   -- for this text's walks alone
set_option linter.unusedVariables false
set_option linter.unusedSimpArgs false

/-! ### piece_read: function 0 -/
theorem i64_or8w (x y : Int) (hx0 : 0 ≤ x) (hx : x % 256 = 0) (hx1 : x < 1099511627776) (h0 : 0 ≤ y) (h1 : y < 256) : Go.bits .or .i64 x y = x + y :=
  bits_join .i64 40 (by decide) (fun n h0 h1 => by rw [IntKind.wrap_i64]; omega) 8 x y hx0 hx hx1 h0 h1 (by omega)
def numS (s : ByteArray) (f : Nat) : Nat → Int
  | 0 => 0
  | n + 1 => numS s f n * 256 + bt s ((f : Int) + n)
theorem numS_range (s : ByteArray) (f : Nat) : ∀ n, n ≤ 4 → 0 ≤ numS s f n ∧ numS s f n < 256 ^ n := by
  intro n hn
  induction n with
  | zero => simp [numS]
  | succ n ih =>
    have := ih (by omega)
    have hb := bt_range s ((f : Int) + n)
    rw [numS, Int.pow_succ]
    omega
theorem numS_bound (s : ByteArray) (f j : Nat) (h : j ≤ 3) : 0 ≤ numS s f j ∧ numS s f j ≤ 16777215 := by
  have h0 := numS_range s f j (by omega)
  obtain rfl | rfl | rfl | rfl : j = 0 ∨ j = 1 ∨ j = 2 ∨ j = 3 := by omega
  all_goals omega
set_option maxHeartbeats 1000000 in
set_option maxRecDepth 100000 in
theorem read1_ok (s : ByteArray) (f t : Nat) (hft : f ≤ t) (ht : t ≤ s.size) (h4 : t - f ≤ 4) (hs : s.size ≤ 100000) (q : Nat) (w : World) (hq : w.heap[q]? = some (.cells #[.string s] 9 (0, 0))) :
    Calls Try.prog 139 #[.int .i64 (f : Int), .int .i64 (t : Int), .pointer (some ⟨q, 0, none⟩)] w fun e w' => e = .returned (.int .i64 (numS s f (t - f))) ∧ Below w.heap.size w w' := by
  have c0 := (blk_cell hq 0).trans rfl
  have h0 : (0 : Int) ≤ f := by omega
  have h1 : (f : Int) ≤ t := by omega
  have h2 : (t : Int) ≤ s.size := by omega
  obtain ⟨n, hn⟩ : ∃ n, t - f = n := ⟨_, rfl⟩
  rw [hn]
  obtain ⟨X, hX⟩ : ∃ X, s.extract f t = X := ⟨_, rfl⟩
  have hXs : X.size = n := by rw [← hX, ByteArray.size_extract]; omega
  have hXb : ∀ j, j < n → bt X (j : Int) = bt s ((f : Int) + j) := by
    intro j hj
    rw [← bt_at X (j : Int) (by rw [Int.toNat_natCast]; omega), ← bt_at s ((f : Int) + j) (by omega)]
    subst hX
    simp only [Int.toNat_natCast, show ((f : Int) + j).toNat = f + j by omega]
    rw [ByteArray.getElem_extract]
  have kb := print_bytes (P := Try.prog) 9 27 5 Try.underlying9 Try.underlying27 Try.underlying5 X w
  have HRD := Aside0.mk (bytes_reads w 5 X (by omega))
  have HB := Aside0.mk (bytes_below (Below.refl w.heap.size w) (Nat.le_refl _) 5 X)
  have HN := Aside0.mk (And.intro hXs hXb)
  obtain ⟨W1, hW1⟩ : ∃ W1, Lib.bytesWorld w 5 X = W1 := ⟨_, rfl⟩
  obtain ⟨C, hC⟩ : ∃ C, grownCap w X.size 0 5 = C := ⟨_, rfl⟩
  rw [hW1, hC] at kb
  rw [hW1] at HRD HB
  rw [hXs] at kb HRD
  obtain ⟨g, hg⟩ : ∃ g, w.heap.size = g := ⟨_, rfl⟩
  rw [hg] at kb HRD
  have hX2 : s.extract (f : Int).toNat (t : Int).toNat = X := by simpa using hX
  clear hXs hXb hC hW1
  go_enter Try.func139, Try.ntmps139
  go_wp2_with fail
  go_loopw [6, 15] (fun v6 v15 wr => ∃ j : Nat, j ≤ n ∧ v6 = .int .i64 (numS s f j) ∧ v15 = .int .i64 (j : Int) ∧ wr = W1) (fun _ v15 _ => n - (intOf v15).toNat)
  case atStart => exact ⟨0, by omega, rfl, rfl, rfl⟩
  case round =>
    obtain ⟨j, hj, rfl, rfl, rfl⟩ := hrel
    by_cases hlt : j < n
    · have hlt1 : (j : Int) < n := by omega
      have hj0 : (0 : Int) ≤ j := by omega
      have hr := numS_bound s f j (by omega)
      have hy := bt_range s ((f : Int) + j)
      obtain ⟨_, _, hcells⟩ := HRD.out
      obtain ⟨ad, hA, hcell⟩ := hcells (by omega)
      cases hA
      have c1 := hcell j hlt
      have hrd : (bytesOf X).getD j 0 = bt s ((f : Int) + j) := by
        rw [← HN.out.2 j hlt, ← rd_bytesOf X (j : Int)]; rfl
      rw [hrd, add_plain] at c1
      have hst : numS s f (j + 1) = numS s f j * 256 + bt s ((f : Int) + j) := rfl
      obtain ⟨V, hV⟩ : ∃ V, numS s f j = V := ⟨_, rfl⟩
      obtain ⟨y, hY⟩ : ∃ y, bt s ((f : Int) + j) = y := ⟨_, rfl⟩
      rw [hV] at hr hst ⊢
      rw [hY] at hst hy c1
      have HST := Aside0.mk hst
      have hv0 := hr.1
      have hv1 := hr.2
      have hy0 := hy.1
      have hy1 := hy.2
      have e1 : IntKind.i64.wrap (V * 256) = V * 256 := IntWalk.i64_in _ (by omega)
      have e2 : Go.bits .or .i64 (V * 256) y = V * 256 + y := i64_or8w _ _ (by omega) (by omega) (by omega) (by omega) (by omega)
      have e3 : IntKind.i64.wrap y = y := IntWalk.i64_in _ (by omega)
      clear hst hV hY hrd hcell hcells
      go_wp2_with fail
      go_roundw
      case rel => exact ⟨j + 1, by omega, by rw [HST.out], by go_num, trivial⟩
      case measure => simp [intOf]; omega
    · obtain rfl : j = n := by omega
      go_wp2_with fail
      go_ret
      exact ⟨rfl, HB.out⟩
/-- A fragment as it is read. -/
structure FragS where
  anchor : Bool
  key : Int
  number : Int
  page : Int
  line : Int
  part : ByteArray
def fragOf (s : ByteArray) : FragS := ⟨bt s 0 == 65, numS s 1 4, numS s 5 2, numS s 7 2, numS s 9 1, s.extract 10 s.size⟩
def FragS.cells (f : FragS) : Array Value := #[.bool f.anchor, .int .i64 f.key, .int .i64 f.number, .int .i64 f.page, .int .i64 f.line, .string f.part]
set_option maxHeartbeats 2000000 in
set_option maxRecDepth 100000 in
theorem read_ok (s : ByteArray) (h10 : 10 ≤ s.size) (hs : s.size ≤ 100000) (hk : bt s 0 = 65 ∨ bt s 0 = 67) (w : World) :
    Calls Try.prog 134 #[.string s] w fun e w' => e = .returned (.tuple #[.agg (fragOf s).cells, .bool true]) ∧ Below w.heap.size w w' := by
  have h1 : (10 : Int) ≤ s.size := by omega
  have h3 : (0 : Int) < s.size := by omega
  have h4 : 0 < s.size := by omega
  have d1 : decide ((s.size : Int) < 10) = false := decide_eq_false (by omega)
  obtain ⟨W, hW⟩ : ∃ W, (w.alloc (.cells #[.string s] 9)).alloc (.cells #[.bool false, .int .i64 0, .int .i64 0, .int .i64 0, .int .i64 0, .string ⟨#[]⟩] 157) = W := ⟨_, rfl⟩
  obtain ⟨q, hq⟩ : ∃ q, w.heap.size = q := ⟨_, rfl⟩
  have hk1 : W.heap[q]? = some (.cells #[.string s] 9 (0, 0)) := by rw [← hW, ← hq]; exact blk_alloc (blk_new _ _) _
  have hk2 : W.heap[q + 1]? = some (.cells #[.bool false, .int .i64 0, .int .i64 0, .int .i64 0, .int .i64 0, .string ⟨#[]⟩] 157 (0, 0)) := by
    rw [← hW, ← hq]
    have := blk_new (w.alloc (.cells #[.string s] 9)) (.cells #[.bool false, .int .i64 0, .int .i64 0, .int .i64 0, .int .i64 0, .string ⟨#[]⟩] 157)
    rwa [World.size_alloc] at this
  have hB : Below q w W := by rw [← hW, ← hq]; exact below_alloc (below_alloc (Below.refl _ w) _) _
  have c1 := (blk_cell hk1 0).trans rfl
  have HK1 := Aside0.mk hk1
  have HK2 := Aside0.mk hk2
  have HB := Aside0.mk hB
  have HQ := Aside0.mk hq
  clear hk1 hk2 hB
  obtain ⟨z, hz⟩ : ∃ z, (bt s 0 == 65) = z := ⟨_, rfl⟩
  have HZ := Aside0.mk hz
  rcases hk with h | h
  · obtain rfl : z = true := by rw [← hz, h]; rfl
    have hb : ∀ hh : 0 < s.size, ((s[0]'hh).toNat : Int) = 65 := fun hh => by rw [← h]; exact bt_at s 0 hh
    clear hz h
    go_enter Try.func134, Try.ntmps134
    go_wp2_with fail
    (try simp only [hW, hq])
    refine wp_region_held_drew (S := fun w' : World => w'.cell? ⟨q, 0, none⟩ = some (.string s)) (by kernel_rfl) c1 (fun hS => ?_)
    have HK3 := Aside0.mk (show W.drew.heap[q + 1]? = _ from HK2.out)
    have HB3 := Aside0.mk (below_drew HB.out)
    have HK1b := Aside0.mk (show W.drew.heap[q]? = _ from HK1.out)
    obtain ⟨V, hV⟩ : ∃ V, W.drew = V := ⟨_, rfl⟩
    rw [hV] at HK3 HB3 HK1b hS ⊢
    clear hV c1 HK1 HK2 HB
    refine wpAnyH_take (i := 0) (v := (.string s)) rfl (by kernel_rfl) (by kernel_rfl) (by kernel_rfl) (fun _ _ _ h => h) (Or.inl ⟨by rfl, by intro w hSw; (try dsimp only at hSw); first | (go_simp; done) | (go_simp; with_reducible rfl)⟩) hS ?_
    simp only [Act.put, List.setIfInBounds_toArray, List.set_cons_zero, List.set_cons_succ]
    refine wpAnyH_take (i := 1) (v := (.int .u8 65)) rfl (by kernel_rfl) (by kernel_rfl) (by kernel_rfl) (fun _ _ _ h => h) (Or.inl ⟨by rfl, by intro w hSw; (try dsimp only at hSw); first | (go_simp; done) | (go_simp; with_reducible rfl)⟩) hS ?_
    simp only [Act.put, List.setIfInBounds_toArray, List.set_cons_zero, List.set_cons_succ]
    refine wpAnyH_take (i := 2) (v := (.bool true)) rfl (by kernel_rfl) (by kernel_rfl) (by kernel_rfl) (fun _ _ _ h => h) (Or.inl ⟨by rfl, by intro w hSw; (try dsimp only at hSw); first | (go_simp; done) | (go_simp; with_reducible rfl)⟩) hS ?_
    simp only [Act.put, List.setIfInBounds_toArray, List.set_cons_zero, List.set_cons_succ]
    refine wpAnyH_take (i := 3) (v := (.func (.func 139) #[] #[.pointer (some ⟨q, 0, none⟩)])) rfl (by kernel_rfl) (by kernel_rfl) (by kernel_rfl) (fun _ _ _ h => h) (Or.inl ⟨by rfl, by intro w hSw; (try dsimp only at hSw); first | (go_simp; done) | (go_simp; with_reducible rfl)⟩) hS ?_
    simp only [Act.put, List.setIfInBounds_toArray, List.set_cons_zero, List.set_cons_succ]
    refine wpAnyH_take (i := 5) (v := (.func (.func 139) #[] #[.pointer (some ⟨q, 0, none⟩)])) rfl (by kernel_rfl) (by kernel_rfl) (by kernel_rfl) (fun _ _ _ h => h) (Or.inl ⟨by rfl, by intro w hSw; (try dsimp only at hSw); first | (go_simp; done) | (go_simp; with_reducible rfl)⟩) hS ?_
    simp only [Act.put, List.setIfInBounds_toArray, List.set_cons_zero, List.set_cons_succ]
    refine wpAnyH_take (i := 7) (v := (.func (.func 139) #[] #[.pointer (some ⟨q, 0, none⟩)])) rfl (by kernel_rfl) (by kernel_rfl) (by kernel_rfl) (fun _ _ _ h => h) (Or.inl ⟨by rfl, by intro w hSw; (try dsimp only at hSw); first | (go_simp; done) | (go_simp; with_reducible rfl)⟩) hS ?_
    simp only [Act.put, List.setIfInBounds_toArray, List.set_cons_zero, List.set_cons_succ]
    refine wpAnyH_take (i := 9) (v := (.func (.func 139) #[] #[.pointer (some ⟨q, 0, none⟩)])) rfl (by kernel_rfl) (by kernel_rfl) (by kernel_rfl) (fun _ _ _ h => h) (Or.inl ⟨by rfl, by intro w hSw; (try dsimp only at hSw); first | (go_simp; done) | (go_simp; with_reducible rfl)⟩) hS ?_
    simp only [Act.put, List.setIfInBounds_toArray, List.set_cons_zero, List.set_cons_succ]
    refine wpAnyH_take (i := 12) (v := (.string s)) rfl (by kernel_rfl) (by kernel_rfl) (by kernel_rfl) (fun _ _ _ h => h) (Or.inl ⟨by rfl, by intro w hSw; (try dsimp only at hSw); first | (go_simp; done) | (go_simp; with_reducible rfl)⟩) hS ?_
    simp only [Act.put, List.setIfInBounds_toArray, List.set_cons_zero, List.set_cons_succ]
    refine wpAnyH_take (i := 13) (v := (.string (s.extract 10 s.size))) rfl (by kernel_rfl) (by kernel_rfl) (by kernel_rfl) (fun _ _ _ h => h) (Or.inl ⟨by rfl, by intro w hSw; (try dsimp only at hSw); first | (go_simp; done) | (go_simp; with_reducible rfl)⟩) hS ?_
    simp only [Act.put, List.setIfInBounds_toArray, List.set_cons_zero, List.set_cons_succ]
    refine wpAnyH_ready (rs := [4]) (by kernel_rfl) (by simp) ?_
    refine AllReadyH.cons rfl (fun K hK => ?_) AllReadyH.nil
    go_simp
    refine (read1_ok s 1 5 (by omega) (by omega) (by omega) hs q _ HK1b.out).mono ?_
    rintro e V1 ⟨rfl, hb1⟩
    have n1 := Aside0.mk (show V1.heap[q + 1]? = _ from (hb1.block (q + 1) (blk_lt HK3.out)).trans HK3.out)
    have n2 := Aside0.mk (show V1.heap[q]? = _ from (hb1.block q (blk_lt HK1b.out)).trans HK1b.out)
    have n3 := Aside0.mk (below_then HB3.out (Nat.le_trans (Nat.le_of_lt (blk_lt HK1b.out)) (Nat.le_refl _)) hb1)
    refine hK.out _ _ (pw_cell_below hb1 hS) (fun hS2 => ?_)
    clear hb1 hK K hS HK3 HK1b HB3
    have HK3 := n1
    have HK1b := n2
    have HB3 := n3
    have hS := hS2
    clear n1 n2 n3 hS2
    try simp only [Act.put, List.setIfInBounds_toArray, List.set_cons_zero, List.set_cons_succ]
    refine wpAnyH_ready (rs := [6]) (by kernel_rfl) (by simp) ?_
    refine AllReadyH.cons rfl (fun K hK => ?_) AllReadyH.nil
    go_simp
    refine (read1_ok s 5 7 (by omega) (by omega) (by omega) hs q _ HK1b.out).mono ?_
    rintro e V2 ⟨rfl, hb2⟩
    have n1 := Aside0.mk (show V2.heap[q + 1]? = _ from (hb2.block (q + 1) (blk_lt HK3.out)).trans HK3.out)
    have n2 := Aside0.mk (show V2.heap[q]? = _ from (hb2.block q (blk_lt HK1b.out)).trans HK1b.out)
    have n3 := Aside0.mk (below_then HB3.out (Nat.le_trans (Nat.le_of_lt (blk_lt HK1b.out)) (Nat.le_refl _)) hb2)
    refine hK.out _ _ (pw_cell_below hb2 hS) (fun hS2 => ?_)
    clear hb2 hK K hS HK3 HK1b HB3
    have HK3 := n1
    have HK1b := n2
    have HB3 := n3
    have hS := hS2
    clear n1 n2 n3 hS2
    try simp only [Act.put, List.setIfInBounds_toArray, List.set_cons_zero, List.set_cons_succ]
    refine wpAnyH_ready (rs := [8]) (by kernel_rfl) (by simp) ?_
    refine AllReadyH.cons rfl (fun K hK => ?_) AllReadyH.nil
    go_simp
    refine (read1_ok s 7 9 (by omega) (by omega) (by omega) hs q _ HK1b.out).mono ?_
    rintro e V3 ⟨rfl, hb3⟩
    have n1 := Aside0.mk (show V3.heap[q + 1]? = _ from (hb3.block (q + 1) (blk_lt HK3.out)).trans HK3.out)
    have n2 := Aside0.mk (show V3.heap[q]? = _ from (hb3.block q (blk_lt HK1b.out)).trans HK1b.out)
    have n3 := Aside0.mk (below_then HB3.out (Nat.le_trans (Nat.le_of_lt (blk_lt HK1b.out)) (Nat.le_refl _)) hb3)
    refine hK.out _ _ (pw_cell_below hb3 hS) (fun hS2 => ?_)
    clear hb3 hK K hS HK3 HK1b HB3
    have HK3 := n1
    have HK1b := n2
    have HB3 := n3
    have hS := hS2
    clear n1 n2 n3 hS2
    try simp only [Act.put, List.setIfInBounds_toArray, List.set_cons_zero, List.set_cons_succ]
    refine wpAnyH_ready (rs := [10]) (by kernel_rfl) (by simp) ?_
    refine AllReadyH.cons rfl (fun K hK => ?_) AllReadyH.nil
    go_simp
    refine (read1_ok s 9 10 (by omega) (by omega) (by omega) hs q _ HK1b.out).mono ?_
    rintro e V4 ⟨rfl, hb4⟩
    have n1 := Aside0.mk (show V4.heap[q + 1]? = _ from (hb4.block (q + 1) (blk_lt HK3.out)).trans HK3.out)
    have n2 := Aside0.mk (show V4.heap[q]? = _ from (hb4.block q (blk_lt HK1b.out)).trans HK1b.out)
    have n3 := Aside0.mk (below_then HB3.out (Nat.le_trans (Nat.le_of_lt (blk_lt HK1b.out)) (Nat.le_refl _)) hb4)
    refine hK.out _ _ (pw_cell_below hb4 hS) (fun hS2 => ?_)
    clear hb4 hK K hS HK3 HK1b HB3
    have HK3 := n1
    have HK1b := n2
    have HB3 := n3
    have hS := hS2
    clear n1 n2 n3 hS2
    try simp only [Act.put, List.setIfInBounds_toArray, List.set_cons_zero, List.set_cons_succ]
    refine wpAnyH_take (i := 11) (v := (.agg #[.int .i64 (numS s 7 2), .int .i64 (numS s 9 1)])) rfl (by kernel_rfl) (by kernel_rfl) (by kernel_rfl) (fun _ _ _ h => h) (Or.inl ⟨by rfl, by intro w hSw; (try dsimp only at hSw); first | (go_simp; done) | (go_simp; with_reducible rfl)⟩) hS ?_
    simp only [Act.put, List.setIfInBounds_toArray, List.set_cons_zero, List.set_cons_succ]
    refine wpAnyH_take (i := 14) (v := (.agg #[.bool true, .int .i64 (numS s 1 4), .int .i64 (numS s 5 2), .int .i64 (numS s 7 2), .int .i64 (numS s 9 1), .string (s.extract 10 s.size)])) rfl (by kernel_rfl) (by kernel_rfl) (by kernel_rfl) (fun _ _ _ h => h) (Or.inl ⟨by rfl, by intro w hSw; (try dsimp only at hSw); first | (go_simp; done) | (go_simp; with_reducible rfl)⟩) hS ?_
    simp only [Act.put, List.setIfInBounds_toArray, List.set_cons_zero, List.set_cons_succ]
    have t0 := (blk_cell HK3.out 0).trans rfl
    have t1 := (blk_cell HK3.out 1).trans rfl
    have t2 := (blk_cell HK3.out 2).trans rfl
    have t3 := (blk_cell HK3.out 3).trans rfl
    have t4 := (blk_cell HK3.out 4).trans rfl
    have t5 := (blk_cell HK3.out 5).trans rfl
    have g0 := blk_frozen HK3.out 0
    have g1 := blk_frozen HK3.out 1
    have g2 := blk_frozen HK3.out 2
    have g3 := blk_frozen HK3.out 3
    have g4 := blk_frozen HK3.out 4
    have g5 := blk_frozen HK3.out 5
    refine wpAnyH_ready (rs := [15]) (by kernel_rfl) (by simp) ?_
    refine AllReadyH.cons rfl (fun K hK => ?_) AllReadyH.nil
    go_simp
    have k5 := blk_set (blk_set (blk_set (blk_set (blk_set (blk_set HK3.out 0 (.bool true)) 1 (.int .i64 (numS s 1 4))) 2 (.int .i64 (numS s 5 2))) 3 (.int .i64 (numS s 7 2))) 4 (.int .i64 (numS s 9 1))) 5 (.string (s.extract 10 s.size))
    have b5 : Below q w ((((((V4.setCell ⟨q + 1, 0, none⟩ (.bool true)).setCell ⟨q + 1, 1, none⟩ (.int .i64 (numS s 1 4))).setCell ⟨q + 1, 2, none⟩ (.int .i64 (numS s 5 2))).setCell ⟨q + 1, 3, none⟩ (.int .i64 (numS s 7 2))).setCell ⟨q + 1, 4, none⟩ (.int .i64 (numS s 9 1))).setCell ⟨q + 1, 5, none⟩ (.string (s.extract 10 s.size))) :=
      (((((HB3.out.setCell (Nat.le_succ q) _).setCell (Nat.le_succ q) _).setCell (Nat.le_succ q) _).setCell (Nat.le_succ q) _).setCell (Nat.le_succ q) _).setCell (Nat.le_succ q) _
    obtain ⟨V5, hV5⟩ : ∃ V5, ((((((V4.setCell ⟨q + 1, 0, none⟩ (.bool true)).setCell ⟨q + 1, 1, none⟩ (.int .i64 (numS s 1 4))).setCell ⟨q + 1, 2, none⟩ (.int .i64 (numS s 5 2))).setCell ⟨q + 1, 3, none⟩ (.int .i64 (numS s 7 2))).setCell ⟨q + 1, 4, none⟩ (.int .i64 (numS s 9 1))).setCell ⟨q + 1, 5, none⟩ (.string (s.extract 10 s.size))) = V5 := ⟨_, rfl⟩
    have s5 : V5.cell? ⟨q, 0, none⟩ = some (.string s) := by
      rw [← hV5]
      rw [World.cell?_setCell_far _ ⟨q + 1, 5, none⟩ ⟨q, 0, none⟩ _ (by show q + 1 ≠ q; omega), World.cell?_setCell_far _ ⟨q + 1, 4, none⟩ ⟨q, 0, none⟩ _ (by show q + 1 ≠ q; omega), World.cell?_setCell_far _ ⟨q + 1, 3, none⟩ ⟨q, 0, none⟩ _ (by show q + 1 ≠ q; omega), World.cell?_setCell_far _ ⟨q + 1, 2, none⟩ ⟨q, 0, none⟩ _ (by show q + 1 ≠ q; omega), World.cell?_setCell_far _ ⟨q + 1, 1, none⟩ ⟨q, 0, none⟩ _ (by show q + 1 ≠ q; omega), World.cell?_setCell_far _ ⟨q + 1, 0, none⟩ ⟨q, 0, none⟩ _ (by show q + 1 ≠ q; omega)]
      exact hS
    rw [hV5] at k5 b5 ⊢
    refine hK.out _ _ s5 (fun hS2 => ?_)
    have u0 : V5.cell? ⟨q + 1, 0, none⟩ = some (.bool true) := (blk_cell k5 0).trans rfl
    have u1 : V5.cell? ⟨q + 1, 1, none⟩ = some (.int .i64 (numS s 1 4)) := (blk_cell k5 1).trans rfl
    have u2 : V5.cell? ⟨q + 1, 2, none⟩ = some (.int .i64 (numS s 5 2)) := (blk_cell k5 2).trans rfl
    have u3 : V5.cell? ⟨q + 1, 3, none⟩ = some (.int .i64 (numS s 7 2)) := (blk_cell k5 3).trans rfl
    have u4 : V5.cell? ⟨q + 1, 4, none⟩ = some (.int .i64 (numS s 9 1)) := (blk_cell k5 4).trans rfl
    have u5 : V5.cell? ⟨q + 1, 5, none⟩ = some (.string (s.extract 10 s.size)) := (blk_cell k5 5).trans rfl
    clear hK K hS t0 t1 t2 t3 t4 t5 g0 g1 g2 g3 g4 g5 hV5
    try simp only [Act.put, List.setIfInBounds_toArray, List.set_cons_zero, List.set_cons_succ]
    refine wpAnyH_take (i := 16) (v := (.bool true)) rfl (by kernel_rfl) (by kernel_rfl) (by kernel_rfl) (fun _ _ _ h => h) (Or.inl ⟨by rfl, by intro w hSw; first | (go_simp; done) | (go_simp; with_reducible rfl)⟩) hS2 ?_
    simp only [Act.put, List.setIfInBounds_toArray, List.set_cons_zero, List.set_cons_succ]
    refine wpAnyH_done (by kernel_rfl) ?_ _
    simp only [List.getElem_toArray, List.getElem_cons_succ, List.getElem_cons_zero, List.set_cons_zero, List.set_cons_succ]
    go_wp2_with fail
    exact bodyPost_ret (v := .tuple #[.agg (fragOf s).cells, .bool true]) (by simp [results, Try.results134, go_sem, u0, u1, u2, u3, u4, u5, FragS.cells, fragOf, HZ.out]) rfl ⟨rfl, by rw [HQ.out]; exact b5⟩
  · obtain rfl : z = false := by rw [← hz, h]; rfl
    have hb : ∀ hh : 0 < s.size, ((s[0]'hh).toNat : Int) = 67 := fun hh => by rw [← h]; exact bt_at s 0 hh
    clear hz h
    go_enter Try.func134, Try.ntmps134
    go_wp2_with fail
    (try simp only [hW, hq])
    refine wp_region_held_drew (S := fun w' : World => w'.cell? ⟨q, 0, none⟩ = some (.string s)) (by kernel_rfl) c1 (fun hS => ?_)
    have HK3 := Aside0.mk (show W.drew.heap[q + 1]? = _ from HK2.out)
    have HB3 := Aside0.mk (below_drew HB.out)
    have HK1b := Aside0.mk (show W.drew.heap[q]? = _ from HK1.out)
    obtain ⟨V, hV⟩ : ∃ V, W.drew = V := ⟨_, rfl⟩
    rw [hV] at HK3 HB3 HK1b hS ⊢
    clear hV c1 HK1 HK2 HB
    refine wpAnyH_take (i := 0) (v := (.string s)) rfl (by kernel_rfl) (by kernel_rfl) (by kernel_rfl) (fun _ _ _ h => h) (Or.inl ⟨by rfl, by intro w hSw; (try dsimp only at hSw); first | (go_simp; done) | (go_simp; with_reducible rfl)⟩) hS ?_
    simp only [Act.put, List.setIfInBounds_toArray, List.set_cons_zero, List.set_cons_succ]
    refine wpAnyH_take (i := 1) (v := (.int .u8 67)) rfl (by kernel_rfl) (by kernel_rfl) (by kernel_rfl) (fun _ _ _ h => h) (Or.inl ⟨by rfl, by intro w hSw; (try dsimp only at hSw); first | (go_simp; done) | (go_simp; with_reducible rfl)⟩) hS ?_
    simp only [Act.put, List.setIfInBounds_toArray, List.set_cons_zero, List.set_cons_succ]
    refine wpAnyH_take (i := 2) (v := (.bool false)) rfl (by kernel_rfl) (by kernel_rfl) (by kernel_rfl) (fun _ _ _ h => h) (Or.inl ⟨by rfl, by intro w hSw; (try dsimp only at hSw); first | (go_simp; done) | (go_simp; with_reducible rfl)⟩) hS ?_
    simp only [Act.put, List.setIfInBounds_toArray, List.set_cons_zero, List.set_cons_succ]
    refine wpAnyH_take (i := 3) (v := (.func (.func 139) #[] #[.pointer (some ⟨q, 0, none⟩)])) rfl (by kernel_rfl) (by kernel_rfl) (by kernel_rfl) (fun _ _ _ h => h) (Or.inl ⟨by rfl, by intro w hSw; (try dsimp only at hSw); first | (go_simp; done) | (go_simp; with_reducible rfl)⟩) hS ?_
    simp only [Act.put, List.setIfInBounds_toArray, List.set_cons_zero, List.set_cons_succ]
    refine wpAnyH_take (i := 5) (v := (.func (.func 139) #[] #[.pointer (some ⟨q, 0, none⟩)])) rfl (by kernel_rfl) (by kernel_rfl) (by kernel_rfl) (fun _ _ _ h => h) (Or.inl ⟨by rfl, by intro w hSw; (try dsimp only at hSw); first | (go_simp; done) | (go_simp; with_reducible rfl)⟩) hS ?_
    simp only [Act.put, List.setIfInBounds_toArray, List.set_cons_zero, List.set_cons_succ]
    refine wpAnyH_take (i := 7) (v := (.func (.func 139) #[] #[.pointer (some ⟨q, 0, none⟩)])) rfl (by kernel_rfl) (by kernel_rfl) (by kernel_rfl) (fun _ _ _ h => h) (Or.inl ⟨by rfl, by intro w hSw; (try dsimp only at hSw); first | (go_simp; done) | (go_simp; with_reducible rfl)⟩) hS ?_
    simp only [Act.put, List.setIfInBounds_toArray, List.set_cons_zero, List.set_cons_succ]
    refine wpAnyH_take (i := 9) (v := (.func (.func 139) #[] #[.pointer (some ⟨q, 0, none⟩)])) rfl (by kernel_rfl) (by kernel_rfl) (by kernel_rfl) (fun _ _ _ h => h) (Or.inl ⟨by rfl, by intro w hSw; (try dsimp only at hSw); first | (go_simp; done) | (go_simp; with_reducible rfl)⟩) hS ?_
    simp only [Act.put, List.setIfInBounds_toArray, List.set_cons_zero, List.set_cons_succ]
    refine wpAnyH_take (i := 12) (v := (.string s)) rfl (by kernel_rfl) (by kernel_rfl) (by kernel_rfl) (fun _ _ _ h => h) (Or.inl ⟨by rfl, by intro w hSw; (try dsimp only at hSw); first | (go_simp; done) | (go_simp; with_reducible rfl)⟩) hS ?_
    simp only [Act.put, List.setIfInBounds_toArray, List.set_cons_zero, List.set_cons_succ]
    refine wpAnyH_take (i := 13) (v := (.string (s.extract 10 s.size))) rfl (by kernel_rfl) (by kernel_rfl) (by kernel_rfl) (fun _ _ _ h => h) (Or.inl ⟨by rfl, by intro w hSw; (try dsimp only at hSw); first | (go_simp; done) | (go_simp; with_reducible rfl)⟩) hS ?_
    simp only [Act.put, List.setIfInBounds_toArray, List.set_cons_zero, List.set_cons_succ]
    refine wpAnyH_ready (rs := [4]) (by kernel_rfl) (by simp) ?_
    refine AllReadyH.cons rfl (fun K hK => ?_) AllReadyH.nil
    go_simp
    refine (read1_ok s 1 5 (by omega) (by omega) (by omega) hs q _ HK1b.out).mono ?_
    rintro e V1 ⟨rfl, hb1⟩
    have n1 := Aside0.mk (show V1.heap[q + 1]? = _ from (hb1.block (q + 1) (blk_lt HK3.out)).trans HK3.out)
    have n2 := Aside0.mk (show V1.heap[q]? = _ from (hb1.block q (blk_lt HK1b.out)).trans HK1b.out)
    have n3 := Aside0.mk (below_then HB3.out (Nat.le_trans (Nat.le_of_lt (blk_lt HK1b.out)) (Nat.le_refl _)) hb1)
    refine hK.out _ _ (pw_cell_below hb1 hS) (fun hS2 => ?_)
    clear hb1 hK K hS HK3 HK1b HB3
    have HK3 := n1
    have HK1b := n2
    have HB3 := n3
    have hS := hS2
    clear n1 n2 n3 hS2
    try simp only [Act.put, List.setIfInBounds_toArray, List.set_cons_zero, List.set_cons_succ]
    refine wpAnyH_ready (rs := [6]) (by kernel_rfl) (by simp) ?_
    refine AllReadyH.cons rfl (fun K hK => ?_) AllReadyH.nil
    go_simp
    refine (read1_ok s 5 7 (by omega) (by omega) (by omega) hs q _ HK1b.out).mono ?_
    rintro e V2 ⟨rfl, hb2⟩
    have n1 := Aside0.mk (show V2.heap[q + 1]? = _ from (hb2.block (q + 1) (blk_lt HK3.out)).trans HK3.out)
    have n2 := Aside0.mk (show V2.heap[q]? = _ from (hb2.block q (blk_lt HK1b.out)).trans HK1b.out)
    have n3 := Aside0.mk (below_then HB3.out (Nat.le_trans (Nat.le_of_lt (blk_lt HK1b.out)) (Nat.le_refl _)) hb2)
    refine hK.out _ _ (pw_cell_below hb2 hS) (fun hS2 => ?_)
    clear hb2 hK K hS HK3 HK1b HB3
    have HK3 := n1
    have HK1b := n2
    have HB3 := n3
    have hS := hS2
    clear n1 n2 n3 hS2
    try simp only [Act.put, List.setIfInBounds_toArray, List.set_cons_zero, List.set_cons_succ]
    refine wpAnyH_ready (rs := [8]) (by kernel_rfl) (by simp) ?_
    refine AllReadyH.cons rfl (fun K hK => ?_) AllReadyH.nil
    go_simp
    refine (read1_ok s 7 9 (by omega) (by omega) (by omega) hs q _ HK1b.out).mono ?_
    rintro e V3 ⟨rfl, hb3⟩
    have n1 := Aside0.mk (show V3.heap[q + 1]? = _ from (hb3.block (q + 1) (blk_lt HK3.out)).trans HK3.out)
    have n2 := Aside0.mk (show V3.heap[q]? = _ from (hb3.block q (blk_lt HK1b.out)).trans HK1b.out)
    have n3 := Aside0.mk (below_then HB3.out (Nat.le_trans (Nat.le_of_lt (blk_lt HK1b.out)) (Nat.le_refl _)) hb3)
    refine hK.out _ _ (pw_cell_below hb3 hS) (fun hS2 => ?_)
    clear hb3 hK K hS HK3 HK1b HB3
    have HK3 := n1
    have HK1b := n2
    have HB3 := n3
    have hS := hS2
    clear n1 n2 n3 hS2
    try simp only [Act.put, List.setIfInBounds_toArray, List.set_cons_zero, List.set_cons_succ]
    refine wpAnyH_ready (rs := [10]) (by kernel_rfl) (by simp) ?_
    refine AllReadyH.cons rfl (fun K hK => ?_) AllReadyH.nil
    go_simp
    refine (read1_ok s 9 10 (by omega) (by omega) (by omega) hs q _ HK1b.out).mono ?_
    rintro e V4 ⟨rfl, hb4⟩
    have n1 := Aside0.mk (show V4.heap[q + 1]? = _ from (hb4.block (q + 1) (blk_lt HK3.out)).trans HK3.out)
    have n2 := Aside0.mk (show V4.heap[q]? = _ from (hb4.block q (blk_lt HK1b.out)).trans HK1b.out)
    have n3 := Aside0.mk (below_then HB3.out (Nat.le_trans (Nat.le_of_lt (blk_lt HK1b.out)) (Nat.le_refl _)) hb4)
    refine hK.out _ _ (pw_cell_below hb4 hS) (fun hS2 => ?_)
    clear hb4 hK K hS HK3 HK1b HB3
    have HK3 := n1
    have HK1b := n2
    have HB3 := n3
    have hS := hS2
    clear n1 n2 n3 hS2
    try simp only [Act.put, List.setIfInBounds_toArray, List.set_cons_zero, List.set_cons_succ]
    refine wpAnyH_take (i := 11) (v := (.agg #[.int .i64 (numS s 7 2), .int .i64 (numS s 9 1)])) rfl (by kernel_rfl) (by kernel_rfl) (by kernel_rfl) (fun _ _ _ h => h) (Or.inl ⟨by rfl, by intro w hSw; (try dsimp only at hSw); first | (go_simp; done) | (go_simp; with_reducible rfl)⟩) hS ?_
    simp only [Act.put, List.setIfInBounds_toArray, List.set_cons_zero, List.set_cons_succ]
    refine wpAnyH_take (i := 14) (v := (.agg #[.bool false, .int .i64 (numS s 1 4), .int .i64 (numS s 5 2), .int .i64 (numS s 7 2), .int .i64 (numS s 9 1), .string (s.extract 10 s.size)])) rfl (by kernel_rfl) (by kernel_rfl) (by kernel_rfl) (fun _ _ _ h => h) (Or.inl ⟨by rfl, by intro w hSw; (try dsimp only at hSw); first | (go_simp; done) | (go_simp; with_reducible rfl)⟩) hS ?_
    simp only [Act.put, List.setIfInBounds_toArray, List.set_cons_zero, List.set_cons_succ]
    have t0 := (blk_cell HK3.out 0).trans rfl
    have t1 := (blk_cell HK3.out 1).trans rfl
    have t2 := (blk_cell HK3.out 2).trans rfl
    have t3 := (blk_cell HK3.out 3).trans rfl
    have t4 := (blk_cell HK3.out 4).trans rfl
    have t5 := (blk_cell HK3.out 5).trans rfl
    have g0 := blk_frozen HK3.out 0
    have g1 := blk_frozen HK3.out 1
    have g2 := blk_frozen HK3.out 2
    have g3 := blk_frozen HK3.out 3
    have g4 := blk_frozen HK3.out 4
    have g5 := blk_frozen HK3.out 5
    refine wpAnyH_ready (rs := [15]) (by kernel_rfl) (by simp) ?_
    refine AllReadyH.cons rfl (fun K hK => ?_) AllReadyH.nil
    go_simp
    have k5 := blk_set (blk_set (blk_set (blk_set (blk_set (blk_set HK3.out 0 (.bool false)) 1 (.int .i64 (numS s 1 4))) 2 (.int .i64 (numS s 5 2))) 3 (.int .i64 (numS s 7 2))) 4 (.int .i64 (numS s 9 1))) 5 (.string (s.extract 10 s.size))
    have b5 : Below q w ((((((V4.setCell ⟨q + 1, 0, none⟩ (.bool false)).setCell ⟨q + 1, 1, none⟩ (.int .i64 (numS s 1 4))).setCell ⟨q + 1, 2, none⟩ (.int .i64 (numS s 5 2))).setCell ⟨q + 1, 3, none⟩ (.int .i64 (numS s 7 2))).setCell ⟨q + 1, 4, none⟩ (.int .i64 (numS s 9 1))).setCell ⟨q + 1, 5, none⟩ (.string (s.extract 10 s.size))) :=
      (((((HB3.out.setCell (Nat.le_succ q) _).setCell (Nat.le_succ q) _).setCell (Nat.le_succ q) _).setCell (Nat.le_succ q) _).setCell (Nat.le_succ q) _).setCell (Nat.le_succ q) _
    obtain ⟨V5, hV5⟩ : ∃ V5, ((((((V4.setCell ⟨q + 1, 0, none⟩ (.bool false)).setCell ⟨q + 1, 1, none⟩ (.int .i64 (numS s 1 4))).setCell ⟨q + 1, 2, none⟩ (.int .i64 (numS s 5 2))).setCell ⟨q + 1, 3, none⟩ (.int .i64 (numS s 7 2))).setCell ⟨q + 1, 4, none⟩ (.int .i64 (numS s 9 1))).setCell ⟨q + 1, 5, none⟩ (.string (s.extract 10 s.size))) = V5 := ⟨_, rfl⟩
    have s5 : V5.cell? ⟨q, 0, none⟩ = some (.string s) := by
      rw [← hV5]
      rw [World.cell?_setCell_far _ ⟨q + 1, 5, none⟩ ⟨q, 0, none⟩ _ (by show q + 1 ≠ q; omega), World.cell?_setCell_far _ ⟨q + 1, 4, none⟩ ⟨q, 0, none⟩ _ (by show q + 1 ≠ q; omega), World.cell?_setCell_far _ ⟨q + 1, 3, none⟩ ⟨q, 0, none⟩ _ (by show q + 1 ≠ q; omega), World.cell?_setCell_far _ ⟨q + 1, 2, none⟩ ⟨q, 0, none⟩ _ (by show q + 1 ≠ q; omega), World.cell?_setCell_far _ ⟨q + 1, 1, none⟩ ⟨q, 0, none⟩ _ (by show q + 1 ≠ q; omega), World.cell?_setCell_far _ ⟨q + 1, 0, none⟩ ⟨q, 0, none⟩ _ (by show q + 1 ≠ q; omega)]
      exact hS
    rw [hV5] at k5 b5 ⊢
    refine hK.out _ _ s5 (fun hS2 => ?_)
    have u0 : V5.cell? ⟨q + 1, 0, none⟩ = some (.bool false) := (blk_cell k5 0).trans rfl
    have u1 : V5.cell? ⟨q + 1, 1, none⟩ = some (.int .i64 (numS s 1 4)) := (blk_cell k5 1).trans rfl
    have u2 : V5.cell? ⟨q + 1, 2, none⟩ = some (.int .i64 (numS s 5 2)) := (blk_cell k5 2).trans rfl
    have u3 : V5.cell? ⟨q + 1, 3, none⟩ = some (.int .i64 (numS s 7 2)) := (blk_cell k5 3).trans rfl
    have u4 : V5.cell? ⟨q + 1, 4, none⟩ = some (.int .i64 (numS s 9 1)) := (blk_cell k5 4).trans rfl
    have u5 : V5.cell? ⟨q + 1, 5, none⟩ = some (.string (s.extract 10 s.size)) := (blk_cell k5 5).trans rfl
    clear hK K hS t0 t1 t2 t3 t4 t5 g0 g1 g2 g3 g4 g5 hV5
    try simp only [Act.put, List.setIfInBounds_toArray, List.set_cons_zero, List.set_cons_succ]
    refine wpAnyH_take (i := 16) (v := (.bool true)) rfl (by kernel_rfl) (by kernel_rfl) (by kernel_rfl) (fun _ _ _ h => h) (Or.inl ⟨by rfl, by intro w hSw; first | (go_simp; done) | (go_simp; with_reducible rfl)⟩) hS2 ?_
    simp only [Act.put, List.setIfInBounds_toArray, List.set_cons_zero, List.set_cons_succ]
    refine wpAnyH_done (by kernel_rfl) ?_ _
    simp only [List.getElem_toArray, List.getElem_cons_succ, List.getElem_cons_zero, List.set_cons_zero, List.set_cons_succ]
    go_wp2_with fail
    exact bodyPost_ret (v := .tuple #[.agg (fragOf s).cells, .bool true]) (by simp [results, Try.results134, go_sem, u0, u1, u2, u3, u4, u5, FragS.cells, fragOf, HZ.out]) rfl ⟨rfl, by rw [HQ.out]; exact b5⟩

end Go.Proofs.Ytemglmcddaeedaa.PA

namespace Go.Proofs.Ytemglmcddaeedaa.PA
open Go.RowKit Go.Proofs.YtemglmcddaeedaaW.PrintWords Go.Proofs.YtemglmcddaeedaaW.PrintLast Go.Proofs.YtemglmcddaeedaaW.PrintMore
attribute [local go_sem] max2_int min2_int max_two min_two max_three min_three max_four min_four   -- for this text's walks alone
set_option linter.unusedVariables false
set_option linter.unusedSimpArgs false

/-! ### piece_key: function 92 -/
def piece_key.f (a0 : Int) : Option (Bool) := if a0 ≥ 1 then (some (decide (a0 ≤ 1000000))) else (some false)
set_option maxHeartbeats 8000000 in
set_option maxRecDepth 100000 in
theorem piece_key.calls (a0 : Int) (r : Bool) (w : World) (h : piece_key.f a0 = some r) :
    Calls Try.prog 92 #[.int .i64 a0] w fun e w' => e = .returned (.bool r) ∧ Drawn0 w w' := by
  have H : (if a0 ≥ 1 then (some (decide (a0 ≤ 1000000))) else (some false)) = some r := h
  clear h
  by_cases c2 : a0 ≥ 1
  · rw [if_pos c2] at H
    have c2b0 : decide (1 ≤ a0) = true := decide_eq_true c2
    clear c2
    obtain rfl := Option.some.inj H
    go_enter Try.func92, Try.ntmps92
    go_wp2
    go_ret
    exact ⟨by first | rfl | (simp; done) | (simp [*]; done), by repeat (first | exact Drawn0.refl _ | apply Drawn0.step)⟩
  · rw [if_neg c2] at H
    have c2b0 : decide (1 ≤ a0) = false := decide_eq_false c2
    clear c2
    obtain rfl := Option.some.inj H
    go_enter Try.func92, Try.ntmps92
    go_wp2
    go_ret
    exact ⟨by first | rfl | (simp; done) | (simp [*]; done), by repeat (first | exact Drawn0.refl _ | apply Drawn0.step)⟩

end Go.Proofs.Ytemglmcddaeedaa.PA

namespace Go.Proofs.Ytemglmcddaeedaa.PA
open Go.RowKit Go.Proofs.YtemglmcddaeedaaW.PrintWords Go.Proofs.YtemglmcddaeedaaW.PrintLast Go.Proofs.YtemglmcddaeedaaW.PrintMore
attribute [local go_sem] max2_int min2_int max_two min_two max_three min_three max_four min_four   -- for this text's walks alone
set_option linter.unusedVariables false
set_option linter.unusedSimpArgs false

/-! ### heap_ask: function 0 -/
theorem look_one (k x y : Int) (b born clock : Nat) (W : World) (hb : W.heap[b]? = some (.map #[⟨.int .i64 k, .agg #[.int .i64 x, .int .i64 y], born⟩] clock)) :
    (Instr.lookup 135 (.map (some b)) (.int .i64 k) true).run Try.prog W = .ok (.tuple #[.agg #[.int .i64 x, .int .i64 y], .bool true]) W := by
  have hk : (Instr.checkKey false 10000 3 (.int .i64 k)).run Try.prog W = .ok () W := MapKept.run_checkKey Try.underlying3 (by simp [MapKept.IsKey]) false 9999
  have hf : (Instr.findKey 3 (.int .i64 k) [⟨.int .i64 k, .agg #[.int .i64 x, .int .i64 y], born⟩]).run Try.prog W = .ok (some (0, .agg #[.int .i64 x, .int .i64 y])) W :=
    MapKept.run_findKey Try.underlying3 (by simp [Instr.findNow, Instr.sameNow])
  simp [Instr.lookup, run_underlying Try.underlying135, MapKept.run_getObj_map hb, hk, hf, Result.andThen]
theorem key_ok (k : Int) (hk : 1 ≤ k ∧ k ≤ 1000000) : piece_key.f k = some true := by
  unfold piece_key.f
  simp [hk.1, hk.2]
set_option maxRecDepth 100000 in
theorem heap_asked_there {base h g b : Nat} {v : Value} {a : AreaS} {most : Int} (k : Int) (hk : 1 ≤ k ∧ k ≤ 1000000) (x y : Int) (born clock : Nat) (w : World) (H : HeapAt w base h g v a most b) (hb : w.heap[b]? = some (.map #[⟨.int .i64 k, .agg #[.int .i64 x, .int .i64 y], born⟩] clock)) :
    Calls Try.prog 121 #[.pointer (some ⟨h, 0, none⟩), .int .i64 k] w fun e w' => e = .returned (.int .i64 0) ∧ Below w.heap.size w w' := by
  have c2 := (blk_cell H.blk 2).trans rfl
  have HK := Aside0.mk (key_ok k hk)
  have HB := Aside0.mk hb
  clear H hk hb
  go_enter Try.func121, Try.ntmps121
  go_wp2_with fail
  refine (piece_key.calls k true w HK.out).mono ?_
  rintro e w1 ⟨rfl, ⟨nd, hw⟩⟩
  have c3 : w1.cell? ⟨h, 2, none⟩ = some (.map (some b)) := by rw [hw]; exact c2
  have hlk := look_one k x y b born clock w1 (by rw [hw]; exact blk_drewN HB.out nd)
  have HD := Aside0.mk (show Below w.heap.size w w1 by rw [hw]; exact pw_below_drewN (Below.refl _ w) nd)
  clear hw c2
  go_wp2_with fail
  go_ret
  exact ⟨rfl, below_alloc HD.out _⟩

end Go.Proofs.Ytemglmcddaeedaa.PA

namespace Go.Proofs.Ytemglmcddaeedaa.PA
open Go.RowKit Go.Proofs.YtemglmcddaeedaaW.PrintWords Go.Proofs.YtemglmcddaeedaaW.PrintLast Go.Proofs.YtemglmcddaeedaaW.PrintMore
attribute [local go_sem] max2_int min2_int max_two min_two max_three min_three max_four min_four   -- for this text's walks alone
set_option linter.unusedVariables false
set_option linter.unusedSimpArgs false

/-! ### heap_frag: function 0 -/
/-! #### the fragments of a record: the closure, and what write defers -/
theorem heap_fragments (h : Nat) (k : Int) (w : World) :
    Calls Try.prog 123 #[.pointer (some ⟨h, 0, none⟩), .int .i64 k] w fun e w' =>
      e = .returned (.func (.func 133) #[] #[.pointer (some ⟨w.heap.size, 0, none⟩), .pointer (some ⟨w.heap.size + 1, 0, none⟩)]) ∧
      w' = (w.alloc (.cells #[.pointer (some ⟨h, 0, none⟩)] 109)).alloc (.cells #[.int .i64 k] 3) := by
  go_enter Try.func123, Try.ntmps123
  go_wp2
  go_ret
  exact ⟨rfl, rfl⟩
theorem write1_idle (q8 q9 q4 : Nat) (w : World) (hq : w.heap[q8]? = some (.cells #[.int .i64 0] 28 (0, 0))) :
    Calls Try.prog 131 #[.pointer (some ⟨q8, 0, none⟩), .pointer (some ⟨q9, 0, none⟩), .pointer (some ⟨q4, 0, none⟩)] w fun e w' => e = .returned (.tuple #[]) ∧ Below w.heap.size w w' := by
  have c0 := (blk_cell hq 0).trans rfl
  clear hq
  go_enter Try.func131, Try.ntmps131
  go_wp2_with fail
  first | go_end0 | go_ret
  exact ⟨rfl, Below.refl _ _⟩
theorem look_none (k : Int) (b clock : Nat) (W : World) (hb : W.heap[b]? = some (.map #[] clock)) :
    (Instr.lookup 135 (.map (some b)) (.int .i64 k) true).run Try.prog W = .ok (.tuple #[.agg #[.int .i64 0, .int .i64 0], .bool false]) W := by
  have hk : (Instr.checkKey true 10000 3 (.int .i64 k)).run Try.prog W = .ok () W := MapKept.run_checkKey Try.underlying3 (by simp [MapKept.IsKey]) true 9999
  have hf : (Instr.findKey 3 (.int .i64 k) []).run Try.prog W = .ok none W :=
    MapKept.run_findKey Try.underlying3 (by simp [Instr.findNow])
  have hz : (zeroValue 93).run Try.prog W = .ok (.agg #[.int .i64 0, .int .i64 0]) W := by kernel_rfl
  simp [Instr.lookup, run_underlying Try.underlying135, MapKept.run_getObj_map hb, hk, hf, hz, Result.andThen]
theorem write1_idleD (q8 q9 q4 : Nat) (u : FrameMode) (w : World) (hq : w.heap[q8]? = some (.cells #[.int .i64 0] 28 (0, 0))) :
    CallsD Try.prog 131 #[.pointer (some ⟨q8, 0, none⟩), .pointer (some ⟨q9, 0, none⟩), .pointer (some ⟨q4, 0, none⟩)] u w fun e u' w' => u' = u ∧ (e = .returned (.tuple #[]) ∧ Below w.heap.size w w') := by
  have c0 := (blk_cell hq 0).trans rfl
  clear hq
  refine callsD_of_wp Try.func131 rfl ?_
  simp only [Try.ntmps131, List.size_toArray, List.length_cons, List.length_nil, Nat.reduceAdd, Nat.reduceSub, Array.replicate_succ, Array.replicate_zero, List.push_toArray, List.append_toArray, List.nil_append, List.cons_append]
  go_wp2_with fail
  first | go_end0 | go_ret
  exact ⟨rfl, Below.refl _ _⟩
theorem write_leaves {tmps : Array Value} {R : Ending → World → Prop} (q8 q9 q4 : Nat) (W : World) (h8 : W.heap[q8]? = some (.cells #[.int .i64 0] 28 (0, 0))) (ht : tmps[8]? = some (.pointer (some ⟨q8, 0, none⟩)))
    (hR : ∀ w', Below W.heap.size W w' → R (.returned (.int .i64 0)) w') :
    Leaves Try.prog Try.f120 tmps R [{ target := .fn (.func 131) #[.pointer (some ⟨q8, 0, none⟩), .pointer (some ⟨q9, 0, none⟩), .pointer (some ⟨q4, 0, none⟩)], args := #[] }] .returning W := by
  refine leaves_cons (f := 131) (args := #[.pointer (some ⟨q8, 0, none⟩), .pointer (some ⟨q9, 0, none⟩), .pointer (some ⟨q4, 0, none⟩)]) (by simp) (by simp [go_sem]) ?_
  refine (write1_idleD q8 q9 q4 .returning W h8).mono ?_
  rintro e u' w' ⟨rfl, rfl, hb⟩
  have c0 : w'.cell? ⟨q8, 0, none⟩ = some (.int .i64 0) := pw_cell_below hb ((blk_cell h8 0).trans rfl)
  have ht2 : tmps.getD 8 undef = .pointer (some ⟨q8, 0, none⟩) := by rw [Array.getD_eq_getD_getElem?, ht]; rfl
  refine ⟨.int .i64 0, ?_, hR w' hb⟩
  simp [results, Try.results120, go_sem, ht, ht2, c0]
theorem update_first (k x y : Int) (b clock : Nat) (W : World) (hb : W.heap[b]? = some (.map #[] clock)) :
    (Instr.mapUpdate 135 (.map (some b)) (.int .i64 k) (.agg #[.int .i64 x, .int .i64 y])).run Try.prog W = .ok () { W with heap := W.heap.setIfInBounds b (.map #[{ key := .int .i64 k, val := .agg #[.int .i64 x, .int .i64 y], born := clock }] (clock + 1)) } := by
  have hc : (Instr.checkKey false 10000 3 (.int .i64 k)).run Try.prog W = .ok () W := MapKept.run_checkKey Try.underlying3 (by simp [MapKept.IsKey]) false 9999
  have hf : (Instr.findKey 3 (.int .i64 k) []).run Try.prog W = .ok none W := MapKept.run_findKey Try.underlying3 (by simp [Instr.findNow])
  simp [Instr.mapUpdate, run_underlying Try.underlying135, MapKept.run_getObj_map hb, hc, hf, MapKept.run_setObj_map _ hb, Result.andThen]

end Go.Proofs.Ytemglmcddaeedaa.PA

namespace Go.Proofs.Ytemglmcddaeedaa.PA
open Go.RowKit Go.Proofs.YtemglmcddaeedaaW.PrintWords Go.Proofs.YtemglmcddaeedaaW.PrintLast Go.Proofs.YtemglmcddaeedaaW.PrintMore
attribute [local go_sem] max2_int min2_int max_two min_two max_three min_three max_four min_four   -- for this text's walks alone
set_option linter.unusedVariables false
set_option linter.unusedSimpArgs false

/-! ### addr_row: function 0 -/
/-! #### rows of addresses -/
def kA : Kd (Int × Int) := Kd.pair (Kd.int .i64) (Kd.int .i64)
def aEnc (x : Int × Int) : List Value := [.int .i64 x.1, .int .i64 x.2]
theorem aEnc_len (x : Int × Int) : (aEnc x).length = 2 := rfl
theorem kA_mkM (w : World) (base : Nat) (ok : Nat → Prop) (x : Int × Int) : kA.M w base ok x (aEnc x) := ⟨[.int .i64 x.1], [.int .i64 x.2], rfl, rfl, rfl⟩
theorem kA_openM {w : World} {base : Nat} {ok : Nat → Prop} {x : Int × Int} {cs : List Value} (h : kA.M w base ok x cs) : cs = aEnc x := by
  obtain ⟨c0, c1, rfl, h0, h1⟩ := h
  cases h0
  cases h1
  rfl
theorem reps_a (w : World) (base : Nat) (ok : Nat → Prop) (l : List (Int × Int)) : Reps (kA.M w base ok) 2 l (encs_ aEnc l) := by
  refine ⟨encs_len aEnc_len l, fun j p hj => ?_⟩
  obtain ⟨hlt, he⟩ := List.getElem?_eq_some_iff.1 hj
  have : ((encs_ aEnc l).drop (j * 2)).take 2 = aEnc p := by
    rw [encs_drop aEnc_len l j (by omega), List.drop_eq_getElem_cons hlt, he, encs_cons]
    exact List.take_left' (aEnc_len p)
  rw [this]
  exact kA_mkM w base ok p
theorem a_of_reps {w : World} {base : Nat} {ok : Nat → Prop} : ∀ {l : List (Int × Int)} {cs : List Value}, Reps (kA.M w base ok) 2 l cs → cs = encs_ aEnc l := by
  intro l
  induction l with
  | nil => intro cs h; exact List.eq_nil_of_length_eq_zero (by simpa using h.1)
  | cons x l ih =>
    intro cs h
    have h0 := kA_openM (h.2 0 x rfl)
    simp only [Nat.zero_mul, List.drop_zero] at h0
    have h1 : Reps (kA.M w base ok) 2 l (cs.drop 2) := by
      refine ⟨by rw [List.length_drop, h.1, List.length_cons]; omega, fun j p hj => ?_⟩
      have := h.2 (j + 1) p (by simpa using hj)
      rw [show (j + 1) * 2 = 2 + j * 2 by omega, ← List.drop_drop] at this
      exact this
    rw [encs_cons, ← ih h1, show aEnc x = cs.take 2 from h0.symm, List.take_append_drop]
theorem aR_of_row {w : World} {base : Nat} {v : Value} {l : List (Int × Int)} (h : RowK aEnc 2 93 w base v l) : Kd.R kA 93 w base (fun _ => True) v l :=
  ⟨fun _ _ => trivial, encs_ aEnc l, h.owns aEnc_len, reps_a _ _ _ _⟩
theorem row_of_aR {w : World} {base : Nat} {ok : Nat → Prop} {v : Value} {l : List (Int × Int)} (h : Kd.R kA 93 w base ok v l) : RowK aEnc 2 93 w base v l := by
  obtain ⟨_, inner, ho, hr⟩ := h
  rw [a_of_reps hr] at ho
  exact RowK.of_owns aEnc_len ho
theorem a_reads {w : World} {base vb : Nat} (ok : Nat → Prop) (x : Int × Int) (hvb : w.heap[vb]? = some (.cells (aEnc x).toArray 93 (0, 0))) : ReadsRow (kA.M w base ok) 2 w (some ⟨vb, 0, none⟩) 1 [x] :=
  ⟨rfl, by omega, fun _ => ⟨_, rfl, fun j p hj => by
    match j, hj with
    | 0, hj =>
      cases hj
      exact ⟨aEnc x, rfl, kA_mkM w base _ x, fun i u hu => by rw [Nat.zero_mul, Nat.zero_add, add_plain, blk_cell hvb]; simpa using hu⟩⟩⟩
theorem row_own {w : World} {base : Nat} {v : Value} {l : List (Int × Int)} (h : RowK aEnc 2 93 w base v l) : ∀ i, some i = v.ownBlock → base ≤ i ∧ ∃ cs, w.heap[i]? = some (.cells cs 93 (0, 0)) := by
  rcases h with ⟨rfl, _⟩ | ⟨r', cap', sp, rfl, h1, _, _, _, h6⟩
  · intro i h; simp [Value.ownBlock] at h
  · intro i h
    have : i = r' := by simpa [Value.ownBlock] using h
    rw [this]; exact ⟨h1, _, h6⟩

end Go.Proofs.Ytemglmcddaeedaa.PA

namespace Go.Proofs.Ytemglmcddaeedaa.PA
open Go.RowKit Go.Proofs.YtemglmcddaeedaaW.PrintWords Go.Proofs.YtemglmcddaeedaaW.PrintLast Go.Proofs.YtemglmcddaeedaaW.PrintMore
attribute [local go_sem] max2_int min2_int max_two min_two max_three min_three max_four min_four   -- for this text's walks alone
set_option linter.unusedVariables false
set_option linter.unusedSimpArgs false

/-! ### heap_wat: function 0 -/
/-! #### write: all puts go well -/
theorem RowK.move {α : Type} {enc : α → List Value} {k : Nat} {e : TypeId} {w w' : World} {base : Nat} {v : Value} {l : List α} (h : RowK enc k e w base v l) (hk : ∀ (r : Nat) (cs : Array Value), w.heap[r]? = some (.cells cs e (0, 0)) → w'.heap[r]? = w.heap[r]?) : RowK enc k e w' base v l := by
  rcases h with h | ⟨r, cap, sp, h1, h2, h3, h4, h5, h6⟩
  · exact .inl h
  · exact .inr ⟨r, cap, sp, h1, h2, h3, h4, h5, (hk r _ h6).trans h6⟩
theorem AreaAt.move {w w' : World} {base g : Nat} {v : Value} {a : AreaS} (h : AreaAt w base g v a) (hg : w'.heap[g]? = w.heap[g]?) (hk : ∀ (r : Nat) (cs : Array Value), w.heap[r]? = some (.cells cs 9 (0, 0)) → w'.heap[r]? = w.heap[r]?) : AreaAt w' base g v a :=
  ⟨h.ge, hg.trans h.blk, h.lv, RowK.move h.row hk⟩
/-- What holds behind j puts. -/
structure WriteAt (w0 W : World) (base h g r cap b n q q11 : Nat) (v1 : Value) (most : Int) (l : List ByteArray) (a : AreaS) (x : Int × Int) (c : Nat) : Prop where
  heap : HeapAt W base h g (.slice (some ⟨r, 0, none⟩) n cap) a most b
  map : W.heap[b]? = some (.map #[] 0)
  box : W.heap[q]? = some (.cells #[.pointer (some ⟨h, 0, none⟩)] 109 (0, 0))
  err : W.heap[q + 1]? = some (.cells #[.int .i64 0] 28 (0, 0))
  done : ∃ v9 d9, W.heap[q + 1 + 1]? = some (.cells #[v9] 113 (0, 0)) ∧ RowK aEnc 2 93 W (q11 + 1) v9 d9 ∧ d9.length = c
  next : W.heap[q11]? = some (.cells #[.int .i64 x.1, .int .i64 x.2] 93 (0, 0))
  parts : RowK sEnc 1 9 W (q + 3) v1 l
  far : q + 3 ≤ q11
  gq : g < q
  rq : r < q
  bq : base ≤ q
  low : Below base w0 W
theorem WriteAt.below {w0 W W' : World} {base h g r cap b n q q11 : Nat} {v1 : Value} {most : Int} {l : List ByteArray} {a : AreaS} {x : Int × Int} {c : Nat} (H : WriteAt w0 W base h g r cap b n q q11 v1 most l a x c) (hb : Below W.heap.size W W') : WriteAt w0 W' base h g r cap b n q q11 v1 most l a x c := by
  obtain ⟨v9, d9, e1, e2, e3⟩ := H.done
  exact ⟨H.heap.below hb, (hb.block b (blk_lt H.map)).trans H.map, (hb.block q (blk_lt H.box)).trans H.box, (hb.block _ (blk_lt H.err)).trans H.err, ⟨v9, d9, (hb.block _ (blk_lt e1)).trans e1, e2.below hb, e3⟩,
    (hb.block q11 (blk_lt H.next)).trans H.next, H.parts.below hb, H.far, H.gq, H.rq, H.bq, below_then H.low (Nat.le_trans H.bq (Nat.le_of_lt (blk_lt H.box))) hb⟩
theorem RowK.behind {α : Type} {enc : α → List Value} {k : Nat} {e : TypeId} {w w' : World} {base : Nat} {v : Value} {l : List α} (h : RowK enc k e w base v l) (hk : ∀ r : Nat, base ≤ r → r < w.heap.size → w'.heap[r]? = w.heap[r]?) : RowK enc k e w' base v l := by
  rcases h with h | ⟨r, cap, sp, h1, h2, h3, h4, h5, h6⟩
  · exact .inl h
  · exact .inr ⟨r, cap, sp, h1, h2, h3, h4, h5, (hk r h2 (blk_lt h6)).trans h6⟩
theorem WriteAt.put {w0 W W' : World} {base h g r cap b n q q11 : Nat} {v1 : Value} {most : Int} {l : List ByteArray} {a a' : AreaS} {x : Int × Int} {c : Nat} (H : WriteAt w0 W base h g r cap b n q q11 v1 most l a x c) (hk : Keep2 W W' g (some r))
    (hA : AreaAt W' base g (.slice (some ⟨r, 0, none⟩) n cap) a') : WriteAt w0 W' base h g r cap b n q q11 v1 most l a' x c := by
  have hgq := H.gq
  have hrq := H.rq
  have far : ∀ i : Nat, q ≤ i → i < W.heap.size → W'.heap[i]? = W.heap[i]? := fun i hi hl => hk.block i hl (by omega) (by intro e; cases e; omega)
  obtain ⟨hrb, cs, hr⟩ : base ≤ r ∧ ∃ cs, W.heap[r]? = some (.cells cs 9 (0, 0)) := by
    rcases H.heap.area.row with ⟨h0, _⟩ | ⟨r', cap', sp, h1, h2, _, _, _, h6⟩
    · cases h0
    · cases h1; exact ⟨h2, _, h6⟩
  have hb : W'.heap[b]? = W.heap[b]? := by
    refine hk.block b (blk_lt H.map) (fun e => ?_) (fun e => ?_)
    · have := H.heap.area.blk; rw [← e, H.map] at this; cases this
    · cases e; rw [H.map] at hr; cases hr
  have hh : W'.heap[h]? = W.heap[h]? := by
    refine hk.block h (blk_lt H.heap.blk) (fun e => ?_) (fun e => ?_)
    · have h0 := H.heap.area.blk
      rw [← e, H.heap.blk] at h0
      injection (Option.some.inj h0) with _ h2 _
      exact absurd h2 (by decide)
    · cases e; rw [H.heap.blk] at hr; injection (Option.some.inj hr) with _ h2 _; exact absurd h2 (by decide)
  obtain ⟨v9, d9, e1, e2, e3⟩ := H.done
  exact ⟨⟨hh.trans H.heap.blk, H.heap.ge, hA⟩, hb.trans H.map, (far q (Nat.le_refl _) (blk_lt H.box)).trans H.box, (far _ (by omega) (blk_lt H.err)).trans H.err, ⟨v9, d9, (far _ (by omega) (blk_lt e1)).trans e1, e2.behind (fun i hi hl => far i (by have := H.far; omega) hl), e3⟩,
    (far q11 (by have := H.far; omega) (blk_lt H.next)).trans H.next, H.parts.behind (fun i hi hl => far i (by omega) hl), H.far, H.gq, H.rq, H.bq, hk.below H.low (Nat.le_trans H.bq (Nat.le_of_lt (blk_lt H.box))) H.heap.area.ge (by intro k hk; cases hk; exact hrb)⟩
theorem WriteAt.round {w0 W W' : World} {base h g r cap b n q q11 : Nat} {v1 v9 v9' : Value} {most : Int} {l : List ByteArray} {a : AreaS} {x y : Int × Int} {c c' : Nat} {d9 d9' : List (Int × Int)} (H : WriteAt w0 W base h g r cap b n q q11 v1 most l a x c)
    (e1 : W.heap[q + 1 + 1]? = some (.cells #[v9] 113 (0, 0))) (e2 : RowK aEnc 2 93 W (q11 + 1) v9 d9)
    (hk : ∀ i, i ≠ q + 1 + 1 → i ≠ q11 → some i ≠ v9.ownBlock → i < W.heap.size → W'.heap[i]? = W.heap[i]?)
    (n1 : W'.heap[q + 1 + 1]? = some (.cells #[v9'] 113 (0, 0))) (n2 : RowK aEnc 2 93 W' (q11 + 1) v9' d9') (n3 : d9'.length = c')
    (n4 : W'.heap[q11]? = some (.cells #[.int .i64 y.1, .int .i64 y.2] 93 (0, 0))) (n5 : Below base w0 W') : WriteAt w0 W' base h g r cap b n q q11 v1 most l a y c' := by
  have hown := row_own e2
  have keep : ∀ (i : Nat) (cs : Array Value) (t : TypeId), W.heap[i]? = some (.cells cs t (0, 0)) → t ≠ 93 → t ≠ 113 → W'.heap[i]? = W.heap[i]? := by
    intro i cs t h0 h1 h2
    refine hk i (fun e => ?_) (fun e => ?_) (fun e => ?_) (blk_lt h0)
    · rw [e, e1] at h0; injection (Option.some.inj h0) with _ h3 _; exact h2 h3.symm
    · rw [e, H.next] at h0; injection (Option.some.inj h0) with _ h3 _; exact h1 h3.symm
    · obtain ⟨_, cs', h'⟩ := hown i e
      rw [h'] at h0; injection (Option.some.inj h0) with _ h3 _; exact h1 h3.symm
  have keepM : W'.heap[b]? = some (.map #[] 0) := by
    refine (hk b (fun e => ?_) (fun e => ?_) (fun e => ?_) (blk_lt H.map)).trans H.map
    · rw [← e, H.map] at e1; cases e1
    · have := H.next; rw [← e, H.map] at this; cases this
    · obtain ⟨_, cs', h'⟩ := hown b e
      rw [H.map] at h'; cases h'
  exact ⟨⟨(keep h _ _ H.heap.blk (by decide) (by decide)).trans H.heap.blk, H.heap.ge, H.heap.area.move (keep g _ _ H.heap.area.blk (by decide) (by decide)) (fun i cs h0 => keep i cs _ h0 (by decide) (by decide))⟩, keepM,
    (keep q _ _ H.box (by decide) (by decide)).trans H.box, (keep (q + 1) _ _ H.err (by decide) (by decide)).trans H.err, ⟨v9', d9', n1, n2, n3⟩, n4, H.parts.move (fun i cs h0 => keep i cs _ h0 (by decide) (by decide)), H.far, H.gq, H.rq, H.bq, n5⟩
theorem wStore {U X : World} {base g r n cap p : Nat} {a : AreaS} (HK : Keep2 U X g (some r)) (HA : AreaAt X base g (.slice (some ⟨r, 0, none⟩) n cap) a) (hp : U.heap.size ≤ p) (hb : X.heap[p]? = some (.cells #[.int .i64 0, .int .i64 0] 93 (0, 0))) (x y : Value) :
    Keep2 U ((X.setCell ⟨p, 0, none⟩ x).setCell ⟨p, 1, none⟩ y) g (some r) ∧ AreaAt ((X.setCell ⟨p, 0, none⟩ x).setCell ⟨p, 1, none⟩ y) base g (.slice (some ⟨r, 0, none⟩) n cap) a ∧ ((X.setCell ⟨p, 0, none⟩ x).setCell ⟨p, 1, none⟩ y).heap[p]? = some (.cells #[x, y] 93 (0, 0)) := by
  have hne : ∀ i : Nat, i ≠ p → ((X.setCell ⟨p, 0, none⟩ x).setCell ⟨p, 1, none⟩ y).heap[i]? = X.heap[i]? := fun i hi =>
    (Below.heap_setCell (X.setCell ⟨p, 0, none⟩ x) ⟨p, 1, none⟩ y i hi).trans (Below.heap_setCell X ⟨p, 0, none⟩ x i hi)
  refine ⟨Keep2.far (Keep2.far HK (p := ⟨p, 0, none⟩) hp x) (p := ⟨p, 1, none⟩) hp y, HA.move (hne g (fun e => ?_)) (fun i cs h0 => hne i (fun e => ?_)), blk_set (blk_set hb 0 x) 1 y⟩
  · have h0 := HA.blk
    rw [e, hb] at h0
    injection (Option.some.inj h0) with _ h2 _
    exact absurd h2 (by decide)
  · rw [e, hb] at h0
    cases h0

end Go.Proofs.Ytemglmcddaeedaa.PA

namespace Go.Proofs.Ytemglmcddaeedaa.PA
open Go.RowKit Go.Proofs.YtemglmcddaeedaaW.PrintWords Go.Proofs.YtemglmcddaeedaaW.PrintLast Go.Proofs.YtemglmcddaeedaaW.PrintMore
attribute [local go_sem] max2_int min2_int max_two min_two max_three min_three max_four min_four   -- for this text's walks alone
set_option linter.unusedVariables false
set_option linter.unusedSimpArgs false

/-! ### piece_parts: function 93 -/
def piece_parts.l0 : Nat → Int → ByteArray → List ByteArray → Option (List ByteArray)
  | 0, _, _, _ => none
  | k + 1, x0, x1, x5 => if (x1.size : Int) > x0 then (if 0 ≤ x0 then (if x0 ≤ (x1.size : Int) then (if x5.length < 8796093022208 then (piece_parts.l0 k x0 (x1.extract (x0 : Int).toNat x1.size) (x5 ++ [x1.extract 0 (x0 : Int).toNat])) else (none)) else (none)) else (none)) else (if x5.length < 8796093022208 then (some (x5 ++ [x1])) else (none))
def piece_parts.f (k : Nat) (a0 : Int) (a1 : ByteArray) : Option (List ByteArray) := piece_parts.l0 k a0 a1 ([] : List ByteArray)
theorem piece_parts.mono_l : ∀ k, (∀ y0 y1 y2, LeO (piece_parts.l0 k y0 y1 y2) (piece_parts.l0 (k + 1) y0 y1 y2))
  | 0 => fun _ _ _ r h => by simp [piece_parts.l0] at h
  | k + 1 => by
    have ih0 := piece_parts.mono_l k
    · intro y0 y1 y2
      unfold piece_parts.l0
      repeat' first
      | (with_reducible exact ih0 _ _ _)
      | (with_reducible exact LeO.refl _)
      | (with_reducible exact LeO.none _)
      | (with_reducible refine LeO.ite ?_ ?_)
      | (with_reducible refine LeO.bind ?_ (fun _ => ?_))
      | exact ih0 _ _ _
      | exact LeO.none _
      | refine LeO.ite ?_ ?_
      | refine LeO.bind ?_ (fun _ => ?_)
theorem piece_parts.mono : ∀ a0 a1 k, LeO (piece_parts.f k a0 a1) (piece_parts.f (k + 1) a0 a1) := by
  intro a0 a1 k
  have ih0 := piece_parts.mono_l k
  unfold piece_parts.f
  repeat' first
      | (with_reducible exact ih0 _ _ _)
      | (with_reducible exact LeO.refl _)
      | (with_reducible exact LeO.none _)
      | (with_reducible refine LeO.ite ?_ ?_)
      | (with_reducible refine LeO.bind ?_ (fun _ => ?_))
      | exact ih0 _ _ _
      | exact LeO.none _
      | refine LeO.ite ?_ ?_
      | refine LeO.bind ?_ (fun _ => ?_)
set_option maxHeartbeats 8000000 in
set_option maxRecDepth 100000 in
theorem piece_parts.calls (k : Nat) (a0 : Int) (a1 : ByteArray) (r : List ByteArray) (w : World) (h : piece_parts.f k a0 a1 = some r) :
    Calls Try.prog 93 #[.int .i64 a0, .string a1] w fun e w' => ∃ v0_ : Value, e = .returned (v0_) ∧ Kd.R Kd.string 9 w' w.heap.size (fun _ => True) v0_ r ∧ Below w.heap.size w w' := by
  have HB := Aside0.mk (Below.refl w.heap.size w)
  have H : (piece_parts.l0 k a0 a1 ([] : List ByteArray)) = some r := h
  clear h
  have H' := Aside0.mk H
  clear H
  go_enter Try.func93, Try.ntmps93
  go_wp2
  go_loopg [1, 5] k (fun kq v1 v5 w' => ∃ (x1_1 : ByteArray) (x5_1 : List ByteArray), v1 = .string x1_1 ∧ Aside0 (piece_parts.l0 kq a0 x1_1 x5_1 = some r) ∧ Aside0 (kq ≤ k) ∧ Aside0 (Kd.R Kd.string 9 w' w.heap.size (fun _ => True) v5 x5_1) ∧ Aside0 (Below w.heap.size w w'))
  case atStart => exact ⟨(a1), (([] : List ByteArray)), (by first | rfl | (simp; done) | (simp [*]; done)), H', ⟨Nat.le_refl _⟩, ⟨by first | exact Kd.R_nil _ _ _ _ _ | exact Kd.N_nil _ _ _ _ _ | exact Kd.V_nil _ _ _ _ _ | exact Kd.Q_nil _ _ _ _ _ | exact Kd.S_nil _ _ _ _ _⟩, ⟨by repeat (first | (with_reducible first | exact HB.out | apply below_alloc | apply pw_below_drewN | apply below_drew1) | exact HB.out)⟩⟩
  case round =>
    clear H'
    try clear p2
    obtain ⟨x1_1, x5_1, rfl, HA, HK1, HO_5, HB⟩ := hrel
    cases gk with
    | zero => exact absurd HA.out (by simp [piece_parts.l0])
    | succ k1 =>
      have H := HA.out
      clear HA
      simp only [piece_parts.l0] at H
      by_cases c3 : (x1_1.size : Int) > a0
      · rw [if_pos c3] at H
        have c3b0 : decide (a0 < (x1_1.size : Int)) = true := decide_eq_true c3
        clear c3
        by_cases c4 : 0 ≤ a0
        · rw [if_pos c4] at H
          have c4b0 := eq_true c4
          have c4b1 : decide (0 ≤ a0) = true := decide_eq_true c4
          clear c4
          by_cases c5 : a0 ≤ (x1_1.size : Int)
          · rw [if_pos c5] at H
            have c5b0 := eq_true c5
            have c5b1 : decide (a0 ≤ (x1_1.size : Int)) = true := decide_eq_true c5
            clear c5
            by_cases c6 : x5_1.length < 8796093022208
            · rw [if_pos c6] at H
              have LMc6 := Aside0.mk c6
              clear c6
              obtain ⟨y417, hy417⟩ : ∃ y_ : List ByteArray, y_ = (x5_1 ++ [x1_1.extract 0 (a0 : Int).toNat]) := ⟨_, rfl⟩
              replace H : (piece_parts.l0 k1 a0 (x1_1.extract (a0 : Int).toNat x1_1.size) y417) = some r := by first | (rw [hy417]; with_reducible exact H) | (have H2_ := (Option.bind_some _ _).symm.trans H; rw [hy417]; with_reducible exact H2_) | (have H2_ := (Option.bind_some _ _).symm.trans H; with_reducible exact H2_) | with_reducible exact H | (rw [hy417]; exact H) | exact H
              have Ny417 := Aside0.mk hy417
              clear hy417
              have c7b0 := eq_true (of_decide_eq_true (by first | (with_reducible assumption) | assumption) : 0 ≤ a0)
              have c8b0 := eq_true (of_decide_eq_true (by first | (with_reducible assumption) | assumption) : a0 ≤ (x1_1.size : Int))
              have H' := Aside0.mk H
              clear H
              go_wp2_with (first | ((with_reducible refine gate_builtin (b := .append) (xs := #[.tmp 10, .tmp 14]) rfl ?_); at_builtin; refine Kd.R_append Kd.string (w0 := w) w.heap.size rfl (.tmp 10) (.tmp 14) 56 9 (.string ⟨#[]⟩) 16 rfl Try.underlying56 info9 rfl (by decide) (by omega) u5 x5_1 (x1_1.extract 0 (a0 : Int).toNat) [.string (x1_1.extract 0 (a0 : Int).toNat)] (fun _ => True) (fun _ => False) rfl rfl ?aP (fun _ hk => hk.elim) ?aF ?aO ?aB ?aS ?aL ?_; (case aP => exact rfl); (case aB => exact (by repeat (first | (with_reducible first | exact HB.out | apply below_alloc | apply pw_below_drewN | apply below_drew1) | exact HB.out))); (case aF => exact (fun _ _ => trivial)); (case aO => exact (by (with_reducible repeat (first | apply Kd.R_alloc | apply Kd.R_drewN | apply Kd.R_drew)); exact HO_5.out)); (case aS => exact (below_size (by repeat (first | (with_reducible first | exact HB.out | apply below_alloc | apply pw_below_drewN | apply below_drew1) | exact HB.out)))); (case aL => have := LMc6.out; omega); intro v418 w9 ho hb hg hat; rw [← Ny417.out] at ho; have n0_ := Aside0.mk (hb); have n1_ := Aside0.mk (ho); clear HB; clear HO_5; have HB := n0_; have HO419 := n1_; clear n0_ n1_; clear ho hb hg hat))
              go_roundg k1
              case measure => have := HK1.out; omega
              case rel => exact ⟨(x1_1.extract (a0 : Int).toNat x1_1.size), (y417), (by first | rfl | (simp; done) | (simp [*]; done)), H', ⟨by have := HK1.out; omega⟩, ⟨by (with_reducible repeat (first | apply Kd.R_alloc | apply Kd.R_drewN | apply Kd.R_drew)); exact HO419.out⟩, ⟨by repeat (first | (with_reducible first | exact HB.out | apply below_alloc | apply pw_below_drewN | apply below_drew1) | exact HB.out)⟩⟩
            · rw [if_neg c6] at H
              exact absurd H (by simp)
          · rw [if_neg c5] at H
            exact absurd H (by simp)
        · rw [if_neg c4] at H
          exact absurd H (by simp)
      · rw [if_neg c3] at H
        have c3b0 : decide (a0 < (x1_1.size : Int)) = false := decide_eq_false c3
        clear c3
        by_cases c10 : x5_1.length < 8796093022208
        · rw [if_pos c10] at H
          have LMc10 := Aside0.mk c10
          clear c10
          obtain ⟨y420, hy420⟩ : ∃ y_ : List ByteArray, y_ = (x5_1 ++ [x1_1]) := ⟨_, rfl⟩
          replace H : (some y420) = some r := by first | (rw [hy420]; with_reducible exact H) | (have H2_ := (Option.bind_some _ _).symm.trans H; rw [hy420]; with_reducible exact H2_) | (have H2_ := (Option.bind_some _ _).symm.trans H; with_reducible exact H2_) | with_reducible exact H | (rw [hy420]; exact H) | exact H
          have Ny420 := Aside0.mk hy420
          clear hy420
          obtain rfl := Option.some.inj H
          go_wp2_with (first | ((with_reducible refine gate_builtin (b := .append) (xs := #[.tmp 19, .tmp 21]) rfl ?_); at_builtin; refine Kd.R_append Kd.string (w0 := w) w.heap.size rfl (.tmp 19) (.tmp 21) 56 9 (.string ⟨#[]⟩) 16 rfl Try.underlying56 info9 rfl (by decide) (by omega) u5 x5_1 x1_1 [.string x1_1] (fun _ => True) (fun _ => False) rfl rfl ?aP (fun _ hk => hk.elim) ?aF ?aO ?aB ?aS ?aL ?_; (case aP => exact rfl); (case aB => exact (by repeat (first | (with_reducible first | exact HB.out | apply below_alloc | apply pw_below_drewN | apply below_drew1) | exact HB.out))); (case aF => exact (fun _ _ => trivial)); (case aO => exact (by (with_reducible repeat (first | apply Kd.R_alloc | apply Kd.R_drewN | apply Kd.R_drew)); exact HO_5.out)); (case aS => exact (below_size (by repeat (first | (with_reducible first | exact HB.out | apply below_alloc | apply pw_below_drewN | apply below_drew1) | exact HB.out)))); (case aL => have := LMc10.out; omega); intro v421 w11 ho hb hg hat; rw [← Ny420.out] at ho; have n0_ := Aside0.mk (hb); have n1_ := Aside0.mk (ho); clear HB; clear HO_5; have HB := n0_; have HO422 := n1_; clear n0_ n1_; clear ho hb hg hat))
          go_ret
          exact ⟨_, by first | rfl | (simp [errW_none, errW_some] <;> rfl) | (simp [*, errW_none, errW_some] <;> rfl), by (with_reducible repeat (first | apply Kd.R_alloc | apply Kd.R_drewN | apply Kd.R_drew)); exact HO422.out, by repeat (first | (with_reducible first | exact HB.out | apply below_alloc | apply pw_below_drewN | apply below_drew1) | exact HB.out)⟩
        · rw [if_neg c10] at H
          exact absurd H (by simp)

end Go.Proofs.Ytemglmcddaeedaa.PA

namespace Go.Proofs.Ytemglmcddaeedaa.PA
open Go.RowKit Go.Proofs.YtemglmcddaeedaaW.PrintWords Go.Proofs.YtemglmcddaeedaaW.PrintLast Go.Proofs.YtemglmcddaeedaaW.PrintMore
attribute [local go_sem] max2_int min2_int max_two min_two max_three min_three max_four min_four   -- for this text's walks alone
set_option linter.unusedVariables false
set_option linter.unusedSimpArgs false

/-! ### piece_framed: function 94 -/
def piece_framed.f (a0 : Int) (a1 : Int) (a2 : Int) (a3_0 : Int) (a3_1 : Int) (a4 : ByteArray) : Option (ByteArray) := if a1 = 0 then ((some (([65, (a0 / 16777216) % 256, (a0 / 65536) % 256, (a0 / 256) % 256, (a0) % 256, (a2 / 256) % 256, (a2) % 256, (a3_0 / 256) % 256, (a3_0) % 256, (a3_1) % 256] : List Int) : List Int)).bind fun y424 => (if y424.length + a4.size < 140737488355328 then (some (strOfNums (y424 ++ bytesOf a4))) else (none))) else ((some (([67, (a0 / 16777216) % 256, (a0 / 65536) % 256, (a0 / 256) % 256, (a0) % 256, (a1 / 256) % 256, (a1) % 256, (a3_0 / 256) % 256, (a3_0) % 256, (a3_1) % 256] : List Int) : List Int)).bind fun y430 => (if y430.length + a4.size < 140737488355328 then (some (strOfNums (y430 ++ bytesOf a4))) else (none)))
set_option maxHeartbeats 8000000 in
set_option maxRecDepth 100000 in
theorem piece_framed.calls (a0 : Int) (a1 : Int) (a2 : Int) (a3_0 : Int) (a3_1 : Int) (a4 : ByteArray) (r : ByteArray) (w : World) (h : piece_framed.f a0 a1 a2 a3_0 a3_1 a4 = some r) :
    Calls Try.prog 94 #[.int .i64 a0, .int .i64 a1, .int .i64 a2, .agg #[.int .i64 a3_0, .int .i64 a3_1], .string a4] w fun e w' => e = .returned (.string r) ∧ Below w.heap.size w w' := by
  have hu93 := Try.underlying93
  have HB := Aside0.mk (Below.refl w.heap.size w)
  have H : (if a1 = 0 then ((some (([65, (a0 / 16777216) % 256, (a0 / 65536) % 256, (a0 / 256) % 256, (a0) % 256, (a2 / 256) % 256, (a2) % 256, (a3_0 / 256) % 256, (a3_0) % 256, (a3_1) % 256] : List Int) : List Int)).bind fun y424 => (if y424.length + a4.size < 140737488355328 then (some (strOfNums (y424 ++ bytesOf a4))) else (none))) else ((some (([67, (a0 / 16777216) % 256, (a0 / 65536) % 256, (a0 / 256) % 256, (a0) % 256, (a1 / 256) % 256, (a1) % 256, (a3_0 / 256) % 256, (a3_0) % 256, (a3_1) % 256] : List Int) : List Int)).bind fun y430 => (if y430.length + a4.size < 140737488355328 then (some (strOfNums (y430 ++ bytesOf a4))) else (none)))) = some r := h
  clear h
  by_cases c6 : a1 = 0
  · rw [if_pos c6] at H
    have c6b0 : (a1 == 0) = true := beq_iff_eq.mpr c6
    have c6b1 : (a1 != 0) = false := bne_eq_false_iff_eq.mpr c6
    clear c6
    obtain ⟨y424, hy424⟩ : ∃ y_ : List Int, y_ = (([65, (a0 / 16777216) % 256, (a0 / 65536) % 256, (a0 / 256) % 256, (a0) % 256, (a2 / 256) % 256, (a2) % 256, (a3_0 / 256) % 256, (a3_0) % 256, (a3_1) % 256] : List Int)) := ⟨_, rfl⟩
    replace H : (if y424.length + a4.size < 140737488355328 then (some (strOfNums (y424 ++ bytesOf a4))) else (none)) = some r := by first | (rw [hy424]; with_reducible exact H) | (have H2_ := (Option.bind_some _ _).symm.trans H; rw [hy424]; with_reducible exact H2_) | (have H2_ := (Option.bind_some _ _).symm.trans H; with_reducible exact H2_) | with_reducible exact H | (rw [hy424]; exact H) | exact H
    have Ny424 := Aside0.mk hy424
    clear hy424
    by_cases c7 : y424.length + a4.size < 140737488355328
    · rw [if_pos c7] at H
      have LMc7 := Aside0.mk c7
      clear c7
      obtain ⟨y427, hy427⟩ : ∃ y_ : List Int, y_ = (y424 ++ bytesOf a4) := ⟨_, rfl⟩
      replace H : (some (strOfNums y427)) = some r := by first | (rw [hy427]; with_reducible exact H) | (have H2_ := (Option.bind_some _ _).symm.trans H; rw [hy427]; with_reducible exact H2_) | (have H2_ := (Option.bind_some _ _).symm.trans H; with_reducible exact H2_) | with_reducible exact H | (rw [hy427]; exact H) | exact H
      have Ny427 := Aside0.mk hy427
      clear hy427
      obtain rfl := Option.some.inj H
      go_enter Try.func94, Try.ntmps94
      go_wp2_with (first | ((with_reducible refine gate_dst (N := 8) rfl ?_); refine box_event ?hg (N := 8) ?hd (cs := #[.int .i64 a3_0, .int .i64 a3_1]) (t := 93) ?hr ?_; (case hd => rfl); (case hg => rfl); (case hr => first | (go_simp; done) | (go_simp; rfl)); intro gb423 hg w8 hbox hb; have n0_ := Aside0.mk (below_step (by repeat (first | (with_reducible first | exact HB.out | apply below_alloc | apply pw_below_drewN | apply below_drew1) | exact HB.out)) hb); have n1_ := Aside0.mk (hbox); have n2_ := Aside0.mk ((by rw [hg]; exact (below_size (by repeat (first | (with_reducible first | exact HB.out | apply below_alloc | apply pw_below_drewN | apply below_drew1) | exact HB.out))) : w.heap.size ≤ gb423)); have n3_ := Aside0.mk ((by rw [hg]; exact (below_size (by repeat (first | (with_reducible first | exact HB.out | apply below_alloc | apply pw_below_drewN | apply below_drew1) | exact HB.out))) : w.heap.size ≤ gb423)); clear HB; have HB := n0_; have BK423 := n1_; have GW423 := n2_; have GE423 := n3_; clear n0_ n1_ n2_ n3_; clear hb hbox hg; have hcz9_0 : w8.cell? ⟨gb423, 0, none⟩ = some (.int .i64 a3_0) := (blk_cell BK423.out 0).trans rfl; have hcz9_1 : w8.cell? ⟨gb423, 1, none⟩ = some (.int .i64 a3_1) := (blk_cell BK423.out 1).trans rfl; have hfz9_0 := blk_frozen BK423.out 0; have hfz9_1 := blk_frozen BK423.out 1) | ((with_reducible refine gate_dst (N := 45) rfl ?_); refine Kd.R_lit (Kd.int .u8) _ 5 ?hg (N := 45) ?hd (xs := ([65, (a0 / 16777216) % 256, (a0 / 65536) % 256, (a0 / 256) % 256, (a0) % 256, (a2 / 256) % 256, (a2) % 256, (a3_0 / 256) % 256, (a3_0) % 256, (a3_1) % 256] : List Int)) (inner := [.int .u8 65, .int .u8 ((a0 / 16777216) % 256), .int .u8 ((a0 / 65536) % 256), .int .u8 ((a0 / 256) % 256), .int .u8 ((a0) % 256), .int .u8 ((a2 / 256) % 256), .int .u8 ((a2) % 256), .int .u8 ((a3_0 / 256) % 256), .int .u8 ((a3_0) % 256), .int .u8 ((a3_1) % 256)]) (ok := fun _ => True) (okp := fun _ => True) ?hr ?hp (fun _ hk => hk) trivial (Below.refl _ _) (Nat.le_refl _) (by simp) ?_; (case hd => rfl); (case hg => rfl); (case hr => first | (go_simp; done) | (go_simp; rfl)); (case hp => exact (Reps.one (show Kd.M (Kd.int .u8) _ _ _ 65 [.int .u8 65] from rfl) (Reps.one (show Kd.M (Kd.int .u8) _ _ _ ((a0 / 16777216) % 256) [.int .u8 ((a0 / 16777216) % 256)] from rfl) (Reps.one (show Kd.M (Kd.int .u8) _ _ _ ((a0 / 65536) % 256) [.int .u8 ((a0 / 65536) % 256)] from rfl) (Reps.one (show Kd.M (Kd.int .u8) _ _ _ ((a0 / 256) % 256) [.int .u8 ((a0 / 256) % 256)] from rfl) (Reps.one (show Kd.M (Kd.int .u8) _ _ _ ((a0) % 256) [.int .u8 ((a0) % 256)] from rfl) (Reps.one (show Kd.M (Kd.int .u8) _ _ _ ((a2 / 256) % 256) [.int .u8 ((a2 / 256) % 256)] from rfl) (Reps.one (show Kd.M (Kd.int .u8) _ _ _ ((a2) % 256) [.int .u8 ((a2) % 256)] from rfl) (Reps.one (show Kd.M (Kd.int .u8) _ _ _ ((a3_0 / 256) % 256) [.int .u8 ((a3_0 / 256) % 256)] from rfl) (Reps.one (show Kd.M (Kd.int .u8) _ _ _ ((a3_0) % 256) [.int .u8 ((a3_0) % 256)] from rfl) (Reps.one (show Kd.M (Kd.int .u8) _ _ _ ((a3_1) % 256) [.int .u8 ((a3_1) % 256)] from rfl) (Reps.none _ _)))))))))))); intro v425 w10 ho11 hb hg_ hnew_; clear hg_ hnew_; (first | rw [← Ny424.out] at ho11 | (simp only [Int.reduceToNat] at ho11; rw [← Ny424.out] at ho11)); have n0_ := Aside0.mk (Kd.R_lower ho11 (below_size (by repeat (first | (with_reducible first | exact HB.out | apply below_alloc | apply pw_below_drewN | apply below_drew1 | refine below_set ?_ GE423.out) | exact HB.out)))); have n1_ := Aside0.mk (blk_below (g := gb423) (o := .cells #[.int .i64 a3_0, .int .i64 a3_1] 93 (0, 0)) (by (with_reducible repeat (first | refine blk_drewN ?_ _ | refine blk_drew ?_ | refine blk_alloc ?_ _)); exact BK423.out) hb); have n2_ := Aside0.mk (below_step (by repeat (first | (with_reducible first | exact HB.out | apply below_alloc | apply pw_below_drewN | apply below_drew1 | refine below_set ?_ GE423.out) | exact HB.out)) hb); clear BK423; clear HB; have HO426 := n0_; have BK423 := n1_; have HB := n2_; clear n0_ n1_ n2_; clear hb ho11) | (at_builtin; refine print_append_str (w0 := w) w.heap.size rfl (.tmp 46) _ 27 9 5 rfl Try.underlying27 Try.underlying9 info5 v425 y424 a4 rfl rfl ?aO ?aB ?aS ?aL ?_; (case aB => exact (by repeat (first | (with_reducible first | exact HB.out | apply below_alloc | apply pw_below_drewN | apply below_drew1 | refine below_set ?_ GE423.out) | exact HB.out))); (case aO => exact (Kd.own_of_R (by (with_reducible repeat (first | apply Kd.R_alloc | apply Kd.R_drewN | apply Kd.R_drew)); exact HO426.out))); (case aS => exact (below_size (by repeat (first | (with_reducible first | exact HB.out | apply below_alloc | apply pw_below_drewN | apply below_drew1 | refine below_set ?_ GE423.out) | exact HB.out)))); (case aL => have := LMc7.out; omega); intro v428 w12 ho0 hb hg; have ho := Kd.R_of_own (h1 := fun _ => rfl) (ok := fun _ => True) ho0 (fun _ _ => trivial); clear ho0; have hat := True.intro; rw [← Ny427.out] at ho; change Kd.R (Kd.int .u8) 5 w12 w.heap.size (fun _ => True) v428 y427 at ho; have n0_ := Aside0.mk (blk_grown (g := gb423) (o := .cells #[.int .i64 a3_0, .int .i64 a3_1] 93 (0, 0)) (by (with_reducible repeat (first | refine blk_drewN ?_ _ | refine blk_drew ?_ | refine blk_alloc ?_ _)); exact BK423.out) hg (Kd.R_ne HO426.out BK423.out (by decide))); have n1_ := Aside0.mk (hb); have n2_ := Aside0.mk (ho); clear BK423; clear HB; clear HO426; have BK423 := n0_; have HB := n1_; have HO429 := n2_; clear n0_ n1_ n2_; clear ho hb hg hat; have hcv13 := own_string (P := Try.prog) Try.underlying27 Try.underlying5 Try.underlying9 (Kd.own_of_R HO429.out)))
      go_ret
      exact ⟨by first | rfl | (simp [errW_none, errW_some] <;> rfl) | (simp [*, errW_none, errW_some] <;> rfl), by repeat (first | (with_reducible first | exact HB.out | apply below_alloc | apply pw_below_drewN | apply below_drew1 | refine below_set ?_ GE423.out) | exact HB.out)⟩
    · rw [if_neg c7] at H
      exact absurd H (by simp)
  · rw [if_neg c6] at H
    have c6b0 : (a1 == 0) = false := beq_eq_false_iff_ne.mpr c6
    have c6b1 : (a1 != 0) = true := bne_iff_ne.mpr c6
    obtain ⟨y430, hy430⟩ : ∃ y_ : List Int, y_ = (([67, (a0 / 16777216) % 256, (a0 / 65536) % 256, (a0 / 256) % 256, (a0) % 256, (a1 / 256) % 256, (a1) % 256, (a3_0 / 256) % 256, (a3_0) % 256, (a3_1) % 256] : List Int)) := ⟨_, rfl⟩
    replace H : (if y430.length + a4.size < 140737488355328 then (some (strOfNums (y430 ++ bytesOf a4))) else (none)) = some r := by first | (rw [hy430]; with_reducible exact H) | (have H2_ := (Option.bind_some _ _).symm.trans H; rw [hy430]; with_reducible exact H2_) | (have H2_ := (Option.bind_some _ _).symm.trans H; with_reducible exact H2_) | with_reducible exact H | (rw [hy430]; exact H) | exact H
    have Ny430 := Aside0.mk hy430
    clear hy430
    by_cases c14 : y430.length + a4.size < 140737488355328
    · rw [if_pos c14] at H
      have LMc14 := Aside0.mk c14
      clear c14
      obtain ⟨y433, hy433⟩ : ∃ y_ : List Int, y_ = (y430 ++ bytesOf a4) := ⟨_, rfl⟩
      replace H : (some (strOfNums y433)) = some r := by first | (rw [hy433]; with_reducible exact H) | (have H2_ := (Option.bind_some _ _).symm.trans H; rw [hy433]; with_reducible exact H2_) | (have H2_ := (Option.bind_some _ _).symm.trans H; with_reducible exact H2_) | with_reducible exact H | (rw [hy433]; exact H) | exact H
      have Ny433 := Aside0.mk hy433
      clear hy433
      obtain rfl := Option.some.inj H
      go_enter Try.func94, Try.ntmps94
      go_wp2_with (first | ((with_reducible refine gate_dst (N := 8) rfl ?_); refine box_event ?hg (N := 8) ?hd (cs := #[.int .i64 a3_0, .int .i64 a3_1]) (t := 93) ?hr ?_; (case hd => rfl); (case hg => rfl); (case hr => first | (go_simp; done) | (go_simp; rfl)); intro gb423 hg w15 hbox hb; have n0_ := Aside0.mk (below_step (by repeat (first | (with_reducible first | exact HB.out | apply below_alloc | apply pw_below_drewN | apply below_drew1) | exact HB.out)) hb); have n1_ := Aside0.mk (hbox); have n2_ := Aside0.mk ((by rw [hg]; exact (below_size (by repeat (first | (with_reducible first | exact HB.out | apply below_alloc | apply pw_below_drewN | apply below_drew1) | exact HB.out))) : w.heap.size ≤ gb423)); have n3_ := Aside0.mk ((by rw [hg]; exact (below_size (by repeat (first | (with_reducible first | exact HB.out | apply below_alloc | apply pw_below_drewN | apply below_drew1) | exact HB.out))) : w.heap.size ≤ gb423)); clear HB; have HB := n0_; have BK423 := n1_; have GW423 := n2_; have GE423 := n3_; clear n0_ n1_ n2_ n3_; clear hb hbox hg; have hcz16_0 : w15.cell? ⟨gb423, 0, none⟩ = some (.int .i64 a3_0) := (blk_cell BK423.out 0).trans rfl; have hcz16_1 : w15.cell? ⟨gb423, 1, none⟩ = some (.int .i64 a3_1) := (blk_cell BK423.out 1).trans rfl; have hfz16_0 := blk_frozen BK423.out 0; have hfz16_1 := blk_frozen BK423.out 1) | ((with_reducible refine gate_dst (N := 45) rfl ?_); refine Kd.R_lit (Kd.int .u8) _ 5 ?hg (N := 45) ?hd (xs := ([67, (a0 / 16777216) % 256, (a0 / 65536) % 256, (a0 / 256) % 256, (a0) % 256, (a1 / 256) % 256, (a1) % 256, (a3_0 / 256) % 256, (a3_0) % 256, (a3_1) % 256] : List Int)) (inner := [.int .u8 67, .int .u8 ((a0 / 16777216) % 256), .int .u8 ((a0 / 65536) % 256), .int .u8 ((a0 / 256) % 256), .int .u8 ((a0) % 256), .int .u8 ((a1 / 256) % 256), .int .u8 ((a1) % 256), .int .u8 ((a3_0 / 256) % 256), .int .u8 ((a3_0) % 256), .int .u8 ((a3_1) % 256)]) (ok := fun _ => True) (okp := fun _ => True) ?hr ?hp (fun _ hk => hk) trivial (Below.refl _ _) (Nat.le_refl _) (by simp) ?_; (case hd => rfl); (case hg => rfl); (case hr => first | (go_simp; done) | (go_simp; rfl)); (case hp => exact (Reps.one (show Kd.M (Kd.int .u8) _ _ _ 67 [.int .u8 67] from rfl) (Reps.one (show Kd.M (Kd.int .u8) _ _ _ ((a0 / 16777216) % 256) [.int .u8 ((a0 / 16777216) % 256)] from rfl) (Reps.one (show Kd.M (Kd.int .u8) _ _ _ ((a0 / 65536) % 256) [.int .u8 ((a0 / 65536) % 256)] from rfl) (Reps.one (show Kd.M (Kd.int .u8) _ _ _ ((a0 / 256) % 256) [.int .u8 ((a0 / 256) % 256)] from rfl) (Reps.one (show Kd.M (Kd.int .u8) _ _ _ ((a0) % 256) [.int .u8 ((a0) % 256)] from rfl) (Reps.one (show Kd.M (Kd.int .u8) _ _ _ ((a1 / 256) % 256) [.int .u8 ((a1 / 256) % 256)] from rfl) (Reps.one (show Kd.M (Kd.int .u8) _ _ _ ((a1) % 256) [.int .u8 ((a1) % 256)] from rfl) (Reps.one (show Kd.M (Kd.int .u8) _ _ _ ((a3_0 / 256) % 256) [.int .u8 ((a3_0 / 256) % 256)] from rfl) (Reps.one (show Kd.M (Kd.int .u8) _ _ _ ((a3_0) % 256) [.int .u8 ((a3_0) % 256)] from rfl) (Reps.one (show Kd.M (Kd.int .u8) _ _ _ ((a3_1) % 256) [.int .u8 ((a3_1) % 256)] from rfl) (Reps.none _ _)))))))))))); intro v431 w17 ho18 hb hg_ hnew_; clear hg_ hnew_; (first | rw [← Ny430.out] at ho18 | (simp only [Int.reduceToNat] at ho18; rw [← Ny430.out] at ho18)); have n0_ := Aside0.mk (Kd.R_lower ho18 (below_size (by repeat (first | (with_reducible first | exact HB.out | apply below_alloc | apply pw_below_drewN | apply below_drew1 | refine below_set ?_ GE423.out) | exact HB.out)))); have n1_ := Aside0.mk (blk_below (g := gb423) (o := .cells #[.int .i64 a3_0, .int .i64 a3_1] 93 (0, 0)) (by (with_reducible repeat (first | refine blk_drewN ?_ _ | refine blk_drew ?_ | refine blk_alloc ?_ _)); exact BK423.out) hb); have n2_ := Aside0.mk (below_step (by repeat (first | (with_reducible first | exact HB.out | apply below_alloc | apply pw_below_drewN | apply below_drew1 | refine below_set ?_ GE423.out) | exact HB.out)) hb); clear BK423; clear HB; have HO432 := n0_; have BK423 := n1_; have HB := n2_; clear n0_ n1_ n2_; clear hb ho18) | (at_builtin; refine print_append_str (w0 := w) w.heap.size rfl (.tmp 46) _ 27 9 5 rfl Try.underlying27 Try.underlying9 info5 v431 y430 a4 rfl rfl ?aO ?aB ?aS ?aL ?_; (case aB => exact (by repeat (first | (with_reducible first | exact HB.out | apply below_alloc | apply pw_below_drewN | apply below_drew1 | refine below_set ?_ GE423.out) | exact HB.out))); (case aO => exact (Kd.own_of_R (by (with_reducible repeat (first | apply Kd.R_alloc | apply Kd.R_drewN | apply Kd.R_drew)); exact HO432.out))); (case aS => exact (below_size (by repeat (first | (with_reducible first | exact HB.out | apply below_alloc | apply pw_below_drewN | apply below_drew1 | refine below_set ?_ GE423.out) | exact HB.out)))); (case aL => have := LMc14.out; omega); intro v434 w19 ho0 hb hg; have ho := Kd.R_of_own (h1 := fun _ => rfl) (ok := fun _ => True) ho0 (fun _ _ => trivial); clear ho0; have hat := True.intro; rw [← Ny433.out] at ho; change Kd.R (Kd.int .u8) 5 w19 w.heap.size (fun _ => True) v434 y433 at ho; have n0_ := Aside0.mk (blk_grown (g := gb423) (o := .cells #[.int .i64 a3_0, .int .i64 a3_1] 93 (0, 0)) (by (with_reducible repeat (first | refine blk_drewN ?_ _ | refine blk_drew ?_ | refine blk_alloc ?_ _)); exact BK423.out) hg (Kd.R_ne HO432.out BK423.out (by decide))); have n1_ := Aside0.mk (hb); have n2_ := Aside0.mk (ho); clear BK423; clear HB; clear HO432; have BK423 := n0_; have HB := n1_; have HO435 := n2_; clear n0_ n1_ n2_; clear ho hb hg hat; have hcv20 := own_string (P := Try.prog) Try.underlying27 Try.underlying5 Try.underlying9 (Kd.own_of_R HO435.out)))
      go_ret
      exact ⟨by first | rfl | (simp [errW_none, errW_some] <;> rfl) | (simp [*, errW_none, errW_some] <;> rfl), by repeat (first | (with_reducible first | exact HB.out | apply below_alloc | apply pw_below_drewN | apply below_drew1 | refine below_set ?_ GE423.out) | exact HB.out)⟩
    · rw [if_neg c14] at H
      exact absurd H (by simp)

end Go.Proofs.Ytemglmcddaeedaa.PA
