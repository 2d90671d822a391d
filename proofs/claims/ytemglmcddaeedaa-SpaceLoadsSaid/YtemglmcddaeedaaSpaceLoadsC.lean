/- Part of the proof: Load is that of 7.3: the area, or the first wrong byte, for all bytes. -/
import Derived.Test.YtemglmcddaeedaaSpaceLoadsB
import Derived.ArgAppend
import Derived.Below
import Derived.BigQuiet
import Derived.ChangeOld
import Derived.Deep.AppendLies
import Derived.Deep.CutBlock
import Derived.Deep.DeepCutAuto
import Derived.Deep.Draws
import Derived.Deep.LoopGhost
import Derived.Deep.OwnRows
import Derived.Deep.QuietTactic
import Derived.Deep.RegionHeld3
import Derived.Deep.RegionLaw
import Derived.Deep.SlicePairs
import Derived.Defers
import Derived.DefersIn
import Derived.KernelRfl
import Derived.Laws.BitsLemmas
import Derived.Laws.BytesArg
import Derived.Laws.CopyOwn
import Derived.Laws.IdiomCopy
import Derived.Laws.MakeOwn
import Derived.Laws.OwnMore
import Derived.Laws.Rows
import Derived.Laws.Slices
import Derived.Lib.AppendStr
import Derived.Lib.AppendZerosOnto
import Derived.Lib.BufferWrite
import Derived.Lib.ConvBytes
import Derived.Lib.Hide
import Derived.Lib.Overlaps
import Derived.LoopIn
import Derived.LoopNIn
import Derived.Maps.AppendAt
import Derived.OpenShut
import Derived.OrdersHeld
import Derived.OwnWalk
import Derived.OwnWalkIn
import Derived.ProofKit
import Derived.RangeFuncBound
import Derived.RangeFuncCalls
import Derived.RangeFuncLeaves
import Derived.RangeFuncNested
import Derived.RangeFuncRecord
import Derived.Recover
import Derived.RecoverIn
import Derived.RowKit
import Derived.RowKit3
import Derived.Shelf.Abstract
import Derived.Shelf.RegionOpen
import Derived.ShutString
import Derived.SizedLaws
import Derived.StillTailTactics
import Derived.Tactics
import Derived.TacticsInMore
import Derived.Test.YtemglmcddaeedaaProg
import Derived.Test.YtemglmcddaeedaaRows
import Derived.Test.YtemglmcddaeedaaWApart
import Derived.Test.YtemglmcddaeedaaWArr
import Derived.Test.YtemglmcddaeedaaWAt
import Derived.Test.YtemglmcddaeedaaWEqStruct
import Derived.Test.YtemglmcddaeedaaWFoot
import Derived.Test.YtemglmcddaeedaaWFootNe
import Derived.Test.YtemglmcddaeedaaWFour
import Derived.Test.YtemglmcddaeedaaWGuard
import Derived.Test.YtemglmcddaeedaaWInv
import Derived.Test.YtemglmcddaeedaaWInvWords
import Derived.Test.YtemglmcddaeedaaWKept
import Derived.Test.YtemglmcddaeedaaWLast
import Derived.Test.YtemglmcddaeedaaWMore
import Derived.Test.YtemglmcddaeedaaWN
import Derived.Test.YtemglmcddaeedaaWNEv
import Derived.Test.YtemglmcddaeedaaWQPut
import Derived.Test.YtemglmcddaeedaaWRepsOne
import Derived.Test.YtemglmcddaeedaaWShare
import Derived.Test.YtemglmcddaeedaaWTab
import Derived.Test.YtemglmcddaeedaaWWords
import Derived.Test.YtemglmcddaeedaaWZeros
import Derived.WalkKit
import Derived.WalkLawsBesides
import Derived.WalkSpells
import Derived.WideLaws
namespace Go.Proofs.Ytemglmcddaeedaa.PA
open Go.RowKit Go.Proofs.YtemglmcddaeedaaW.PrintWords Go.Proofs.YtemglmcddaeedaaW.PrintLast Go.Proofs.YtemglmcddaeedaaW.PrintMore
attribute [local go_sem] max2_int min2_int max_two min_two max_three min_three max_four min_four   -- for this text's walks alone
set_option linter.unusedVariables false
set_option linter.unusedSimpArgs false

/-! ### ringworkref07_Area_Level: function 81 -/
def ringworkref07_Area_Level.f (k : Nat) (a0_0 : Int) (l0_1 : List ByteArray) (a1 : Int) : Option (Int × Int) := (ringworkref07_Area_Is.f a0_0 l0_1 a1).bind fun t401 => (if t401 = true then ((ringworkref07_Area_Room.f k a0_0 l0_1 a1).bind fun t402 => (if a0_0 = 0 then (none) else (some (wrap64 (Int.tdiv (wrap64 (t402 * 8)) a0_0), 0)))) else (some (0, 7)))
theorem ringworkref07_Area_Level.mono : ∀ a0 a1 a2 k, LeO (ringworkref07_Area_Level.f k a0 a1 a2) (ringworkref07_Area_Level.f (k + 1) a0 a1 a2) := by
  intro a0 a1 a2 k
  unfold ringworkref07_Area_Level.f
  repeat' first
      | (with_reducible exact ringworkref07_Area_Room.mono _ _ _ _)
      | (with_reducible exact LeO.refl _)
      | (with_reducible exact LeO.none _)
      | (with_reducible refine LeO.ite ?_ ?_)
      | (with_reducible refine LeO.bind ?_ (fun _ => ?_))
      | exact ringworkref07_Area_Room.mono _ _ _ _
      | exact LeO.none _
      | refine LeO.ite ?_ ?_
      | refine LeO.bind ?_ (fun _ => ?_)
def ringworkref07_Area_Level.T3 : Bool × List (List Nat × List Nat) := (true, [([], []), ([], []), ([0, 1], [0, 1]), ([2], [2]), ([], []), ([4], [4]), ([3, 5], [3, 5]), ([6, 2, 0, 1, 2, 3, 4, 5, 6], [6]), ([7, 0, 1, 2, 3, 4, 5, 6, 7], [])])
def ringworkref07_Area_Level.B3 : List Nat := [0, 0, 3, 7, 0, 16, 63, 127, 255]
theorem ringworkref07_Area_Level.tab3 : rtab .any (opsOf Try.f81 3) = ringworkref07_Area_Level.T3 := by kernel_rfl
theorem ringworkref07_Area_Level.bits3 : waitsOk ringworkref07_Area_Level.T3.2 ringworkref07_Area_Level.B3 = true := by kernel_rfl
set_option maxHeartbeats 8000000 in
set_option maxRecDepth 100000 in
theorem ringworkref07_Area_Level.calls (k : Nat) (a0_0 : Int) (A0_1 : Option Addr) (c0_1 : Nat) (l0_1 : List ByteArray) (a1 : Int) (r1 : Int) (r2 : Int) (w : World) (hr0_1 : Kd.C Kd.string w A0_1 l0_1.length l0_1) (hc0_1 : l0_1.length ≤ c0_1) (h : ringworkref07_Area_Level.f k a0_0 l0_1 a1 = some (r1, r2)) :
    Calls Try.prog 81 #[.agg #[.int .i64 a0_0, .slice A0_1 l0_1.length c0_1], .int .i64 a1] w fun e w' => e = .returned (.tuple #[.int .i64 r1, .int .i64 r2]) ∧ Below w.heap.size w w' := by
  have hu58 := Try.underlying58
  have HR0_1 := Aside0.mk hr0_1
  have HC0_1 := Aside0.mk hc0_1
  clear hr0_1 hc0_1
  have HB := Aside0.mk (Below.refl w.heap.size w)
  have H : ((ringworkref07_Area_Is.f a0_0 l0_1 a1).bind fun t401 => (if t401 = true then ((ringworkref07_Area_Room.f k a0_0 l0_1 a1).bind fun t402 => (if a0_0 = 0 then (none) else (some (wrap64 (Int.tdiv (wrap64 (t402 * 8)) a0_0), 0)))) else (some (0, 7)))) = some (r1, r2) := h
  clear h
  replace H := Option.bind_eq_some_iff.mp H
  obtain ⟨t401, A30, H⟩ := H
  replace H : (if t401 = true then ((ringworkref07_Area_Room.f k a0_0 l0_1 a1).bind fun t402 => (if a0_0 = 0 then (none) else (some (wrap64 (Int.tdiv (wrap64 (t402 * 8)) a0_0), 0)))) else (some (0, 7))) = some (r1, r2) := H
  have A3 := Aside0.mk A30
  clear A30
  by_cases c4 : t401 = true
  · subst c4
    have H1 : ((ringworkref07_Area_Room.f k a0_0 l0_1 a1).bind fun t402 => (if a0_0 = 0 then (none) else (some (wrap64 (Int.tdiv (wrap64 (t402 * 8)) a0_0), 0)))) = some (r1, r2) := by rw [if_pos rfl] at H; exact H
    clear H
    have H := H1
    clear H1
    replace H := Option.bind_eq_some_iff.mp H
    obtain ⟨t402, A50, H⟩ := H
    replace H : (if a0_0 = 0 then (none) else (some (wrap64 (Int.tdiv (wrap64 (t402 * 8)) a0_0), 0))) = some (r1, r2) := H
    have A5 := Aside0.mk A50
    clear A50
    by_cases c6 : a0_0 = 0
    · rw [if_pos c6] at H
      exact absurd H (by simp)
    · rw [if_neg c6] at H
      have c6b0 : (a0_0 == 0) = false := beq_eq_false_iff_ne.mpr c6
      have c6b1 : (a0_0 != 0) = true := bne_iff_ne.mpr c6
      simp only [Option.some.injEq, Prod.mk.injEq] at H
      obtain ⟨rfl, rfl⟩ := H
      go_enter Try.func81, Try.ntmps81
      try go_wp2_with (first | ((with_reducible refine gate_dst (N := 2) rfl ?_); refine box_event ?hg (N := 2) ?hd (cs := #[.int .i64 a0_0, .slice A0_1 l0_1.length c0_1]) (t := 58) ?hr ?_; (case hd => rfl); (case hg => rfl); (case hr => first | (go_simp; done) | (go_simp; rfl)); intro gb400 hg w7 hbox hb; have n0_ := Aside0.mk (below_step (by repeat (first | (with_reducible first | exact HB.out | apply below_alloc | apply pw_below_drewN | apply below_drew1) | exact HB.out)) hb); have n1_ := Aside0.mk (hbox); have n2_ := Aside0.mk ((by rw [hg]; exact (below_size (by repeat (first | (with_reducible first | exact HB.out | apply below_alloc | apply pw_below_drewN | apply below_drew1) | exact HB.out))) : w.heap.size ≤ gb400)); have n3_ := Aside0.mk ((by rw [hg]; exact (below_size (by repeat (first | (with_reducible first | exact HB.out | apply below_alloc | apply pw_below_drewN | apply below_drew1) | exact HB.out))) : w.heap.size ≤ gb400)); clear HB; have HB := n0_; have BK400 := n1_; have GW400 := n2_; have GE400 := n3_; clear n0_ n1_ n2_ n3_; clear hb hbox hg; have hcz8_0 : w7.cell? ⟨gb400, 0, none⟩ = some (.int .i64 a0_0) := (blk_cell BK400.out 0).trans rfl; have hcz8_1 : w7.cell? ⟨gb400, 1, none⟩ = some (.slice A0_1 l0_1.length c0_1) := (blk_cell BK400.out 1).trans rfl; have hfz8_0 := blk_frozen BK400.out 0; have hfz8_1 := blk_frozen BK400.out 1) | ((with_reducible refine gate_callee (f := 117) rfl ?_); refine goesL_ (some 8) rfl rfl Try.func117 (by kernel_rfl) rfl #[.agg #[.int .i64 a0_0, .slice A0_1 l0_1.length c0_1], .int .i64 a1] rfl (by (try simp only [List.map_toArray, List.map_cons, List.map_nil]); first | done | rfl | (simp only [List.length_drop, List.length_take]; rfl)) ?_; (with_reducible refine (ringworkref07_Area_Is.calls a0_0 _ _ l0_1 a1 true _ ?side1 ?side2 A3.out).mono ?_); (case side1 => repeat (first | exact (Kd.C_below HR0_1.out HB.out) | (with_reducible refine Kd.C_alloc ?_ _) | (with_reducible refine Kd.C_drewN ?_ _) | (with_reducible refine Kd.C_drew ?_))); (case side2 => exact HC0_1.out); rintro e w9 ⟨rfl, hb⟩; refine ⟨_, rfl, ?_⟩; have n0_ := Aside0.mk (blk_below (g := gb400) (o := .cells #[.int .i64 a0_0, .slice A0_1 l0_1.length c0_1] 58 (0, 0)) (by (with_reducible repeat (first | refine blk_drewN ?_ _ | refine blk_drew ?_ | refine blk_alloc ?_ _)); exact BK400.out) hb); have n1_ := Aside0.mk (below_step (by repeat (first | (with_reducible first | exact HB.out | apply below_alloc | apply pw_below_drewN | apply below_drew1 | refine below_set ?_ GE400.out) | exact HB.out)) hb); clear BK400; clear HB; have BK400 := n0_; have HB := n1_; clear n0_ n1_; (try clear hb); (try clear hb2); (try clear hk); (try clear hi)))
      have n0_ := Aside0.mk (blk_drew BK400.out)
      have n1_ := Aside0.mk (below_drew1 HB.out)
      clear BK400
      clear HB
      have BK400 := n0_
      have HB := n1_
      clear n0_ n1_
      refine start_ (n := 9) (S := fun w' => w'.cell? ⟨gb400, 0, none⟩ = some (.int .i64 a0_0) ∧ w'.cell? ⟨gb400, 1, none⟩ = some (.slice A0_1 l0_1.length c0_1)) (ds := []) #[false, false, false, false, false, false, false, false, false] (by kernel_rfl) rfl rfl ⟨(blk_cell BK400.out 0).trans rfl, (blk_cell BK400.out 1).trans rfl⟩ (fun hHeld => ?_); refine with_tabW ringworkref07_Area_Level.tab3 ringworkref07_Area_Level.bits3 (fun HT_ HW_ => ?_)
      generalize w9.drew = w10 at BK400 HB hHeld ⊢
      refine pure_ (i := 1) (N := some 11) (v := ?_) (a' := ?_) #[false, true, false, false, false, false, false, false, false] rfl rfl (any_of HT_.out (by kernel_rfl)) (fun _ _ _ h => h) (Or.inl ⟨by rfl, ?_⟩) ?_ ?_
      rotate_left
      · intro w'
        go_simp
        with_reducible rfl
      rotate_left
      · simp only [Act.put, List.setIfInBounds_toArray, List.set_cons_zero, List.set_cons_succ, i64_w, i32_w]
        rfl
      refine pure_ (i := 4) (N := some 14) (v := ?_) (a' := ?_) #[false, true, false, false, true, false, false, false, false] rfl rfl (any_of HT_.out (by kernel_rfl)) (fun _ _ _ h => h) (Or.inl ⟨by rfl, ?_⟩) ?_ ?_
      rotate_left
      · intro w'
        go_simp
        with_reducible rfl
      rotate_left
      · simp only [Act.put, List.setIfInBounds_toArray, List.set_cons_zero, List.set_cons_succ, i64_w, i32_w]
        rfl
      refine take_ (i := 0) (N := some 10) (v := ?_) (a' := ?_) #[true, true, false, false, true, false, false, false, false] rfl rfl (take_ofW HT_.out HW_.out (by kernel_rfl)) (fun _ _ _ h => h) (Or.inl ⟨by rfl, ?_⟩) hHeld ?_ ?_
      rotate_left
      · rintro w' ⟨s0, s1⟩
        go_simp
        with_reducible rfl
      rotate_left
      · simp only [Act.put, List.setIfInBounds_toArray, List.set_cons_zero, List.set_cons_succ, i64_w, i32_w]
        rfl
      refine take_ (i := 5) (N := some 15) (v := ?_) (a' := ?_) #[true, true, false, false, true, true, false, false, false] rfl rfl (take_ofW HT_.out HW_.out (by kernel_rfl)) (fun _ _ _ h => h) (Or.inl ⟨by rfl, ?_⟩) hHeld ?_ ?_
      rotate_left
      · rintro w' ⟨s0, s1⟩
        go_simp
        with_reducible rfl
      rotate_left
      · simp only [Act.put, List.setIfInBounds_toArray, List.set_cons_zero, List.set_cons_succ, i64_w, i32_w]
        rfl
      refine one_ (i := 2) (N := some 12) #[true, true, true, false, true, true, false, false, false] rfl rfl (one_of HT_.out (by kernel_rfl)) (by decide) (fun K hK => ?_)
      refine goes_ Try.func118 (by kernel_rfl) rfl #[.agg #[.int .i64 a0_0, .slice A0_1 l0_1.length c0_1], .int .i64 a1] (by rfl) rfl rfl (by (try simp only [List.map_toArray, List.map_cons, List.map_nil]); first | done | rfl | (simp only [List.length_drop, List.length_take]; rfl)) ?_
      with_reducible refine (ringworkref07_Area_Room.calls k a0_0 _ _ l0_1 a1 t402 _ ?side1 ?side2 A5.out).mono ?_
      (case side1 => repeat (first | exact (Kd.C_below HR0_1.out HB.out) | (with_reducible refine Kd.C_alloc ?_ _) | (with_reducible refine Kd.C_drewN ?_ _) | (with_reducible refine Kd.C_drew ?_)))
      (case side2 => exact HC0_1.out)
      rintro e w11 ⟨rfl, hb⟩
      refine ⟨_, rfl, ?_⟩
      have n0_ := Aside0.mk (blk_below (g := gb400) (o := .cells #[.int .i64 a0_0, .slice A0_1 l0_1.length c0_1] 58 (0, 0)) (by (with_reducible repeat (first | refine blk_drewN ?_ _ | refine blk_drew ?_ | refine blk_alloc ?_ _)); exact BK400.out) hb)
      have n1_ := Aside0.mk (below_step (by repeat (first | (with_reducible first | exact HB.out | apply below_alloc | apply pw_below_drewN | apply below_drew1 | refine below_set ?_ GE400.out) | exact HB.out)) hb)
      clear BK400
      clear HB
      have BK400 := n0_
      have HB := n1_
      clear n0_ n1_
      (try clear hb)
      (try clear hb2)
      (try clear hk)
      (try clear hi)
      refine hK.out _ _ ⟨(blk_cell BK400.out 0).trans rfl, (blk_cell BK400.out 1).trans rfl⟩ (fun hHeld => ?_)
      clear hK K
      refine norm_ (a' := ?_) ?_ ?_
      rotate_left
      · show Act.put _ (some 12) _ = _
        simp only [Act.put, List.setIfInBounds_toArray, List.set_cons_zero, List.set_cons_succ, i64_w, i32_w]
        rfl
      refine pure_ (i := 3) (N := some 13) (v := ?_) (a' := ?_) #[true, true, true, true, true, true, false, false, false] rfl rfl (any_of HT_.out (by kernel_rfl)) (fun _ _ _ h => h) (Or.inl ⟨by rfl, ?_⟩) ?_ ?_
      rotate_left
      · intro w'
        go_simp
        with_reducible rfl
      rotate_left
      · simp only [Act.put, List.setIfInBounds_toArray, List.set_cons_zero, List.set_cons_succ, i64_w, i32_w]
        rfl
      refine pure_ (i := 6) (N := some 16) (v := ?_) (a' := ?_) #[true, true, true, true, true, true, true, false, false] rfl rfl (any_of HT_.out (by kernel_rfl)) (fun _ _ _ h => h) (Or.inl ⟨by rfl, ?_⟩) ?_ ?_
      rotate_left
      · intro w'
        go_simp
        with_reducible rfl
      rotate_left
      · simp only [Act.put, List.setIfInBounds_toArray, List.set_cons_zero, List.set_cons_succ, i64_w, i32_w]
        rfl
      refine pure_ (i := 7) (N := some 4) (v := ?_) (a' := ?_) #[true, true, true, true, true, true, true, true, false] rfl rfl (any_of HT_.out (by kernel_rfl)) (fun _ _ _ h => h) (Or.inl ⟨by rfl, ?_⟩) ?_ ?_
      rotate_left
      · intro w'
        go_simp
        with_reducible rfl
      rotate_left
      · simp only [Act.put, List.setIfInBounds_toArray, List.set_cons_zero, List.set_cons_succ, i64_w, i32_w]
        rfl
      refine pure_ (i := 8) (N := some 5) (v := ?_) (a' := ?_) #[true, true, true, true, true, true, true, true, true] rfl rfl (any_of HT_.out (by kernel_rfl)) (fun _ _ _ h => h) (Or.inl ⟨by rfl, ?_⟩) ?_ ?_
      rotate_left
      · intro w'
        go_simp
        with_reducible rfl
      rotate_left
      · simp only [Act.put, List.setIfInBounds_toArray, List.set_cons_zero, List.set_cons_succ, i64_w, i32_w]
        rfl
      refine done_ (done_of HT_.out (by kernel_rfl)) ?_
      try go_wp2
      go_ret2
      exact ⟨by first | rfl | (simp [errW_none, errW_some] <;> rfl) | (simp [*, errW_none, errW_some] <;> rfl), by repeat (first | (with_reducible first | exact HB.out | apply below_alloc | apply pw_below_drewN | apply below_drew1 | refine below_set ?_ GE400.out) | exact HB.out)⟩
  · replace c4 := Bool.eq_false_iff.mpr c4
    subst c4
    have H1 : (some (0, 7)) = some (r1, r2) := by rw [if_neg (show ¬ (false = true) by decide)] at H; exact H
    clear H
    have H := H1
    clear H1
    simp only [Option.some.injEq, Prod.mk.injEq] at H
    obtain ⟨rfl, rfl⟩ := H
    go_enter Try.func81, Try.ntmps81
    go_wp2_with (first | ((with_reducible refine gate_dst (N := 2) rfl ?_); refine box_event ?hg (N := 2) ?hd (cs := #[.int .i64 a0_0, .slice A0_1 l0_1.length c0_1]) (t := 58) ?hr ?_; (case hd => rfl); (case hg => rfl); (case hr => first | (go_simp; done) | (go_simp; rfl)); intro gb400 hg w12 hbox hb; have n0_ := Aside0.mk (below_step (by repeat (first | (with_reducible first | exact HB.out | apply below_alloc | apply pw_below_drewN | apply below_drew1) | exact HB.out)) hb); have n1_ := Aside0.mk (hbox); have n2_ := Aside0.mk ((by rw [hg]; exact (below_size (by repeat (first | (with_reducible first | exact HB.out | apply below_alloc | apply pw_below_drewN | apply below_drew1) | exact HB.out))) : w.heap.size ≤ gb400)); have n3_ := Aside0.mk ((by rw [hg]; exact (below_size (by repeat (first | (with_reducible first | exact HB.out | apply below_alloc | apply pw_below_drewN | apply below_drew1) | exact HB.out))) : w.heap.size ≤ gb400)); clear HB; have HB := n0_; have BK400 := n1_; have GW400 := n2_; have GE400 := n3_; clear n0_ n1_ n2_ n3_; clear hb hbox hg; have hcz13_0 : w12.cell? ⟨gb400, 0, none⟩ = some (.int .i64 a0_0) := (blk_cell BK400.out 0).trans rfl; have hcz13_1 : w12.cell? ⟨gb400, 1, none⟩ = some (.slice A0_1 l0_1.length c0_1) := (blk_cell BK400.out 1).trans rfl; have hfz13_0 := blk_frozen BK400.out 0; have hfz13_1 := blk_frozen BK400.out 1) | ((with_reducible refine gate_callee (f := 117) rfl ?_); refine goesL_ (some 8) rfl rfl Try.func117 (by kernel_rfl) rfl #[.agg #[.int .i64 a0_0, .slice A0_1 l0_1.length c0_1], .int .i64 a1] rfl (by (try simp only [List.map_toArray, List.map_cons, List.map_nil]); first | done | rfl | (simp only [List.length_drop, List.length_take]; rfl)) ?_; (with_reducible refine (ringworkref07_Area_Is.calls a0_0 _ _ l0_1 a1 false _ ?side1 ?side2 A3.out).mono ?_); (case side1 => repeat (first | exact (Kd.C_below HR0_1.out HB.out) | (with_reducible refine Kd.C_alloc ?_ _) | (with_reducible refine Kd.C_drewN ?_ _) | (with_reducible refine Kd.C_drew ?_))); (case side2 => exact HC0_1.out); rintro e w14 ⟨rfl, hb⟩; refine ⟨_, rfl, ?_⟩; have n0_ := Aside0.mk (blk_below (g := gb400) (o := .cells #[.int .i64 a0_0, .slice A0_1 l0_1.length c0_1] 58 (0, 0)) (by (with_reducible repeat (first | refine blk_drewN ?_ _ | refine blk_drew ?_ | refine blk_alloc ?_ _)); exact BK400.out) hb); have n1_ := Aside0.mk (below_step (by repeat (first | (with_reducible first | exact HB.out | apply below_alloc | apply pw_below_drewN | apply below_drew1 | refine below_set ?_ GE400.out) | exact HB.out)) hb); clear BK400; clear HB; have BK400 := n0_; have HB := n1_; clear n0_ n1_; (try clear hb); (try clear hb2); (try clear hk); (try clear hi)))
    go_ret2
    exact ⟨by first | rfl | (simp [errW_none, errW_some] <;> rfl) | (simp [*, errW_none, errW_some] <;> rfl), by repeat (first | (with_reducible first | exact HB.out | apply below_alloc | apply pw_below_drewN | apply below_drew1 | refine below_set ?_ GE400.out) | exact HB.out)⟩

end Go.Proofs.Ytemglmcddaeedaa.PA

namespace Go.Proofs.Ytemglmcddaeedaa.PA
open Go.RowKit Go.Proofs.YtemglmcddaeedaaW.PrintWords Go.Proofs.YtemglmcddaeedaaW.PrintLast Go.Proofs.YtemglmcddaeedaaW.PrintMore
attribute [local go_sem] max2_int min2_int max_two min_two max_three min_three max_four min_four   -- for this text's walks alone
set_option linter.unusedVariables false
set_option linter.unusedSimpArgs false

/-! ### ringworkref07_Area_Free: function 85 -/
def ringworkref07_Area_Free.l0 : Nat → Int → Int → Int → List ByteArray → Option (Int)
  | 0, _, _, _, _ => none
  | k + 1, x3, x4, x416000, x416001 => if x4 < (x416001.length : Int) then ((ringworkref07_Area_Room.f k x416000 x416001 x4).bind fun t416 => (ringworkref07_Area_Free.l0 k (wrap64 (x3 + t416)) (wrap64 (x4 + 1)) x416000 x416001)) else (some x3)
def ringworkref07_Area_Free.f (k : Nat) (a0_0 : Int) (l0_1 : List ByteArray) : Option (Int) := ringworkref07_Area_Free.l0 k 0 0 a0_0 l0_1
theorem ringworkref07_Area_Free.mono_l : ∀ k, (∀ y0 y1 y2 y3, LeO (ringworkref07_Area_Free.l0 k y0 y1 y2 y3) (ringworkref07_Area_Free.l0 (k + 1) y0 y1 y2 y3))
  | 0 => fun _ _ _ _ r h => by simp [ringworkref07_Area_Free.l0] at h
  | k + 1 => by
    have ih0 := ringworkref07_Area_Free.mono_l k
    · intro y0 y1 y2 y3
      unfold ringworkref07_Area_Free.l0
      repeat' first
      | (with_reducible exact ih0 _ _ _ _)
      | (with_reducible exact ringworkref07_Area_Room.mono _ _ _ _)
      | (with_reducible exact LeO.refl _)
      | (with_reducible exact LeO.none _)
      | (with_reducible refine LeO.ite ?_ ?_)
      | (with_reducible refine LeO.bind ?_ (fun _ => ?_))
      | exact ih0 _ _ _ _
      | exact ringworkref07_Area_Room.mono _ _ _ _
      | exact LeO.none _
      | refine LeO.ite ?_ ?_
      | refine LeO.bind ?_ (fun _ => ?_)
theorem ringworkref07_Area_Free.mono : ∀ a0 a1 k, LeO (ringworkref07_Area_Free.f k a0 a1) (ringworkref07_Area_Free.f (k + 1) a0 a1) := by
  intro a0 a1 k
  have ih0 := ringworkref07_Area_Free.mono_l k
  unfold ringworkref07_Area_Free.f
  repeat' first
      | (with_reducible exact ih0 _ _ _ _)
      | (with_reducible exact ringworkref07_Area_Room.mono _ _ _ _)
      | (with_reducible exact LeO.refl _)
      | (with_reducible exact LeO.none _)
      | (with_reducible refine LeO.ite ?_ ?_)
      | (with_reducible refine LeO.bind ?_ (fun _ => ?_))
      | exact ih0 _ _ _ _
      | exact ringworkref07_Area_Room.mono _ _ _ _
      | exact LeO.none _
      | refine LeO.ite ?_ ?_
      | refine LeO.bind ?_ (fun _ => ?_)
set_option maxHeartbeats 8000000 in
set_option maxRecDepth 100000 in
theorem ringworkref07_Area_Free.calls (k : Nat) (a0_0 : Int) (A0_1 : Option Addr) (c0_1 : Nat) (l0_1 : List ByteArray) (r : Int) (w : World) (hr0_1 : Kd.C Kd.string w A0_1 l0_1.length l0_1) (hc0_1 : l0_1.length ≤ c0_1) (h : ringworkref07_Area_Free.f k a0_0 l0_1 = some r) :
    Calls Try.prog 85 #[.agg #[.int .i64 a0_0, .slice A0_1 l0_1.length c0_1]] w fun e w' => e = .returned (.int .i64 r) ∧ Below w.heap.size w w' := by
  have hu58 := Try.underlying58
  have HR0_1 := Aside0.mk hr0_1
  have HC0_1 := Aside0.mk hc0_1
  clear hr0_1 hc0_1
  have HB := Aside0.mk (Below.refl w.heap.size w)
  have H : (ringworkref07_Area_Free.l0 k 0 0 a0_0 l0_1) = some r := h
  clear h
  have H' := Aside0.mk H
  clear H
  go_enter Try.func85, Try.ntmps85
  go_wp2_with (first | ((with_reducible refine gate_dst (N := 1) rfl ?_); refine box_event ?hg (N := 1) ?hd (cs := #[.int .i64 a0_0, .slice A0_1 l0_1.length c0_1]) (t := 58) ?hr ?_; (case hd => rfl); (case hg => rfl); (case hr => first | (go_simp; done) | (go_simp; rfl)); intro gb415 hg w2 hbox hb; have n0_ := Aside0.mk (below_step (by repeat (first | (with_reducible first | exact HB.out | apply below_alloc | apply pw_below_drewN | apply below_drew1) | exact HB.out)) hb); have n1_ := Aside0.mk (hbox); have n2_ := Aside0.mk ((by rw [hg]; exact (below_size (by repeat (first | (with_reducible first | exact HB.out | apply below_alloc | apply pw_below_drewN | apply below_drew1) | exact HB.out))) : w.heap.size ≤ gb415)); have n3_ := Aside0.mk ((by rw [hg]; exact (below_size (by repeat (first | (with_reducible first | exact HB.out | apply below_alloc | apply pw_below_drewN | apply below_drew1) | exact HB.out))) : w.heap.size ≤ gb415)); clear HB; have HB := n0_; have BK415 := n1_; have GW415 := n2_; have GE415 := n3_; clear n0_ n1_ n2_ n3_; clear hb hbox hg))
  go_loopg [3, 4] k (fun kq v3 v4 w' => ∃ (x3_1 : Int) (x4_1 : Int), v3 = .int .i64 x3_1 ∧ v4 = .int .i64 x4_1 ∧ Aside0 (ringworkref07_Area_Free.l0 kq x3_1 x4_1 a0_0 l0_1 = some r) ∧ Aside0 (kq ≤ k) ∧ Aside0 (w'.heap[gb415]? = some (.cells #[.int .i64 a0_0, (.slice A0_1 l0_1.length c0_1)] 58 (0, 0))) ∧ Aside0 (Below w.heap.size w w'))
  case atStart => exact ⟨(0), (0), (by first | rfl | (simp; done) | (simp [*]; done)), (by first | rfl | (simp; done) | (simp [*]; done)), H', ⟨Nat.le_refl _⟩, ⟨by (with_reducible repeat (first | refine blk_drewN ?_ _ | refine blk_drew ?_ | refine blk_alloc ?_ _)); exact BK415.out⟩, ⟨by repeat (first | (with_reducible first | exact HB.out | apply below_alloc | apply pw_below_drewN | apply below_drew1 | refine below_set ?_ GE415.out) | exact HB.out)⟩⟩
  case round =>
    clear H'
    try clear p2
    obtain ⟨x3_1, x4_1, rfl, rfl, HA, HK1, BK415, HB⟩ := hrel
    cases gk with
    | zero => exact absurd HA.out (by simp [ringworkref07_Area_Free.l0])
    | succ k1 =>
      have H := HA.out
      clear HA
      simp only [ringworkref07_Area_Free.l0] at H
      by_cases c3 : x4_1 < (l0_1.length : Int)
      · rw [if_pos c3] at H
        have c3b0 : decide (x4_1 < (l0_1.length : Int)) = true := decide_eq_true c3
        clear c3
        replace H := Option.bind_eq_some_iff.mp H
        obtain ⟨t416, A40, H⟩ := H
        replace H : (ringworkref07_Area_Free.l0 k1 (wrap64 (x3_1 + t416)) (wrap64 (x4_1 + 1)) a0_0 l0_1) = some r := H
        have A4 := Aside0.mk A40
        clear A40
        have H' := Aside0.mk H
        clear H
        have hcz5_0 : wr.cell? ⟨gb415, 0, none⟩ = some (.int .i64 a0_0) := (blk_cell BK415.out 0).trans rfl
        have hcz5_1 : wr.cell? ⟨gb415, 1, none⟩ = some (.slice A0_1 l0_1.length c0_1) := (blk_cell BK415.out 1).trans rfl
        have hfz5_0 := blk_frozen BK415.out 0
        have hfz5_1 := blk_frozen BK415.out 1
        go_wp2_with (first | ((with_reducible refine gate_callee (f := 118) rfl ?_); refine goesL_ (some 15) rfl rfl Try.func118 (by kernel_rfl) rfl #[.agg #[.int .i64 a0_0, .slice A0_1 l0_1.length c0_1], .int .i64 x4_1] rfl (by (try simp only [List.map_toArray, List.map_cons, List.map_nil]); first | done | rfl | (simp only [List.length_drop, List.length_take]; rfl)) ?_; (with_reducible refine (ringworkref07_Area_Room.calls k1 a0_0 _ _ l0_1 x4_1 t416 _ ?side1 ?side2 A4.out).mono ?_); (case side1 => repeat (first | exact (Kd.C_below HR0_1.out HB.out) | (with_reducible refine Kd.C_alloc ?_ _) | (with_reducible refine Kd.C_drewN ?_ _) | (with_reducible refine Kd.C_drew ?_))); (case side2 => exact HC0_1.out); rintro e w6 ⟨rfl, hb⟩; refine ⟨_, rfl, ?_⟩; have n0_ := Aside0.mk (blk_below (g := gb415) (o := .cells #[.int .i64 a0_0, .slice A0_1 l0_1.length c0_1] 58 (0, 0)) (by (with_reducible repeat (first | refine blk_drewN ?_ _ | refine blk_drew ?_ | refine blk_alloc ?_ _)); exact BK415.out) hb); have n1_ := Aside0.mk (below_step (by repeat (first | (with_reducible first | exact HB.out | apply below_alloc | apply pw_below_drewN | apply below_drew1 | refine below_set ?_ GE415.out) | exact HB.out)) hb); clear BK415; clear HB; have BK415 := n0_; have HB := n1_; clear n0_ n1_; (try clear hb); (try clear hb2); (try clear hk); (try clear hi)))
        go_roundg k1
        case measure => have := HK1.out; omega
        case rel => exact ⟨(wrap64 (x3_1 + t416)), (wrap64 (x4_1 + 1)), (by first | rfl | (simp; done) | (simp [*]; done)), (by first | rfl | (simp; done) | (simp [*]; done)), H', ⟨by have := HK1.out; omega⟩, ⟨by (with_reducible repeat (first | refine blk_drewN ?_ _ | refine blk_drew ?_ | refine blk_alloc ?_ _)); exact BK415.out⟩, ⟨by repeat (first | (with_reducible first | exact HB.out | apply below_alloc | apply pw_below_drewN | apply below_drew1 | refine below_set ?_ GE415.out) | exact HB.out)⟩⟩
      · rw [if_neg c3] at H
        have c3b0 : decide (x4_1 < (l0_1.length : Int)) = false := decide_eq_false c3
        clear c3
        obtain rfl := Option.some.inj H
        have hcz7_0 : wr.cell? ⟨gb415, 0, none⟩ = some (.int .i64 a0_0) := (blk_cell BK415.out 0).trans rfl
        have hcz7_1 : wr.cell? ⟨gb415, 1, none⟩ = some (.slice A0_1 l0_1.length c0_1) := (blk_cell BK415.out 1).trans rfl
        have hfz7_0 := blk_frozen BK415.out 0
        have hfz7_1 := blk_frozen BK415.out 1
        go_wp2
        go_ret
        exact ⟨by first | rfl | (simp [errW_none, errW_some] <;> rfl) | (simp [*, errW_none, errW_some] <;> rfl), by repeat (first | (with_reducible first | exact HB.out | apply below_alloc | apply pw_below_drewN | apply below_drew1 | refine below_set ?_ GE415.out) | exact HB.out)⟩

end Go.Proofs.Ytemglmcddaeedaa.PA

namespace Go.Proofs.Ytemglmcddaeedaa.PA
open Go.RowKit Go.Proofs.YtemglmcddaeedaaW.PrintWords Go.Proofs.YtemglmcddaeedaaW.PrintLast Go.Proofs.YtemglmcddaeedaaW.PrintMore
attribute [local go_sem] max2_int min2_int max_two min_two max_three min_three max_four min_four   -- for this text's walks alone
set_option linter.unusedVariables false
set_option linter.unusedSimpArgs false

/-! ### agree07: function 0 -/
theorem bytes_beq_self (X : ByteArray) : (X == X) = true := by
  obtain ⟨a⟩ := X
  show (a == a) = true
  simp
/-! #### the law's agree -/
def rowS (A : Option Addr) (n c : Nat) : Value := .slice A n c
set_option maxHeartbeats 2000000 in
set_option maxRecDepth 100000 in
theorem agree07 {base g : Nat} {v : Value} {sz : Int} {l : List ByteArray} {lv : List Int} (hp0 : 0 < l.length) (hp1 : l.length ≤ 200) (hs : ∀ p ∈ l, p.size ≤ 100000) (hlv : ∀ i, i < 200 → 0 ≤ lv.getD i 0 ∧ lv.getD i 0 ≤ 255)
    (k : Nat) (hF : ringworkref07_Area_Free.f k sz l = some (roomsL l)) (hL : ∀ i, i < l.length → ∃ r2, ringworkref07_Area_Level.f k sz l (i : Int) = some (lv.getD i 0, r2))
    (A : Option Addr) (c : Nat) (w : World) (h : AreaAt w base g v ⟨sz, l, lv⟩) (hC : Kd.C Kd.string w A l.length l) (hc : l.length ≤ c) :
    Calls Try.prog 45 #[.pointer (some ⟨g, 0, none⟩), .agg #[.int .i64 sz, .slice A l.length c]] w fun e w' => e = .returned (.bool true) ∧ Below w.heap.size w w' := by
  obtain ⟨W, hW⟩ : ∃ W, w.alloc (.cells #[.int .i64 sz, .slice A l.length c] 58) = W := ⟨_, rfl⟩
  obtain ⟨b, hb⟩ : ∃ b, w.heap.size = b := ⟨_, rfl⟩
  have hB : Below w.heap.size w W := by rw [← hW]; exact below_alloc (Below.refl _ w) _
  have hbox : W.heap[b]? = some (.cells #[.int .i64 sz, .slice A l.length c] 58 (0, 0)) := by rw [← hW, ← hb]; exact blk_new _ _
  have HBX := Aside0.mk hbox
  have HA := Aside0.mk (h.below hB)
  have HC := Aside0.mk (Kd.C_below hC hB)
  have HB := Aside0.mk (And.intro hB hb)
  have HF := Aside0.mk hF
  have HL := Aside0.mk hL
  have HS := Aside0.mk hs
  have HV := Aside0.mk hlv
  clear h hC hF hL hs hlv hB hbox
  have c0 := (blk_cell HBX.out 0).trans rfl
  have c1 := (blk_cell HBX.out 1).trans rfl
  obtain ⟨F, hFF⟩ : ∃ F, roomsL l = F := ⟨_, rfl⟩
  have HFR := Aside0.mk (show ∀ W' : World, Below W.heap.size W W' → Calls Try.prog 84 #[.pointer (some ⟨g, 0, none⟩)] W' fun e w' => e = .returned (.int .i64 F) ∧ Below W'.heap.size W' w' from fun W' hb' => by
    rw [← hFF]; exact area_Free (a := ⟨sz, l, lv⟩) hp0 (by dsimp only; omega) HS.out W' (HA.out.below hb'))
  have hf1 : (F != F) = false := by simp
  have hf2 : (sz != sz) = false := by simp
  have hf3 : ((l.length : Int) != (l.length : Int)) = false := by simp
  go_enter Try.func45, Try.ntmps45
  go_wp2_with fail
  (try simp only [hW, hb])
  go_region_held3 (fun w' => w'.cell? ⟨b, 0, none⟩ = some (.int .i64 sz) ∧ w'.cell? ⟨b, 1, none⟩ = some (.slice A l.length c) ∧ Below W.heap.size W w')
    (first | exact ⟨c0, c1, below_drew (Below.refl _ _)⟩ | exact ⟨pw_cell_below hb2 (‹_ ∧ _ ∧ Below W.heap.size W _›).1, pw_cell_below hb2 (‹_ ∧ _ ∧ Below W.heap.size W _›).2.1, below_then (‹_ ∧ _ ∧ Below W.heap.size W _›).2.2 (‹_ ∧ _ ∧ Below W.heap.size W _›).2.2.size hb2⟩)
    (first
      | (go_at_call 82; refine (area_Size _ (HA.out.below (‹_ ∧ _ ∧ Below W.heap.size W _›).2.2)).mono ?_; rintro e w2 ⟨rfl, hb2⟩)
      | (go_at_call 83; refine (area_Pages _ (HA.out.below (‹_ ∧ _ ∧ Below W.heap.size W _›).2.2) hp0).mono ?_; rintro e w2 ⟨rfl, hb2⟩)
      | (go_at_call 84; refine (HFR.out _ (‹_ ∧ _ ∧ Below W.heap.size W _›).2.2).mono ?_; rintro e w2 ⟨rfl, hb2⟩)
      | (go_at_call 85; refine (ringworkref07_Area_Free.calls k sz A c l F _ (Kd.C_below HC.out (‹_ ∧ _ ∧ Below W.heap.size W _›).2.2) hc (hFF ▸ HF.out)).mono ?_; rintro e w2 ⟨rfl, hb2⟩))
  have hS := ‹_ ∧ _ ∧ Below W.heap.size W _›
  have HB2 := Aside0.mk hS.2.2
  clear hS
  clear hFF hf1 hf2 hf3 HF HFR
  go_wp2_with fail
  go_loopw [5] (fun v5 wr => ∃ i : Nat, i ≤ l.length ∧ v5 = .int .i64 (i : Int) ∧ Aside0 (Below W.heap.size W wr)) (fun v5 _ => l.length - (intOf v5).toNat)
  case atStart => exact ⟨0, by omega, rfl, HB2⟩
  case round =>
    clear HB2
    obtain ⟨i, hi, rfl, HR⟩ := hrel
    have d0 := pw_cell_below HR.out c0
    have d1 := pw_cell_below HR.out c1
    by_cases hlt : i < l.length
    · have hlt1 : (i : Int) < l.length := by omega
      have hi0 : (0 : Int) ≤ i := by omega
      have hPG := area_Page_ok (a := ⟨sz, l, lv⟩) i hlt wr (HA.out.below HR.out)
      obtain ⟨X, hX⟩ : ∃ X, l[i] = X := ⟨_, rfl⟩
      dsimp only at hPG
      rw [hX] at hPG
      have HPG := Aside0.mk hPG
      have HXX := Aside0.mk hX
      obtain ⟨y, hy⟩ : ∃ y, lv.getD i 0 = y := ⟨_, rfl⟩
      have HYY := Aside0.mk hy
      obtain ⟨r2, hr2⟩ := HL.out i hlt
      rw [hy] at hr2
      have HR2 := Aside0.mk hr2
      have hx1 : (X != X) = false := by
        show (!(X == X)) = false
        rw [bytes_beq_self X]; rfl
      have hy1 : (y != y) = false := by simp
      clear hPG hX hy hr2
      go_wp2_with fail
      refine HPG.out.mono ?_
      rintro e w1 ⟨rfl, hb1⟩
      have HR1 := Aside0.mk (below_then HR.out HR.out.size hb1)
      replace d0 := pw_cell_below hb1 d0
      replace d1 := pw_cell_below hb1 d1
      have hLV := area_Level_ok (a := ⟨sz, l, lv⟩) i hlt (by omega) (HV.out i (by omega)) w1 (HA.out.below HR1.out)
      dsimp only at hLV
      rw [HYY.out] at hLV
      have HLV := Aside0.mk hLV
      clear hLV hb1 HPG HR
      go_wp2_with fail
      refine HLV.out.mono ?_
      rintro e w2 ⟨rfl, hb2⟩
      have HR2b := Aside0.mk (below_then HR1.out HR1.out.size hb2)
      replace d0 := pw_cell_below hb2 d0
      replace d1 := pw_cell_below hb2 d1
      clear hb2 HLV HR1
      go_wp2_with fail
      refine (ringworkref07_Area_Level.calls k sz A c l (i : Int) y r2 _ (Kd.C_below HC.out HR2b.out) hc HR2.out).mono ?_
      rintro e w3 ⟨rfl, hb3⟩
      have HR3 := Aside0.mk (below_then HR2b.out HR2b.out.size hb3)
      replace d0 := pw_cell_below hb3 d0
      replace d1 := pw_cell_below hb3 d1
      obtain ⟨ad, hAd, c5⟩ := Kd.at_string (Kd.C_below HC.out HR3.out) (i : Int) hi0 hlt1
      have hrd : rdOf ByteArray.empty l (i : Int) = X := by
        rw [← HXX.out]; unfold rdOf
        rw [Int.toNat_natCast, List.getD_eq_getElem?_getD, List.getElem?_eq_getElem hlt]; rfl
      rw [hrd, Int.toNat_natCast] at c5
      clear hb3 HR2b hrd
      subst hAd
      go_wp2_with fail
      go_roundw
      case rel => exact ⟨i + 1, by omega, by go_num, HR3⟩
      case measure => simp [intOf]; omega
    · go_wp2
      go_ret
      exact ⟨rfl, below_then HB.out.1 HB.out.1.size HR.out⟩

end Go.Proofs.Ytemglmcddaeedaa.PA

namespace Go.Proofs.Ytemglmcddaeedaa.PA
open Go.RowKit Go.Proofs.YtemglmcddaeedaaW.PrintWords Go.Proofs.YtemglmcddaeedaaW.PrintLast Go.Proofs.YtemglmcddaeedaaW.PrintMore
attribute [local go_sem] max2_int min2_int max_two min_two max_three min_three max_four min_four   -- for this text's walks alone
set_option linter.unusedVariables false
set_option linter.unusedSimpArgs false

/-! ### awake07: function 0 -/
/-! #### the law's awake -/
def abcS : ByteArray := ⟨#[97, 98, 99]⟩
def AwakeLaw : Prop := ∃ (p0 p1 : ByteArray) (k : Nat), page_New.f 1 32 = some (p0, 0) ∧ (p0.size : Int) = 32 ∧ validS p0 ∧ fitsS p0 3 = true ∧ page_Put.f k p0 abcS = some (p1, 1, 0) ∧ (p1.size : Int) = 32 ∧ getS p1 1 = (abcS, 0)
theorem abc_list : (abcS.toList == ([97, 98, 99] : List UInt8)) = true := by
  decide +kernel
theorem getD_range {l : List Int} (h : ∀ x ∈ l, 0 ≤ x ∧ x ≤ 255) (i : Nat) : 0 ≤ l.getD i 0 ∧ l.getD i 0 ≤ 255 := by
  rw [List.getD_eq_getElem?_getD]
  cases hx : l[i]? with
  | none => exact ⟨Int.le_refl _, by decide⟩
  | some x => exact h x (List.mem_of_getElem? hx)
theorem zer_mem {n : Nat} {x : Int} (h : x ∈ zer n) : x = 0 := by
  unfold zer at h; exact (List.mem_replicate.1 h).2
set_option maxHeartbeats 2000000 in
set_option maxRecDepth 100000 in
theorem awake07 (H : AwakeLaw) (w : World) : Calls Try.prog 42 #[] w fun e w' => e = .returned (.bool true) ∧ Below w.heap.size w w' := by
  obtain ⟨p0, p1, k, hn, hs0, hv, hf, hp, hs1, hg⟩ := H
  have HNEW := Aside0.mk (area_New_ok 32 (by decide) 2 (by decide) p0 hn hs0 w)
  have HP := Aside0.mk hp
  have HG := Aside0.mk hg
  have HS := Aside0.mk (And.intro hs0 hs1)
  have HV := Aside0.mk (And.intro hv hf)
  clear hn hs0 hv hf hp hs1 hg
  have hroom := roomS_range p0 (by have := HS.out.1; omega)
  rw [HS.out.1] at hroom
  obtain ⟨L, hL⟩ : ∃ L, roomS p0 * 8 / 32 = L := ⟨_, rfl⟩
  have hL0 : 0 ≤ L ∧ L ≤ 255 := by omega
  rw [hL] at HNEW
  clear hL hroom
  go_enter Try.func42, Try.ntmps42
  go_wp2_with fail
  refine HNEW.out.mono ?_
  rintro e w1 ⟨g, v, rfl, hA, hb1⟩
  have hlist : (List.replicate 2 p0) = [p0, p0] := rfl
  rw [hlist] at hA
  obtain ⟨r, cap, rfl, hbr, _, _, _, _, _, _⟩ := hA.slice (by simp)
  have hA' : AreaAt w1 w.heap.size g (.slice (some ⟨r, 0, none⟩) 2 cap) ⟨32, [p0, p0], [L, L] ++ zer 198⟩ := hA
  have hput := area_Put (a := ⟨32, [p0, p0], [L, L] ++ zer 198⟩) 1 (by simp) (by simp) abcS (by decide) (show (3 : Int) ≤ 32 by decide) (show (32 : Int) ≤ 32 ∧ (32 : Int) ≤ 4096 by decide)
    (fun i _ => getD_range (by
      intro x hx
      rcases List.mem_append.1 hx with h | h
      · simp only [List.mem_cons, List.not_mem_nil, or_false, or_self] at h; rw [h]; exact hL0
      · rw [zer_mem h]; decide) i)
    (by intro p hp; simp only [List.mem_cons, List.not_mem_nil, or_false, or_self] at hp; rw [hp]; exact HV.out.1) k (fun _ => (p1, 1, 0))
    (by
      intro i hi
      have : ([p0, p0] : List ByteArray)[i]'hi = p0 := by
        match i, hi with
        | 0, _ => rfl
        | 1, _ => rfl
      refine ⟨?_, fun _ => HS.out.2⟩
      rw [show ({ size := 32, pages := [p0, p0], lv := [L, L] ++ zer 198 } : AreaS).pages[i]'hi = p0 from this]
      exact HP.out) w1 hA'
  have ht : tryAt ⟨32, [p0, p0], [L, L] ++ zer 198⟩ 1 3 0 = true := by
    show (decide ((3 * 8 / 32 : Int) ≤ L) && fitsS p0 3) = true
    rw [HV.out.2, Bool.and_true]
    exact decide_eq_true (by omega)
  have hfind : findA ⟨32, [p0, p0], [L, L] ++ zer 198⟩ 1 ((abcS.size : Nat) : Int) = (1, 0) := by
    unfold findA
    have : (List.range 2).find? (tryAt ⟨32, [p0, p0], [L, L] ++ zer 198⟩ 1 3) = some 0 := by
      rw [show List.range 2 = [0, 1] from rfl, List.find?_cons, ht]
    rw [show (AreaS.pages ⟨32, [p0, p0], [L, L] ++ zer 198⟩).length = 2 from rfl, show ((abcS.size : Nat) : Int) = 3 from rfl, this]
    rfl
  have hpa : putA ⟨32, [p0, p0], [L, L] ++ zer 198⟩ 1 abcS (fun _ => (p1, 1, 0)) = ((1, 1, 0), ⟨32, [p0, p1], ([L, L] ++ zer 198).set 1 (roomS p1 * 8 / 32)⟩) := by
    unfold putA
    rw [hfind]
    rfl
  rw [hpa] at hput
  dsimp only at hput
  have HPUT := Aside0.mk hput
  have HB1 := Aside0.mk hb1
  have HGE := Aside0.mk (And.intro hA.ge hbr)
  clear hpa hfind ht hput hA' hA hlist HNEW hb1 hbr
  go_wp2_with fail
  refine HPUT.out.mono ?_
  rintro e w2 ⟨rfl, hA2, hK2⟩
  have HA2 := Aside0.mk hA2
  have HB2 := Aside0.mk (hK2.below HB1.out HB1.out.size HGE.out.1 (by intro k hk; cases hk; exact HGE.out.2))
  clear hA2 hK2 HPUT HB1
  go_wp2_with fail
  obtain ⟨b, hb⟩ : ∃ b, w2.heap.size = b := ⟨_, rfl⟩
  obtain ⟨W3, hW3⟩ : ∃ W3, w2.alloc (.cells #[.int .i64 1, .int .i64 1] 93) = W3 := ⟨_, rfl⟩
  have hB3 : Below w2.heap.size w2 W3 := by rw [← hW3]; exact below_alloc (Below.refl _ w2) _
  have hk3 : W3.heap[b]? = some (.cells #[.int .i64 1, .int .i64 1] 93 (0, 0)) := by rw [← hW3, ← hb]; exact blk_new _ _
  have hget := area_Get (a := ⟨32, [p0, p1], ([L, L] ++ zer 198).set 1 (roomS p1 * 8 / 32)⟩) 1 1 (by simp) (by
    intro p hp
    have h0 := HS.out
    simp only [List.mem_cons, List.not_mem_nil, or_false] at hp
    rcases hp with rfl | rfl <;> omega) W3 (HA2.out.below hB3)
  have hga : getA ⟨32, [p0, p1], ([L, L] ++ zer 198).set 1 (roomS p1 * 8 / 32)⟩ 1 1 = (abcS, 0) := by
    unfold getA
    rw [if_pos (show (0 : Int) ≤ 1 ∧ (1 : Int) < (([p0, p1] : List ByteArray).length : Int) from ⟨by decide, by simp⟩)]
    exact HG.out
  rw [hga] at hget
  have HGET := Aside0.mk hget
  have HK3 := Aside0.mk hk3
  have HB3 := Aside0.mk (below_then HB2.out HB2.out.size hB3)
  simp only [hW3, hb]
  clear hga hget hk3 hB3 hW3 hb HA2 HB2
  refine HGET.out.mono ?_
  rintro e w4 ⟨rfl, hb4⟩
  have d0 := pw_cell_below hb4 ((blk_cell HK3.out 0).trans rfl)
  have d1 := pw_cell_below hb4 ((blk_cell HK3.out 1).trans rfl)
  have HB4 := Aside0.mk (below_then HB3.out HB3.out.size hb4)
  clear hb4 HGET HK3 HB3
  go_wp2_with fail
  go_ret
  exact ⟨congrArg (fun x => Ending.returned (Value.bool x)) abc_list, HB4.out⟩

end Go.Proofs.Ytemglmcddaeedaa.PA

namespace Go.Proofs.Ytemglmcddaeedaa.PA
open Go.RowKit Go.Proofs.YtemglmcddaeedaaW.PrintWords Go.Proofs.YtemglmcddaeedaaW.PrintLast Go.Proofs.YtemglmcddaeedaaW.PrintMore
attribute [local go_sem] max2_int min2_int max_two min_two max_three min_three max_four min_four   -- for this text's walks alone
set_option linter.unusedVariables false
set_option linter.unusedSimpArgs false

/-! ### ringworkref06_Wrong: function 20 -/
mutual
def ringworkref06_Wrong.j0 : Nat → ByteArray → Int → Bool → Option (Int × Int)
  | 0, _, _, _ => none
  | k + 1, x0, x4, x26 => if x26 = true then (some (0, 12)) else (ringworkref06_Wrong.l0 k x0 x4 (x0.size : Int) 1)
def ringworkref06_Wrong.l0 : Nat → ByteArray → Int → Int → Int → Option (Int × Int)
  | 0, _, _, _, _ => none
  | k + 1, x0, x4, x5, x6 => if x6 ≤ x4 then ((ringworkref06_Two.f x0 (wrap64 ((wrap64 (4 * x6)) - 2))).bind fun t180 => ((ringworkref06_Two.f x0 (wrap64 ((wrap64 ((wrap64 (4 * x6)) - 2)) + 2))).bind fun t181 => (if t180 = 0 then (ringworkref06_Wrong.j2 k x0 x4 x5 x6 (wrap64 ((wrap64 (4 * x6)) - 2)) t180 t181 (t181 == 0)) else (ringworkref06_Wrong.j2 k x0 x4 x5 x6 (wrap64 ((wrap64 (4 * x6)) - 2)) t180 t181 false)))) else (ringworkref06_Wrong.l1 k x0 x5 (wrap64 (2 + (wrap64 (4 * x4)))))
def ringworkref06_Wrong.j2 : Nat → ByteArray → Int → Int → Int → Int → Int → Int → Bool → Option (Int × Int)
  | 0, _, _, _, _, _, _, _, _ => none
  | k + 1, x0, x4, x5, x6, x7, x8, x9, x49 => if x49 = true then (if x6 = x4 then (some (x7, 12)) else (ringworkref06_Wrong.l0 k x0 x4 x5 (wrap64 (x6 + 1)))) else (if x8 = 0 then (some (x7, 12)) else (if x9 = 0 then (some (x7, 12)) else (if x8 = (wrap64 (x5 - x9)) then (if x8 < (wrap64 (2 + (wrap64 (4 * x4)))) then (some (x7, 12)) else (ringworkref06_Wrong.l0 k x0 x4 x8 (wrap64 (x6 + 1)))) else (some (x7, 12)))))
def ringworkref06_Wrong.l1 : Nat → ByteArray → Int → Int → Option (Int × Int)
  | 0, _, _, _ => none
  | k + 1, x0, x5, x10 => if x10 < x5 then (if 0 ≤ x10 then (if x10 < (x0.size : Int) then (if (bt x0 x10) = 0 then (ringworkref06_Wrong.l1 k x0 x5 (wrap64 (x10 + 1))) else (some (x10, 12))) else (none)) else (none)) else (some ((x0.size : Int), 0))
end
def ringworkref06_Wrong.f (k : Nat) (a0 : ByteArray) : Option (Int × Int) := (ringworkref06_Size.f (a0.size : Int)).bind fun t178 => (if t178 = true then ((ringworkref06_Two.f a0 0).bind fun t179 => (if t179 > 200 then (ringworkref06_Wrong.j0 k a0 t179 true) else (ringworkref06_Wrong.j0 k a0 t179 (decide ((wrap64 (2 + (wrap64 (4 * t179)))) > (a0.size : Int)))))) else (some (0, 11)))
theorem ringworkref06_Wrong.mono_l : ∀ k, (∀ y0 y1 y2, LeO (ringworkref06_Wrong.j0 k y0 y1 y2) (ringworkref06_Wrong.j0 (k + 1) y0 y1 y2)) ∧ (∀ y0 y1 y2 y3, LeO (ringworkref06_Wrong.l0 k y0 y1 y2 y3) (ringworkref06_Wrong.l0 (k + 1) y0 y1 y2 y3)) ∧ (∀ y0 y1 y2 y3 y4 y5 y6 y7, LeO (ringworkref06_Wrong.j2 k y0 y1 y2 y3 y4 y5 y6 y7) (ringworkref06_Wrong.j2 (k + 1) y0 y1 y2 y3 y4 y5 y6 y7)) ∧ (∀ y0 y1 y2, LeO (ringworkref06_Wrong.l1 k y0 y1 y2) (ringworkref06_Wrong.l1 (k + 1) y0 y1 y2))
  | 0 => ⟨fun _ _ _ r h => by simp [ringworkref06_Wrong.j0] at h, fun _ _ _ _ r h => by simp [ringworkref06_Wrong.l0] at h, fun _ _ _ _ _ _ _ _ r h => by simp [ringworkref06_Wrong.j2] at h, fun _ _ _ r h => by simp [ringworkref06_Wrong.l1] at h⟩
  | k + 1 => by
    obtain ⟨ih0, ih1, ih2, ih3⟩ := ringworkref06_Wrong.mono_l k
    refine ⟨?_, ?_, ?_, ?_⟩
    · intro y0 y1 y2
      unfold ringworkref06_Wrong.j0
      repeat' first
      | (with_reducible exact ih0 _ _ _)
      | (with_reducible exact ih1 _ _ _ _)
      | (with_reducible exact ih2 _ _ _ _ _ _ _ _)
      | (with_reducible exact ih3 _ _ _)
      | (with_reducible exact LeO.refl _)
      | (with_reducible exact LeO.none _)
      | (with_reducible refine LeO.ite ?_ ?_)
      | (with_reducible refine LeO.bind ?_ (fun _ => ?_))
      | exact ih0 _ _ _
      | exact ih1 _ _ _ _
      | exact ih2 _ _ _ _ _ _ _ _
      | exact ih3 _ _ _
      | exact LeO.none _
      | refine LeO.ite ?_ ?_
      | refine LeO.bind ?_ (fun _ => ?_)
    · intro y0 y1 y2 y3
      unfold ringworkref06_Wrong.l0
      repeat' first
      | (with_reducible exact ih0 _ _ _)
      | (with_reducible exact ih1 _ _ _ _)
      | (with_reducible exact ih2 _ _ _ _ _ _ _ _)
      | (with_reducible exact ih3 _ _ _)
      | (with_reducible exact LeO.refl _)
      | (with_reducible exact LeO.none _)
      | (with_reducible refine LeO.ite ?_ ?_)
      | (with_reducible refine LeO.bind ?_ (fun _ => ?_))
      | exact ih0 _ _ _
      | exact ih1 _ _ _ _
      | exact ih2 _ _ _ _ _ _ _ _
      | exact ih3 _ _ _
      | exact LeO.none _
      | refine LeO.ite ?_ ?_
      | refine LeO.bind ?_ (fun _ => ?_)
    · intro y0 y1 y2 y3 y4 y5 y6 y7
      unfold ringworkref06_Wrong.j2
      repeat' first
      | (with_reducible exact ih0 _ _ _)
      | (with_reducible exact ih1 _ _ _ _)
      | (with_reducible exact ih2 _ _ _ _ _ _ _ _)
      | (with_reducible exact ih3 _ _ _)
      | (with_reducible exact LeO.refl _)
      | (with_reducible exact LeO.none _)
      | (with_reducible refine LeO.ite ?_ ?_)
      | (with_reducible refine LeO.bind ?_ (fun _ => ?_))
      | exact ih0 _ _ _
      | exact ih1 _ _ _ _
      | exact ih2 _ _ _ _ _ _ _ _
      | exact ih3 _ _ _
      | exact LeO.none _
      | refine LeO.ite ?_ ?_
      | refine LeO.bind ?_ (fun _ => ?_)
    · intro y0 y1 y2
      unfold ringworkref06_Wrong.l1
      repeat' first
      | (with_reducible exact ih0 _ _ _)
      | (with_reducible exact ih1 _ _ _ _)
      | (with_reducible exact ih2 _ _ _ _ _ _ _ _)
      | (with_reducible exact ih3 _ _ _)
      | (with_reducible exact LeO.refl _)
      | (with_reducible exact LeO.none _)
      | (with_reducible refine LeO.ite ?_ ?_)
      | (with_reducible refine LeO.bind ?_ (fun _ => ?_))
      | exact ih0 _ _ _
      | exact ih1 _ _ _ _
      | exact ih2 _ _ _ _ _ _ _ _
      | exact ih3 _ _ _
      | exact LeO.none _
      | refine LeO.ite ?_ ?_
      | refine LeO.bind ?_ (fun _ => ?_)
theorem ringworkref06_Wrong.mono : ∀ a0 k, LeO (ringworkref06_Wrong.f k a0) (ringworkref06_Wrong.f (k + 1) a0) := by
  intro a0 k
  obtain ⟨ih0, ih1, ih2, ih3⟩ := ringworkref06_Wrong.mono_l k
  unfold ringworkref06_Wrong.f
  repeat' first
      | (with_reducible exact ih0 _ _ _)
      | (with_reducible exact ih1 _ _ _ _)
      | (with_reducible exact ih2 _ _ _ _ _ _ _ _)
      | (with_reducible exact ih3 _ _ _)
      | (with_reducible exact LeO.refl _)
      | (with_reducible exact LeO.none _)
      | (with_reducible refine LeO.ite ?_ ?_)
      | (with_reducible refine LeO.bind ?_ (fun _ => ?_))
      | exact ih0 _ _ _
      | exact ih1 _ _ _ _
      | exact ih2 _ _ _ _ _ _ _ _
      | exact ih3 _ _ _
      | exact LeO.none _
      | refine LeO.ite ?_ ?_
      | refine LeO.bind ?_ (fun _ => ?_)
set_option maxHeartbeats 8000000 in
set_option maxRecDepth 100000 in
theorem ringworkref06_Wrong.calls (k : Nat) (a0 : ByteArray) (r1 : Int) (r2 : Int) (w : World) (h : ringworkref06_Wrong.f k a0 = some (r1, r2)) :
    Calls Try.prog 20 #[.string a0] w fun e w' => e = .returned (.tuple #[.int .i64 r1, .int .i64 r2]) ∧ Drawn0 w w' := by
  have H : ((ringworkref06_Size.f (a0.size : Int)).bind fun t178 => (if t178 = true then ((ringworkref06_Two.f a0 0).bind fun t179 => (if t179 > 200 then (ringworkref06_Wrong.j0 k a0 t179 true) else (ringworkref06_Wrong.j0 k a0 t179 (decide ((wrap64 (2 + (wrap64 (4 * t179)))) > (a0.size : Int)))))) else (some (0, 11)))) = some (r1, r2) := h
  clear h
  replace H := Option.bind_eq_some_iff.mp H
  obtain ⟨t178, A20, H⟩ := H
  replace H : (if t178 = true then ((ringworkref06_Two.f a0 0).bind fun t179 => (if t179 > 200 then (ringworkref06_Wrong.j0 k a0 t179 true) else (ringworkref06_Wrong.j0 k a0 t179 (decide ((wrap64 (2 + (wrap64 (4 * t179)))) > (a0.size : Int)))))) else (some (0, 11))) = some (r1, r2) := H
  have A2 := Aside0.mk A20
  clear A20
  by_cases c3 : t178 = true
  · subst c3
    have H1 : ((ringworkref06_Two.f a0 0).bind fun t179 => (if t179 > 200 then (ringworkref06_Wrong.j0 k a0 t179 true) else (ringworkref06_Wrong.j0 k a0 t179 (decide ((wrap64 (2 + (wrap64 (4 * t179)))) > (a0.size : Int)))))) = some (r1, r2) := by rw [if_pos rfl] at H; exact H
    clear H
    have H := H1
    clear H1
    replace H := Option.bind_eq_some_iff.mp H
    obtain ⟨t179, A40, H⟩ := H
    replace H : (if t179 > 200 then (ringworkref06_Wrong.j0 k a0 t179 true) else (ringworkref06_Wrong.j0 k a0 t179 (decide ((wrap64 (2 + (wrap64 (4 * t179)))) > (a0.size : Int))))) = some (r1, r2) := H
    have A4 := Aside0.mk A40
    clear A40
    have HC5 := Aside0.mk H
    clear H
    go_enter Try.func20, Try.ntmps20
    go_upto_region 4 with (first | ((with_reducible refine gate_callee (f := 50) rfl ?_); refine goesL_ (some 13) rfl rfl Try.func50 (by kernel_rfl) rfl #[.int .i64 (a0.size : Int)] rfl (by (try simp only [List.map_toArray, List.map_cons, List.map_nil]); first | done | rfl | (simp only [List.length_drop, List.length_take]; rfl)) ?_; (with_reducible refine (ringworkref06_Size.calls (a0.size : Int) true _ A2.out).mono ?_); rintro e w' ⟨rfl, ⟨nd, rfl⟩⟩; refine ⟨_, rfl, ?_⟩) | ((with_reducible refine gate_callee (f := 59) rfl ?_); refine goesL_ (some 16) rfl rfl Try.func59 (by kernel_rfl) rfl #[.string a0, .int .i64 0] rfl (by (try simp only [List.map_toArray, List.map_cons, List.map_nil]); first | done | rfl | (simp only [List.length_drop, List.length_take]; rfl)) ?_; (with_reducible refine (ringworkref06_Two.calls a0 0 t179 _ A4.out).mono ?_); rintro e w' ⟨rfl, ⟨nd, rfl⟩⟩; refine ⟨_, rfl, ?_⟩))
    (try simp only [Act.put, List.setIfInBounds_toArray, List.set_cons_zero, List.set_cons_succ])
    go_cut [26] (fun v26 wc => ∃ (kq : Nat) (x26_4 : Bool), v26 = .bool x26_4 ∧ Aside0 (ringworkref06_Wrong.j0 kq a0 t179 x26_4 = some (r1, r2)) ∧ Aside0 (kq ≤ k) ∧ Drawn0 w wc)
    case first =>
      have H := HC5.out
      clear HC5
      by_cases c6 : t179 > 200
      · rw [if_pos c6] at H
        have c6b0 : decide (200 < t179) = true := decide_eq_true c6
        clear c6
        (first | rw [c6b0] | (simp only [i64_w, i32_w]; rw [c6b0]) | skip)
        have H' := Aside0.mk H
        clear H
        go_wp2
        go_meet
        case rel => exact ⟨_, (true), (by first | rfl | (simp; done) | (simp [*]; done)), H', ⟨by first | omega | exact Nat.le_refl _⟩, by repeat (first | exact Drawn0.refl _ | apply Drawn0.step)⟩
      · rw [if_neg c6] at H
        have c6b0 : decide (200 < t179) = false := decide_eq_false c6
        clear c6
        (first | rw [c6b0] | (simp only [i64_w, i32_w]; rw [c6b0]) | skip)
        have H' := Aside0.mk H
        clear H
        go_wp2
        go_meet
        case rel => exact ⟨_, (decide ((wrap64 (2 + (wrap64 (4 * t179)))) > (a0.size : Int))), (by first | rfl | (simp; done) | (simp [*]; done)), H', ⟨by first | omega | exact Nat.le_refl _⟩, by repeat (first | exact Drawn0.refl _ | apply Drawn0.step)⟩
    case rest =>
      clear HC5
      try clear c2
      try clear p2
      try clear c3
      try clear c5
      try clear c6
      try clear c6b0
      try clear p6
      obtain ⟨kq, x26_4, rfl, HA, HJ4, ⟨mc4, rfl⟩⟩ := hcut
      cases kq with
      | zero => exact absurd HA.out (by simp [ringworkref06_Wrong.j0])
      | succ kj4 =>
        have H := HA.out
        clear HA
        simp only [ringworkref06_Wrong.j0] at H
        by_cases c7 : x26_4 = true
        · subst c7
          have H1 : (some (0, 12)) = some (r1, r2) := by rw [if_pos rfl] at H; exact H
          clear H
          have H := H1
          clear H1
          simp only [Option.some.injEq, Prod.mk.injEq] at H
          obtain ⟨rfl, rfl⟩ := H
          go_wp2
          go_ret2
          exact ⟨by first | rfl | (simp; done) | (simp [*]; done), by repeat (first | exact Drawn0.refl _ | apply Drawn0.step)⟩
        · replace c7 := Bool.eq_false_iff.mpr c7
          subst c7
          have H1 : (ringworkref06_Wrong.l0 kj4 a0 t179 (a0.size : Int) 1) = some (r1, r2) := by rw [if_neg (show ¬ (false = true) by decide)] at H; exact H
          clear H
          have H := H1
          clear H1
          have H' := Aside0.mk H
          clear H
          go_wp2
          go_loopg [5, 6] kj4 (fun kq v5 v6 w' => ∃ (x5_2 : Int) (x6_2 : Int), v5 = .int .i64 x5_2 ∧ v6 = .int .i64 x6_2 ∧ Aside0 (ringworkref06_Wrong.l0 kq a0 t179 x5_2 x6_2 = some (r1, r2)) ∧ Aside0 (kq ≤ kj4) ∧ Drawn0 w w')
          case atStart => exact ⟨((a0.size : Int)), (1), (by first | rfl | (simp; done) | (simp [*]; done)), (by first | rfl | (simp; done) | (simp [*]; done)), H', ⟨Nat.le_refl _⟩, by repeat (first | exact Drawn0.refl _ | apply Drawn0.step)⟩
          case round =>
            clear H'
            try clear c2
            try clear p2
            try clear c3
            try clear c4
            try clear c5
            try clear c6
            try clear c6b0
            try clear p6
            try clear c7
            try clear p2
            try clear p6
            obtain ⟨x5_2, x6_2, rfl, rfl, HA, HK2, ⟨m2, rfl⟩⟩ := hrel
            cases gk with
            | zero => exact absurd HA.out (by simp [ringworkref06_Wrong.l0])
            | succ k2 =>
              have H := HA.out
              clear HA
              simp only [ringworkref06_Wrong.l0] at H
              by_cases c8 : x6_2 ≤ t179
              · rw [if_pos c8] at H
                have c8b0 : decide (x6_2 ≤ t179) = true := decide_eq_true c8
                clear c8
                replace H := Option.bind_eq_some_iff.mp H
                obtain ⟨t180, A90, H⟩ := H
                replace H : ((ringworkref06_Two.f a0 (wrap64 ((wrap64 ((wrap64 (4 * x6_2)) - 2)) + 2))).bind fun t181 => (if t180 = 0 then (ringworkref06_Wrong.j2 k2 a0 t179 x5_2 x6_2 (wrap64 ((wrap64 (4 * x6_2)) - 2)) t180 t181 (t181 == 0)) else (ringworkref06_Wrong.j2 k2 a0 t179 x5_2 x6_2 (wrap64 ((wrap64 (4 * x6_2)) - 2)) t180 t181 false))) = some (r1, r2) := H
                have A9 := Aside0.mk A90
                clear A90
                replace H := Option.bind_eq_some_iff.mp H
                obtain ⟨t181, A100, H⟩ := H
                replace H : (if t180 = 0 then (ringworkref06_Wrong.j2 k2 a0 t179 x5_2 x6_2 (wrap64 ((wrap64 (4 * x6_2)) - 2)) t180 t181 (t181 == 0)) else (ringworkref06_Wrong.j2 k2 a0 t179 x5_2 x6_2 (wrap64 ((wrap64 (4 * x6_2)) - 2)) t180 t181 false)) = some (r1, r2) := H
                have A10 := Aside0.mk A100
                clear A100
                have HC11 := Aside0.mk H
                clear H
                go_upto_region 12 with (first | ((with_reducible refine gate_callee (f := 59) rfl ?_); refine goesL_ (some 39) rfl rfl Try.func59 (by kernel_rfl) rfl #[.string a0, .int .i64 (wrap64 ((wrap64 (4 * x6_2)) - 2))] rfl (by (try simp only [List.map_toArray, List.map_cons, List.map_nil]); first | done | rfl | (simp only [List.length_drop, List.length_take]; rfl)) ?_; (with_reducible refine (ringworkref06_Two.calls a0 (wrap64 ((wrap64 (4 * x6_2)) - 2)) t180 _ A9.out).mono ?_); rintro e w' ⟨rfl, ⟨nd, rfl⟩⟩; refine ⟨_, rfl, ?_⟩) | ((with_reducible refine gate_callee (f := 59) rfl ?_); refine goesL_ (some 43) rfl rfl Try.func59 (by kernel_rfl) rfl #[.string a0, .int .i64 (wrap64 ((wrap64 ((wrap64 (4 * x6_2)) - 2)) + 2))] rfl (by (try simp only [List.map_toArray, List.map_cons, List.map_nil]); first | done | rfl | (simp only [List.length_drop, List.length_take]; rfl)) ?_; (with_reducible refine (ringworkref06_Two.calls a0 (wrap64 ((wrap64 ((wrap64 (4 * x6_2)) - 2)) + 2)) t181 _ A10.out).mono ?_); rintro e w' ⟨rfl, ⟨nd, rfl⟩⟩; refine ⟨_, rfl, ?_⟩))
                (try simp only [Act.put, List.setIfInBounds_toArray, List.set_cons_zero, List.set_cons_succ])
                go_cut [49] (fun v49 wc => ∃ (kq : Nat) (x49_10 : Bool), v49 = .bool x49_10 ∧ Aside0 (ringworkref06_Wrong.j2 kq a0 t179 x5_2 x6_2 (wrap64 ((wrap64 (4 * x6_2)) - 2)) t180 t181 x49_10 = some (r1, r2)) ∧ Aside0 (kq ≤ k2) ∧ Drawn0 w wc)
                case first =>
                  have H := HC11.out
                  clear HC11
                  by_cases c12 : t180 = 0
                  · rw [if_pos c12] at H
                    have c12b0 : (t180 == 0) = true := beq_iff_eq.mpr c12
                    have c12b1 : (t180 != 0) = false := bne_eq_false_iff_eq.mpr c12
                    clear c12
                    (first | rw [c12b0] | (simp only [i64_w, i32_w]; rw [c12b0]) | skip)
                    have H' := Aside0.mk H
                    clear H
                    go_wp2
                    go_meet
                    case rel => exact ⟨_, ((t181 == 0)), (by first | rfl | (simp; done) | (simp [*]; done)), H', ⟨by have := HJ4.out; have := HK2.out; first | omega | exact Nat.le_refl _⟩, by repeat (first | exact Drawn0.refl _ | apply Drawn0.step)⟩
                  · rw [if_neg c12] at H
                    have c12b0 : (t180 == 0) = false := beq_eq_false_iff_ne.mpr c12
                    have c12b1 : (t180 != 0) = true := bne_iff_ne.mpr c12
                    (first | rw [c12b0] | (simp only [i64_w, i32_w]; rw [c12b0]) | skip)
                    have H' := Aside0.mk H
                    clear H
                    go_wp2
                    go_meet
                    case rel => exact ⟨_, (false), (by first | rfl | (simp; done) | (simp [*]; done)), H', ⟨by have := HJ4.out; have := HK2.out; first | omega | exact Nat.le_refl _⟩, by repeat (first | exact Drawn0.refl _ | apply Drawn0.step)⟩
                case rest =>
                  clear HC11
                  try clear c1
                  try clear c2
                  try clear p2
                  try clear c3
                  try clear c4
                  try clear c5
                  try clear c6
                  try clear c6b0
                  try clear p6
                  try clear c7
                  try clear c8
                  try clear c8b0
                  try clear c12
                  try clear c12b0
                  try clear c12b1
                  try clear p2
                  try clear p6
                  obtain ⟨kq, x49_10, rfl, HA, HJ10, ⟨mc10, rfl⟩⟩ := hcut
                  cases kq with
                  | zero => exact absurd HA.out (by simp [ringworkref06_Wrong.j2])
                  | succ kj10 =>
                    have H := HA.out
                    clear HA
                    simp only [ringworkref06_Wrong.j2] at H
                    by_cases c13 : x49_10 = true
                    · subst c13
                      have H1 : (if x6_2 = t179 then (some ((wrap64 ((wrap64 (4 * x6_2)) - 2)), 12)) else (ringworkref06_Wrong.l0 kj10 a0 t179 x5_2 (wrap64 (x6_2 + 1)))) = some (r1, r2) := by rw [if_pos rfl] at H; exact H
                      clear H
                      have H := H1
                      clear H1
                      by_cases c14 : x6_2 = t179
                      · rw [if_pos c14] at H
                        have c14b0 : (x6_2 == t179) = true := beq_iff_eq.mpr c14
                        have c14b1 : (x6_2 != t179) = false := bne_eq_false_iff_eq.mpr c14
                        clear c14
                        simp only [Option.some.injEq, Prod.mk.injEq] at H
                        obtain ⟨rfl, rfl⟩ := H
                        go_wp2
                        go_ret2
                        exact ⟨by first | rfl | (simp; done) | (simp [*]; done), by repeat (first | exact Drawn0.refl _ | apply Drawn0.step)⟩
                      · rw [if_neg c14] at H
                        have c14b0 : (x6_2 == t179) = false := beq_eq_false_iff_ne.mpr c14
                        have c14b1 : (x6_2 != t179) = true := bne_iff_ne.mpr c14
                        have H' := Aside0.mk H
                        clear H
                        go_wp2
                        go_roundg kj10
                        case measure => have := HJ4.out; have := HK2.out; have := HJ10.out; omega
                        case rel => exact ⟨(x5_2), (wrap64 (x6_2 + 1)), (by first | rfl | (simp; done) | (simp [*]; done)), (by first | rfl | (simp; done) | (simp [*]; done)), H', ⟨by have := HJ4.out; have := HK2.out; have := HJ10.out; omega⟩, by repeat (first | exact Drawn0.refl _ | apply Drawn0.step)⟩
                    · replace c13 := Bool.eq_false_iff.mpr c13
                      subst c13
                      have H1 : (if t180 = 0 then (some ((wrap64 ((wrap64 (4 * x6_2)) - 2)), 12)) else (if t181 = 0 then (some ((wrap64 ((wrap64 (4 * x6_2)) - 2)), 12)) else (if t180 = (wrap64 (x5_2 - t181)) then (if t180 < (wrap64 (2 + (wrap64 (4 * t179)))) then (some ((wrap64 ((wrap64 (4 * x6_2)) - 2)), 12)) else (ringworkref06_Wrong.l0 kj10 a0 t179 t180 (wrap64 (x6_2 + 1)))) else (some ((wrap64 ((wrap64 (4 * x6_2)) - 2)), 12))))) = some (r1, r2) := by rw [if_neg (show ¬ (false = true) by decide)] at H; exact H
                      clear H
                      have H := H1
                      clear H1
                      by_cases c15 : t180 = 0
                      · rw [if_pos c15] at H
                        have c15b0 : (t180 == 0) = true := beq_iff_eq.mpr c15
                        have c15b1 : (t180 != 0) = false := bne_eq_false_iff_eq.mpr c15
                        clear c15
                        simp only [Option.some.injEq, Prod.mk.injEq] at H
                        obtain ⟨rfl, rfl⟩ := H
                        go_wp2
                        go_ret2
                        exact ⟨by first | rfl | (simp; done) | (simp [*]; done), by repeat (first | exact Drawn0.refl _ | apply Drawn0.step)⟩
                      · rw [if_neg c15] at H
                        have c15b0 : (t180 == 0) = false := beq_eq_false_iff_ne.mpr c15
                        have c15b1 : (t180 != 0) = true := bne_iff_ne.mpr c15
                        by_cases c16 : t181 = 0
                        · rw [if_pos c16] at H
                          have c16b0 : (t181 == 0) = true := beq_iff_eq.mpr c16
                          have c16b1 : (t181 != 0) = false := bne_eq_false_iff_eq.mpr c16
                          clear c16
                          simp only [Option.some.injEq, Prod.mk.injEq] at H
                          obtain ⟨rfl, rfl⟩ := H
                          go_wp2
                          go_ret2
                          exact ⟨by first | rfl | (simp; done) | (simp [*]; done), by repeat (first | exact Drawn0.refl _ | apply Drawn0.step)⟩
                        · rw [if_neg c16] at H
                          have c16b0 : (t181 == 0) = false := beq_eq_false_iff_ne.mpr c16
                          have c16b1 : (t181 != 0) = true := bne_iff_ne.mpr c16
                          by_cases c17 : t180 = (wrap64 (x5_2 - t181))
                          · rw [if_pos c17] at H
                            have c17b0 : (t180 == (wrap64 (x5_2 - t181))) = true := beq_iff_eq.mpr c17
                            have c17b1 : (t180 != (wrap64 (x5_2 - t181))) = false := bne_eq_false_iff_eq.mpr c17
                            clear c17
                            by_cases c18 : t180 < (wrap64 (2 + (wrap64 (4 * t179))))
                            · rw [if_pos c18] at H
                              have c18b0 : decide (t180 < (wrap64 (2 + (wrap64 (4 * t179))))) = true := decide_eq_true c18
                              clear c18
                              simp only [Option.some.injEq, Prod.mk.injEq] at H
                              obtain ⟨rfl, rfl⟩ := H
                              go_wp2
                              go_ret2
                              exact ⟨by first | rfl | (simp; done) | (simp [*]; done), by repeat (first | exact Drawn0.refl _ | apply Drawn0.step)⟩
                            · rw [if_neg c18] at H
                              have c18b0 : decide (t180 < (wrap64 (2 + (wrap64 (4 * t179))))) = false := decide_eq_false c18
                              clear c18
                              have H' := Aside0.mk H
                              clear H
                              go_wp2
                              go_roundg kj10
                              case measure => have := HJ4.out; have := HK2.out; have := HJ10.out; omega
                              case rel => exact ⟨(t180), (wrap64 (x6_2 + 1)), (by first | rfl | (simp; done) | (simp [*]; done)), (by first | rfl | (simp; done) | (simp [*]; done)), H', ⟨by have := HJ4.out; have := HK2.out; have := HJ10.out; omega⟩, by repeat (first | exact Drawn0.refl _ | apply Drawn0.step)⟩
                          · rw [if_neg c17] at H
                            have c17b0 : (t180 == (wrap64 (x5_2 - t181))) = false := beq_eq_false_iff_ne.mpr c17
                            have c17b1 : (t180 != (wrap64 (x5_2 - t181))) = true := bne_iff_ne.mpr c17
                            simp only [Option.some.injEq, Prod.mk.injEq] at H
                            obtain ⟨rfl, rfl⟩ := H
                            go_wp2
                            go_ret2
                            exact ⟨by first | rfl | (simp; done) | (simp [*]; done), by repeat (first | exact Drawn0.refl _ | apply Drawn0.step)⟩
              · rw [if_neg c8] at H
                have c8b0 : decide (x6_2 ≤ t179) = false := decide_eq_false c8
                clear c8
                have H' := Aside0.mk H
                clear H
                go_wp2
                go_loopg [10] k2 (fun kq v10 w' => ∃ (x10_3 : Int), v10 = .int .i64 x10_3 ∧ Aside0 (ringworkref06_Wrong.l1 kq a0 x5_2 x10_3 = some (r1, r2)) ∧ Aside0 (kq ≤ k2) ∧ Drawn0 w w')
                case atStart => exact ⟨(wrap64 (2 + (wrap64 (4 * t179)))), (by first | rfl | (simp; done) | (simp [*]; done)), H', ⟨Nat.le_refl _⟩, by repeat (first | exact Drawn0.refl _ | apply Drawn0.step)⟩
                case round =>
                  clear H'
                  try clear c1
                  try clear c2
                  try clear p2
                  try clear c3
                  try clear c4
                  try clear c5
                  try clear c6
                  try clear c6b0
                  try clear p6
                  try clear c7
                  try clear c8
                  try clear c8b0
                  try clear c10
                  try clear c12
                  try clear c12b0
                  try clear c12b1
                  try clear c13
                  try clear c14
                  try clear c14b0
                  try clear c14b1
                  try clear c15
                  try clear c15b0
                  try clear c15b1
                  try clear c16
                  try clear c16b0
                  try clear c16b1
                  try clear c17
                  try clear c17b0
                  try clear c17b1
                  try clear c18
                  try clear c18b0
                  try clear p2
                  try clear p6
                  obtain ⟨x10_3, rfl, HA, HK3, ⟨m3, rfl⟩⟩ := hrel
                  cases gk with
                  | zero => exact absurd HA.out (by simp [ringworkref06_Wrong.l1])
                  | succ k3 =>
                    have H := HA.out
                    clear HA
                    simp only [ringworkref06_Wrong.l1] at H
                    by_cases c19 : x10_3 < x5_2
                    · rw [if_pos c19] at H
                      have c19b0 : decide (x10_3 < x5_2) = true := decide_eq_true c19
                      clear c19
                      by_cases c20 : 0 ≤ x10_3
                      · rw [if_pos c20] at H
                        have c20b0 : decide (0 ≤ x10_3) = true := decide_eq_true c20
                        clear c20
                        by_cases c21 : x10_3 < (a0.size : Int)
                        · rw [if_pos c21] at H
                          have c21b0 : decide (x10_3 < (a0.size : Int)) = true := decide_eq_true c21
                          clear c21
                          by_cases c23 : (bt a0 x10_3) = 0
                          · rw [if_pos c23] at H
                            have c23b0 : ((bt a0 x10_3) == 0) = true := beq_iff_eq.mpr c23
                            have c23b1 : ((bt a0 x10_3) != 0) = false := bne_eq_false_iff_eq.mpr c23
                            clear c23
                            have H' := Aside0.mk H
                            clear H
                            have p22 : 0 ≤ (x10_3 : Int) := of_decide_eq_true (by first | (with_reducible assumption) | assumption)
                            have q22 : x10_3 < (a0.size : Int) := of_decide_eq_true (by first | (with_reducible assumption) | assumption)
                            have hx22 := bt_at a0 x10_3
                            replace p22 := eq_true p22
                            replace q22 := eq_true q22
                            go_wp2
                            go_roundg k3
                            case measure => have := HJ4.out; have := HK2.out; have := HK3.out; omega
                            case rel => exact ⟨(wrap64 (x10_3 + 1)), (by first | rfl | (simp; done) | (simp [*]; done)), H', ⟨by have := HJ4.out; have := HK2.out; have := HK3.out; omega⟩, by repeat (first | exact Drawn0.refl _ | apply Drawn0.step)⟩
                          · rw [if_neg c23] at H
                            have c23b0 : ((bt a0 x10_3) == 0) = false := beq_eq_false_iff_ne.mpr c23
                            have c23b1 : ((bt a0 x10_3) != 0) = true := bne_iff_ne.mpr c23
                            simp only [Option.some.injEq, Prod.mk.injEq] at H
                            obtain ⟨rfl, rfl⟩ := H
                            have p22 : 0 ≤ (x10_3 : Int) := of_decide_eq_true (by first | (with_reducible assumption) | assumption)
                            have q22 : x10_3 < (a0.size : Int) := of_decide_eq_true (by first | (with_reducible assumption) | assumption)
                            have hx22 := bt_at a0 x10_3
                            replace p22 := eq_true p22
                            replace q22 := eq_true q22
                            go_wp2
                            go_ret2
                            exact ⟨by first | rfl | (simp; done) | (simp [*]; done), by repeat (first | exact Drawn0.refl _ | apply Drawn0.step)⟩
                        · rw [if_neg c21] at H
                          exact absurd H (by simp)
                      · rw [if_neg c20] at H
                        exact absurd H (by simp)
                    · rw [if_neg c19] at H
                      have c19b0 : decide (x10_3 < x5_2) = false := decide_eq_false c19
                      clear c19
                      simp only [Option.some.injEq, Prod.mk.injEq] at H
                      obtain ⟨rfl, rfl⟩ := H
                      go_wp2
                      go_ret2
                      exact ⟨by first | rfl | (simp; done) | (simp [*]; done), by repeat (first | exact Drawn0.refl _ | apply Drawn0.step)⟩
  · replace c3 := Bool.eq_false_iff.mpr c3
    subst c3
    have H1 : (some (0, 11)) = some (r1, r2) := by rw [if_neg (show ¬ (false = true) by decide)] at H; exact H
    clear H
    have H := H1
    clear H1
    simp only [Option.some.injEq, Prod.mk.injEq] at H
    obtain ⟨rfl, rfl⟩ := H
    go_enter Try.func20, Try.ntmps20
    go_wp2_with (first | ((with_reducible refine gate_callee (f := 50) rfl ?_); refine goesL_ (some 13) rfl rfl Try.func50 (by kernel_rfl) rfl #[.int .i64 (a0.size : Int)] rfl (by (try simp only [List.map_toArray, List.map_cons, List.map_nil]); first | done | rfl | (simp only [List.length_drop, List.length_take]; rfl)) ?_; (with_reducible refine (ringworkref06_Size.calls (a0.size : Int) false _ A2.out).mono ?_); rintro e w' ⟨rfl, ⟨nd, rfl⟩⟩; refine ⟨_, rfl, ?_⟩))
    go_ret2
    exact ⟨by first | rfl | (simp; done) | (simp [*]; done), by repeat (first | exact Drawn0.refl _ | apply Drawn0.step)⟩

end Go.Proofs.Ytemglmcddaeedaa.PA

namespace Go.Proofs.Ytemglmcddaeedaa.PA
open Go.RowKit Go.Proofs.YtemglmcddaeedaaW.PrintWords Go.Proofs.YtemglmcddaeedaaW.PrintLast Go.Proofs.YtemglmcddaeedaaW.PrintMore
attribute [local go_sem] max2_int min2_int max_two min_two max_three min_three max_four min_four   -- for this text's walks alone
set_option linter.unusedVariables false
set_option linter.unusedSimpArgs false

/-! ### ringworkref07_Load: function 44 -/
mutual
def ringworkref07_Load.l0 : Nat → ByteArray → Int → Option (Int × List ByteArray × Int × Int)
  | 0, _, _ => none
  | k + 1, x0, x5 => if x5 < 4 then (if x5 = (x0.size : Int) then (some (0, ([] : List ByteArray), x5, 12)) else (if 0 ≤ x5 then (if x5 < (x0.size : Int) then (if (bt x0 x5) = (bt (⟨#[65, 82, 69, 65]⟩ : ByteArray) x5) then (ringworkref07_Load.l0 k x0 (wrap64 (x5 + 1))) else (some (0, ([] : List ByteArray), x5, 12))) else (none)) else (none))) else (if (x0.size : Int) < 6 then (some (0, ([] : List ByteArray), (x0.size : Int), 12)) else ((ringworkref06_Two.f x0 4).bind fun t404 => ((ringworkref06_Size.f t404).bind fun t406 => (if t406 = true then (if (x0.size : Int) < 8 then (some (0, ([] : List ByteArray), (x0.size : Int), 12)) else ((ringworkref06_Two.f x0 6).bind fun t407 => (if t407 < 1 then (ringworkref07_Load.j1 k x0 t407 true t404) else (ringworkref07_Load.j1 k x0 t407 (decide (t407 > 200)) t404)))) else (some (0, ([] : List ByteArray), 4, 12))))))
def ringworkref07_Load.j1 : Nat → ByteArray → Int → Bool → Int → Option (Int × List ByteArray × Int × Int)
  | 0, _, _, _, _ => none
  | k + 1, x0, x7, x65, x406000 => if x65 = true then (some (0, ([] : List ByteArray), 6, 12)) else (ringworkref07_Load.l1 k x0 x7 0 x406000 ([] : List ByteArray))
def ringworkref07_Load.l1 : Nat → ByteArray → Int → Int → Int → List ByteArray → Option (Int × List ByteArray × Int × Int)
  | 0, _, _, _, _, _ => none
  | k + 1, x0, x7, x8, x406000, x406001 => if x8 < x7 then (if (wrap64 ((wrap64 ((wrap64 (8 + x7)) + (wrap64 (x8 * x406000)))) + x406000)) > (x0.size : Int) then (some (0, ([] : List ByteArray), (x0.size : Int), 12)) else (if 0 ≤ (wrap64 ((wrap64 (8 + x7)) + (wrap64 (x8 * x406000)))) then (if (wrap64 ((wrap64 (8 + x7)) + (wrap64 (x8 * x406000)))) ≤ (wrap64 ((wrap64 ((wrap64 (8 + x7)) + (wrap64 (x8 * x406000)))) + x406000)) then (if (wrap64 ((wrap64 ((wrap64 (8 + x7)) + (wrap64 (x8 * x406000)))) + x406000)) ≤ (x0.size : Int) then ((ringworkref06_Wrong.f k (x0.extract ((wrap64 ((wrap64 (8 + x7)) + (wrap64 (x8 * x406000)))) : Int).toNat ((wrap64 ((wrap64 ((wrap64 (8 + x7)) + (wrap64 (x8 * x406000)))) + x406000)) : Int).toNat)).bind fun bt408 => (if bt408.2 = 0 then (if x406001.length < 8796093022208 then (ringworkref07_Load.l1 k x0 x7 (wrap64 (x8 + 1)) x406000 (x406001 ++ [x0.extract ((wrap64 ((wrap64 (8 + x7)) + (wrap64 (x8 * x406000)))) : Int).toNat ((wrap64 ((wrap64 ((wrap64 (8 + x7)) + (wrap64 (x8 * x406000)))) + x406000)) : Int).toNat])) else (none)) else (some (0, ([] : List ByteArray), wrap64 ((wrap64 ((wrap64 (8 + x7)) + (wrap64 (x8 * x406000)))) + bt408.1), 12)))) else (none)) else (none)) else (none))) else (ringworkref07_Load.l2 k x0 x7 0 x406000 x406001)
def ringworkref07_Load.l2 : Nat → ByteArray → Int → Int → Int → List ByteArray → Option (Int × List ByteArray × Int × Int)
  | 0, _, _, _, _, _ => none
  | k + 1, x0, x7, x13, x406000, x406001 => if x13 < x7 then ((ringworkref07_Area_Level.f k x406000 x406001 x13).bind fun bt413 => (if 0 ≤ (wrap64 (8 + x13)) then (if (wrap64 (8 + x13)) < (x0.size : Int) then (if (wrap64 (bt x0 (wrap64 (8 + x13)))) = bt413.1 then (ringworkref07_Load.l2 k x0 x7 (wrap64 (x13 + 1)) x406000 x406001) else (some (0, ([] : List ByteArray), wrap64 (8 + x13), 12))) else (none)) else (none))) else (if (x0.size : Int) > (wrap64 ((wrap64 (8 + x7)) + (wrap64 (x7 * x406000)))) then (some (0, ([] : List ByteArray), wrap64 ((wrap64 (8 + x7)) + (wrap64 (x7 * x406000))), 12)) else (some (x406000, x406001, 0, 0)))
end
def ringworkref07_Load.f (k : Nat) (a0 : ByteArray) : Option (Int × List ByteArray × Int × Int) := if (a0.size : Int) > 900000 then (some (0, ([] : List ByteArray), 0, 3)) else (ringworkref07_Load.l0 k a0 0)
theorem ringworkref07_Load.mono_l : ∀ k, (∀ y0 y1, LeO (ringworkref07_Load.l0 k y0 y1) (ringworkref07_Load.l0 (k + 1) y0 y1)) ∧ (∀ y0 y1 y2 y3, LeO (ringworkref07_Load.j1 k y0 y1 y2 y3) (ringworkref07_Load.j1 (k + 1) y0 y1 y2 y3)) ∧ (∀ y0 y1 y2 y3 y4, LeO (ringworkref07_Load.l1 k y0 y1 y2 y3 y4) (ringworkref07_Load.l1 (k + 1) y0 y1 y2 y3 y4)) ∧ (∀ y0 y1 y2 y3 y4, LeO (ringworkref07_Load.l2 k y0 y1 y2 y3 y4) (ringworkref07_Load.l2 (k + 1) y0 y1 y2 y3 y4))
  | 0 => ⟨fun _ _ r h => by simp [ringworkref07_Load.l0] at h, fun _ _ _ _ r h => by simp [ringworkref07_Load.j1] at h, fun _ _ _ _ _ r h => by simp [ringworkref07_Load.l1] at h, fun _ _ _ _ _ r h => by simp [ringworkref07_Load.l2] at h⟩
  | k + 1 => by
    obtain ⟨ih0, ih1, ih2, ih3⟩ := ringworkref07_Load.mono_l k
    refine ⟨?_, ?_, ?_, ?_⟩
    · intro y0 y1
      unfold ringworkref07_Load.l0
      repeat' first
      | (with_reducible exact ih0 _ _)
      | (with_reducible exact ih1 _ _ _ _)
      | (with_reducible exact ih2 _ _ _ _ _)
      | (with_reducible exact ih3 _ _ _ _ _)
      | (with_reducible exact ringworkref06_Wrong.mono _ _)
      | (with_reducible exact ringworkref07_Area_Level.mono _ _ _ _)
      | (with_reducible exact LeO.refl _)
      | (with_reducible exact LeO.none _)
      | (with_reducible refine LeO.ite ?_ ?_)
      | (with_reducible refine LeO.bind ?_ (fun _ => ?_))
      | exact ih0 _ _
      | exact ih1 _ _ _ _
      | exact ih2 _ _ _ _ _
      | exact ih3 _ _ _ _ _
      | exact ringworkref06_Wrong.mono _ _
      | exact ringworkref07_Area_Level.mono _ _ _ _
      | exact LeO.none _
      | refine LeO.ite ?_ ?_
      | refine LeO.bind ?_ (fun _ => ?_)
    · intro y0 y1 y2 y3
      unfold ringworkref07_Load.j1
      repeat' first
      | (with_reducible exact ih0 _ _)
      | (with_reducible exact ih1 _ _ _ _)
      | (with_reducible exact ih2 _ _ _ _ _)
      | (with_reducible exact ih3 _ _ _ _ _)
      | (with_reducible exact ringworkref06_Wrong.mono _ _)
      | (with_reducible exact ringworkref07_Area_Level.mono _ _ _ _)
      | (with_reducible exact LeO.refl _)
      | (with_reducible exact LeO.none _)
      | (with_reducible refine LeO.ite ?_ ?_)
      | (with_reducible refine LeO.bind ?_ (fun _ => ?_))
      | exact ih0 _ _
      | exact ih1 _ _ _ _
      | exact ih2 _ _ _ _ _
      | exact ih3 _ _ _ _ _
      | exact ringworkref06_Wrong.mono _ _
      | exact ringworkref07_Area_Level.mono _ _ _ _
      | exact LeO.none _
      | refine LeO.ite ?_ ?_
      | refine LeO.bind ?_ (fun _ => ?_)
    · intro y0 y1 y2 y3 y4
      unfold ringworkref07_Load.l1
      repeat' first
      | (with_reducible exact ih0 _ _)
      | (with_reducible exact ih1 _ _ _ _)
      | (with_reducible exact ih2 _ _ _ _ _)
      | (with_reducible exact ih3 _ _ _ _ _)
      | (with_reducible exact ringworkref06_Wrong.mono _ _)
      | (with_reducible exact ringworkref07_Area_Level.mono _ _ _ _)
      | (with_reducible exact LeO.refl _)
      | (with_reducible exact LeO.none _)
      | (with_reducible refine LeO.ite ?_ ?_)
      | (with_reducible refine LeO.bind ?_ (fun _ => ?_))
      | exact ih0 _ _
      | exact ih1 _ _ _ _
      | exact ih2 _ _ _ _ _
      | exact ih3 _ _ _ _ _
      | exact ringworkref06_Wrong.mono _ _
      | exact ringworkref07_Area_Level.mono _ _ _ _
      | exact LeO.none _
      | refine LeO.ite ?_ ?_
      | refine LeO.bind ?_ (fun _ => ?_)
    · intro y0 y1 y2 y3 y4
      unfold ringworkref07_Load.l2
      repeat' first
      | (with_reducible exact ih0 _ _)
      | (with_reducible exact ih1 _ _ _ _)
      | (with_reducible exact ih2 _ _ _ _ _)
      | (with_reducible exact ih3 _ _ _ _ _)
      | (with_reducible exact ringworkref06_Wrong.mono _ _)
      | (with_reducible exact ringworkref07_Area_Level.mono _ _ _ _)
      | (with_reducible exact LeO.refl _)
      | (with_reducible exact LeO.none _)
      | (with_reducible refine LeO.ite ?_ ?_)
      | (with_reducible refine LeO.bind ?_ (fun _ => ?_))
      | exact ih0 _ _
      | exact ih1 _ _ _ _
      | exact ih2 _ _ _ _ _
      | exact ih3 _ _ _ _ _
      | exact ringworkref06_Wrong.mono _ _
      | exact ringworkref07_Area_Level.mono _ _ _ _
      | exact LeO.none _
      | refine LeO.ite ?_ ?_
      | refine LeO.bind ?_ (fun _ => ?_)
theorem ringworkref07_Load.mono : ∀ a0 k, LeO (ringworkref07_Load.f k a0) (ringworkref07_Load.f (k + 1) a0) := by
  intro a0 k
  obtain ⟨ih0, ih1, ih2, ih3⟩ := ringworkref07_Load.mono_l k
  unfold ringworkref07_Load.f
  repeat' first
      | (with_reducible exact ih0 _ _)
      | (with_reducible exact ih1 _ _ _ _)
      | (with_reducible exact ih2 _ _ _ _ _)
      | (with_reducible exact ih3 _ _ _ _ _)
      | (with_reducible exact ringworkref06_Wrong.mono _ _)
      | (with_reducible exact ringworkref07_Area_Level.mono _ _ _ _)
      | (with_reducible exact LeO.refl _)
      | (with_reducible exact LeO.none _)
      | (with_reducible refine LeO.ite ?_ ?_)
      | (with_reducible refine LeO.bind ?_ (fun _ => ?_))
      | exact ih0 _ _
      | exact ih1 _ _ _ _
      | exact ih2 _ _ _ _ _
      | exact ih3 _ _ _ _ _
      | exact ringworkref06_Wrong.mono _ _
      | exact ringworkref07_Area_Level.mono _ _ _ _
      | exact LeO.none _
      | refine LeO.ite ?_ ?_
      | refine LeO.bind ?_ (fun _ => ?_)
def ringworkref07_Load.T6 : Bool × List (List Nat × List Nat) := (true, [([], []), ([], []), ([1], [1]), ([0, 2], [0, 2]), ([3], [3]), ([4], [4]), ([4], [4]), ([5, 6, 4], [4, 5, 6]), ([4], [4]), ([8, 4], [4, 8]), ([7, 9, 4], [4, 7, 9]), ([4, 10], [4, 10])])
def ringworkref07_Load.B6 : List Nat := [0, 0, 2, 7, 15, 31, 31, 127, 31, 287, 1023, 2047]
theorem ringworkref07_Load.tab6 : rtab .any (opsOf Try.f44 6) = ringworkref07_Load.T6 := by kernel_rfl
theorem ringworkref07_Load.bits6 : waitsOk ringworkref07_Load.T6.2 ringworkref07_Load.B6 = true := by kernel_rfl
def ringworkref07_Load.T36 : Bool × List (List Nat × List Nat) := (true, [([], []), ([], []), ([1], [1]), ([], []), ([], []), ([4], [4]), ([3, 5], [3, 5]), ([2, 6], [2, 6]), ([0, 0], [0]), ([7, 8, 0, 1, 2, 3, 4, 5, 6, 7, 8], [7]), ([9, 0, 1, 2, 3, 4, 5, 6, 7, 8, 9], [])])
def ringworkref07_Load.B36 : List Nat := [0, 0, 2, 0, 0, 16, 56, 126, 1, 511, 1023]
theorem ringworkref07_Load.tab36 : rtab .any (opsOf Try.f44 36) = ringworkref07_Load.T36 := by kernel_rfl
theorem ringworkref07_Load.bits36 : waitsOk ringworkref07_Load.T36.2 ringworkref07_Load.B36 = true := by kernel_rfl
set_option maxHeartbeats 8000000 in
set_option maxRecDepth 100000 in
theorem ringworkref07_Load.calls (k : Nat) (a0 : ByteArray) (r1 : Int) (r2 : List ByteArray) (r3 : Int) (r4 : Int) (w : World) (h : ringworkref07_Load.f k a0 = some (r1, r2, r3, r4)) :
    Calls Try.prog 44 #[.string a0] w fun e w' => ∃ v1_ : Value, e = .returned (.tuple #[.agg #[.int .i64 r1, v1_], .int .i64 r3, .int .i64 r4]) ∧ Kd.R Kd.string 9 w' w.heap.size (fun _ => True) v1_ r2 ∧ Below w.heap.size w w' := by
  have hu58 := Try.underlying58
  have HB := Aside0.mk (Below.refl w.heap.size w)
  have H : (if (a0.size : Int) > 900000 then (some (0, ([] : List ByteArray), 0, 3)) else (ringworkref07_Load.l0 k a0 0)) = some (r1, r2, r3, r4) := h
  clear h
  by_cases c2 : (a0.size : Int) > 900000
  · rw [if_pos c2] at H
    have c2b0 : decide (900000 < (a0.size : Int)) = true := decide_eq_true c2
    have c2b1 : decide (900000 < a0.size) = true := decide_eq_true (by omega)
    clear c2
    simp only [Option.some.injEq, Prod.mk.injEq] at H
    obtain ⟨rfl, rfl, rfl, rfl⟩ := H
    go_enter Try.func44, Try.ntmps44
    go_wp2_with (first | ((with_reducible refine gate_dst (N := 2) rfl ?_); refine box_event ?hg (N := 2) ?hd (cs := #[.int .i64 0, .slice none 0 0]) (t := 58) ?hr ?_; (case hd => rfl); (case hg => rfl); (case hr => first | (go_simp; done) | (go_simp; rfl)); intro gb403 hg w3 hbox hb; have n0_ := Aside0.mk (below_step (by repeat (first | (with_reducible first | exact HB.out | apply below_alloc | apply pw_below_drewN | apply below_drew1) | exact HB.out)) hb); have n1_ := Aside0.mk (hbox); have n2_ := Aside0.mk ((by rw [hg]; exact (below_size (by repeat (first | (with_reducible first | exact HB.out | apply below_alloc | apply pw_below_drewN | apply below_drew1) | exact HB.out))) : w.heap.size ≤ gb403)); have n3_ := Aside0.mk ((by rw [hg]; exact (below_size (by repeat (first | (with_reducible first | exact HB.out | apply below_alloc | apply pw_below_drewN | apply below_drew1) | exact HB.out))) : w.heap.size ≤ gb403)); clear HB; have HB := n0_; have BK403 := n1_; have GW403 := n2_; have GE403 := n3_; clear n0_ n1_ n2_ n3_; clear hb hbox hg; have hcz4_0 : w3.cell? ⟨gb403, 0, none⟩ = some (.int .i64 0) := (blk_cell BK403.out 0).trans rfl; have hcz4_1 : w3.cell? ⟨gb403, 1, none⟩ = some (.slice none 0 0) := (blk_cell BK403.out 1).trans rfl; have hfz4_0 := blk_frozen BK403.out 0; have hfz4_1 := blk_frozen BK403.out 1))
    refine bodyPost_ret (results_ctt rfl _ _ gb403 58 #[.int .i64 0, .slice none 0 0] (0, 0) _ rfl (by (with_reducible repeat (first | refine blk_drewN ?_ _ | refine blk_drew ?_ | refine blk_alloc ?_ _)); refine blk_put (cs := #[.int .i64 0, .slice none 0 0]) ?_ 1 _ rfl; (with_reducible repeat (first | refine blk_drewN ?_ _ | refine blk_drew ?_ | refine blk_alloc ?_ _)); refine blk_put (cs := #[.int .i64 0, .slice none 0 0]) ?_ 0 _ rfl; (with_reducible repeat (first | refine blk_drewN ?_ _ | refine blk_drew ?_ | refine blk_alloc ?_ _)); exact BK403.out) Try.underlying58 rfl (by kernel_rfl)) rfl ?_
    exact ⟨_, by first | rfl | (simp [errW_none, errW_some] <;> rfl) | (simp [*, errW_none, errW_some] <;> rfl), by first | exact Kd.R_nil _ _ _ _ _ | exact Kd.N_nil _ _ _ _ _ | exact Kd.V_nil _ _ _ _ _ | exact Kd.Q_nil _ _ _ _ _ | exact Kd.S_nil _ _ _ _ _, by repeat (first | (with_reducible first | exact HB.out | apply below_alloc | apply pw_below_drewN | apply below_drew1 | refine below_set ?_ GE403.out) | exact HB.out)⟩
  · rw [if_neg c2] at H
    have c2b0 : decide (900000 < (a0.size : Int)) = false := decide_eq_false c2
    have c2b1 : decide (900000 < a0.size) = false := decide_eq_false (by omega)
    clear c2
    have H' := Aside0.mk H
    clear H
    go_enter Try.func44, Try.ntmps44
    go_wp2_with (first | ((with_reducible refine gate_dst (N := 2) rfl ?_); refine box_event ?hg (N := 2) ?hd (cs := #[.int .i64 0, .slice none 0 0]) (t := 58) ?hr ?_; (case hd => rfl); (case hg => rfl); (case hr => first | (go_simp; done) | (go_simp; rfl)); intro gb403 hg w5 hbox hb; have n0_ := Aside0.mk (below_step (by repeat (first | (with_reducible first | exact HB.out | apply below_alloc | apply pw_below_drewN | apply below_drew1) | exact HB.out)) hb); have n1_ := Aside0.mk (hbox); have n2_ := Aside0.mk ((by rw [hg]; exact (below_size (by repeat (first | (with_reducible first | exact HB.out | apply below_alloc | apply pw_below_drewN | apply below_drew1) | exact HB.out))) : w.heap.size ≤ gb403)); have n3_ := Aside0.mk ((by rw [hg]; exact (below_size (by repeat (first | (with_reducible first | exact HB.out | apply below_alloc | apply pw_below_drewN | apply below_drew1) | exact HB.out))) : w.heap.size ≤ gb403)); clear HB; have HB := n0_; have BK403 := n1_; have GW403 := n2_; have GE403 := n3_; clear n0_ n1_ n2_ n3_; clear hb hbox hg))
    go_loopg [5] k (fun kq v5 w' => ∃ (x5_1 : Int) (x404000_1 : Int), v5 = .int .i64 x5_1 ∧ Aside0 (ringworkref07_Load.l0 kq a0 x5_1 = some (r1, r2, r3, r4)) ∧ Aside0 (kq ≤ k) ∧ Aside0 (w'.heap[gb403]? = some (.cells #[.int .i64 x404000_1, (.slice none 0 0)] 58 (0, 0))) ∧ Aside0 (Below w.heap.size w w'))
    case atStart => exact ⟨(0), (0), (by first | rfl | (simp; done) | (simp [*]; done)), H', ⟨Nat.le_refl _⟩, ⟨by (with_reducible repeat (first | refine blk_drewN ?_ _ | refine blk_drew ?_ | refine blk_alloc ?_ _)); exact BK403.out⟩, ⟨by repeat (first | (with_reducible first | exact HB.out | apply below_alloc | apply pw_below_drewN | apply below_drew1 | refine below_set ?_ GE403.out) | exact HB.out)⟩⟩
    case round =>
      clear H'
      try clear c2
      try clear c2b0
      try clear c2b1
      try clear p2
      try clear c4
      try clear hcz4_0
      try clear hcz4_1
      try clear hfz4_0
      try clear hfz4_1
      obtain ⟨x5_1, x404000_1, rfl, HA, HK1, BK403, HB⟩ := hrel
      cases gk with
      | zero => exact absurd HA.out (by simp [ringworkref07_Load.l0])
      | succ k1 =>
        have H := HA.out
        clear HA
        simp only [ringworkref07_Load.l0] at H
        by_cases c6 : x5_1 < 4
        · rw [if_pos c6] at H
          have c6b0 : decide (x5_1 < 4) = true := decide_eq_true c6
          clear c6
          by_cases c7 : x5_1 = (a0.size : Int)
          · rw [if_pos c7] at H
            have c7b0 : (x5_1 == (a0.size : Int)) = true := beq_iff_eq.mpr c7
            have c7b1 : (x5_1 != (a0.size : Int)) = false := bne_eq_false_iff_eq.mpr c7
            clear c7
            simp only [Option.some.injEq, Prod.mk.injEq] at H
            obtain ⟨rfl, rfl, rfl, rfl⟩ := H
            try go_wp2
            have n0_ := Aside0.mk (blk_drew BK403.out)
            have n1_ := Aside0.mk (below_drew1 HB.out)
            clear BK403
            clear HB
            have BK403 := n0_
            have HB := n1_
            clear n0_ n1_
            refine start_ (n := 12) (S := fun w' => True) (ds := []) #[false, false, false, false, false, false, false, false, false, false, false, false] (by kernel_rfl) rfl rfl trivial (fun hHeld => ?_); refine with_tabW ringworkref07_Load.tab6 ringworkref07_Load.bits6 (fun HT_ HW_ => ?_)
            generalize wr.drew = w8 at BK403 HB hHeld ⊢
            refine pure_ (i := 0) (N := some 24) (v := ?_) (a' := ?_) #[true, false, false, false, false, false, false, false, false, false, false, false] rfl rfl (any_of HT_.out (by kernel_rfl)) (fun _ _ _ h => h) (Or.inl ⟨by rfl, ?_⟩) ?_ ?_
            rotate_left
            · intro w'
              go_simp
              with_reducible rfl
            rotate_left
            · simp only [Act.put, List.setIfInBounds_toArray, List.set_cons_zero, List.set_cons_succ, i64_w, i32_w]
              rfl
            refine pure_ (i := 1) (N := some 25) (v := ?_) (a' := ?_) #[true, true, false, false, false, false, false, false, false, false, false, false] rfl rfl (any_of HT_.out (by kernel_rfl)) (fun _ _ _ h => h) (Or.inl ⟨by rfl, ?_⟩) ?_ ?_
            rotate_left
            · intro w'
              go_simp
              with_reducible rfl
            rotate_left
            · simp only [Act.put, List.setIfInBounds_toArray, List.set_cons_zero, List.set_cons_succ, i64_w, i32_w]
              rfl
            refine pure_ (i := 2) (N := some 26) (v := ?_) (a' := ?_) #[true, true, true, false, false, false, false, false, false, false, false, false] rfl rfl (any_of HT_.out (by kernel_rfl)) (fun _ _ _ h => h) (Or.inl ⟨by rfl, ?_⟩) ?_ ?_
            rotate_left
            · intro w'
              go_simp
              with_reducible rfl
            rotate_left
            · simp only [Act.put, List.setIfInBounds_toArray, List.set_cons_zero, List.set_cons_succ, i64_w, i32_w]
              rfl
            refine pure_ (i := 3) (N := some 27) (v := ?_) (a' := ?_) #[true, true, true, true, false, false, false, false, false, false, false, false] rfl rfl (any_of HT_.out (by kernel_rfl)) (fun _ _ _ h => h) (Or.inl ⟨by rfl, ?_⟩) ?_ ?_
            rotate_left
            · intro w'
              go_simp
              with_reducible rfl
            rotate_left
            · simp only [Act.put, List.setIfInBounds_toArray, List.set_cons_zero, List.set_cons_succ, i64_w, i32_w]
              rfl
            refine pure_ (i := 4) (N := some 28) (v := ?_) (a' := ?_) #[true, true, true, true, true, false, false, false, false, false, false, false] rfl rfl (any_of HT_.out (by kernel_rfl)) (fun _ _ _ h => h) (Or.inl ⟨by rfl, ?_⟩) ?_ ?_
            rotate_left
            · intro w'
              go_simp
              with_reducible rfl
            rotate_left
            · simp only [Act.put, List.setIfInBounds_toArray, List.set_cons_zero, List.set_cons_succ, i64_w, i32_w]
              rfl
            refine pure_ (i := 5) (N := some 29) (v := undef) (a' := ?_) #[true, true, true, true, true, true, false, false, false, false, false, false] rfl rfl (any_of HT_.out (by kernel_rfl)) (fun _ _ _ h => h) (Or.inr ⟨by rfl, rfl⟩) ?_ ?_
            rotate_left
            · simp only [Act.put, List.setIfInBounds_toArray, List.set_cons_zero, List.set_cons_succ, i64_w, i32_w]
              rfl
            refine pure_ (i := 6) (N := some 30) (v := undef) (a' := ?_) #[true, true, true, true, true, true, true, false, false, false, false, false] rfl rfl (any_of HT_.out (by kernel_rfl)) (fun _ _ _ h => h) (Or.inr ⟨by rfl, rfl⟩) ?_ ?_
            rotate_left
            · simp only [Act.put, List.setIfInBounds_toArray, List.set_cons_zero, List.set_cons_succ, i64_w, i32_w]
              rfl
            refine pure_ (i := 7) (N := some 31) (v := undef) (a' := ?_) #[true, true, true, true, true, true, true, true, false, false, false, false] rfl rfl (any_of HT_.out (by kernel_rfl)) (fun _ _ _ h => h) (Or.inr ⟨by rfl, rfl⟩) ?_ ?_
            rotate_left
            · simp only [Act.put, List.setIfInBounds_toArray, List.set_cons_zero, List.set_cons_succ, i64_w, i32_w]
              rfl
            refine pure_ (i := 8) (N := some 32) (v := undef) (a' := ?_) #[true, true, true, true, true, true, true, true, true, false, false, false] rfl rfl (any_of HT_.out (by kernel_rfl)) (fun _ _ _ h => h) (Or.inr ⟨by rfl, rfl⟩) ?_ ?_
            rotate_left
            · simp only [Act.put, List.setIfInBounds_toArray, List.set_cons_zero, List.set_cons_succ, i64_w, i32_w]
              rfl
            refine pure_ (i := 9) (N := some 33) (v := undef) (a' := ?_) #[true, true, true, true, true, true, true, true, true, true, false, false] rfl rfl (any_of HT_.out (by kernel_rfl)) (fun _ _ _ h => h) (Or.inr ⟨by rfl, rfl⟩) ?_ ?_
            rotate_left
            · simp only [Act.put, List.setIfInBounds_toArray, List.set_cons_zero, List.set_cons_succ, i64_w, i32_w]
              rfl
            refine pure_ (i := 10) (N := some 34) (v := undef) (a' := ?_) #[true, true, true, true, true, true, true, true, true, true, true, false] rfl rfl (any_of HT_.out (by kernel_rfl)) (fun _ _ _ h => h) (Or.inr ⟨by rfl, rfl⟩) ?_ ?_
            rotate_left
            · simp only [Act.put, List.setIfInBounds_toArray, List.set_cons_zero, List.set_cons_succ, i64_w, i32_w]
              rfl
            refine pure_ (i := 11) (N := some 35) (v := ?_) (a' := ?_) #[true, true, true, true, true, true, true, true, true, true, true, true] rfl rfl (any_of HT_.out (by kernel_rfl)) (fun _ _ _ h => h) (Or.inl ⟨by rfl, ?_⟩) ?_ ?_
            rotate_left
            · intro w'
              go_simp
              with_reducible rfl
            rotate_left
            · simp only [Act.put, List.setIfInBounds_toArray, List.set_cons_zero, List.set_cons_succ, i64_w, i32_w]
              rfl
            refine done_ (done_of HT_.out (by kernel_rfl)) ?_
            have hcz9_0 : w8.cell? ⟨gb403, 0, none⟩ = some (.int .i64 x404000_1) := (blk_cell BK403.out 0).trans rfl
            have hcz9_1 : w8.cell? ⟨gb403, 1, none⟩ = some (.slice none 0 0) := (blk_cell BK403.out 1).trans rfl
            have hfz9_0 := blk_frozen BK403.out 0
            have hfz9_1 := blk_frozen BK403.out 1
            try go_wp2
            refine bodyPost_ret (results_ctt rfl _ _ gb403 58 #[.int .i64 0, .slice none 0 0] (0, 0) _ rfl (by (with_reducible repeat (first | refine blk_drewN ?_ _ | refine blk_drew ?_ | refine blk_alloc ?_ _)); refine blk_put (cs := #[.int .i64 0, .slice none 0 0]) ?_ 1 _ rfl; (with_reducible repeat (first | refine blk_drewN ?_ _ | refine blk_drew ?_ | refine blk_alloc ?_ _)); refine blk_put (cs := #[.int .i64 x404000_1, .slice none 0 0]) ?_ 0 _ rfl; (with_reducible repeat (first | refine blk_drewN ?_ _ | refine blk_drew ?_ | refine blk_alloc ?_ _)); exact BK403.out) Try.underlying58 rfl (by kernel_rfl)) rfl ?_
            exact ⟨_, by first | rfl | (simp [errW_none, errW_some] <;> rfl) | (simp [*, errW_none, errW_some] <;> rfl), by first | exact Kd.R_nil _ _ _ _ _ | exact Kd.N_nil _ _ _ _ _ | exact Kd.V_nil _ _ _ _ _ | exact Kd.Q_nil _ _ _ _ _ | exact Kd.S_nil _ _ _ _ _, by repeat (first | (with_reducible first | exact HB.out | apply below_alloc | apply pw_below_drewN | apply below_drew1 | refine below_set ?_ GE403.out) | exact HB.out)⟩
          · rw [if_neg c7] at H
            have c7b0 : (x5_1 == (a0.size : Int)) = false := beq_eq_false_iff_ne.mpr c7
            have c7b1 : (x5_1 != (a0.size : Int)) = true := bne_iff_ne.mpr c7
            by_cases c10 : 0 ≤ x5_1
            · rw [if_pos c10] at H
              have c10b0 : decide (0 ≤ x5_1) = true := decide_eq_true c10
              clear c10
              by_cases c11 : x5_1 < (a0.size : Int)
              · rw [if_pos c11] at H
                have c11b0 : decide (x5_1 < (a0.size : Int)) = true := decide_eq_true c11
                clear c11
                by_cases c14 : (bt a0 x5_1) = (bt (⟨#[65, 82, 69, 65]⟩ : ByteArray) x5_1)
                · rw [if_pos c14] at H
                  have c14b0 : ((bt a0 x5_1) == (bt (⟨#[65, 82, 69, 65]⟩ : ByteArray) x5_1)) = true := beq_iff_eq.mpr c14
                  have c14b1 : ((bt a0 x5_1) != (bt (⟨#[65, 82, 69, 65]⟩ : ByteArray) x5_1)) = false := bne_eq_false_iff_eq.mpr c14
                  clear c14
                  have H' := Aside0.mk H
                  clear H
                  try go_wp2
                  have n0_ := Aside0.mk (blk_drew BK403.out)
                  have n1_ := Aside0.mk (below_drew1 HB.out)
                  clear BK403
                  clear HB
                  have BK403 := n0_
                  have HB := n1_
                  clear n0_ n1_
                  have p12 : 0 ≤ (x5_1 : Int) := of_decide_eq_true (by first | (with_reducible assumption) | assumption)
                  have q12 : x5_1 < (a0.size : Int) := of_decide_eq_true (by first | (with_reducible assumption) | assumption)
                  have hx12 := bt_at a0 x5_1
                  replace p12 := eq_true p12
                  replace q12 := eq_true q12
                  have p13 : 0 ≤ (x5_1 : Int) := of_decide_eq_true (by first | (with_reducible assumption) | assumption)
                  have q13 : x5_1 < (4 : Int) := of_decide_eq_true (by first | (with_reducible assumption) | assumption)
                  have hx13 := bt_at (⟨#[65, 82, 69, 65]⟩ : ByteArray) x5_1
                  replace p13 := eq_true p13
                  replace q13 := eq_true q13
                  refine start_ (n := 12) (S := fun w' => True) (ds := []) #[false, false, false, false, false, false, false, false, false, false, false, false] (by kernel_rfl) rfl rfl trivial (fun hHeld => ?_); refine with_tabW ringworkref07_Load.tab6 ringworkref07_Load.bits6 (fun HT_ HW_ => ?_)
                  generalize wr.drew = w15 at BK403 HB hHeld ⊢
                  refine pure_ (i := 0) (N := some 24) (v := ?_) (a' := ?_) #[true, false, false, false, false, false, false, false, false, false, false, false] rfl rfl (any_of HT_.out (by kernel_rfl)) (fun _ _ _ h => h) (Or.inl ⟨by rfl, ?_⟩) ?_ ?_
                  rotate_left
                  · intro w'
                    go_simp
                    with_reducible rfl
                  rotate_left
                  · simp only [Act.put, List.setIfInBounds_toArray, List.set_cons_zero, List.set_cons_succ, i64_w, i32_w]
                    rfl
                  refine pure_ (i := 1) (N := some 25) (v := ?_) (a' := ?_) #[true, true, false, false, false, false, false, false, false, false, false, false] rfl rfl (any_of HT_.out (by kernel_rfl)) (fun _ _ _ h => h) (Or.inl ⟨by rfl, ?_⟩) ?_ ?_
                  rotate_left
                  · intro w'
                    go_simp
                    with_reducible rfl
                  rotate_left
                  · simp only [Act.put, List.setIfInBounds_toArray, List.set_cons_zero, List.set_cons_succ, i64_w, i32_w]
                    rfl
                  refine pure_ (i := 2) (N := some 26) (v := ?_) (a' := ?_) #[true, true, true, false, false, false, false, false, false, false, false, false] rfl rfl (any_of HT_.out (by kernel_rfl)) (fun _ _ _ h => h) (Or.inl ⟨by rfl, ?_⟩) ?_ ?_
                  rotate_left
                  · intro w'
                    go_simp
                    with_reducible rfl
                  rotate_left
                  · simp only [Act.put, List.setIfInBounds_toArray, List.set_cons_zero, List.set_cons_succ, i64_w, i32_w]
                    rfl
                  refine pure_ (i := 3) (N := some 27) (v := ?_) (a' := ?_) #[true, true, true, true, false, false, false, false, false, false, false, false] rfl rfl (any_of HT_.out (by kernel_rfl)) (fun _ _ _ h => h) (Or.inl ⟨by rfl, ?_⟩) ?_ ?_
                  rotate_left
                  · intro w'
                    go_simp
                    with_reducible rfl
                  rotate_left
                  · simp only [Act.put, List.setIfInBounds_toArray, List.set_cons_zero, List.set_cons_succ, i64_w, i32_w]
                    rfl
                  refine pure_ (i := 4) (N := some 28) (v := ?_) (a' := ?_) #[true, true, true, true, true, false, false, false, false, false, false, false] rfl rfl (any_of HT_.out (by kernel_rfl)) (fun _ _ _ h => h) (Or.inl ⟨by rfl, ?_⟩) ?_ ?_
                  rotate_left
                  · intro w'
                    go_simp
                    with_reducible rfl
                  rotate_left
                  · simp only [Act.put, List.setIfInBounds_toArray, List.set_cons_zero, List.set_cons_succ, i64_w, i32_w]
                    rfl
                  refine pure_ (i := 5) (N := some 29) (v := ?_) (a' := ?_) #[true, true, true, true, true, true, false, false, false, false, false, false] rfl rfl (any_of HT_.out (by kernel_rfl)) (fun _ _ _ h => h) (Or.inl ⟨by rfl, ?_⟩) ?_ ?_
                  rotate_left
                  · intro w'
                    go_simp
                    with_reducible rfl
                  rotate_left
                  · simp only [Act.put, List.setIfInBounds_toArray, List.set_cons_zero, List.set_cons_succ, i64_w, i32_w]
                    rfl
                  refine pure_ (i := 6) (N := some 30) (v := ?_) (a' := ?_) #[true, true, true, true, true, true, true, false, false, false, false, false] rfl rfl (any_of HT_.out (by kernel_rfl)) (fun _ _ _ h => h) (Or.inl ⟨by rfl, ?_⟩) ?_ ?_
                  rotate_left
                  · intro w'
                    go_simp
                    with_reducible rfl
                  rotate_left
                  · simp only [Act.put, List.setIfInBounds_toArray, List.set_cons_zero, List.set_cons_succ, i64_w, i32_w]
                    rfl
                  refine pure_ (i := 8) (N := some 32) (v := ?_) (a' := ?_) #[true, true, true, true, true, true, true, false, true, false, false, false] rfl rfl (any_of HT_.out (by kernel_rfl)) (fun _ _ _ h => h) (Or.inl ⟨by rfl, ?_⟩) ?_ ?_
                  rotate_left
                  · intro w'
                    go_simp
                    with_reducible rfl
                  rotate_left
                  · simp only [Act.put, List.setIfInBounds_toArray, List.set_cons_zero, List.set_cons_succ, i64_w, i32_w]
                    rfl
                  refine take_ (i := 7) (N := some 31) (v := ?_) (a' := ?_) #[true, true, true, true, true, true, true, true, true, false, false, false] rfl rfl (take_ofW HT_.out HW_.out (by kernel_rfl)) (fun _ _ _ h => h) (Or.inl ⟨by rfl, ?_⟩) hHeld ?_ ?_
                  rotate_left
                  · intro w' _
                    go_simp
                    with_reducible rfl
                  rotate_left
                  · simp only [Act.put, List.setIfInBounds_toArray, List.set_cons_zero, List.set_cons_succ, i64_w, i32_w]
                    rfl
                  refine take_ (i := 9) (N := some 33) (v := ?_) (a' := ?_) #[true, true, true, true, true, true, true, true, true, true, false, false] rfl rfl (take_ofW HT_.out HW_.out (by kernel_rfl)) (fun _ _ _ h => h) (Or.inl ⟨by rfl, ?_⟩) hHeld ?_ ?_
                  rotate_left
                  · intro w' _
                    go_simp
                    with_reducible rfl
                  rotate_left
                  · simp only [Act.put, List.setIfInBounds_toArray, List.set_cons_zero, List.set_cons_succ, i64_w, i32_w]
                    rfl
                  refine pure_ (i := 10) (N := some 34) (v := ?_) (a' := ?_) #[true, true, true, true, true, true, true, true, true, true, true, false] rfl rfl (any_of HT_.out (by kernel_rfl)) (fun _ _ _ h => h) (Or.inl ⟨by rfl, ?_⟩) ?_ ?_
                  rotate_left
                  · intro w'
                    go_simp
                    with_reducible rfl
                  rotate_left
                  · simp only [Act.put, List.setIfInBounds_toArray, List.set_cons_zero, List.set_cons_succ, i64_w, i32_w]
                    rfl
                  refine pure_ (i := 11) (N := some 35) (v := ?_) (a' := ?_) #[true, true, true, true, true, true, true, true, true, true, true, true] rfl rfl (any_of HT_.out (by kernel_rfl)) (fun _ _ _ h => h) (Or.inl ⟨by rfl, ?_⟩) ?_ ?_
                  rotate_left
                  · intro w'
                    go_simp
                    with_reducible rfl
                  rotate_left
                  · simp only [Act.put, List.setIfInBounds_toArray, List.set_cons_zero, List.set_cons_succ, i64_w, i32_w]
                    rfl
                  refine done_ (done_of HT_.out (by kernel_rfl)) ?_
                  try go_wp2
                  go_roundg k1
                  case measure => have := HK1.out; omega
                  case rel => exact ⟨(wrap64 (x5_1 + 1)), (x404000_1), (by first | rfl | (simp; done) | (simp [*]; done)), H', ⟨by have := HK1.out; omega⟩, ⟨by (with_reducible repeat (first | refine blk_drewN ?_ _ | refine blk_drew ?_ | refine blk_alloc ?_ _)); exact BK403.out⟩, ⟨by repeat (first | (with_reducible first | exact HB.out | apply below_alloc | apply pw_below_drewN | apply below_drew1 | refine below_set ?_ GE403.out) | exact HB.out)⟩⟩
                · rw [if_neg c14] at H
                  have c14b0 : ((bt a0 x5_1) == (bt (⟨#[65, 82, 69, 65]⟩ : ByteArray) x5_1)) = false := beq_eq_false_iff_ne.mpr c14
                  have c14b1 : ((bt a0 x5_1) != (bt (⟨#[65, 82, 69, 65]⟩ : ByteArray) x5_1)) = true := bne_iff_ne.mpr c14
                  simp only [Option.some.injEq, Prod.mk.injEq] at H
                  obtain ⟨rfl, rfl, rfl, rfl⟩ := H
                  try go_wp2
                  have n0_ := Aside0.mk (blk_drew BK403.out)
                  have n1_ := Aside0.mk (below_drew1 HB.out)
                  clear BK403
                  clear HB
                  have BK403 := n0_
                  have HB := n1_
                  clear n0_ n1_
                  have p12 : 0 ≤ (x5_1 : Int) := of_decide_eq_true (by first | (with_reducible assumption) | assumption)
                  have q12 : x5_1 < (a0.size : Int) := of_decide_eq_true (by first | (with_reducible assumption) | assumption)
                  have hx12 := bt_at a0 x5_1
                  replace p12 := eq_true p12
                  replace q12 := eq_true q12
                  have p13 : 0 ≤ (x5_1 : Int) := of_decide_eq_true (by first | (with_reducible assumption) | assumption)
                  have q13 : x5_1 < (4 : Int) := of_decide_eq_true (by first | (with_reducible assumption) | assumption)
                  have hx13 := bt_at (⟨#[65, 82, 69, 65]⟩ : ByteArray) x5_1
                  replace p13 := eq_true p13
                  replace q13 := eq_true q13
                  refine start_ (n := 12) (S := fun w' => True) (ds := []) #[false, false, false, false, false, false, false, false, false, false, false, false] (by kernel_rfl) rfl rfl trivial (fun hHeld => ?_); refine with_tabW ringworkref07_Load.tab6 ringworkref07_Load.bits6 (fun HT_ HW_ => ?_)
                  generalize wr.drew = w16 at BK403 HB hHeld ⊢
                  refine pure_ (i := 0) (N := some 24) (v := ?_) (a' := ?_) #[true, false, false, false, false, false, false, false, false, false, false, false] rfl rfl (any_of HT_.out (by kernel_rfl)) (fun _ _ _ h => h) (Or.inl ⟨by rfl, ?_⟩) ?_ ?_
                  rotate_left
                  · intro w'
                    go_simp
                    with_reducible rfl
                  rotate_left
                  · simp only [Act.put, List.setIfInBounds_toArray, List.set_cons_zero, List.set_cons_succ, i64_w, i32_w]
                    rfl
                  refine pure_ (i := 1) (N := some 25) (v := ?_) (a' := ?_) #[true, true, false, false, false, false, false, false, false, false, false, false] rfl rfl (any_of HT_.out (by kernel_rfl)) (fun _ _ _ h => h) (Or.inl ⟨by rfl, ?_⟩) ?_ ?_
                  rotate_left
                  · intro w'
                    go_simp
                    with_reducible rfl
                  rotate_left
                  · simp only [Act.put, List.setIfInBounds_toArray, List.set_cons_zero, List.set_cons_succ, i64_w, i32_w]
                    rfl
                  refine pure_ (i := 2) (N := some 26) (v := ?_) (a' := ?_) #[true, true, true, false, false, false, false, false, false, false, false, false] rfl rfl (any_of HT_.out (by kernel_rfl)) (fun _ _ _ h => h) (Or.inl ⟨by rfl, ?_⟩) ?_ ?_
                  rotate_left
                  · intro w'
                    go_simp
                    with_reducible rfl
                  rotate_left
                  · simp only [Act.put, List.setIfInBounds_toArray, List.set_cons_zero, List.set_cons_succ, i64_w, i32_w]
                    rfl
                  refine pure_ (i := 3) (N := some 27) (v := ?_) (a' := ?_) #[true, true, true, true, false, false, false, false, false, false, false, false] rfl rfl (any_of HT_.out (by kernel_rfl)) (fun _ _ _ h => h) (Or.inl ⟨by rfl, ?_⟩) ?_ ?_
                  rotate_left
                  · intro w'
                    go_simp
                    with_reducible rfl
                  rotate_left
                  · simp only [Act.put, List.setIfInBounds_toArray, List.set_cons_zero, List.set_cons_succ, i64_w, i32_w]
                    rfl
                  refine pure_ (i := 4) (N := some 28) (v := ?_) (a' := ?_) #[true, true, true, true, true, false, false, false, false, false, false, false] rfl rfl (any_of HT_.out (by kernel_rfl)) (fun _ _ _ h => h) (Or.inl ⟨by rfl, ?_⟩) ?_ ?_
                  rotate_left
                  · intro w'
                    go_simp
                    with_reducible rfl
                  rotate_left
                  · simp only [Act.put, List.setIfInBounds_toArray, List.set_cons_zero, List.set_cons_succ, i64_w, i32_w]
                    rfl
                  refine pure_ (i := 5) (N := some 29) (v := ?_) (a' := ?_) #[true, true, true, true, true, true, false, false, false, false, false, false] rfl rfl (any_of HT_.out (by kernel_rfl)) (fun _ _ _ h => h) (Or.inl ⟨by rfl, ?_⟩) ?_ ?_
                  rotate_left
                  · intro w'
                    go_simp
                    with_reducible rfl
                  rotate_left
                  · simp only [Act.put, List.setIfInBounds_toArray, List.set_cons_zero, List.set_cons_succ, i64_w, i32_w]
                    rfl
                  refine pure_ (i := 6) (N := some 30) (v := ?_) (a' := ?_) #[true, true, true, true, true, true, true, false, false, false, false, false] rfl rfl (any_of HT_.out (by kernel_rfl)) (fun _ _ _ h => h) (Or.inl ⟨by rfl, ?_⟩) ?_ ?_
                  rotate_left
                  · intro w'
                    go_simp
                    with_reducible rfl
                  rotate_left
                  · simp only [Act.put, List.setIfInBounds_toArray, List.set_cons_zero, List.set_cons_succ, i64_w, i32_w]
                    rfl
                  refine pure_ (i := 8) (N := some 32) (v := ?_) (a' := ?_) #[true, true, true, true, true, true, true, false, true, false, false, false] rfl rfl (any_of HT_.out (by kernel_rfl)) (fun _ _ _ h => h) (Or.inl ⟨by rfl, ?_⟩) ?_ ?_
                  rotate_left
                  · intro w'
                    go_simp
                    with_reducible rfl
                  rotate_left
                  · simp only [Act.put, List.setIfInBounds_toArray, List.set_cons_zero, List.set_cons_succ, i64_w, i32_w]
                    rfl
                  refine take_ (i := 7) (N := some 31) (v := ?_) (a' := ?_) #[true, true, true, true, true, true, true, true, true, false, false, false] rfl rfl (take_ofW HT_.out HW_.out (by kernel_rfl)) (fun _ _ _ h => h) (Or.inl ⟨by rfl, ?_⟩) hHeld ?_ ?_
                  rotate_left
                  · intro w' _
                    go_simp
                    with_reducible rfl
                  rotate_left
                  · simp only [Act.put, List.setIfInBounds_toArray, List.set_cons_zero, List.set_cons_succ, i64_w, i32_w]
                    rfl
                  refine take_ (i := 9) (N := some 33) (v := ?_) (a' := ?_) #[true, true, true, true, true, true, true, true, true, true, false, false] rfl rfl (take_ofW HT_.out HW_.out (by kernel_rfl)) (fun _ _ _ h => h) (Or.inl ⟨by rfl, ?_⟩) hHeld ?_ ?_
                  rotate_left
                  · intro w' _
                    go_simp
                    with_reducible rfl
                  rotate_left
                  · simp only [Act.put, List.setIfInBounds_toArray, List.set_cons_zero, List.set_cons_succ, i64_w, i32_w]
                    rfl
                  refine pure_ (i := 10) (N := some 34) (v := ?_) (a' := ?_) #[true, true, true, true, true, true, true, true, true, true, true, false] rfl rfl (any_of HT_.out (by kernel_rfl)) (fun _ _ _ h => h) (Or.inl ⟨by rfl, ?_⟩) ?_ ?_
                  rotate_left
                  · intro w'
                    go_simp
                    with_reducible rfl
                  rotate_left
                  · simp only [Act.put, List.setIfInBounds_toArray, List.set_cons_zero, List.set_cons_succ, i64_w, i32_w]
                    rfl
                  refine pure_ (i := 11) (N := some 35) (v := ?_) (a' := ?_) #[true, true, true, true, true, true, true, true, true, true, true, true] rfl rfl (any_of HT_.out (by kernel_rfl)) (fun _ _ _ h => h) (Or.inl ⟨by rfl, ?_⟩) ?_ ?_
                  rotate_left
                  · intro w'
                    go_simp
                    with_reducible rfl
                  rotate_left
                  · simp only [Act.put, List.setIfInBounds_toArray, List.set_cons_zero, List.set_cons_succ, i64_w, i32_w]
                    rfl
                  refine done_ (done_of HT_.out (by kernel_rfl)) ?_
                  have hcz17_0 : w16.cell? ⟨gb403, 0, none⟩ = some (.int .i64 x404000_1) := (blk_cell BK403.out 0).trans rfl
                  have hcz17_1 : w16.cell? ⟨gb403, 1, none⟩ = some (.slice none 0 0) := (blk_cell BK403.out 1).trans rfl
                  have hfz17_0 := blk_frozen BK403.out 0
                  have hfz17_1 := blk_frozen BK403.out 1
                  try go_wp2
                  refine bodyPost_ret (results_ctt rfl _ _ gb403 58 #[.int .i64 0, .slice none 0 0] (0, 0) _ rfl (by (with_reducible repeat (first | refine blk_drewN ?_ _ | refine blk_drew ?_ | refine blk_alloc ?_ _)); refine blk_put (cs := #[.int .i64 0, .slice none 0 0]) ?_ 1 _ rfl; (with_reducible repeat (first | refine blk_drewN ?_ _ | refine blk_drew ?_ | refine blk_alloc ?_ _)); refine blk_put (cs := #[.int .i64 x404000_1, .slice none 0 0]) ?_ 0 _ rfl; (with_reducible repeat (first | refine blk_drewN ?_ _ | refine blk_drew ?_ | refine blk_alloc ?_ _)); exact BK403.out) Try.underlying58 rfl (by kernel_rfl)) rfl ?_
                  exact ⟨_, by first | rfl | (simp [errW_none, errW_some] <;> rfl) | (simp [*, errW_none, errW_some] <;> rfl), by first | exact Kd.R_nil _ _ _ _ _ | exact Kd.N_nil _ _ _ _ _ | exact Kd.V_nil _ _ _ _ _ | exact Kd.Q_nil _ _ _ _ _ | exact Kd.S_nil _ _ _ _ _, by repeat (first | (with_reducible first | exact HB.out | apply below_alloc | apply pw_below_drewN | apply below_drew1 | refine below_set ?_ GE403.out) | exact HB.out)⟩
              · rw [if_neg c11] at H
                exact absurd H (by simp)
            · rw [if_neg c10] at H
              exact absurd H (by simp)
        · rw [if_neg c6] at H
          have c6b0 : decide (x5_1 < 4) = false := decide_eq_false c6
          clear c6
          by_cases c18 : (a0.size : Int) < 6
          · rw [if_pos c18] at H
            have c18b0 : decide ((a0.size : Int) < 6) = true := decide_eq_true c18
            have c18b1 : decide (a0.size < 6) = true := decide_eq_true (by omega)
            clear c18
            simp only [Option.some.injEq, Prod.mk.injEq] at H
            obtain ⟨rfl, rfl, rfl, rfl⟩ := H
            have hcz19_0 : wr.cell? ⟨gb403, 0, none⟩ = some (.int .i64 x404000_1) := (blk_cell BK403.out 0).trans rfl
            have hcz19_1 : wr.cell? ⟨gb403, 1, none⟩ = some (.slice none 0 0) := (blk_cell BK403.out 1).trans rfl
            have hfz19_0 := blk_frozen BK403.out 0
            have hfz19_1 := blk_frozen BK403.out 1
            go_wp2
            refine bodyPost_ret (results_ctt rfl _ _ gb403 58 #[.int .i64 0, .slice none 0 0] (0, 0) _ rfl (by (with_reducible repeat (first | refine blk_drewN ?_ _ | refine blk_drew ?_ | refine blk_alloc ?_ _)); refine blk_put (cs := #[.int .i64 0, .slice none 0 0]) ?_ 1 _ rfl; (with_reducible repeat (first | refine blk_drewN ?_ _ | refine blk_drew ?_ | refine blk_alloc ?_ _)); refine blk_put (cs := #[.int .i64 x404000_1, .slice none 0 0]) ?_ 0 _ rfl; (with_reducible repeat (first | refine blk_drewN ?_ _ | refine blk_drew ?_ | refine blk_alloc ?_ _)); exact BK403.out) Try.underlying58 rfl (by kernel_rfl)) rfl ?_
            exact ⟨_, by first | rfl | (simp [errW_none, errW_some] <;> rfl) | (simp [*, errW_none, errW_some] <;> rfl), by first | exact Kd.R_nil _ _ _ _ _ | exact Kd.N_nil _ _ _ _ _ | exact Kd.V_nil _ _ _ _ _ | exact Kd.Q_nil _ _ _ _ _ | exact Kd.S_nil _ _ _ _ _, by repeat (first | (with_reducible first | exact HB.out | apply below_alloc | apply pw_below_drewN | apply below_drew1 | refine below_set ?_ GE403.out) | exact HB.out)⟩
          · rw [if_neg c18] at H
            have c18b0 : decide ((a0.size : Int) < 6) = false := decide_eq_false c18
            have c18b1 : decide (a0.size < 6) = false := decide_eq_false (by omega)
            clear c18
            replace H := Option.bind_eq_some_iff.mp H
            obtain ⟨t404, A200, H⟩ := H
            replace H : ((ringworkref06_Size.f t404).bind fun t406 => (if t406 = true then (if (a0.size : Int) < 8 then (some (0, ([] : List ByteArray), (a0.size : Int), 12)) else ((ringworkref06_Two.f a0 6).bind fun t407 => (if t407 < 1 then (ringworkref07_Load.j1 k1 a0 t407 true t404) else (ringworkref07_Load.j1 k1 a0 t407 (decide (t407 > 200)) t404)))) else (some (0, ([] : List ByteArray), 4, 12)))) = some (r1, r2, r3, r4) := H
            have A20 := Aside0.mk A200
            clear A200
            replace H := Option.bind_eq_some_iff.mp H
            obtain ⟨t406, A210, H⟩ := H
            replace H : (if t406 = true then (if (a0.size : Int) < 8 then (some (0, ([] : List ByteArray), (a0.size : Int), 12)) else ((ringworkref06_Two.f a0 6).bind fun t407 => (if t407 < 1 then (ringworkref07_Load.j1 k1 a0 t407 true t404) else (ringworkref07_Load.j1 k1 a0 t407 (decide (t407 > 200)) t404)))) else (some (0, ([] : List ByteArray), 4, 12))) = some (r1, r2, r3, r4) := H
            have A21 := Aside0.mk A210
            clear A210
            by_cases c22 : t406 = true
            · subst c22
              have H1 : (if (a0.size : Int) < 8 then (some (0, ([] : List ByteArray), (a0.size : Int), 12)) else ((ringworkref06_Two.f a0 6).bind fun t407 => (if t407 < 1 then (ringworkref07_Load.j1 k1 a0 t407 true t404) else (ringworkref07_Load.j1 k1 a0 t407 (decide (t407 > 200)) t404)))) = some (r1, r2, r3, r4) := by rw [if_pos rfl] at H; exact H
              clear H
              have H := H1
              clear H1
              by_cases c23 : (a0.size : Int) < 8
              · rw [if_pos c23] at H
                have c23b0 : decide ((a0.size : Int) < 8) = true := decide_eq_true c23
                have c23b1 : decide (a0.size < 8) = true := decide_eq_true (by omega)
                clear c23
                simp only [Option.some.injEq, Prod.mk.injEq] at H
                obtain ⟨rfl, rfl, rfl, rfl⟩ := H
                go_wp2_with (first | ((with_reducible refine gate_callee (f := 59) rfl ?_); refine goesL_ (some 45) rfl rfl Try.func59 (by kernel_rfl) rfl #[.string a0, .int .i64 4] rfl (by (try simp only [List.map_toArray, List.map_cons, List.map_nil]); first | done | rfl | (simp only [List.length_drop, List.length_take]; rfl)) ?_; (with_reducible refine (ringworkref06_Two.calls a0 4 t404 _ A20.out).mono ?_); rintro e w' ⟨rfl, ⟨nd, rfl⟩⟩; refine ⟨_, rfl, ?_⟩; (try (rw [drewN_self wr]; generalize hq_ : World.drewN wr _ = wr; have n0_ : Aside0 (wr.heap[gb403]? = some (.cells #[.int .i64 x404000_1, .slice none 0 0] 58 (0, 0))) := ⟨by rw [← hq_]; exact (by (with_reducible repeat (first | refine blk_drewN ?_ _ | refine blk_drew ?_ | refine blk_alloc ?_ _)); exact BK403.out)⟩; have n1_ : Aside0 (Below w.heap.size w wr) := ⟨by rw [← hq_]; exact (by repeat (first | (with_reducible first | exact HB.out | apply below_alloc | apply pw_below_drewN | apply below_drew1 | refine below_set ?_ GE403.out) | exact HB.out))⟩; clear BK403 HB hq_; have BK403 := n0_; have HB := n1_; clear n0_ n1_))) | ((with_reducible refine gate_dst (N := 6) rfl ?_); refine box_event ?hg (N := 6) ?hd (cs := #[.int .i64 0, .slice none 0 0]) (t := 58) ?hr ?_; (case hd => rfl); (case hg => rfl); (case hr => first | (go_simp; done) | (go_simp; rfl)); intro gb405 hg w24 hbox hb; have n0_ := Aside0.mk (blk_below (g := gb403) (o := .cells #[.int .i64 x404000_1, .slice none 0 0] 58 (0, 0)) (by (with_reducible repeat (first | refine blk_drewN ?_ _ | refine blk_drew ?_ | refine blk_alloc ?_ _)); exact BK403.out) hb); have n1_ := Aside0.mk (below_step (by repeat (first | (with_reducible first | exact HB.out | apply below_alloc | apply pw_below_drewN | apply below_drew1 | refine below_set ?_ GE403.out) | exact HB.out)) hb); have n2_ := Aside0.mk (hbox); have n3_ := Aside0.mk ((by rw [hg]; exact (below_size (by repeat (first | (with_reducible first | exact HB.out | apply below_alloc | apply pw_below_drewN | apply below_drew1 | refine below_set ?_ GE403.out) | exact HB.out))) : w.heap.size ≤ gb405)); have n4_ := Aside0.mk ((by rw [hg]; exact (below_size (by repeat (first | (with_reducible first | exact HB.out | apply below_alloc | apply pw_below_drewN | apply below_drew1 | refine below_set ?_ GE403.out) | exact HB.out))) : w.heap.size ≤ gb405)); have n5_ := Aside0.mk ((by rw [hg]; exact Nat.ne_of_lt (blk_lt (g := gb403) (o := .cells #[.int .i64 x404000_1, .slice none 0 0] 58 (0, 0)) (by (with_reducible repeat (first | refine blk_drewN ?_ _ | refine blk_drew ?_ | refine blk_alloc ?_ _)); exact BK403.out)) : gb403 ≠ gb405)); have n6_ := Aside0.mk ((by rw [hg]; exact Nat.ne_of_gt (blk_lt (g := gb403) (o := .cells #[.int .i64 x404000_1, .slice none 0 0] 58 (0, 0)) (by (with_reducible repeat (first | refine blk_drewN ?_ _ | refine blk_drew ?_ | refine blk_alloc ?_ _)); exact BK403.out)) : gb405 ≠ gb403)); clear BK403; clear HB; have BK403 := n0_; have HB := n1_; have BK405 := n2_; have GW405 := n3_; have GE405 := n4_; have NB403_405 := n5_; have NB405_403 := n6_; clear n0_ n1_ n2_ n3_ n4_ n5_ n6_; clear hb hbox hg; have hnb25 := NB405_403.out; have hnc25 := NB403_405.out; have hcz26_0 : w24.cell? ⟨gb405, 0, none⟩ = some (.int .i64 0) := (blk_cell BK405.out 0).trans rfl; have hcz26_1 : w24.cell? ⟨gb405, 1, none⟩ = some (.slice none 0 0) := (blk_cell BK405.out 1).trans rfl; have hfz26_0 := blk_frozen BK405.out 0; have hfz26_1 := blk_frozen BK405.out 1) | ((with_reducible refine gate_callee (f := 50) rfl ?_); refine goesL_ (some 49) rfl rfl Try.func50 (by kernel_rfl) rfl #[.int .i64 t404] rfl (by (try simp only [List.map_toArray, List.map_cons, List.map_nil]); first | done | rfl | (simp only [List.length_drop, List.length_take]; rfl)) ?_; (with_reducible refine (ringworkref06_Size.calls t404 true _ A21.out).mono ?_); rintro e w' ⟨rfl, ⟨nd, rfl⟩⟩; refine ⟨_, rfl, ?_⟩; have hcz27_0 : w24.cell? ⟨gb403, 0, none⟩ = some (.int .i64 x404000_1) := (blk_cell BK403.out 0).trans rfl; have hcz27_1 : w24.cell? ⟨gb403, 1, none⟩ = some (.slice none 0 0) := (blk_cell BK403.out 1).trans rfl; have hfz27_0 := blk_frozen BK403.out 0; have hfz27_1 := blk_frozen BK403.out 1))
                refine bodyPost_ret (results_ctt rfl _ _ gb403 58 #[.int .i64 0, .slice none 0 0] (0, 0) _ rfl (by (with_reducible repeat (first | refine blk_drewN ?_ _ | refine blk_drew ?_ | refine blk_alloc ?_ _)); refine blk_put (cs := #[.int .i64 0, .slice none 0 0]) ?_ 1 _ rfl; (with_reducible repeat (first | refine blk_drewN ?_ _ | refine blk_drew ?_ | refine blk_alloc ?_ _)); refine blk_put (cs := #[.int .i64 x404000_1, .slice none 0 0]) ?_ 0 _ rfl; (with_reducible repeat (first | refine blk_drewN ?_ _ | refine blk_drew ?_ | refine blk_alloc ?_ _)); refine blk_far ?_ NB403_405.out _; (with_reducible repeat (first | refine blk_drewN ?_ _ | refine blk_drew ?_ | refine blk_alloc ?_ _)); refine blk_far ?_ NB403_405.out _; (with_reducible repeat (first | refine blk_drewN ?_ _ | refine blk_drew ?_ | refine blk_alloc ?_ _)); exact BK403.out) Try.underlying58 rfl (by kernel_rfl)) rfl ?_
                exact ⟨_, by first | rfl | (simp [errW_none, errW_some] <;> rfl) | (simp [*, errW_none, errW_some] <;> rfl), by first | exact Kd.R_nil _ _ _ _ _ | exact Kd.N_nil _ _ _ _ _ | exact Kd.V_nil _ _ _ _ _ | exact Kd.Q_nil _ _ _ _ _ | exact Kd.S_nil _ _ _ _ _, by repeat (first | (with_reducible first | exact HB.out | apply below_alloc | apply pw_below_drewN | apply below_drew1 | refine below_set ?_ GE403.out | refine below_set ?_ GE405.out) | exact HB.out)⟩
              · rw [if_neg c23] at H
                have c23b0 : decide ((a0.size : Int) < 8) = false := decide_eq_false c23
                have c23b1 : decide (a0.size < 8) = false := decide_eq_false (by omega)
                clear c23
                replace H := Option.bind_eq_some_iff.mp H
                obtain ⟨t407, A280, H⟩ := H
                replace H : (if t407 < 1 then (ringworkref07_Load.j1 k1 a0 t407 true t404) else (ringworkref07_Load.j1 k1 a0 t407 (decide (t407 > 200)) t404)) = some (r1, r2, r3, r4) := H
                have A28 := Aside0.mk A280
                clear A280
                have HC29 := Aside0.mk H
                clear H
                go_upto_region 16 with (first | ((with_reducible refine gate_callee (f := 59) rfl ?_); refine goesL_ (some 45) rfl rfl Try.func59 (by kernel_rfl) rfl #[.string a0, .int .i64 4] rfl (by (try simp only [List.map_toArray, List.map_cons, List.map_nil]); first | done | rfl | (simp only [List.length_drop, List.length_take]; rfl)) ?_; (with_reducible refine (ringworkref06_Two.calls a0 4 t404 _ A20.out).mono ?_); rintro e w' ⟨rfl, ⟨nd, rfl⟩⟩; refine ⟨_, rfl, ?_⟩; (try (rw [drewN_self wr]; generalize hq_ : World.drewN wr _ = wr; have n0_ : Aside0 (wr.heap[gb403]? = some (.cells #[.int .i64 x404000_1, .slice none 0 0] 58 (0, 0))) := ⟨by rw [← hq_]; exact (by (with_reducible repeat (first | refine blk_drewN ?_ _ | refine blk_drew ?_ | refine blk_alloc ?_ _)); exact BK403.out)⟩; have n1_ : Aside0 (Below w.heap.size w wr) := ⟨by rw [← hq_]; exact (by repeat (first | (with_reducible first | exact HB.out | apply below_alloc | apply pw_below_drewN | apply below_drew1 | refine below_set ?_ GE403.out) | exact HB.out))⟩; clear BK403 HB hq_; have BK403 := n0_; have HB := n1_; clear n0_ n1_))) | ((with_reducible refine gate_dst (N := 6) rfl ?_); refine box_event ?hg (N := 6) ?hd (cs := #[.int .i64 0, .slice none 0 0]) (t := 58) ?hr ?_; (case hd => rfl); (case hg => rfl); (case hr => first | (go_simp; done) | (go_simp; rfl)); intro gb405 hg w30 hbox hb; have n0_ := Aside0.mk (blk_below (g := gb403) (o := .cells #[.int .i64 x404000_1, .slice none 0 0] 58 (0, 0)) (by (with_reducible repeat (first | refine blk_drewN ?_ _ | refine blk_drew ?_ | refine blk_alloc ?_ _)); exact BK403.out) hb); have n1_ := Aside0.mk (below_step (by repeat (first | (with_reducible first | exact HB.out | apply below_alloc | apply pw_below_drewN | apply below_drew1 | refine below_set ?_ GE403.out) | exact HB.out)) hb); have n2_ := Aside0.mk (hbox); have n3_ := Aside0.mk ((by rw [hg]; exact (below_size (by repeat (first | (with_reducible first | exact HB.out | apply below_alloc | apply pw_below_drewN | apply below_drew1 | refine below_set ?_ GE403.out) | exact HB.out))) : w.heap.size ≤ gb405)); have n4_ := Aside0.mk ((by rw [hg]; exact (below_size (by repeat (first | (with_reducible first | exact HB.out | apply below_alloc | apply pw_below_drewN | apply below_drew1 | refine below_set ?_ GE403.out) | exact HB.out))) : w.heap.size ≤ gb405)); have n5_ := Aside0.mk ((by rw [hg]; exact Nat.ne_of_lt (blk_lt (g := gb403) (o := .cells #[.int .i64 x404000_1, .slice none 0 0] 58 (0, 0)) (by (with_reducible repeat (first | refine blk_drewN ?_ _ | refine blk_drew ?_ | refine blk_alloc ?_ _)); exact BK403.out)) : gb403 ≠ gb405)); have n6_ := Aside0.mk ((by rw [hg]; exact Nat.ne_of_gt (blk_lt (g := gb403) (o := .cells #[.int .i64 x404000_1, .slice none 0 0] 58 (0, 0)) (by (with_reducible repeat (first | refine blk_drewN ?_ _ | refine blk_drew ?_ | refine blk_alloc ?_ _)); exact BK403.out)) : gb405 ≠ gb403)); clear BK403; clear HB; have BK403 := n0_; have HB := n1_; have BK405 := n2_; have GW405 := n3_; have GE405 := n4_; have NB403_405 := n5_; have NB405_403 := n6_; clear n0_ n1_ n2_ n3_ n4_ n5_ n6_; clear hb hbox hg; have hnb31 := NB405_403.out; have hnc31 := NB403_405.out; have hcz32_0 : w30.cell? ⟨gb405, 0, none⟩ = some (.int .i64 0) := (blk_cell BK405.out 0).trans rfl; have hcz32_1 : w30.cell? ⟨gb405, 1, none⟩ = some (.slice none 0 0) := (blk_cell BK405.out 1).trans rfl; have hfz32_0 := blk_frozen BK405.out 0; have hfz32_1 := blk_frozen BK405.out 1) | ((with_reducible refine gate_callee (f := 50) rfl ?_); refine goesL_ (some 49) rfl rfl Try.func50 (by kernel_rfl) rfl #[.int .i64 t404] rfl (by (try simp only [List.map_toArray, List.map_cons, List.map_nil]); first | done | rfl | (simp only [List.length_drop, List.length_take]; rfl)) ?_; (with_reducible refine (ringworkref06_Size.calls t404 true _ A21.out).mono ?_); rintro e w' ⟨rfl, ⟨nd, rfl⟩⟩; refine ⟨_, rfl, ?_⟩) | ((with_reducible refine gate_callee (f := 59) rfl ?_); refine goesL_ (some 59) rfl rfl Try.func59 (by kernel_rfl) rfl #[.string a0, .int .i64 6] rfl (by (try simp only [List.map_toArray, List.map_cons, List.map_nil]); first | done | rfl | (simp only [List.length_drop, List.length_take]; rfl)) ?_; (with_reducible refine (ringworkref06_Two.calls a0 6 t407 _ A28.out).mono ?_); rintro e w' ⟨rfl, ⟨nd, rfl⟩⟩; refine ⟨_, rfl, ?_⟩))
                (try simp only [Act.put, List.setIfInBounds_toArray, List.set_cons_zero, List.set_cons_succ])
                go_cut [65] (fun v65 wc => ∃ (kq : Nat) (x65_28 : Bool), v65 = .bool x65_28 ∧ Aside0 (ringworkref07_Load.j1 kq a0 t407 x65_28 t404 = some (r1, r2, r3, r4)) ∧ Aside0 (kq ≤ k1) ∧ Aside0 (wc.heap[gb403]? = some (.cells #[.int .i64 x404000_1, (.slice none 0 0)] 58 (0, 0))) ∧ Aside0 (wc.heap[gb405]? = some (.cells #[.int .i64 t404, (.slice none 0 0)] 58 (0, 0))) ∧ Aside0 (Below w.heap.size w wc))
                case first =>
                  have H := HC29.out
                  clear HC29
                  by_cases c33 : t407 < 1
                  · rw [if_pos c33] at H
                    have c33b0 : decide (t407 < 1) = true := decide_eq_true c33
                    clear c33
                    (first | rw [c33b0] | (simp only [i64_w, i32_w]; rw [c33b0]) | skip)
                    have H' := Aside0.mk H
                    clear H
                    go_wp2
                    go_meet
                    case rel => exact ⟨_, (true), (by first | rfl | (simp; done) | (simp [*]; done)), H', ⟨by have := HK1.out; first | omega | exact Nat.le_refl _⟩, ⟨by (with_reducible repeat (first | refine blk_drewN ?_ _ | refine blk_drew ?_ | refine blk_alloc ?_ _)); refine blk_far ?_ NB403_405.out _; (with_reducible repeat (first | refine blk_drewN ?_ _ | refine blk_drew ?_ | refine blk_alloc ?_ _)); refine blk_far ?_ NB403_405.out _; (with_reducible repeat (first | refine blk_drewN ?_ _ | refine blk_drew ?_ | refine blk_alloc ?_ _)); exact BK403.out⟩, ⟨by (with_reducible repeat (first | refine blk_drewN ?_ _ | refine blk_drew ?_ | refine blk_alloc ?_ _)); refine blk_put (cs := #[.int .i64 t404, .slice none 0 0]) ?_ 1 _ rfl; (with_reducible repeat (first | refine blk_drewN ?_ _ | refine blk_drew ?_ | refine blk_alloc ?_ _)); refine blk_put (cs := #[.int .i64 0, .slice none 0 0]) ?_ 0 _ rfl; (with_reducible repeat (first | refine blk_drewN ?_ _ | refine blk_drew ?_ | refine blk_alloc ?_ _)); exact BK405.out⟩, ⟨by repeat (first | (with_reducible first | exact HB.out | apply below_alloc | apply pw_below_drewN | apply below_drew1 | refine below_set ?_ GE403.out | refine below_set ?_ GE405.out) | exact HB.out)⟩⟩
                  · rw [if_neg c33] at H
                    have c33b0 : decide (t407 < 1) = false := decide_eq_false c33
                    clear c33
                    (first | rw [c33b0] | (simp only [i64_w, i32_w]; rw [c33b0]) | skip)
                    have H' := Aside0.mk H
                    clear H
                    go_wp2
                    go_meet
                    case rel => exact ⟨_, (decide (t407 > 200)), (by first | rfl | (simp; done) | (simp [*]; done)), H', ⟨by have := HK1.out; first | omega | exact Nat.le_refl _⟩, ⟨by (with_reducible repeat (first | refine blk_drewN ?_ _ | refine blk_drew ?_ | refine blk_alloc ?_ _)); refine blk_far ?_ NB403_405.out _; (with_reducible repeat (first | refine blk_drewN ?_ _ | refine blk_drew ?_ | refine blk_alloc ?_ _)); refine blk_far ?_ NB403_405.out _; (with_reducible repeat (first | refine blk_drewN ?_ _ | refine blk_drew ?_ | refine blk_alloc ?_ _)); exact BK403.out⟩, ⟨by (with_reducible repeat (first | refine blk_drewN ?_ _ | refine blk_drew ?_ | refine blk_alloc ?_ _)); refine blk_put (cs := #[.int .i64 t404, .slice none 0 0]) ?_ 1 _ rfl; (with_reducible repeat (first | refine blk_drewN ?_ _ | refine blk_drew ?_ | refine blk_alloc ?_ _)); refine blk_put (cs := #[.int .i64 0, .slice none 0 0]) ?_ 0 _ rfl; (with_reducible repeat (first | refine blk_drewN ?_ _ | refine blk_drew ?_ | refine blk_alloc ?_ _)); exact BK405.out⟩, ⟨by repeat (first | (with_reducible first | exact HB.out | apply below_alloc | apply pw_below_drewN | apply below_drew1 | refine below_set ?_ GE403.out | refine below_set ?_ GE405.out) | exact HB.out)⟩⟩
                case rest =>
                  clear HC29
                  try clear c1
                  try clear p1
                  try clear q1
                  try clear hx1
                  try clear c2
                  try clear c2b0
                  try clear c2b1
                  try clear p2
                  try clear c3
                  try clear c4
                  try clear c5
                  try clear c6
                  try clear c6b0
                  try clear p6
                  try clear c7
                  try clear c7b0
                  try clear c7b1
                  try clear c10
                  try clear c10b0
                  try clear c11
                  try clear c11b0
                  try clear p12
                  try clear q12
                  try clear hx12
                  try clear p13
                  try clear q13
                  try clear hx13
                  try clear c14
                  try clear c14b0
                  try clear c14b1
                  try clear c18
                  try clear c18b0
                  try clear c18b1
                  try clear c22
                  try clear c23
                  try clear c23b0
                  try clear c23b1
                  try clear c25
                  try clear c31
                  try clear c33
                  try clear c33b0
                  try clear hcz17_0
                  try clear hcz17_1
                  try clear hcz19_0
                  try clear hcz19_1
                  try clear hcz26_0
                  try clear hcz26_1
                  try clear hcz27_0
                  try clear hcz27_1
                  try clear hcz32_0
                  try clear hcz32_1
                  try clear hcz4_0
                  try clear hcz4_1
                  try clear hcz9_0
                  try clear hcz9_1
                  try clear hfz17_0
                  try clear hfz17_1
                  try clear hfz19_0
                  try clear hfz19_1
                  try clear hfz26_0
                  try clear hfz26_1
                  try clear hfz27_0
                  try clear hfz27_1
                  try clear hfz32_0
                  try clear hfz32_1
                  try clear hfz4_0
                  try clear hfz4_1
                  try clear hfz9_0
                  try clear hfz9_1
                  try clear p12
                  try clear p13
                  try clear p2
                  try clear q12
                  try clear q13
                  obtain ⟨kq, x65_28, rfl, HA, HJ28, BK403, BK405, HB⟩ := hcut
                  cases kq with
                  | zero => exact absurd HA.out (by simp [ringworkref07_Load.j1])
                  | succ kj28 =>
                    have H := HA.out
                    clear HA
                    simp only [ringworkref07_Load.j1] at H
                    by_cases c34 : x65_28 = true
                    · subst c34
                      have H1 : (some (0, ([] : List ByteArray), 6, 12)) = some (r1, r2, r3, r4) := by rw [if_pos rfl] at H; exact H
                      clear H
                      have H := H1
                      clear H1
                      simp only [Option.some.injEq, Prod.mk.injEq] at H
                      obtain ⟨rfl, rfl, rfl, rfl⟩ := H
                      have hnb35 := NB403_405.out
                      have hnc35 := NB405_403.out
                      have hcz36_0 : wc.cell? ⟨gb403, 0, none⟩ = some (.int .i64 x404000_1) := (blk_cell BK403.out 0).trans rfl
                      have hcz36_1 : wc.cell? ⟨gb403, 1, none⟩ = some (.slice none 0 0) := (blk_cell BK403.out 1).trans rfl
                      have hfz36_0 := blk_frozen BK403.out 0
                      have hfz36_1 := blk_frozen BK403.out 1
                      go_wp2
                      refine bodyPost_ret (results_ctt rfl _ _ gb403 58 #[.int .i64 0, .slice none 0 0] (0, 0) _ rfl (by (with_reducible repeat (first | refine blk_drewN ?_ _ | refine blk_drew ?_ | refine blk_alloc ?_ _)); refine blk_put (cs := #[.int .i64 0, .slice none 0 0]) ?_ 1 _ rfl; (with_reducible repeat (first | refine blk_drewN ?_ _ | refine blk_drew ?_ | refine blk_alloc ?_ _)); refine blk_put (cs := #[.int .i64 x404000_1, .slice none 0 0]) ?_ 0 _ rfl; (with_reducible repeat (first | refine blk_drewN ?_ _ | refine blk_drew ?_ | refine blk_alloc ?_ _)); exact BK403.out) Try.underlying58 rfl (by kernel_rfl)) rfl ?_
                      exact ⟨_, by first | rfl | (simp [errW_none, errW_some] <;> rfl) | (simp [*, errW_none, errW_some] <;> rfl), by first | exact Kd.R_nil _ _ _ _ _ | exact Kd.N_nil _ _ _ _ _ | exact Kd.V_nil _ _ _ _ _ | exact Kd.Q_nil _ _ _ _ _ | exact Kd.S_nil _ _ _ _ _, by repeat (first | (with_reducible first | exact HB.out | apply below_alloc | apply pw_below_drewN | apply below_drew1 | refine below_set ?_ GE403.out | refine below_set ?_ GE405.out) | exact HB.out)⟩
                    · replace c34 := Bool.eq_false_iff.mpr c34
                      subst c34
                      have H1 : (ringworkref07_Load.l1 kj28 a0 t407 0 t404 ([] : List ByteArray)) = some (r1, r2, r3, r4) := by rw [if_neg (show ¬ (false = true) by decide)] at H; exact H
                      clear H
                      have H := H1
                      clear H1
                      have H' := Aside0.mk H
                      clear H
                      go_wp2
                      go_loopg [8] kj28 (fun kq v8 w' => ∃ (x8_3 : Int) (x404000_3 : Int) (x406001_3 : List ByteArray) (u406001 : Value), v8 = .int .i64 x8_3 ∧ Aside0 (ringworkref07_Load.l1 kq a0 t407 x8_3 t404 x406001_3 = some (r1, r2, r3, r4)) ∧ Aside0 (kq ≤ kj28) ∧ Aside0 (Kd.R Kd.string 9 w' w.heap.size (fun _ => True) u406001 x406001_3) ∧ Aside0 (w'.heap[gb403]? = some (.cells #[.int .i64 x404000_3, (.slice none 0 0)] 58 (0, 0))) ∧ Aside0 (w'.heap[gb405]? = some (.cells #[.int .i64 t404, u406001] 58 (0, 0))) ∧ Aside0 (Below w.heap.size w w'))
                      case atStart => exact ⟨(0), (x404000_1), (([] : List ByteArray)), (.slice none 0 0), (by first | rfl | (simp; done) | (simp [*]; done)), H', ⟨Nat.le_refl _⟩, ⟨by first | exact Kd.R_nil _ _ _ _ _ | exact Kd.N_nil _ _ _ _ _ | exact Kd.V_nil _ _ _ _ _ | exact Kd.Q_nil _ _ _ _ _ | exact Kd.S_nil _ _ _ _ _⟩, ⟨by (with_reducible repeat (first | refine blk_drewN ?_ _ | refine blk_drew ?_ | refine blk_alloc ?_ _)); exact BK403.out⟩, ⟨by (with_reducible repeat (first | refine blk_drewN ?_ _ | refine blk_drew ?_ | refine blk_alloc ?_ _)); exact BK405.out⟩, ⟨by repeat (first | (with_reducible first | exact HB.out | apply below_alloc | apply pw_below_drewN | apply below_drew1 | refine below_set ?_ GE403.out | refine below_set ?_ GE405.out) | exact HB.out)⟩⟩
                      case round =>
                        clear H'
                        try clear c1
                        try clear p1
                        try clear q1
                        try clear hx1
                        try clear c2
                        try clear c2b0
                        try clear c2b1
                        try clear p2
                        try clear c3
                        try clear c4
                        try clear c5
                        try clear c6
                        try clear c6b0
                        try clear p6
                        try clear c7
                        try clear c7b0
                        try clear c7b1
                        try clear c10
                        try clear c10b0
                        try clear c11
                        try clear c11b0
                        try clear p12
                        try clear q12
                        try clear hx12
                        try clear p13
                        try clear q13
                        try clear hx13
                        try clear c14
                        try clear c14b0
                        try clear c14b1
                        try clear c18
                        try clear c18b0
                        try clear c18b1
                        try clear c22
                        try clear c23
                        try clear c23b0
                        try clear c23b1
                        try clear c25
                        try clear c31
                        try clear c33
                        try clear c33b0
                        try clear c34
                        try clear c35
                        try clear hcz17_0
                        try clear hcz17_1
                        try clear hcz19_0
                        try clear hcz19_1
                        try clear hcz26_0
                        try clear hcz26_1
                        try clear hcz27_0
                        try clear hcz27_1
                        try clear hcz32_0
                        try clear hcz32_1
                        try clear hcz36_0
                        try clear hcz36_1
                        try clear hcz4_0
                        try clear hcz4_1
                        try clear hcz9_0
                        try clear hcz9_1
                        try clear hfz17_0
                        try clear hfz17_1
                        try clear hfz19_0
                        try clear hfz19_1
                        try clear hfz26_0
                        try clear hfz26_1
                        try clear hfz27_0
                        try clear hfz27_1
                        try clear hfz32_0
                        try clear hfz32_1
                        try clear hfz36_0
                        try clear hfz36_1
                        try clear hfz4_0
                        try clear hfz4_1
                        try clear hfz9_0
                        try clear hfz9_1
                        try clear p1
                        try clear p12
                        try clear p13
                        try clear p2
                        try clear p6
                        try clear q1
                        try clear q12
                        try clear q13
                        obtain ⟨x8_3, x404000_3, x406001_3, u406001, rfl, HA, HK3, HO_406001, BK403, BK405, HB⟩ := hrel
                        cases gk with
                        | zero => exact absurd HA.out (by simp [ringworkref07_Load.l1])
                        | succ k3 =>
                          have H := HA.out
                          clear HA
                          simp only [ringworkref07_Load.l1] at H
                          by_cases c37 : x8_3 < t407
                          · rw [if_pos c37] at H
                            have c37b0 : decide (x8_3 < t407) = true := decide_eq_true c37
                            clear c37
                            by_cases c38 : (wrap64 ((wrap64 ((wrap64 (8 + t407)) + (wrap64 (x8_3 * t404)))) + t404)) > (a0.size : Int)
                            · rw [if_pos c38] at H
                              have c38b0 : decide ((a0.size : Int) < (wrap64 ((wrap64 ((wrap64 (8 + t407)) + (wrap64 (x8_3 * t404)))) + t404))) = true := decide_eq_true c38
                              clear c38
                              simp only [Option.some.injEq, Prod.mk.injEq] at H
                              obtain ⟨rfl, rfl, rfl, rfl⟩ := H
                              have hnb39 := NB405_403.out
                              have hnc39 := NB403_405.out
                              have hcz40_0 : wr.cell? ⟨gb405, 0, none⟩ = some (.int .i64 t404) := (blk_cell BK405.out 0).trans rfl
                              have hcz40_1 : wr.cell? ⟨gb405, 1, none⟩ = some (u406001) := (blk_cell BK405.out 1).trans rfl
                              have hfz40_0 := blk_frozen BK405.out 0
                              have hfz40_1 := blk_frozen BK405.out 1
                              have hcz41_0 : wr.cell? ⟨gb403, 0, none⟩ = some (.int .i64 x404000_3) := (blk_cell BK403.out 0).trans rfl
                              have hcz41_1 : wr.cell? ⟨gb403, 1, none⟩ = some (.slice none 0 0) := (blk_cell BK403.out 1).trans rfl
                              have hfz41_0 := blk_frozen BK403.out 0
                              have hfz41_1 := blk_frozen BK403.out 1
                              go_wp2
                              refine bodyPost_ret (results_ctt rfl _ _ gb403 58 #[.int .i64 0, .slice none 0 0] (0, 0) _ rfl (by (with_reducible repeat (first | refine blk_drewN ?_ _ | refine blk_drew ?_ | refine blk_alloc ?_ _)); refine blk_put (cs := #[.int .i64 0, .slice none 0 0]) ?_ 1 _ rfl; (with_reducible repeat (first | refine blk_drewN ?_ _ | refine blk_drew ?_ | refine blk_alloc ?_ _)); refine blk_put (cs := #[.int .i64 x404000_3, .slice none 0 0]) ?_ 0 _ rfl; (with_reducible repeat (first | refine blk_drewN ?_ _ | refine blk_drew ?_ | refine blk_alloc ?_ _)); exact BK403.out) Try.underlying58 rfl (by kernel_rfl)) rfl ?_
                              exact ⟨_, by first | rfl | (simp [errW_none, errW_some] <;> rfl) | (simp [*, errW_none, errW_some] <;> rfl), by first | exact Kd.R_nil _ _ _ _ _ | exact Kd.N_nil _ _ _ _ _ | exact Kd.V_nil _ _ _ _ _ | exact Kd.Q_nil _ _ _ _ _ | exact Kd.S_nil _ _ _ _ _, by repeat (first | (with_reducible first | exact HB.out | apply below_alloc | apply pw_below_drewN | apply below_drew1 | refine below_set ?_ GE403.out | refine below_set ?_ GE405.out) | exact HB.out)⟩
                            · rw [if_neg c38] at H
                              have c38b0 : decide ((a0.size : Int) < (wrap64 ((wrap64 ((wrap64 (8 + t407)) + (wrap64 (x8_3 * t404)))) + t404))) = false := decide_eq_false c38
                              clear c38
                              obtain ⟨ji42, hji42⟩ : ∃ j_ : Int, (wrap64 ((wrap64 (8 + t407)) + (wrap64 (x8_3 * t404)))) = j_ := ⟨_, rfl⟩
                              replace H : (if 0 ≤ (ji42) then (if (ji42) ≤ (wrap64 ((ji42) + t404)) then (if (wrap64 ((ji42) + t404)) ≤ (a0.size : Int) then ((ringworkref06_Wrong.f k3 (a0.extract ((ji42) : Int).toNat ((wrap64 ((ji42) + t404)) : Int).toNat)).bind fun bt408 => (if bt408.2 = 0 then (if x406001_3.length < 8796093022208 then (ringworkref07_Load.l1 k3 a0 t407 (wrap64 (x8_3 + 1)) t404 (x406001_3 ++ [a0.extract ((ji42) : Int).toNat ((wrap64 ((ji42) + t404)) : Int).toNat])) else (none)) else (some (0, ([] : List ByteArray), wrap64 ((ji42) + bt408.1), 12)))) else (none)) else (none)) else (none)) = some (r1, r2, r3, r4) := by first | (rw [hji42] at H; exact H) | (simp only [hji42] at H ⊢; exact H)
                              (try rw [hji42] at c38b0)
                              have hji42w : (IntKind.i64.wrap ((wrap64 (8 + t407)) + (wrap64 (x8_3 * t404)))) = ji42 := (i64_w _).trans hji42
                              by_cases c43 : 0 ≤ (ji42)
                              · rw [if_pos c43] at H
                                have c43b0 := eq_true c43
                                have c43b1 : decide (0 ≤ (ji42)) = true := decide_eq_true c43
                                clear c43
                                by_cases c44 : (ji42) ≤ (wrap64 ((ji42) + t404))
                                · rw [if_pos c44] at H
                                  have c44b0 := eq_true c44
                                  have c44b1 : decide ((ji42) ≤ (wrap64 ((ji42) + t404))) = true := decide_eq_true c44
                                  by_cases c45 : (wrap64 ((ji42) + t404)) ≤ (a0.size : Int)
                                  · rw [if_pos c45] at H
                                    have c45b0 := eq_true c45
                                    have c45b1 : decide ((wrap64 ((ji42) + t404)) ≤ (a0.size : Int)) = true := decide_eq_true c45
                                    replace H := Option.bind_eq_some_iff.mp H
                                    obtain ⟨⟨t408, t409⟩, A460, H⟩ := H
                                    replace H : (if t409 = 0 then (if x406001_3.length < 8796093022208 then (ringworkref07_Load.l1 k3 a0 t407 (wrap64 (x8_3 + 1)) t404 (x406001_3 ++ [a0.extract ((ji42) : Int).toNat ((wrap64 ((ji42) + t404)) : Int).toNat])) else (none)) else (some (0, ([] : List ByteArray), wrap64 ((ji42) + t408), 12))) = some (r1, r2, r3, r4) := H
                                    have A46 := Aside0.mk A460
                                    clear A460
                                    by_cases c47 : t409 = 0
                                    · rw [if_pos c47] at H
                                      have c47b0 : (t409 == 0) = true := beq_iff_eq.mpr c47
                                      have c47b1 : (t409 != 0) = false := bne_eq_false_iff_eq.mpr c47
                                      clear c47
                                      by_cases c48 : x406001_3.length < 8796093022208
                                      · rw [if_pos c48] at H
                                        have LMc48 := Aside0.mk c48
                                        clear c48
                                        obtain ⟨y410, hy410⟩ : ∃ y_ : List ByteArray, y_ = (x406001_3 ++ [a0.extract ((ji42) : Int).toNat ((wrap64 ((ji42) + t404)) : Int).toNat]) := ⟨_, rfl⟩
                                        replace H : (ringworkref07_Load.l1 k3 a0 t407 (wrap64 (x8_3 + 1)) t404 y410) = some (r1, r2, r3, r4) := by first | (rw [hy410]; with_reducible exact H) | (have H2_ := (Option.bind_some _ _).symm.trans H; rw [hy410]; with_reducible exact H2_) | (have H2_ := (Option.bind_some _ _).symm.trans H; with_reducible exact H2_) | with_reducible exact H | (rw [hy410]; exact H) | exact H
                                        have Ny410 := Aside0.mk hy410
                                        clear hy410
                                        have H' := Aside0.mk H
                                        clear H
                                        have hnb49 := NB405_403.out
                                        have hnc49 := NB403_405.out
                                        have hcz50_0 : wr.cell? ⟨gb405, 0, none⟩ = some (.int .i64 t404) := (blk_cell BK405.out 0).trans rfl
                                        have hcz50_1 : wr.cell? ⟨gb405, 1, none⟩ = some (u406001) := (blk_cell BK405.out 1).trans rfl
                                        have hfz50_0 := blk_frozen BK405.out 0
                                        have hfz50_1 := blk_frozen BK405.out 1
                                        go_wp2_with (first | ((with_reducible refine gate_callee (f := 20) rfl ?_); refine goesL_ (some 98) rfl rfl Try.func20 (by kernel_rfl) rfl #[.string (a0.extract ((ji42) : Int).toNat ((wrap64 ((ji42) + t404)) : Int).toNat)] rfl (by (try simp only [List.map_toArray, List.map_cons, List.map_nil]); first | done | (simp only [hji42]; rfl) | rfl | (simp only [List.length_drop, List.length_take]; rfl)) ?_; (with_reducible refine (ringworkref06_Wrong.calls k3 (a0.extract ((ji42) : Int).toNat ((wrap64 ((ji42) + t404)) : Int).toNat) t408 t409 _ A46.out).mono ?_); rintro e w' ⟨rfl, ⟨nd, rfl⟩⟩; refine ⟨_, rfl, ?_⟩; (try (rw [drewN_self wr]; generalize hq_ : World.drewN wr _ = wr; have n0_ : Aside0 (Kd.R Kd.string 9 wr w.heap.size (fun _ => True) u406001 x406001_3) := ⟨by rw [← hq_]; exact (by (with_reducible repeat (first | apply Kd.R_alloc | apply Kd.R_drewN | apply Kd.R_drew)); exact HO_406001.out)⟩; have n1_ : Aside0 (wr.heap[gb403]? = some (.cells #[.int .i64 x404000_3, .slice none 0 0] 58 (0, 0))) := ⟨by rw [← hq_]; exact (by (with_reducible repeat (first | refine blk_drewN ?_ _ | refine blk_drew ?_ | refine blk_alloc ?_ _)); exact BK403.out)⟩; have n2_ : Aside0 (wr.heap[gb405]? = some (.cells #[.int .i64 t404, u406001] 58 (0, 0))) := ⟨by rw [← hq_]; exact (by (with_reducible repeat (first | refine blk_drewN ?_ _ | refine blk_drew ?_ | refine blk_alloc ?_ _)); exact BK405.out)⟩; have n3_ : Aside0 (Below w.heap.size w wr) := ⟨by rw [← hq_]; exact (by repeat (first | (with_reducible first | exact HB.out | apply below_alloc | apply pw_below_drewN | apply below_drew1 | refine below_set ?_ GE403.out | refine below_set ?_ GE405.out) | exact HB.out))⟩; clear HO_406001 BK403 BK405 HB hq_; have HO_406001 := n0_; have BK403 := n1_; have BK405 := n2_; have HB := n3_; clear n0_ n1_ n2_ n3_; have hcq403_0 : wr.cell? ⟨gb403, 0, none⟩ = some (.int .i64 x404000_3) := (blk_cell BK403.out 0).trans rfl; have hfq403_0 := blk_frozen BK403.out 0; have hcq403_1 : wr.cell? ⟨gb403, 1, none⟩ = some (.slice none 0 0) := (blk_cell BK403.out 1).trans rfl; have hfq403_1 := blk_frozen BK403.out 1; have hcq405_0 : wr.cell? ⟨gb405, 0, none⟩ = some (.int .i64 t404) := (blk_cell BK405.out 0).trans rfl; have hfq405_0 := blk_frozen BK405.out 0; have hcq405_1 : wr.cell? ⟨gb405, 1, none⟩ = some (u406001) := (blk_cell BK405.out 1).trans rfl; have hfq405_1 := blk_frozen BK405.out 1))) | ((with_reducible refine gate_builtin (b := .append) (xs := #[.tmp 108, .tmp 110]) rfl ?_); at_builtin; refine Kd.R_append Kd.string (w0 := w) w.heap.size rfl (.tmp 108) (.tmp 110) 56 9 (.string ⟨#[]⟩) 16 rfl Try.underlying56 info9 rfl (by decide) (by omega) u406001 x406001_3 (a0.extract ((ji42) : Int).toNat ((wrap64 ((ji42) + t404)) : Int).toNat) [.string (a0.extract ((ji42) : Int).toNat ((wrap64 ((ji42) + t404)) : Int).toNat)] (fun _ => True) (fun _ => False) rfl rfl ?aP (fun _ hk => hk.elim) ?aF ?aO ?aB ?aS ?aL ?_; (case aP => exact rfl); (case aB => exact (by repeat (first | (with_reducible first | exact HB.out | apply below_alloc | apply pw_below_drewN | apply below_drew1 | refine below_set ?_ GE403.out | refine below_set ?_ GE405.out) | exact HB.out))); (case aF => exact (fun _ _ => trivial)); (case aO => exact (by (with_reducible repeat (first | apply Kd.R_alloc | apply Kd.R_drewN | apply Kd.R_drew)); exact HO_406001.out)); (case aS => exact (below_size (by repeat (first | (with_reducible first | exact HB.out | apply below_alloc | apply pw_below_drewN | apply below_drew1 | refine below_set ?_ GE403.out | refine below_set ?_ GE405.out) | exact HB.out)))); (case aL => have := LMc48.out; omega); intro v411 w51 ho hb hg hat; rw [← Ny410.out] at ho; have n0_ := Aside0.mk (blk_grown (g := gb403) (o := .cells #[.int .i64 x404000_3, .slice none 0 0] 58 (0, 0)) (by (with_reducible repeat (first | refine blk_drewN ?_ _ | refine blk_drew ?_ | refine blk_alloc ?_ _)); exact BK403.out) hg (Kd.R_ne HO_406001.out BK403.out (by decide))); have n1_ := Aside0.mk (blk_grown (g := gb405) (o := .cells #[.int .i64 t404, u406001] 58 (0, 0)) (by (with_reducible repeat (first | refine blk_drewN ?_ _ | refine blk_drew ?_ | refine blk_alloc ?_ _)); exact BK405.out) hg (Kd.R_ne HO_406001.out BK405.out (by decide))); have n2_ := Aside0.mk (hb); have n3_ := Aside0.mk (ho); clear BK403; clear BK405; clear HB; clear HO_406001; have BK403 := n0_; have BK405 := n1_; have HB := n2_; have HO412 := n3_; clear n0_ n1_ n2_ n3_; clear ho hb hg hat; obtain ⟨Ao52, co52, eo52⟩ := Kd.R_slice HO412.out; subst eo52; have hcz53_0 : w51.cell? ⟨gb405, 0, none⟩ = some (.int .i64 t404) := (blk_cell BK405.out 0).trans rfl; have hcz53_1 : w51.cell? ⟨gb405, 1, none⟩ = some (u406001) := (blk_cell BK405.out 1).trans rfl; have hfz53_0 := blk_frozen BK405.out 0; have hfz53_1 := blk_frozen BK405.out 1))
                                        go_roundg k3
                                        case measure => have := HK1.out; have := HJ28.out; have := HK3.out; omega
                                        case rel => exact ⟨(wrap64 (x8_3 + 1)), (x404000_3), (y410), (.slice Ao52 y410.length co52), (by first | rfl | (simp; done) | (simp [*]; done)), H', ⟨by have := HK1.out; have := HJ28.out; have := HK3.out; omega⟩, ⟨by (with_reducible repeat (first | apply Kd.R_alloc | apply Kd.R_drewN | apply Kd.R_drew)); exact Kd.R_mono (Kd.R_far (p := ⟨gb405, 1, none⟩) (Kd.R_types HO412.out BK405.out (by decide)) (fun _ hk => hk.2) (.slice Ao52 y410.length co52)) (fun _ hk => trivial)⟩, ⟨by (with_reducible repeat (first | refine blk_drewN ?_ _ | refine blk_drew ?_ | refine blk_alloc ?_ _)); refine blk_far ?_ NB403_405.out _; (with_reducible repeat (first | refine blk_drewN ?_ _ | refine blk_drew ?_ | refine blk_alloc ?_ _)); exact BK403.out⟩, ⟨by (with_reducible repeat (first | refine blk_drewN ?_ _ | refine blk_drew ?_ | refine blk_alloc ?_ _)); refine blk_put (cs := #[.int .i64 t404, u406001]) ?_ 1 _ rfl; (with_reducible repeat (first | refine blk_drewN ?_ _ | refine blk_drew ?_ | refine blk_alloc ?_ _)); exact BK405.out⟩, ⟨by repeat (first | (with_reducible first | exact HB.out | apply below_alloc | apply pw_below_drewN | apply below_drew1 | refine below_set ?_ GE403.out | refine below_set ?_ GE405.out) | exact HB.out)⟩⟩
                                      · rw [if_neg c48] at H
                                        exact absurd H (by simp)
                                    · rw [if_neg c47] at H
                                      have c47b0 : (t409 == 0) = false := beq_eq_false_iff_ne.mpr c47
                                      have c47b1 : (t409 != 0) = true := bne_iff_ne.mpr c47
                                      simp only [Option.some.injEq, Prod.mk.injEq] at H
                                      obtain ⟨rfl, rfl, rfl, rfl⟩ := H
                                      have hnb54 := NB405_403.out
                                      have hnc54 := NB403_405.out
                                      have hcz55_0 : wr.cell? ⟨gb405, 0, none⟩ = some (.int .i64 t404) := (blk_cell BK405.out 0).trans rfl
                                      have hcz55_1 : wr.cell? ⟨gb405, 1, none⟩ = some (u406001) := (blk_cell BK405.out 1).trans rfl
                                      have hfz55_0 := blk_frozen BK405.out 0
                                      have hfz55_1 := blk_frozen BK405.out 1
                                      go_wp2_with (first | ((with_reducible refine gate_callee (f := 20) rfl ?_); refine goesL_ (some 98) rfl rfl Try.func20 (by kernel_rfl) rfl #[.string (a0.extract ((ji42) : Int).toNat ((wrap64 ((ji42) + t404)) : Int).toNat)] rfl (by (try simp only [List.map_toArray, List.map_cons, List.map_nil]); first | done | (simp only [hji42]; rfl) | rfl | (simp only [List.length_drop, List.length_take]; rfl)) ?_; (with_reducible refine (ringworkref06_Wrong.calls k3 (a0.extract ((ji42) : Int).toNat ((wrap64 ((ji42) + t404)) : Int).toNat) t408 t409 _ A46.out).mono ?_); rintro e w' ⟨rfl, ⟨nd, rfl⟩⟩; refine ⟨_, rfl, ?_⟩; (try (rw [drewN_self wr]; generalize hq_ : World.drewN wr _ = wr; have n0_ : Aside0 (Kd.R Kd.string 9 wr w.heap.size (fun _ => True) u406001 x406001_3) := ⟨by rw [← hq_]; exact (by (with_reducible repeat (first | apply Kd.R_alloc | apply Kd.R_drewN | apply Kd.R_drew)); exact HO_406001.out)⟩; have n1_ : Aside0 (wr.heap[gb403]? = some (.cells #[.int .i64 x404000_3, .slice none 0 0] 58 (0, 0))) := ⟨by rw [← hq_]; exact (by (with_reducible repeat (first | refine blk_drewN ?_ _ | refine blk_drew ?_ | refine blk_alloc ?_ _)); exact BK403.out)⟩; have n2_ : Aside0 (wr.heap[gb405]? = some (.cells #[.int .i64 t404, u406001] 58 (0, 0))) := ⟨by rw [← hq_]; exact (by (with_reducible repeat (first | refine blk_drewN ?_ _ | refine blk_drew ?_ | refine blk_alloc ?_ _)); exact BK405.out)⟩; have n3_ : Aside0 (Below w.heap.size w wr) := ⟨by rw [← hq_]; exact (by repeat (first | (with_reducible first | exact HB.out | apply below_alloc | apply pw_below_drewN | apply below_drew1 | refine below_set ?_ GE403.out | refine below_set ?_ GE405.out) | exact HB.out))⟩; clear HO_406001 BK403 BK405 HB hq_; have HO_406001 := n0_; have BK403 := n1_; have BK405 := n2_; have HB := n3_; clear n0_ n1_ n2_ n3_)); have hcz56_0 : wr.cell? ⟨gb403, 0, none⟩ = some (.int .i64 x404000_3) := (blk_cell BK403.out 0).trans rfl; have hcz56_1 : wr.cell? ⟨gb403, 1, none⟩ = some (.slice none 0 0) := (blk_cell BK403.out 1).trans rfl; have hfz56_0 := blk_frozen BK403.out 0; have hfz56_1 := blk_frozen BK403.out 1))
                                      refine bodyPost_ret (results_ctt rfl _ _ gb403 58 #[.int .i64 0, .slice none 0 0] (0, 0) _ rfl (by (with_reducible repeat (first | refine blk_drewN ?_ _ | refine blk_drew ?_ | refine blk_alloc ?_ _)); refine blk_put (cs := #[.int .i64 0, .slice none 0 0]) ?_ 1 _ rfl; (with_reducible repeat (first | refine blk_drewN ?_ _ | refine blk_drew ?_ | refine blk_alloc ?_ _)); refine blk_put (cs := #[.int .i64 x404000_3, .slice none 0 0]) ?_ 0 _ rfl; (with_reducible repeat (first | refine blk_drewN ?_ _ | refine blk_drew ?_ | refine blk_alloc ?_ _)); exact BK403.out) Try.underlying58 rfl (by kernel_rfl)) rfl ?_
                                      exact ⟨_, by first | rfl | (simp [errW_none, errW_some] <;> rfl) | (simp only [← hji42]; first | rfl | (simp [errW_none, errW_some] <;> rfl)) | (simp [*, errW_none, errW_some] <;> rfl), by first | exact Kd.R_nil _ _ _ _ _ | exact Kd.N_nil _ _ _ _ _ | exact Kd.V_nil _ _ _ _ _ | exact Kd.Q_nil _ _ _ _ _ | exact Kd.S_nil _ _ _ _ _, by repeat (first | (with_reducible first | exact HB.out | apply below_alloc | apply pw_below_drewN | apply below_drew1 | refine below_set ?_ GE403.out | refine below_set ?_ GE405.out) | exact HB.out)⟩
                                  · rw [if_neg c45] at H
                                    exact absurd H (by simp)
                                · rw [if_neg c44] at H
                                  exact absurd H (by simp)
                              · rw [if_neg c43] at H
                                exact absurd H (by simp)
                          · rw [if_neg c37] at H
                            have c37b0 : decide (x8_3 < t407) = false := decide_eq_false c37
                            clear c37
                            have H' := Aside0.mk H
                            clear H
                            go_wp2
                            go_loopg [13] k3 (fun kq v13 w' => ∃ (x13_4 : Int) (x404000_4 : Int), v13 = .int .i64 x13_4 ∧ Aside0 (ringworkref07_Load.l2 kq a0 t407 x13_4 t404 x406001_3 = some (r1, r2, r3, r4)) ∧ Aside0 (kq ≤ k3) ∧ Aside0 (Kd.R Kd.string 9 w' w.heap.size (fun _ => True) u406001 x406001_3) ∧ Aside0 (w'.heap[gb403]? = some (.cells #[.int .i64 x404000_4, (.slice none 0 0)] 58 (0, 0))) ∧ Aside0 (w'.heap[gb405]? = some (.cells #[.int .i64 t404, u406001] 58 (0, 0))) ∧ Aside0 (Below w.heap.size w w'))
                            case atStart => exact ⟨(0), (x404000_3), (by first | rfl | (simp; done) | (simp [*]; done)), H', ⟨Nat.le_refl _⟩, ⟨by (with_reducible repeat (first | apply Kd.R_alloc | apply Kd.R_drewN | apply Kd.R_drew)); exact HO_406001.out⟩, ⟨by (with_reducible repeat (first | refine blk_drewN ?_ _ | refine blk_drew ?_ | refine blk_alloc ?_ _)); exact BK403.out⟩, ⟨by (with_reducible repeat (first | refine blk_drewN ?_ _ | refine blk_drew ?_ | refine blk_alloc ?_ _)); exact BK405.out⟩, ⟨by repeat (first | (with_reducible first | exact HB.out | apply below_alloc | apply pw_below_drewN | apply below_drew1 | refine below_set ?_ GE403.out | refine below_set ?_ GE405.out) | exact HB.out)⟩⟩
                            case round =>
                              clear H'
                              try clear c1
                              try clear p1
                              try clear q1
                              try clear hx1
                              try clear c2
                              try clear c2b0
                              try clear c2b1
                              try clear p2
                              try clear c3
                              try clear c4
                              try clear c5
                              try clear c6
                              try clear c6b0
                              try clear p6
                              try clear c7
                              try clear c7b0
                              try clear c7b1
                              try clear c10
                              try clear c10b0
                              try clear c11
                              try clear c11b0
                              try clear p12
                              try clear q12
                              try clear hx12
                              try clear p13
                              try clear q13
                              try clear hx13
                              try clear c14
                              try clear c14b0
                              try clear c14b1
                              try clear c18
                              try clear c18b0
                              try clear c18b1
                              try clear c20
                              try clear c22
                              try clear c23
                              try clear c23b0
                              try clear c23b1
                              try clear c25
                              try clear c31
                              try clear c33
                              try clear c33b0
                              try clear c34
                              try clear c35
                              try clear c37
                              try clear c37b0
                              try clear c38
                              try clear c38b0
                              try clear c39
                              try clear c43
                              try clear c43b0
                              try clear c43b1
                              try clear c44
                              try clear c44b0
                              try clear c44b1
                              try clear c45
                              try clear c45b0
                              try clear c45b1
                              try clear c47
                              try clear c47b0
                              try clear c47b1
                              try clear c48
                              try clear c49
                              try clear c50
                              try clear c54
                              try clear hcz17_0
                              try clear hcz17_1
                              try clear hcz19_0
                              try clear hcz19_1
                              try clear hcz26_0
                              try clear hcz26_1
                              try clear hcz27_0
                              try clear hcz27_1
                              try clear hcz32_0
                              try clear hcz32_1
                              try clear hcz36_0
                              try clear hcz36_1
                              try clear hcz40_0
                              try clear hcz40_1
                              try clear hcz41_0
                              try clear hcz41_1
                              try clear hcz4_0
                              try clear hcz4_1
                              try clear hcz50_0
                              try clear hcz50_1
                              try clear hcz53_0
                              try clear hcz53_1
                              try clear hcz55_0
                              try clear hcz55_1
                              try clear hcz56_0
                              try clear hcz56_1
                              try clear hcz9_0
                              try clear hcz9_1
                              try clear hfz17_0
                              try clear hfz17_1
                              try clear hfz19_0
                              try clear hfz19_1
                              try clear hfz26_0
                              try clear hfz26_1
                              try clear hfz27_0
                              try clear hfz27_1
                              try clear hfz32_0
                              try clear hfz32_1
                              try clear hfz36_0
                              try clear hfz36_1
                              try clear hfz40_0
                              try clear hfz40_1
                              try clear hfz41_0
                              try clear hfz41_1
                              try clear hfz4_0
                              try clear hfz4_1
                              try clear hfz50_0
                              try clear hfz50_1
                              try clear hfz53_0
                              try clear hfz53_1
                              try clear hfz55_0
                              try clear hfz55_1
                              try clear hfz56_0
                              try clear hfz56_1
                              try clear hfz9_0
                              try clear hfz9_1
                              try clear p1
                              try clear p12
                              try clear p13
                              try clear p2
                              try clear p6
                              try clear q1
                              try clear q12
                              try clear q13
                              obtain ⟨x13_4, x404000_4, rfl, HA, HK4, HO_406001, BK403, BK405, HB⟩ := hrel
                              cases gk with
                              | zero => exact absurd HA.out (by simp [ringworkref07_Load.l2])
                              | succ k4 =>
                                have H := HA.out
                                clear HA
                                simp only [ringworkref07_Load.l2] at H
                                by_cases c57 : x13_4 < t407
                                · rw [if_pos c57] at H
                                  have c57b0 : decide (x13_4 < t407) = true := decide_eq_true c57
                                  clear c57
                                  replace H := Option.bind_eq_some_iff.mp H
                                  obtain ⟨⟨t413, t414⟩, A580, H⟩ := H
                                  replace H : (if 0 ≤ (wrap64 (8 + x13_4)) then (if (wrap64 (8 + x13_4)) < (a0.size : Int) then (if (wrap64 (bt a0 (wrap64 (8 + x13_4)))) = t413 then (ringworkref07_Load.l2 k4 a0 t407 (wrap64 (x13_4 + 1)) t404 x406001_3) else (some (0, ([] : List ByteArray), wrap64 (8 + x13_4), 12))) else (none)) else (none)) = some (r1, r2, r3, r4) := H
                                  have A58 := Aside0.mk A580
                                  clear A580
                                  obtain ⟨ji59, hji59⟩ : ∃ j_ : Int, (wrap64 (8 + x13_4)) = j_ := ⟨_, rfl⟩
                                  replace H : (if 0 ≤ (ji59) then (if (ji59) < (a0.size : Int) then (if (wrap64 (bt a0 (ji59))) = t413 then (ringworkref07_Load.l2 k4 a0 t407 (wrap64 (x13_4 + 1)) t404 x406001_3) else (some (0, ([] : List ByteArray), ji59, 12))) else (none)) else (none)) = some (r1, r2, r3, r4) := by first | (rw [hji59] at H; exact H) | (simp only [hji59] at H ⊢; exact H)
                                  (try rw [hji59] at A58)
                                  have hji59w : (IntKind.i64.wrap (8 + x13_4)) = ji59 := (i64_w _).trans hji59
                                  by_cases c60 : 0 ≤ (ji59)
                                  · rw [if_pos c60] at H
                                    have c60b0 : decide (0 ≤ (ji59)) = true := decide_eq_true c60
                                    clear c60
                                    by_cases c61 : (ji59) < (a0.size : Int)
                                    · rw [if_pos c61] at H
                                      have c61b0 : decide ((ji59) < (a0.size : Int)) = true := decide_eq_true c61
                                      clear c61
                                      by_cases c63 : (wrap64 (bt a0 (ji59))) = t413
                                      · rw [if_pos c63] at H
                                        have c63b0 : ((wrap64 (bt a0 (ji59))) == t413) = true := beq_iff_eq.mpr c63
                                        have c63b1 : ((wrap64 (bt a0 (ji59))) != t413) = false := bne_eq_false_iff_eq.mpr c63
                                        clear c63
                                        have H' := Aside0.mk H
                                        clear H
                                        have hnb64 := NB405_403.out
                                        have hnc64 := NB403_405.out
                                        have hcz65_0 : wr.cell? ⟨gb405, 0, none⟩ = some (.int .i64 t404) := (blk_cell BK405.out 0).trans rfl
                                        have hcz65_1 : wr.cell? ⟨gb405, 1, none⟩ = some (u406001) := (blk_cell BK405.out 1).trans rfl
                                        have hfz65_0 := blk_frozen BK405.out 0
                                        have hfz65_1 := blk_frozen BK405.out 1
                                        obtain ⟨Ao66, co66, eo66⟩ := Kd.R_slice HO_406001.out
                                        subst eo66
                                        go_wp2_with (first | ((with_reducible refine gate_callee (f := 81) rfl ?_); refine goesL_ (some 121) rfl rfl Try.func81 (by kernel_rfl) rfl #[.agg #[.int .i64 t404, .slice Ao66 x406001_3.length co66], .int .i64 x13_4] rfl (by (try simp only [List.map_toArray, List.map_cons, List.map_nil]); first | done | rfl | (simp only [List.length_drop, List.length_take]; rfl)) ?_; (with_reducible refine (ringworkref07_Area_Level.calls k4 t404 _ _ x406001_3 x13_4 t413 t414 _ ?side1 ?side2 A58.out).mono ?_); (case side1 => repeat (first | exact (Kd.R_reads' HO_406001.out).2.2 | (with_reducible refine Kd.C_alloc ?_ _) | (with_reducible refine Kd.C_drewN ?_ _) | (with_reducible refine Kd.C_drew ?_))); (case side2 => exact (Kd.R_reads' HO_406001.out).2.1); rintro e w67 ⟨rfl, hb⟩; refine ⟨_, rfl, ?_⟩; have n0_ := Aside0.mk (Kd.R_below (by (with_reducible repeat (first | apply Kd.R_alloc | apply Kd.R_drewN | apply Kd.R_drew)); exact HO_406001.out) hb); have n1_ := Aside0.mk (blk_below (g := gb403) (o := .cells #[.int .i64 x404000_4, .slice none 0 0] 58 (0, 0)) (by (with_reducible repeat (first | refine blk_drewN ?_ _ | refine blk_drew ?_ | refine blk_alloc ?_ _)); exact BK403.out) hb); have n2_ := Aside0.mk (blk_below (g := gb405) (o := .cells #[.int .i64 t404, .slice Ao66 x406001_3.length co66] 58 (0, 0)) (by (with_reducible repeat (first | refine blk_drewN ?_ _ | refine blk_drew ?_ | refine blk_alloc ?_ _)); exact BK405.out) hb); have n3_ := Aside0.mk (below_step (by repeat (first | (with_reducible first | exact HB.out | apply below_alloc | apply pw_below_drewN | apply below_drew1 | refine below_set ?_ GE403.out | refine below_set ?_ GE405.out) | exact HB.out)) hb); clear HO_406001; clear BK403; clear BK405; clear HB; have HO_406001 := n0_; have BK403 := n1_; have BK405 := n2_; have HB := n3_; clear n0_ n1_ n2_ n3_; (try clear hb); (try clear hb2); (try clear hk); (try clear hi); have p62 : 0 ≤ ((ji59) : Int) := of_decide_eq_true (by first | (with_reducible assumption) | assumption); have q62 : (ji59) < (a0.size : Int) := of_decide_eq_true (by first | (with_reducible assumption) | assumption); have hx62 := bt_at a0 (ji59); replace p62 := eq_true p62; replace q62 := eq_true q62))
                                        go_roundg k4
                                        case measure => have := HK1.out; have := HJ28.out; have := HK3.out; have := HK4.out; omega
                                        case rel => exact ⟨(wrap64 (x13_4 + 1)), (x404000_4), (by first | rfl | (simp; done) | (simp [*]; done)), H', ⟨by have := HK1.out; have := HJ28.out; have := HK3.out; have := HK4.out; omega⟩, ⟨by (with_reducible repeat (first | apply Kd.R_alloc | apply Kd.R_drewN | apply Kd.R_drew)); exact HO_406001.out⟩, ⟨by (with_reducible repeat (first | refine blk_drewN ?_ _ | refine blk_drew ?_ | refine blk_alloc ?_ _)); exact BK403.out⟩, ⟨by (with_reducible repeat (first | refine blk_drewN ?_ _ | refine blk_drew ?_ | refine blk_alloc ?_ _)); exact BK405.out⟩, ⟨by repeat (first | (with_reducible first | exact HB.out | apply below_alloc | apply pw_below_drewN | apply below_drew1 | refine below_set ?_ GE403.out | refine below_set ?_ GE405.out) | exact HB.out)⟩⟩
                                      · rw [if_neg c63] at H
                                        have c63b0 : ((wrap64 (bt a0 (ji59))) == t413) = false := beq_eq_false_iff_ne.mpr c63
                                        have c63b1 : ((wrap64 (bt a0 (ji59))) != t413) = true := bne_iff_ne.mpr c63
                                        simp only [Option.some.injEq, Prod.mk.injEq] at H
                                        obtain ⟨rfl, rfl, rfl, rfl⟩ := H
                                        have hnb68 := NB405_403.out
                                        have hnc68 := NB403_405.out
                                        have hcz69_0 : wr.cell? ⟨gb405, 0, none⟩ = some (.int .i64 t404) := (blk_cell BK405.out 0).trans rfl
                                        have hcz69_1 : wr.cell? ⟨gb405, 1, none⟩ = some (u406001) := (blk_cell BK405.out 1).trans rfl
                                        have hfz69_0 := blk_frozen BK405.out 0
                                        have hfz69_1 := blk_frozen BK405.out 1
                                        obtain ⟨Ao70, co70, eo70⟩ := Kd.R_slice HO_406001.out
                                        subst eo70
                                        go_wp2_with (first | ((with_reducible refine gate_callee (f := 81) rfl ?_); refine goesL_ (some 121) rfl rfl Try.func81 (by kernel_rfl) rfl #[.agg #[.int .i64 t404, .slice Ao70 x406001_3.length co70], .int .i64 x13_4] rfl (by (try simp only [List.map_toArray, List.map_cons, List.map_nil]); first | done | rfl | (simp only [List.length_drop, List.length_take]; rfl)) ?_; (with_reducible refine (ringworkref07_Area_Level.calls k4 t404 _ _ x406001_3 x13_4 t413 t414 _ ?side1 ?side2 A58.out).mono ?_); (case side1 => repeat (first | exact (Kd.R_reads' HO_406001.out).2.2 | (with_reducible refine Kd.C_alloc ?_ _) | (with_reducible refine Kd.C_drewN ?_ _) | (with_reducible refine Kd.C_drew ?_))); (case side2 => exact (Kd.R_reads' HO_406001.out).2.1); rintro e w71 ⟨rfl, hb⟩; refine ⟨_, rfl, ?_⟩; have n0_ := Aside0.mk (Kd.R_below (by (with_reducible repeat (first | apply Kd.R_alloc | apply Kd.R_drewN | apply Kd.R_drew)); exact HO_406001.out) hb); have n1_ := Aside0.mk (blk_below (g := gb403) (o := .cells #[.int .i64 x404000_4, .slice none 0 0] 58 (0, 0)) (by (with_reducible repeat (first | refine blk_drewN ?_ _ | refine blk_drew ?_ | refine blk_alloc ?_ _)); exact BK403.out) hb); have n2_ := Aside0.mk (blk_below (g := gb405) (o := .cells #[.int .i64 t404, .slice Ao70 x406001_3.length co70] 58 (0, 0)) (by (with_reducible repeat (first | refine blk_drewN ?_ _ | refine blk_drew ?_ | refine blk_alloc ?_ _)); exact BK405.out) hb); have n3_ := Aside0.mk (below_step (by repeat (first | (with_reducible first | exact HB.out | apply below_alloc | apply pw_below_drewN | apply below_drew1 | refine below_set ?_ GE403.out | refine below_set ?_ GE405.out) | exact HB.out)) hb); clear HO_406001; clear BK403; clear BK405; clear HB; have HO_406001 := n0_; have BK403 := n1_; have BK405 := n2_; have HB := n3_; clear n0_ n1_ n2_ n3_; (try clear hb); (try clear hb2); (try clear hk); (try clear hi); have p62 : 0 ≤ ((ji59) : Int) := of_decide_eq_true (by first | (with_reducible assumption) | assumption); have q62 : (ji59) < (a0.size : Int) := of_decide_eq_true (by first | (with_reducible assumption) | assumption); have hx62 := bt_at a0 (ji59); replace p62 := eq_true p62; replace q62 := eq_true q62; have hcz72_0 : w71.cell? ⟨gb403, 0, none⟩ = some (.int .i64 x404000_4) := (blk_cell BK403.out 0).trans rfl; have hcz72_1 : w71.cell? ⟨gb403, 1, none⟩ = some (.slice none 0 0) := (blk_cell BK403.out 1).trans rfl; have hfz72_0 := blk_frozen BK403.out 0; have hfz72_1 := blk_frozen BK403.out 1))
                                        refine bodyPost_ret (results_ctt rfl _ _ gb403 58 #[.int .i64 0, .slice none 0 0] (0, 0) _ rfl (by (with_reducible repeat (first | refine blk_drewN ?_ _ | refine blk_drew ?_ | refine blk_alloc ?_ _)); refine blk_put (cs := #[.int .i64 0, .slice none 0 0]) ?_ 1 _ rfl; (with_reducible repeat (first | refine blk_drewN ?_ _ | refine blk_drew ?_ | refine blk_alloc ?_ _)); refine blk_put (cs := #[.int .i64 x404000_4, .slice none 0 0]) ?_ 0 _ rfl; (with_reducible repeat (first | refine blk_drewN ?_ _ | refine blk_drew ?_ | refine blk_alloc ?_ _)); exact BK403.out) Try.underlying58 rfl (by kernel_rfl)) rfl ?_
                                        exact ⟨_, by first | rfl | (simp [errW_none, errW_some] <;> rfl) | (simp only [← hji59]; first | rfl | (simp [errW_none, errW_some] <;> rfl)) | (simp [*, errW_none, errW_some] <;> rfl), by first | exact Kd.R_nil _ _ _ _ _ | exact Kd.N_nil _ _ _ _ _ | exact Kd.V_nil _ _ _ _ _ | exact Kd.Q_nil _ _ _ _ _ | exact Kd.S_nil _ _ _ _ _, by repeat (first | (with_reducible first | exact HB.out | apply below_alloc | apply pw_below_drewN | apply below_drew1 | refine below_set ?_ GE403.out | refine below_set ?_ GE405.out) | exact HB.out)⟩
                                    · rw [if_neg c61] at H
                                      exact absurd H (by simp)
                                  · rw [if_neg c60] at H
                                    exact absurd H (by simp)
                                · rw [if_neg c57] at H
                                  have c57b0 : decide (x13_4 < t407) = false := decide_eq_false c57
                                  clear c57
                                  by_cases c73 : (a0.size : Int) > (wrap64 ((wrap64 (8 + t407)) + (wrap64 (t407 * t404))))
                                  · rw [if_pos c73] at H
                                    have c73b0 : decide ((wrap64 ((wrap64 (8 + t407)) + (wrap64 (t407 * t404)))) < (a0.size : Int)) = true := decide_eq_true c73
                                    clear c73
                                    simp only [Option.some.injEq, Prod.mk.injEq] at H
                                    obtain ⟨rfl, rfl, rfl, rfl⟩ := H
                                    have hnb74 := NB405_403.out
                                    have hnc74 := NB403_405.out
                                    have hcz75_0 : wr.cell? ⟨gb405, 0, none⟩ = some (.int .i64 t404) := (blk_cell BK405.out 0).trans rfl
                                    have hcz75_1 : wr.cell? ⟨gb405, 1, none⟩ = some (u406001) := (blk_cell BK405.out 1).trans rfl
                                    have hfz75_0 := blk_frozen BK405.out 0
                                    have hfz75_1 := blk_frozen BK405.out 1
                                    try go_wp2
                                    have n0_ := Aside0.mk (Kd.R_drew HO_406001.out)
                                    have n1_ := Aside0.mk (blk_drew BK403.out)
                                    have n2_ := Aside0.mk (blk_drew BK405.out)
                                    have n3_ := Aside0.mk (below_drew1 HB.out)
                                    clear HO_406001
                                    clear BK403
                                    clear BK405
                                    clear HB
                                    have HO_406001 := n0_
                                    have BK403 := n1_
                                    have BK405 := n2_
                                    have HB := n3_
                                    clear n0_ n1_ n2_ n3_
                                    refine start_ (n := 11) (S := fun w' => w'.cell? ⟨gb405, 0, none⟩ = some (.int .i64 t404) ∧ w'.cell? ⟨gb405, 1, none⟩ = some (u406001)) (ds := []) #[false, false, false, false, false, false, false, false, false, false, false] (by kernel_rfl) rfl rfl ⟨(blk_cell BK405.out 0).trans rfl, (blk_cell BK405.out 1).trans rfl⟩ (fun hHeld => ?_); refine with_tabW ringworkref07_Load.tab36 ringworkref07_Load.bits36 (fun HT_ HW_ => ?_)
                                    generalize wr.drew = w76 at HO_406001 BK403 BK405 HB hHeld ⊢
                                    refine pure_ (i := 0) (N := some 144) (v := ?_) (a' := ?_) #[true, false, false, false, false, false, false, false, false, false, false] rfl rfl (any_of HT_.out (by kernel_rfl)) (fun _ _ _ h => h) (Or.inl ⟨by rfl, ?_⟩) ?_ ?_
                                    rotate_left
                                    · intro w'
                                      go_simp
                                      with_reducible rfl
                                    rotate_left
                                    · simp only [Act.put, List.setIfInBounds_toArray, List.set_cons_zero, List.set_cons_succ, i64_w, i32_w]
                                      rfl
                                    refine pure_ (i := 1) (N := some 145) (v := ?_) (a' := ?_) #[true, true, false, false, false, false, false, false, false, false, false] rfl rfl (any_of HT_.out (by kernel_rfl)) (fun _ _ _ h => h) (Or.inl ⟨by rfl, ?_⟩) ?_ ?_
                                    rotate_left
                                    · intro w'
                                      go_simp
                                      with_reducible rfl
                                    rotate_left
                                    · simp only [Act.put, List.setIfInBounds_toArray, List.set_cons_zero, List.set_cons_succ, i64_w, i32_w]
                                      rfl
                                    refine pure_ (i := 2) (N := some 146) (v := ?_) (a' := ?_) #[true, true, true, false, false, false, false, false, false, false, false] rfl rfl (any_of HT_.out (by kernel_rfl)) (fun _ _ _ h => h) (Or.inl ⟨by rfl, ?_⟩) ?_ ?_
                                    rotate_left
                                    · intro w'
                                      go_simp
                                      with_reducible rfl
                                    rotate_left
                                    · simp only [Act.put, List.setIfInBounds_toArray, List.set_cons_zero, List.set_cons_succ, i64_w, i32_w]
                                      rfl
                                    refine pure_ (i := 3) (N := some 147) (v := ?_) (a' := ?_) #[true, true, true, true, false, false, false, false, false, false, false] rfl rfl (any_of HT_.out (by kernel_rfl)) (fun _ _ _ h => h) (Or.inl ⟨by rfl, ?_⟩) ?_ ?_
                                    rotate_left
                                    · intro w'
                                      go_simp
                                      with_reducible rfl
                                    rotate_left
                                    · simp only [Act.put, List.setIfInBounds_toArray, List.set_cons_zero, List.set_cons_succ, i64_w, i32_w]
                                      rfl
                                    refine pure_ (i := 4) (N := some 148) (v := ?_) (a' := ?_) #[true, true, true, true, true, false, false, false, false, false, false] rfl rfl (any_of HT_.out (by kernel_rfl)) (fun _ _ _ h => h) (Or.inl ⟨by rfl, ?_⟩) ?_ ?_
                                    rotate_left
                                    · intro w'
                                      go_simp
                                      with_reducible rfl
                                    rotate_left
                                    · simp only [Act.put, List.setIfInBounds_toArray, List.set_cons_zero, List.set_cons_succ, i64_w, i32_w]
                                      rfl
                                    refine take_ (i := 5) (N := some 149) (v := ?_) (a' := ?_) #[true, true, true, true, true, true, false, false, false, false, false] rfl rfl (take_ofW HT_.out HW_.out (by kernel_rfl)) (fun _ _ _ h => h) (Or.inl ⟨by rfl, ?_⟩) hHeld ?_ ?_
                                    rotate_left
                                    · rintro w' ⟨s0, s1⟩
                                      go_simp
                                      with_reducible rfl
                                    rotate_left
                                    · simp only [Act.put, List.setIfInBounds_toArray, List.set_cons_zero, List.set_cons_succ, i64_w, i32_w]
                                      rfl
                                    refine pure_ (i := 6) (N := some 150) (v := ?_) (a' := ?_) #[true, true, true, true, true, true, true, false, false, false, false] rfl rfl (any_of HT_.out (by kernel_rfl)) (fun _ _ _ h => h) (Or.inl ⟨by rfl, ?_⟩) ?_ ?_
                                    rotate_left
                                    · intro w'
                                      go_simp
                                      with_reducible rfl
                                    rotate_left
                                    · simp only [Act.put, List.setIfInBounds_toArray, List.set_cons_zero, List.set_cons_succ, i64_w, i32_w]
                                      rfl
                                    refine pure_ (i := 7) (N := some 151) (v := ?_) (a' := ?_) #[true, true, true, true, true, true, true, true, false, false, false] rfl rfl (any_of HT_.out (by kernel_rfl)) (fun _ _ _ h => h) (Or.inl ⟨by rfl, ?_⟩) ?_ ?_
                                    rotate_left
                                    · intro w'
                                      go_simp
                                      with_reducible rfl
                                    rotate_left
                                    · simp only [Act.put, List.setIfInBounds_toArray, List.set_cons_zero, List.set_cons_succ, i64_w, i32_w]
                                      rfl
                                    refine one_ (i := 8) (N := none) #[true, true, true, true, true, true, true, true, true, false, false] rfl rfl (one_of HT_.out (by kernel_rfl)) (by decide) (fun K hK => ?_)
                                    have hs77 : w76.cell? ⟨gb403, 0, none⟩ = some (.int .i64 x404000_4) := (blk_cell BK403.out 0).trans rfl
                                    have hfs77 := blk_frozen BK403.out 0
                                    have hns77_1 := NB405_403.out
                                    have hms77_1 := NB403_405.out
                                    have hs78 : w76.cell? ⟨gb403, 1, none⟩ = some (.slice none 0 0) := (blk_cell BK403.out 1).trans rfl
                                    have hfs78 := blk_frozen BK403.out 1
                                    have hns78_1 := NB405_403.out
                                    have hms78_1 := NB403_405.out
                                    refine skip_ (w1 := ?_) (by rfl) rfl ?_ ?_
                                    rotate_left
                                    · go_simp
                                      rfl
                                    refine hK.out _ _ ⟨((cell_far (p := ⟨gb403, _, none⟩) NB405_403.out _).trans (((cell_far (p := ⟨gb403, _, none⟩) NB405_403.out _).trans (hHeld.1)))), ((cell_far (p := ⟨gb403, _, none⟩) NB405_403.out _).trans (((cell_far (p := ⟨gb403, _, none⟩) NB405_403.out _).trans (hHeld.2))))⟩ (fun hHeld => ?_)
                                    clear hK K
                                    refine pure_ (i := 9) (N := some 3) (v := ?_) (a' := ?_) #[true, true, true, true, true, true, true, true, true, true, false] rfl rfl (any_of HT_.out (by kernel_rfl)) (fun _ _ _ h => h) (Or.inl ⟨by rfl, ?_⟩) ?_ ?_
                                    rotate_left
                                    · intro w'
                                      go_simp
                                      with_reducible rfl
                                    rotate_left
                                    · simp only [Act.put, List.setIfInBounds_toArray, List.set_cons_zero, List.set_cons_succ, i64_w, i32_w]
                                      rfl
                                    refine pure_ (i := 10) (N := some 4) (v := ?_) (a' := ?_) #[true, true, true, true, true, true, true, true, true, true, true] rfl rfl (any_of HT_.out (by kernel_rfl)) (fun _ _ _ h => h) (Or.inl ⟨by rfl, ?_⟩) ?_ ?_
                                    rotate_left
                                    · intro w'
                                      go_simp
                                      with_reducible rfl
                                    rotate_left
                                    · simp only [Act.put, List.setIfInBounds_toArray, List.set_cons_zero, List.set_cons_succ, i64_w, i32_w]
                                      rfl
                                    refine done_ (done_of HT_.out (by kernel_rfl)) ?_
                                    try go_wp2
                                    refine bodyPost_ret (results_ctt rfl _ _ gb403 58 #[.int .i64 0, .slice none 0 0] (0, 0) _ rfl (by (with_reducible repeat (first | refine blk_drewN ?_ _ | refine blk_drew ?_ | refine blk_alloc ?_ _)); refine blk_put (cs := #[.int .i64 0, .slice none 0 0]) ?_ 1 _ rfl; (with_reducible repeat (first | refine blk_drewN ?_ _ | refine blk_drew ?_ | refine blk_alloc ?_ _)); refine blk_put (cs := #[.int .i64 x404000_4, .slice none 0 0]) ?_ 0 _ rfl; (with_reducible repeat (first | refine blk_drewN ?_ _ | refine blk_drew ?_ | refine blk_alloc ?_ _)); exact BK403.out) Try.underlying58 rfl (by kernel_rfl)) rfl ?_
                                    exact ⟨_, by first | rfl | (simp [errW_none, errW_some] <;> rfl) | (simp [*, errW_none, errW_some] <;> rfl), by first | exact Kd.R_nil _ _ _ _ _ | exact Kd.N_nil _ _ _ _ _ | exact Kd.V_nil _ _ _ _ _ | exact Kd.Q_nil _ _ _ _ _ | exact Kd.S_nil _ _ _ _ _, by repeat (first | (with_reducible first | exact HB.out | apply below_alloc | apply pw_below_drewN | apply below_drew1 | refine below_set ?_ GE403.out | refine below_set ?_ GE405.out) | exact HB.out)⟩
                                  · rw [if_neg c73] at H
                                    have c73b0 : decide ((wrap64 ((wrap64 (8 + t407)) + (wrap64 (t407 * t404)))) < (a0.size : Int)) = false := decide_eq_false c73
                                    clear c73
                                    simp only [Option.some.injEq, Prod.mk.injEq] at H
                                    obtain ⟨rfl, rfl, rfl, rfl⟩ := H
                                    have hnb79 := NB405_403.out
                                    have hnc79 := NB403_405.out
                                    have hcz80_0 : wr.cell? ⟨gb405, 0, none⟩ = some (.int .i64 t404) := (blk_cell BK405.out 0).trans rfl
                                    have hcz80_1 : wr.cell? ⟨gb405, 1, none⟩ = some (u406001) := (blk_cell BK405.out 1).trans rfl
                                    have hfz80_0 := blk_frozen BK405.out 0
                                    have hfz80_1 := blk_frozen BK405.out 1
                                    have hcz81_0 : wr.cell? ⟨gb403, 0, none⟩ = some (.int .i64 x404000_4) := (blk_cell BK403.out 0).trans rfl
                                    have hcz81_1 : wr.cell? ⟨gb403, 1, none⟩ = some (.slice none 0 0) := (blk_cell BK403.out 1).trans rfl
                                    have hfz81_0 := blk_frozen BK403.out 0
                                    have hfz81_1 := blk_frozen BK403.out 1
                                    obtain ⟨Ao82, co82, eo82⟩ := Kd.R_slice HO_406001.out
                                    subst eo82
                                    go_wp2
                                    refine bodyPost_ret (results_ctt rfl _ _ gb403 58 #[.int .i64 t404, .slice Ao82 x406001_3.length co82] (0, 0) _ rfl (by (with_reducible repeat (first | refine blk_drewN ?_ _ | refine blk_drew ?_ | refine blk_alloc ?_ _)); refine blk_put (cs := #[.int .i64 t404, .slice none 0 0]) ?_ 1 _ rfl; (with_reducible repeat (first | refine blk_drewN ?_ _ | refine blk_drew ?_ | refine blk_alloc ?_ _)); refine blk_put (cs := #[.int .i64 x404000_4, .slice none 0 0]) ?_ 0 _ rfl; (with_reducible repeat (first | refine blk_drewN ?_ _ | refine blk_drew ?_ | refine blk_alloc ?_ _)); exact BK403.out) Try.underlying58 rfl (by kernel_rfl)) rfl ?_
                                    exact ⟨_, by first | rfl | (simp [errW_none, errW_some] <;> rfl) | (simp [*, errW_none, errW_some] <;> rfl), by (with_reducible repeat (first | apply Kd.R_alloc | apply Kd.R_drewN | apply Kd.R_drew)); exact Kd.R_mono (Kd.R_far (p := ⟨gb403, 1, none⟩) (Kd.R_far (p := ⟨gb403, 0, none⟩) (Kd.R_types HO_406001.out BK403.out (by decide)) (fun _ hk => hk.2) (.int .i64 t404)) (fun _ hk => hk.2) (.slice Ao82 x406001_3.length co82)) (fun _ hk => trivial), by repeat (first | (with_reducible first | exact HB.out | apply below_alloc | apply pw_below_drewN | apply below_drew1 | refine below_set ?_ GE403.out | refine below_set ?_ GE405.out) | exact HB.out)⟩
            · replace c22 := Bool.eq_false_iff.mpr c22
              subst c22
              have H1 : (some (0, ([] : List ByteArray), 4, 12)) = some (r1, r2, r3, r4) := by rw [if_neg (show ¬ (false = true) by decide)] at H; exact H
              clear H
              have H := H1
              clear H1
              simp only [Option.some.injEq, Prod.mk.injEq] at H
              obtain ⟨rfl, rfl, rfl, rfl⟩ := H
              go_wp2_with (first | ((with_reducible refine gate_callee (f := 59) rfl ?_); refine goesL_ (some 45) rfl rfl Try.func59 (by kernel_rfl) rfl #[.string a0, .int .i64 4] rfl (by (try simp only [List.map_toArray, List.map_cons, List.map_nil]); first | done | rfl | (simp only [List.length_drop, List.length_take]; rfl)) ?_; (with_reducible refine (ringworkref06_Two.calls a0 4 t404 _ A20.out).mono ?_); rintro e w' ⟨rfl, ⟨nd, rfl⟩⟩; refine ⟨_, rfl, ?_⟩; (try (rw [drewN_self wr]; generalize hq_ : World.drewN wr _ = wr; have n0_ : Aside0 (wr.heap[gb403]? = some (.cells #[.int .i64 x404000_1, .slice none 0 0] 58 (0, 0))) := ⟨by rw [← hq_]; exact (by (with_reducible repeat (first | refine blk_drewN ?_ _ | refine blk_drew ?_ | refine blk_alloc ?_ _)); exact BK403.out)⟩; have n1_ : Aside0 (Below w.heap.size w wr) := ⟨by rw [← hq_]; exact (by repeat (first | (with_reducible first | exact HB.out | apply below_alloc | apply pw_below_drewN | apply below_drew1 | refine below_set ?_ GE403.out) | exact HB.out))⟩; clear BK403 HB hq_; have BK403 := n0_; have HB := n1_; clear n0_ n1_))) | ((with_reducible refine gate_dst (N := 6) rfl ?_); refine box_event ?hg (N := 6) ?hd (cs := #[.int .i64 0, .slice none 0 0]) (t := 58) ?hr ?_; (case hd => rfl); (case hg => rfl); (case hr => first | (go_simp; done) | (go_simp; rfl)); intro gb405 hg w83 hbox hb; have n0_ := Aside0.mk (blk_below (g := gb403) (o := .cells #[.int .i64 x404000_1, .slice none 0 0] 58 (0, 0)) (by (with_reducible repeat (first | refine blk_drewN ?_ _ | refine blk_drew ?_ | refine blk_alloc ?_ _)); exact BK403.out) hb); have n1_ := Aside0.mk (below_step (by repeat (first | (with_reducible first | exact HB.out | apply below_alloc | apply pw_below_drewN | apply below_drew1 | refine below_set ?_ GE403.out) | exact HB.out)) hb); have n2_ := Aside0.mk (hbox); have n3_ := Aside0.mk ((by rw [hg]; exact (below_size (by repeat (first | (with_reducible first | exact HB.out | apply below_alloc | apply pw_below_drewN | apply below_drew1 | refine below_set ?_ GE403.out) | exact HB.out))) : w.heap.size ≤ gb405)); have n4_ := Aside0.mk ((by rw [hg]; exact (below_size (by repeat (first | (with_reducible first | exact HB.out | apply below_alloc | apply pw_below_drewN | apply below_drew1 | refine below_set ?_ GE403.out) | exact HB.out))) : w.heap.size ≤ gb405)); have n5_ := Aside0.mk ((by rw [hg]; exact Nat.ne_of_lt (blk_lt (g := gb403) (o := .cells #[.int .i64 x404000_1, .slice none 0 0] 58 (0, 0)) (by (with_reducible repeat (first | refine blk_drewN ?_ _ | refine blk_drew ?_ | refine blk_alloc ?_ _)); exact BK403.out)) : gb403 ≠ gb405)); have n6_ := Aside0.mk ((by rw [hg]; exact Nat.ne_of_gt (blk_lt (g := gb403) (o := .cells #[.int .i64 x404000_1, .slice none 0 0] 58 (0, 0)) (by (with_reducible repeat (first | refine blk_drewN ?_ _ | refine blk_drew ?_ | refine blk_alloc ?_ _)); exact BK403.out)) : gb405 ≠ gb403)); clear BK403; clear HB; have BK403 := n0_; have HB := n1_; have BK405 := n2_; have GW405 := n3_; have GE405 := n4_; have NB403_405 := n5_; have NB405_403 := n6_; clear n0_ n1_ n2_ n3_ n4_ n5_ n6_; clear hb hbox hg; have hnb84 := NB405_403.out; have hnc84 := NB403_405.out; have hcz85_0 : w83.cell? ⟨gb405, 0, none⟩ = some (.int .i64 0) := (blk_cell BK405.out 0).trans rfl; have hcz85_1 : w83.cell? ⟨gb405, 1, none⟩ = some (.slice none 0 0) := (blk_cell BK405.out 1).trans rfl; have hfz85_0 := blk_frozen BK405.out 0; have hfz85_1 := blk_frozen BK405.out 1) | ((with_reducible refine gate_callee (f := 50) rfl ?_); refine goesL_ (some 49) rfl rfl Try.func50 (by kernel_rfl) rfl #[.int .i64 t404] rfl (by (try simp only [List.map_toArray, List.map_cons, List.map_nil]); first | done | rfl | (simp only [List.length_drop, List.length_take]; rfl)) ?_; (with_reducible refine (ringworkref06_Size.calls t404 false _ A21.out).mono ?_); rintro e w' ⟨rfl, ⟨nd, rfl⟩⟩; refine ⟨_, rfl, ?_⟩; have hcz86_0 : w83.cell? ⟨gb403, 0, none⟩ = some (.int .i64 x404000_1) := (blk_cell BK403.out 0).trans rfl; have hcz86_1 : w83.cell? ⟨gb403, 1, none⟩ = some (.slice none 0 0) := (blk_cell BK403.out 1).trans rfl; have hfz86_0 := blk_frozen BK403.out 0; have hfz86_1 := blk_frozen BK403.out 1))
              refine bodyPost_ret (results_ctt rfl _ _ gb403 58 #[.int .i64 0, .slice none 0 0] (0, 0) _ rfl (by (with_reducible repeat (first | refine blk_drewN ?_ _ | refine blk_drew ?_ | refine blk_alloc ?_ _)); refine blk_put (cs := #[.int .i64 0, .slice none 0 0]) ?_ 1 _ rfl; (with_reducible repeat (first | refine blk_drewN ?_ _ | refine blk_drew ?_ | refine blk_alloc ?_ _)); refine blk_put (cs := #[.int .i64 x404000_1, .slice none 0 0]) ?_ 0 _ rfl; (with_reducible repeat (first | refine blk_drewN ?_ _ | refine blk_drew ?_ | refine blk_alloc ?_ _)); refine blk_far ?_ NB403_405.out _; (with_reducible repeat (first | refine blk_drewN ?_ _ | refine blk_drew ?_ | refine blk_alloc ?_ _)); refine blk_far ?_ NB403_405.out _; (with_reducible repeat (first | refine blk_drewN ?_ _ | refine blk_drew ?_ | refine blk_alloc ?_ _)); exact BK403.out) Try.underlying58 rfl (by kernel_rfl)) rfl ?_
              exact ⟨_, by first | rfl | (simp [errW_none, errW_some] <;> rfl) | (simp [*, errW_none, errW_some] <;> rfl), by first | exact Kd.R_nil _ _ _ _ _ | exact Kd.N_nil _ _ _ _ _ | exact Kd.V_nil _ _ _ _ _ | exact Kd.Q_nil _ _ _ _ _ | exact Kd.S_nil _ _ _ _ _, by repeat (first | (with_reducible first | exact HB.out | apply below_alloc | apply pw_below_drewN | apply below_drew1 | refine below_set ?_ GE403.out | refine below_set ?_ GE405.out) | exact HB.out)⟩

end Go.Proofs.Ytemglmcddaeedaa.PA

namespace Go.Proofs.Ytemglmcddaeedaa.PA
open Go.RowKit Go.Proofs.YtemglmcddaeedaaW.PrintWords Go.Proofs.YtemglmcddaeedaaW.PrintLast Go.Proofs.YtemglmcddaeedaaW.PrintMore
attribute [local go_sem] max2_int min2_int max_two min_two max_three min_three max_four min_four   -- for this text's walks alone
set_option linter.unusedVariables false
set_option linter.unusedSimpArgs false

/-! ### law07: function 0 -/
/-! #### the law SpaceLoads -/
def FitsRef (k : Nat) (a : AreaS) : Prop := 0 < a.pages.length ∧ a.pages.length ≤ 200 ∧ (∀ p ∈ a.pages, p.size ≤ 100000) ∧ (∀ i, i < 200 → 0 ≤ a.lv.getD i 0 ∧ a.lv.getD i 0 ≤ 255) ∧
  ringworkref07_Area_Free.f k a.size a.pages = some (roomsL a.pages) ∧ ∀ i, i < a.pages.length → ∃ r2, ringworkref07_Area_Level.f k a.size a.pages (i : Int) = some (a.lv.getD i 0, r2)
def RefLaw (p : ByteArray) : Prop :=
  (∃ k r1 r2 at_ e, loadS p = (at_, e, none) ∧ e ≠ 0 ∧ ringworkref07_Load.f k p = some (r1, r2, at_, e)) ∨
  (∃ k a, loadS p = (0, 0, some a) ∧ ringworkref07_Load.f k p = some (a.size, a.pages, 0, 0) ∧ FitsRef k a)
set_option maxHeartbeats 2000000 in
set_option maxRecDepth 100000 in
theorem law07_loads (HN : NewLaw) (HW : AwakeLaw) (p : ByteArray) (HR : p.size ≤ 6000 → RefLaw p) (w : World) :
    Calls Try.prog 8 #[.string p] w fun e w' => e = .returned (.bool true) ∧ Below w.heap.size w w' := by
  have HNN := Aside0.mk HN
  have HWW := Aside0.mk HW
  clear HN HW
  by_cases hbig : 6000 < p.size
  · have d1 : decide ((6000 : Int) < p.size) = true := decide_eq_true (by omega)
    clear HR
    go_enter Try.func8, Try.ntmps8
    go_wp2_with fail
    refine (awake07 HWW.out _).mono ?_
    rintro e w1 ⟨rfl, hb⟩
    go_wp2_with fail
    go_ret
    exact ⟨rfl, hb⟩
  · have d1 : decide ((6000 : Int) < p.size) = false := decide_eq_false (by omega)
    have hR := HR (by omega)
    clear HR
    have HL := Aside0.mk (space_Load HNN.out p w)
    rcases hR with ⟨k, r1, r2, at_, e, hl, he, hf⟩ | ⟨k, a, hl, hf, hfit⟩
    · have HF := Aside0.mk hf
      have he2 : (e != 0) = true := by simpa using he
      have hee : (e != e) = false := by simp
      have haa : (at_ != at_) = false := by simp
      rw [hl] at HL
      clear hl hf
      go_enter Try.func8, Try.ntmps8
      go_wp2_with fail
      refine HL.out.mono ?_
      rintro e1 w1 (⟨at2, c2, h1, rfl, hb1⟩ | ⟨a2, g2, v2, h1, _⟩)
      rotate_left
      · exact absurd h1 (by simp)
      cases h1
      have HB1 := Aside0.mk hb1
      clear hb1 HL
      go_wp2_with fail
      refine (ringworkref07_Load.calls k p r1 r2 at_ e w1 HF.out).mono ?_
      rintro e1 w2 ⟨v1, rfl, hR, hb2⟩
      have HB2 := Aside0.mk (below_then HB1.out HB1.out.size hb2)
      obtain ⟨A, c, rfl, _, _⟩ := Kd.R_reads hR
      clear hb2 hR HB1
      go_wp2_with fail
      refine (awake07 HWW.out _).mono ?_
      rintro e1 w3 ⟨rfl, hb3⟩
      have HB3 := Aside0.mk (below_then (below_alloc HB2.out _) (Nat.le_trans HB2.out.size (below_alloc (Below.refl _ w2) _).size) hb3)
      clear hb3 HB2
      go_wp2_with fail
      go_ret
      exact ⟨rfl, HB3.out⟩
    · have HF := Aside0.mk hf
      rw [hl] at HL
      clear hl hf
      obtain ⟨sz, l, lv⟩ := a
      obtain ⟨f1, f2, f3, f4, f5, f6⟩ := hfit
      dsimp only at f1 f2 f3 f4 f5 f6 HF
      have HFT := Aside0.mk (And.intro f3 (And.intro f4 (And.intro f5 f6)))
      clear f3 f4 f5 f6
      go_enter Try.func8, Try.ntmps8
      go_wp2_with fail
      refine HL.out.mono ?_
      rintro e1 w1 (⟨at2, c2, h1, _⟩ | ⟨a2, g, v, h1, rfl, hA, hb1⟩)
      · exact absurd h1 (by simp)
      cases h1
      have HB1 := Aside0.mk hb1
      have HA := Aside0.mk hA
      clear hb1 HL hA
      go_wp2_with fail
      refine (ringworkref07_Load.calls k p sz l 0 0 w1 HF.out).mono ?_
      rintro e1 w2 ⟨v1, rfl, hR, hb2⟩
      have HB2 := Aside0.mk (below_then HB1.out HB1.out.size hb2)
      have HA2 := Aside0.mk (HA.out.below hb2)
      obtain ⟨A, c, rfl, hc, hC⟩ := Kd.R_reads hR
      have hB := below_alloc (Below.refl _ w2) (.cells #[.int .i64 sz, .slice A l.length c] 58)
      have hag := agree07 (sz := sz) (l := l) (lv := lv) f1 f2 HFT.out.1 HFT.out.2.1 k HFT.out.2.2.1 HFT.out.2.2.2 A c _ (HA2.out.below hB) (Kd.C_below hC hB) hc
      have hB3 := below_alloc HB2.out (.cells #[.int .i64 sz, .slice A l.length c] 58)
      obtain ⟨W3, hW3⟩ : ∃ W3, w2.alloc (.cells #[.int .i64 sz, .slice A l.length c] 58) = W3 := ⟨_, rfl⟩
      rw [hW3] at hag hB3
      obtain ⟨b, hb⟩ : ∃ b, w2.heap.size = b := ⟨_, rfl⟩
      have hk : W3.heap[b]? = some (.cells #[.int .i64 sz, .slice A l.length c] 58 (0, 0)) := by rw [← hW3, ← hb]; exact blk_new _ _
      have c0 := (blk_cell hk 0).trans rfl
      have c1 := (blk_cell hk 1).trans rfl
      have HAG := Aside0.mk hag
      have HB3 := Aside0.mk hB3
      clear hb2 hR HB1 HA HA2 hC hc hB hag hB3 hk HF
      go_wp2_with fail
      (try simp only [hW3, hb])
      refine HAG.out.mono ?_
      rintro e1 w4 ⟨rfl, hb4⟩
      have HB4 := Aside0.mk (below_then HB3.out HB3.out.size hb4)
      clear hb4 HAG HB3 HB2 hW3 hb c0 c1
      go_wp2_with fail
      refine (awake07 HWW.out _).mono ?_
      rintro e1 w5 ⟨rfl, hb5⟩
      have HB5 := Aside0.mk (below_then HB4.out HB4.out.size hb5)
      clear hb5 HB4
      go_wp2_with fail
      go_ret
      exact ⟨rfl, HB5.out⟩

end Go.Proofs.Ytemglmcddaeedaa.PA

namespace Go.Proofs.Ytemglmcddaeedaa.PA
open Go.RowKit Go.Proofs.YtemglmcddaeedaaW.PrintWords Go.Proofs.YtemglmcddaeedaaW.PrintLast Go.Proofs.YtemglmcddaeedaaW.PrintMore
set_option linter.unusedVariables false
set_option linter.unusedSimpArgs false
def sizeOk (n : Int) : Prop := 32 ≤ n ∧ n ≤ 4096 ∧ n % 8 = 0
instance sizeOk.dec (n : Int) : Decidable (sizeOk n) := by unfold sizeOk; infer_instance
def fillS (n : Int) (l : List S45) : ByteArray × Int :=
  if CellsOk l then (if sizeOk n then (if needsL l > n then (⟨#[]⟩, 13) else (strOfNums (builtL n.toNat l), 0)) else (⟨#[]⟩, 7)) else (⟨#[]⟩, 1)
theorem w64 (x : Int) (h0 : -9223372036854775808 ≤ x) (h1 : x < 9223372036854775808) : wrap64 x = x := by unfold wrap64; omega
theorem size_f (n : Int) : page_size.f n = some (decide (sizeOk n)) := by
  unfold page_size.f
  split
  · split
    · rw [Int.tmod_eq_emod_of_nonneg (by omega)]
      congr 1
      by_cases h : n % 8 = 0
      · rw [decide_eq_true (show sizeOk n from ⟨by omega, by omega, h⟩), h]; rfl
      · rw [decide_eq_false (fun hs : sizeOk n => h hs.2.2)]; simpa using h
    · rw [decide_eq_false (fun hs : sizeOk n => by have := hs.2.1; omega)]
  · rw [decide_eq_false (fun hs : sizeOk n => by have := hs.1; omega)]
theorem refSize_f (n : Int) : ringworkref06_Size.f n = some (decide (sizeOk n)) := by
  rw [← size_f]; rfl
theorem line_f (n : Int) : page_line.f n = some (decide (1 ≤ n ∧ n ≤ 200)) := by
  unfold page_line.f
  split
  · rename_i h; simp; omega
  · rename_i h; simp; omega
theorem CellsOk_take {l : List S45} (h : CellsOk l) (i : Nat) : CellsOk (l.take i) := by
  rw [← List.take_append_drop i l] at h; exact h.append.1
/-- What one more cell asks. -/
theorem ok_next {l : List S45} (i : Nat) (hi : i < l.length) (h : CellsOk (l.take i)) :
    CellsOk (l.take (i + 1)) ↔ (1 ≤ l[i].f0 ∧ l[i].f0 ≤ 200 ∧ 0 < l[i].f1.size ∧ lastL (l.take i) < l[i].f0) := by
  rw [take_snoc l i hi]
  constructor
  · intro hc
    have h1 := hc.each l[i] (List.mem_append.2 (.inr (List.mem_singleton.2 rfl)))
    exact ⟨h1.1, h1.2.1, h1.2.2, lastL_lt hc⟩
  · rintro ⟨h1, h2, h3, h4⟩
    exact h.snoc ⟨h1, h2, h3⟩ h4
theorem lastL_take {l : List S45} (i : Nat) (hi : i ≤ l.length) (hp : 0 < i) : lastL (l.take i) = (l[i - 1]'(by omega)).f0 := by
  have e : l.take i = l.take (i - 1) ++ [l[i - 1]'(by omega)] := by
    have := take_snoc l (i - 1) (by omega)
    rw [show i - 1 + 1 = i by omega] at this
    exact this
  rw [e, lastL_snoc]
theorem lastL_zero {l : List S45} (i : Nat) (hp : ¬ 0 < i) : lastL (l.take i) = 0 := by
  have : i = 0 := by omega
  subst this
  rfl
theorem not_ok {l : List S45} (i : Nat) (h : ¬ CellsOk (l.take i)) : ¬ CellsOk l := fun hl => h (CellsOk_take hl i)
theorem fill_bad {l : List S45} (n : Int) (h : ¬ CellsOk l) : fillS n l = (⟨#[]⟩, 1) := by unfold fillS; rw [if_neg h]
theorem Fill_l0 (n : Int) (l : List S45) (hl : l.length ≤ 9223372036854775807) (hb : bytesL l ≤ 1000000000000) : ∀ (k i : Nat), i ≤ l.length → l.length - i < k → CellsOk (l.take i) →
    page_Fill.l0 k n l l (l.length : Int) (i : Int) = some (fillS n l) := by
  intro k
  induction k with
  | zero => intro i _ h; omega
  | succ k ih =>
    intro i hi hk hok
    rw [page_Fill.l0]
    by_cases hlt : i < l.length
    · have hn := ok_next i hlt hok
      rw [if_pos (by omega), if_pos (by omega), if_pos (by omega), rd_get l i hlt, line_f]
      simp only [Option.bind_some, decide_eq_true_eq]
      by_cases h1 : 1 ≤ l[i].f0 ∧ l[i].f0 ≤ 200
      · rw [if_pos h1]
        by_cases h2 : l[i].f1.toList = ([] : List UInt8)
        · rw [if_pos h2, fill_bad n (not_ok (i + 1) (fun hc => by have := (hn.1 hc).2.2.1; have := (toList_nil _).1 h2; omega))]
        · rw [if_neg h2]
          have h2' : 0 < l[i].f1.size := by
            rcases Nat.eq_zero_or_pos l[i].f1.size with h | h
            · exact absurd ((toList_nil _).2 h) h2
            · exact h
          by_cases h3 : (i : Int) > 0
          · rw [if_pos h3, w64 _ (by omega) (by omega), if_pos (by omega), if_pos (by omega), show (i : Int) - 1 = ((i - 1 : Nat) : Int) by omega, rd_get l (i - 1) (by omega)]
            by_cases h4 : (l[i - 1]'(by omega)).f0 ≥ l[i].f0
            · rw [if_pos h4, fill_bad n (not_ok (i + 1) (fun hc => by have := (hn.1 hc).2.2.2; rw [lastL_take i hi (by omega)] at this; omega))]
            · rw [if_neg h4, w64 _ (by omega) (by omega), show (i : Int) + 1 = ((i + 1 : Nat) : Int) by omega]
              exact ih (i + 1) (by omega) (by omega) (hn.2 ⟨h1.1, h1.2, h2', by rw [lastL_take i hi (by omega)]; omega⟩)
          · rw [if_neg h3, w64 _ (by omega) (by omega), show (i : Int) + 1 = ((i + 1 : Nat) : Int) by omega]
            exact ih (i + 1) (by omega) (by omega) (hn.2 ⟨h1.1, h1.2, h2', by rw [lastL_zero i (by omega)]; omega⟩)
      · rw [if_neg h1, fill_bad n (not_ok (i + 1) (fun hc => h1 ⟨(hn.1 hc).1, (hn.1 hc).2.1⟩))]
    · have hil : i = l.length := by omega
      rw [if_neg (by omega), size_f]
      rw [hil, List.take_length] at hok
      simp only [Option.bind_some, decide_eq_true_eq]
      unfold fillS
      rw [if_pos hok]
      by_cases hs : sizeOk n
      · rw [if_pos hs, if_pos hs]
        obtain ⟨s1, s2, s3⟩ := hs
        unfold page_filled.f
        rw [if_pos ⟨s1, s2, hok, hb⟩]
        split <;> rfl
      · rw [if_neg hs, if_neg hs]
theorem Fill_f (n : Int) (l : List S45) (hl : l.length ≤ 9223372036854775807) (hb : bytesL l ≤ 1000000000000) (k : Nat) (hk : l.length < k) : page_Fill.f k n l = some (fillS n l) :=
  Fill_l0 n l hl hb k 0 (by omega) (by omega) trivial
theorem New_f (n : Int) (k : Nat) (hk : 0 < k) : page_New.f k n = some (fillS n []) := by
  unfold page_New.f
  rw [Fill_f n [] (by simp) (by simp [bytesL]) k (by simpa using hk)]
  rfl
theorem refLast_f (l : List S45) (hl : l.length ≤ 9223372036854775807) : ringworkref06_Last.f l = some (lastL l) := by
  unfold ringworkref06_Last.f
  by_cases h : l.length = 0
  · rw [if_pos (by omega)]
    have : l = [] := List.length_eq_zero_iff.1 h
    subst this; rfl
  · rw [if_neg (by omega), w64 _ (by omega) (by omega), if_pos (by omega), if_pos (by omega), lastL_rd l (by omega)]
theorem refBytes_l0 (l : List S45) (hl : l.length ≤ 9223372036854775807) (hb : bytesL l ≤ 1000000000000) : ∀ (k i : Nat), i ≤ l.length → l.length - i < k →
    ringworkref06_Bytes.l0 k l (bytesL (l.take i) : Int) (i : Int) = some (bytesL l : Int) := by
  intro k
  induction k with
  | zero => intro i _ h; omega
  | succ k ih =>
    intro i hi hk
    rw [ringworkref06_Bytes.l0]
    by_cases hlt : i < l.length
    · have h1 := bytesL_take_succ l i hlt
      have h2 := bytesL_take_le l (i + 1)
      rw [if_pos (by omega), if_pos (by omega), rd_get l i hlt, w64 _ (by omega) (by omega), w64 _ (by omega) (by omega), show (i : Int) + 1 = ((i + 1 : Nat) : Int) by omega, show (bytesL (l.take i) : Int) + (l[i].f1.size : Int) = (bytesL (l.take (i + 1)) : Int) by omega]
      exact ih (i + 1) (by omega) (by omega)
    · rw [if_neg (by omega), List.take_of_length_le (by omega)]
theorem refBytes_f (l : List S45) (hl : l.length ≤ 9223372036854775807) (hb : bytesL l ≤ 1000000000000) (k : Nat) (hk : l.length < k) : ringworkref06_Bytes.f k l = some (bytesL l : Int) := by
  have := refBytes_l0 l hl hb k 0 (by omega) (by omega)
  exact this
theorem refRoom_f (n : Int) (l : List S45) (hn : -1000000000000 ≤ n ∧ n ≤ 1000000000000) (hl : l.length ≤ 9223372036854775807) (hb : bytesL l ≤ 1000000000000) (hok : CellsOk l) (k : Nat) (hk : l.length < k) :
    ringworkref06_Room.f k n l = some (n - needsL l) := by
  have h := lastL_nonneg hok
  unfold ringworkref06_Room.f
  rw [refLast_f l hl, Option.bind_some, refBytes_f l hl hb k hk, Option.bind_some, w64 (n - 2) (by omega) (by omega), w64 (4 * lastL l) (by omega) (by omega), w64 (n - 2 - 4 * lastL l) (by omega) (by omega), w64 _ (by omega) (by omega)]
  congr 1
  unfold needsL
  omega
theorem Wrong_f (p : ByteArray) (h : p.size ≤ 100000) : page_Wrong.f p = some (wrongS p) := by unfold page_Wrong.f; rw [if_pos h]
theorem Valid_f (p : ByteArray) (h : p.size ≤ 100000) : page_Valid.f p = some (decide (validS p)) := by
  unfold page_Valid.f validS
  rw [Wrong_f p h, Option.bind_some]
  congr 1
/-- The page of cells that are right and fit is valid, with these cells. -/
theorem fill_good (n : Int) (l : List S45) (h : (fillS n l).2 = 0) : CellsOk l ∧ sizeOk n ∧ needsL l ≤ n ∧ (fillS n l).1 = strOfNums (builtL n.toNat l) := by
  unfold fillS at h ⊢
  split at h
  · rename_i h1
    split at h
    · rename_i h2
      split at h
      · cases h
      · rename_i h3
        refine ⟨h1, h2, by omega, ?_⟩
        rw [if_pos h1, if_pos h2, if_neg h3]
    · cases h
  · cases h
theorem built_cells (n : Int) (l : List S45) (h1 : CellsOk l) (h2 : sizeOk n) (h3 : needsL l ≤ n) :
    validS (strOfNums (builtL n.toNat l)) ∧ cellsS (strOfNums (builtL n.toNat l)) (twoS (strOfNums (builtL n.toNat l)) 0).toNat = l ∧ (strOfNums (builtL n.toNat l)).size = n.toNat := by
  obtain ⟨s1, s2, s3⟩ := h2
  obtain ⟨e1, e2, e3⟩ := built_valid (N := n.toNat) (by omega) (by omega) (by omega) h1 (by omega)
  exact ⟨by unfold validS; rw [e1], by rw [e2]; exact e3, built_size h1 (by omega)⟩
open Go.ChangeShapes Go.WideShapes Go.ChangeAt Go.Deep
def atS (l : List S45) (n : Int) : ByteArray := match l.find? (fun c => c.f0 == n) with | some c => c.f1 | none => ⟨#[]⟩
theorem atS_pos {l : List S45} (h : CellsOk l) (n : Int) : 0 < (atS l n).size ↔ ∃ c ∈ l, c.f0 = n := by
  unfold atS
  cases hf : l.find? (fun c => c.f0 == n) with
  | none =>
    constructor
    · intro h0
      exact absurd h0 (by decide)
    · rintro ⟨c, hc, hn⟩
      have := List.find?_eq_none.1 hf c hc
      simp [hn] at this
  | some c =>
    have h1 := List.mem_of_find?_eq_some hf
    have h2 := List.find?_some hf
    exact ⟨fun _ => ⟨c, h1, by simpa using h2⟩, fun _ => (h.each c h1).2.2⟩
theorem leastL_spec : ∀ (l : List S45), CellsOk l → 1 ≤ leastL l ∧ leastL l ≤ 201 ∧ (∀ j, 1 ≤ j → j < leastL l → ∃ c ∈ l, c.f0 = j) ∧ (∀ c ∈ l, c.f0 ≠ leastL l) := by
  intro l
  induction hl : l.length generalizing l with
  | zero =>
    intro _
    have : l = [] := List.length_eq_zero_iff.1 hl
    subst this
    refine ⟨by decide, by decide, fun j h1 h2 => ?_, by simp⟩
    have : leastL ([] : List S45) = 1 := rfl
    omega
  | succ m ih =>
    intro h
    have hne : l ≠ [] := by intro h; rw [h] at hl; cases hl
    obtain ⟨a, c, rfl⟩ : ∃ a c, l = a ++ [c] := ⟨l.dropLast, l.getLast hne, (List.dropLast_concat_getLast hne).symm⟩
    obtain ⟨i1, i2, i3, i4⟩ := ih a (by simp at hl; exact hl) h.append.1
    have hc := h.append.2.1.head
    have hlt := fun x hx => h.append.2.2 x hx c (by simp)
    rw [leastL_snoc]
    split
    · rename_i he
      refine ⟨by omega, by omega, fun j h1 h2 => ?_, fun x hx => ?_⟩
      · by_cases hj : j < leastL a
        · obtain ⟨d, hd, hdj⟩ := i3 j h1 hj
          exact ⟨d, by simp [hd], hdj⟩
        · exact ⟨c, by simp, by omega⟩
      · rcases List.mem_append.1 hx with hx | hx
        · have := hlt x hx; omega
        · simp only [List.mem_singleton] at hx; subst hx; omega
    · rename_i he
      refine ⟨i1, i2, fun j h1 h2 => ?_, fun x hx => ?_⟩
      · obtain ⟨d, hd, hdj⟩ := i3 j h1 h2
        exact ⟨d, by simp [hd], hdj⟩
      · rcases List.mem_append.1 hx with hx | hx
        · exact i4 x hx
        · simp only [List.mem_singleton] at hx; subst hx; exact he
theorem dropIdx {l : List S45} (h : CellsOk l) {n : Int} (hf : foundS l n = true) : ∃ c, l.drop (idxS l n) = c :: l.drop (idxS l n + 1) ∧ c.f0 = n ∧ rd_T45 l (idxS l n) = c ∧ c ∈ l := by
  obtain ⟨c, hc, hcn⟩ := (idx_split h n).2.2.1 hf
  obtain ⟨hlt, he⟩ := List.getElem?_eq_some_iff.1 hc
  exact ⟨c, by rw [List.drop_eq_getElem_cons hlt, he], hcn, by rw [rd_get l _ hlt, he], by rw [← he]; exact List.getElem_mem _⟩
theorem find_lt {a : List S45} {n : Int} (h : ∀ x ∈ a, x.f0 ≠ n) : a.find? (fun c => c.f0 == n) = none := by
  rw [List.find?_eq_none]; intro x hx; simpa using h x hx
theorem atS_app {a b : List S45} {n : Int} (h : ∀ x ∈ a, x.f0 ≠ n) : atS (a ++ b) n = atS b n := by
  unfold atS; rw [List.find?_append, find_lt h]; rfl
theorem atS_cons {c : S45} {b : List S45} {n : Int} : atS (c :: b) n = if c.f0 = n then c.f1 else atS b n := by
  unfold atS
  rw [List.find?_cons]
  by_cases h : c.f0 = n
  · rw [if_pos h]; simp [h]
  · rw [if_neg h]
    have : (c.f0 == n) = false := by simpa using h
    rw [this]
theorem atS_none {b : List S45} {n : Int} (h : ∀ x ∈ b, x.f0 ≠ n) : atS b n = ⟨#[]⟩ := by unfold atS; rw [find_lt h]
theorem atS_found {l : List S45} (h : CellsOk l) (n : Int) : (foundS l n = true → atS l n = (rd_T45 l (idxS l n)).f1 ∧ 0 < (atS l n).size) ∧ (foundS l n = false → atS l n = ⟨#[]⟩) := by
  have hs := idx_split h n
  have ha : ∀ x ∈ l.take (idxS l n), x.f0 ≠ n := fun x hx => by have := hs.1 x hx; omega
  have e : atS l n = atS (l.drop (idxS l n)) n := by
    have := atS_app (b := l.drop (idxS l n)) ha
    rwa [List.take_append_drop] at this
  constructor
  · intro hf
    obtain ⟨c, h1, h2, h3, h4⟩ := dropIdx h hf
    rw [e, h1, atS_cons, if_pos h2, h3]
    exact ⟨rfl, (h.each c h4).2.2⟩
  · intro hf
    rw [e]
    exact atS_none (fun x hx => by have := hs.2.2.2 hf x hx; omega)
theorem found_iff {l : List S45} (h : CellsOk l) (n : Int) : foundS l n = true ↔ ∃ c ∈ l, c.f0 = n := by
  rw [← atS_pos h n]
  constructor
  · intro hf; exact ((atS_found h n).1 hf).2
  · intro h0
    cases hf : foundS l n with
    | true => rfl
    | false => rw [(atS_found h n).2 hf] at h0; exact absurd h0 (by decide)
theorem emptyB (d : ByteArray) : (d.toList == ([] : List UInt8)) = decide (d.size = 0) := by
  rw [Bool.eq_iff_iff]; simp only [beq_iff_eq, decide_eq_true_eq]; exact toList_nil d
theorem least_free {l : List S45} (h : CellsOk l) : foundS l (leastL l) = false := by
  cases hf : foundS l (leastL l) with
  | false => rfl
  | true =>
    obtain ⟨c, hc, hn⟩ := (found_iff h _).1 hf
    exact absurd hn ((leastL_spec l h).2.2.2 c hc)
/-- What page.Put answers. -/
def putS (p : ByteArray) (d : ByteArray) : ByteArray × Int × Int :=
  if validS p ∧ d.size ≠ 0 then
    (if leastL (cellsP p) > 200 then (⟨#[]⟩, 0, 13) else if needsL (insS (cellsP p) (leastL (cellsP p)) d) > p.size then (⟨#[]⟩, 0, 13) else (strOfNums (builtL p.size (insS (cellsP p) (leastL (cellsP p)) d)), leastL (cellsP p), 0))
  else (⟨#[]⟩, 0, 1)
theorem Put_f (p : ByteArray) (hs : p.size ≤ 100000) (d : ByteArray) (hd : d.size ≤ 100000) (k : Nat) (hk : 0 < k) : page_Put.f k p d = some (putS p d) := by
  obtain ⟨k, rfl⟩ : ∃ k', k = k' + 1 := ⟨k - 1, by omega⟩
  unfold page_Put.f putS
  rw [Valid_f p hs, Option.bind_some]
  by_cases hv : validS p
  · rw [if_pos (decide_eq_true hv), page_Put.j0, emptyB]
    by_cases h0 : d.size = 0
    · rw [if_pos (decide_eq_true h0), if_neg (by simp [h0])]
    · rw [if_neg (by simpa using h0), if_pos ⟨hv, h0⟩]
      obtain ⟨hok, k2, k3, k4, k5⟩ := cellsP_ok hv
      have hl := leastL_spec _ hok
      by_cases hb : leastL (cellsP p) > 200
      · have hN : page_Next.f p = some (0, 13) := by unfold page_Next.f; rw [if_pos hs, if_pos hv, if_pos (show leastL (cellsS p (twoS p 0).toNat) > 200 from hb)]
        rw [hN, Option.bind_some, if_pos hb]; rfl
      · have hN : page_Next.f p = some (leastL (cellsP p), 0) := by unfold page_Next.f; rw [if_pos hs, if_pos hv, if_neg (show ¬ leastL (cellsS p (twoS p 0).toNat) > 200 from hb)]; rfl
        rw [hN, Option.bind_some, if_neg hb]
        simp only
        have hP : page_PutAt.f p (leastL (cellsP p)) d = some (if needsL (insS (cellsP p) (leastL (cellsP p)) d) > (p.size : Int) then (⟨#[]⟩, 13) else (strOfNums (builtL p.size (insS (cellsP p) (leastL (cellsP p)) d)), 0)) := by
          unfold page_PutAt.f
          rw [if_pos ⟨hs, hd⟩]
          unfold putAtS filledS
          rw [if_neg h0, if_pos hv, if_pos (show 1 ≤ leastL (cellsP p) ∧ leastL (cellsP p) ≤ 200 from ⟨by omega, by omega⟩), if_neg (by simp [least_free hok]), Int.toNat_natCast]
        rw [if_pos trivial, hP, Option.bind_some]
        by_cases hf : needsL (insS (cellsP p) (leastL (cellsP p)) d) > (p.size : Int)
        · rw [if_pos hf, if_pos hf]; rfl
        · rw [if_neg hf, if_neg hf]; rfl
  · rw [if_neg (by simpa using hv), page_Put.j0, if_pos rfl, if_neg (by simp [hv])]
/-! #### what space.Load and its law ask of the pages -/
theorem newLaw : NewLaw := by
  intro x h0 h1
  refine ⟨(fillS x []).1, (fillS x []).2, New_f x 1 (by omega), ?_, ?_⟩
  · have hok : CellsOk [] := trivial
    unfold fillS
    rw [if_pos hok]
    by_cases hs : sizeOk x
    · rw [if_pos hs, if_neg (by have : needsL [] = 2 := rfl; have := hs.1; omega)]
      obtain ⟨a, b, c⟩ := hs
      simp [sizeB, a, b, c]
    · rw [if_neg hs]
      constructor
      · intro h; cases h
      · intro h
        exfalso
        apply hs
        simp only [sizeB, Bool.and_eq_true, decide_eq_true_eq] at h
        exact ⟨h.1.1, h.1.2, h.2⟩
  · intro h
    obtain ⟨g1, g2, g3, g4⟩ := fill_good x [] h
    rw [g4, (built_cells x [] g1 g2 g3).2.2]
    have := g2.1
    omega
theorem awakeLaw : AwakeLaw := by
  have hok : CellsOk [] := trivial
  have hsz : sizeOk 32 := ⟨by decide, by decide, by decide⟩
  obtain ⟨v0, c0, s0⟩ := built_cells 32 [] hok hsz (by decide)
  have hc0 : cellsP (strOfNums (builtL (32 : Int).toNat [])) = [] := c0
  have hok1 : CellsOk [⟨1, abcS⟩] := ⟨by decide, by decide, by decide⟩
  obtain ⟨v1, c1, s1⟩ := built_cells 32 [⟨1, abcS⟩] hok1 hsz (by decide)
  have hc1 : cellsP (strOfNums (builtL (32 : Int).toNat [⟨1, abcS⟩])) = [⟨1, abcS⟩] := c1
  refine ⟨strOfNums (builtL (32 : Int).toNat []), strOfNums (builtL (32 : Int).toNat [⟨1, abcS⟩]), 1, ?_, by rw [s0]; rfl, v0, ?_, ?_, by rw [s1]; rfl, ?_⟩
  · rw [New_f 32 1 (by decide)]
    unfold fillS
    rw [if_pos hok, if_pos hsz, if_neg (by decide)]
  · unfold fitsS
    rw [hc0, s0]
    decide
  · rw [Put_f _ (by rw [s0]; decide) _ (by decide) 1 (by decide)]
    unfold putS
    rw [if_pos ⟨v0, by decide⟩, hc0, s0]
    rfl
  · unfold getS
    rw [if_pos v1, if_pos (by decide), hc1]
    rfl
theorem refTwo_f (p : ByteArray) (a : Int) (h0 : 0 ≤ a) (h1 : a + 1 < p.size) (hs : p.size ≤ 100000) : ringworkref06_Two.f p a = some (twoS p a) := by
  have b1 := bt_range p a
  have b2 := bt_range p (a + 1)
  unfold ringworkref06_Two.f twoS
  rw [w64 (a + 1) (by omega) (by omega), if_pos h0, if_pos (by omega), if_pos (by omega), if_pos h1, w64 (bt p a) (by omega) (by omega), w64 (bt p (a + 1)) (by omega) (by omega), w64 (256 * bt p a) (by omega) (by omega), w64 (256 * bt p a + bt p (a + 1)) (by omega) (by omega)]
/-- What is answered from the entries on. -/
def wrongT (p : ByteArray) (n : Nat) : Int × Int :=
  match entriesS p n with
  | .error a => (a, 12)
  | .ok top => match firstNZ p top (2 + 4 * n) with
    | some i => ((i : Int), 12)
    | none => ((p.size : Int), 0)
theorem refWrong_l1 (p : ByteArray) (hs : p.size ≤ 100000) (top : Int) (ht : top ≤ p.size) : ∀ (k j : Nat), j ≤ p.size + 1 → p.size + 1 - j < k →
    ringworkref06_Wrong.l1 k p top (j : Int) = some (match firstNZ p top j with | some i => ((i : Int), 12) | none => ((p.size : Int), 0)) := by
  intro k
  induction k with
  | zero => intro j _ h; omega
  | succ k ih =>
    intro j hj hk
    rw [ringworkref06_Wrong.l1, firstNZ]
    by_cases h : (j : Int) < top
    · rw [if_pos h, if_pos (by omega), if_pos (by omega), if_pos h]
      by_cases hz : bt p (j : Int) = 0
      · rw [if_pos hz, if_neg (by simpa using hz), w64 _ (by omega) (by omega), show (j : Int) + 1 = ((j + 1 : Nat) : Int) by omega]
        exact ih (j + 1) (by omega) (by omega)
      · rw [if_neg hz, if_pos hz]
    · rw [if_neg h, if_neg h]
theorem refWrong_l0 (p : ByteArray) (n : Nat) (hn : n ≤ 200) (hsz : 2 + 4 * n ≤ p.size) (hs : p.size ≤ 100000) : ∀ (k i : Nat) (top last : Int), i ≤ n → 2 * (n - i) + p.size + 3 < k → scanE p n i = .ok (top, last) → (i = n → last = n) →
    ringworkref06_Wrong.l0 k p (n : Int) top ((i : Int) + 1) = some (wrongT p n) := by
  intro k
  induction k using Nat.strongRecOn with
  | ind k ih =>
    intro i top last hi hk hsc hl
    have htop := scanE_top p n i top last hsc
    have hrg := scanE_range p n i top last hsc
    obtain ⟨k, rfl⟩ : ∃ k', k = k' + 1 := ⟨k - 1, by omega⟩
    rw [ringworkref06_Wrong.l0]
    by_cases hlt : i < n
    · rw [if_pos (by omega), w64 (4 * ((i : Int) + 1)) (by omega) (by omega), w64 (4 * ((i : Int) + 1) - 2) (by omega) (by omega), w64 (4 * ((i : Int) + 1) - 2 + 2) (by omega) (by omega)]
      rw [show 4 * ((i : Int) + 1) - 2 = 2 + 4 * (i : Int) by omega, show 2 + 4 * (i : Int) + 2 = 4 + 4 * (i : Int) by omega, refTwo_f p _ (by omega) (by omega) hs, Option.bind_some, refTwo_f p _ (by omega) (by omega) hs, Option.bind_some]
      have hx := twoS_range p (2 + 4 * (i : Int))
      have hy := twoS_range p (4 + 4 * (i : Int))
      have hstep : scanE p n (i + 1) = if twoS p (2 + 4 * (i : Int)) = 0 ∧ twoS p (4 + 4 * (i : Int)) = 0 then .ok (top, last)
        else if twoS p (4 + 4 * (i : Int)) = 0 ∨ twoS p (2 + 4 * (i : Int)) ≠ top - twoS p (4 + 4 * (i : Int)) ∨ twoS p (2 + 4 * (i : Int)) < 2 + 4 * (n : Int) then .error (2 + 4 * (i : Int))
        else .ok (twoS p (2 + 4 * (i : Int)), (i : Int) + 1) := by rw [scanE, hsc]
      generalize twoS p (2 + 4 * (i : Int)) = x at *
      generalize twoS p (4 + 4 * (i : Int)) = y at *
      obtain ⟨k, rfl⟩ : ∃ k', k = k' + 1 := ⟨k - 1, by omega⟩
      have hbad : (¬ (x = 0 ∧ y = 0)) → (y = 0 ∨ x ≠ top - y ∨ x < 2 + 4 * (n : Int)) → wrongT p n = (2 + 4 * (i : Int), 12) := fun h1 h2 => by
        rw [if_neg h1, if_pos h2] at hstep
        have := scanE_error p n (i + 1) n (by omega) _ hstep
        unfold wrongT entriesS
        rw [this]
      have hcont : ∀ b : Bool, b = decide (x = 0 ∧ y = 0) → ringworkref06_Wrong.j2 (k + 1) p (n : Int) top ((i : Int) + 1) (2 + 4 * (i : Int)) x y b = some (wrongT p n) := by
        intro b hb
        rw [ringworkref06_Wrong.j2]
        by_cases hz : x = 0 ∧ y = 0
        · rw [if_pos (by rw [hb]; exact decide_eq_true hz)]
          rw [if_pos hz] at hstep
          by_cases hlast : (i : Int) + 1 = n
          · rw [if_pos hlast]
            have hin : i + 1 = n := by omega
            rw [hin] at hstep
            unfold wrongT entriesS
            rw [hstep]
            simp only
            rw [if_pos (by omega)]
            congr 2
            omega
          · rw [if_neg hlast, w64 ((i : Int) + 1 + 1) (by omega) (by omega), show (i : Int) + 1 + 1 = ((i + 1 : Nat) : Int) + 1 by omega]
            exact ih k (by omega) (i + 1) top last (by omega) (by omega) hstep (fun h => absurd h (by omega))
        · rw [if_neg (by rw [hb, decide_eq_false hz]; simp)]
          by_cases hx0 : x = 0
          · rw [if_pos hx0, hbad hz (by omega)]
          · rw [if_neg hx0]
            by_cases hy0 : y = 0
            · rw [if_pos hy0, hbad hz (by omega)]
            · rw [if_neg hy0, w64 (top - y) (by omega) (by omega), w64 (4 * (n : Int)) (by omega) (by omega), w64 (2 + 4 * (n : Int)) (by omega) (by omega)]
              by_cases hxy : x = top - y
              · rw [if_pos hxy]
                by_cases hlo : x < 2 + 4 * (n : Int)
                · rw [if_pos hlo, hbad hz (by omega)]
                · rw [if_neg hlo, w64 ((i : Int) + 1 + 1) (by omega) (by omega), show (i : Int) + 1 + 1 = ((i + 1 : Nat) : Int) + 1 by omega]
                  rw [if_neg hz, if_neg (by omega)] at hstep
                  exact ih k (by omega) (i + 1) x ((i : Int) + 1) (by omega) (by omega) hstep (fun h => by omega)
              · rw [if_neg hxy, hbad hz (by omega)]
      by_cases hx0 : x = 0
      · rw [if_pos hx0]
        exact hcont _ (by rw [Bool.eq_iff_iff]; simp [hx0])
      · rw [if_neg hx0]
        exact hcont _ (by rw [Bool.eq_iff_iff]; simp [hx0])
    · have hin : i = n := by omega
      subst hin
      rw [if_neg (by omega), w64 (4 * (i : Int)) (by omega) (by omega), w64 (2 + 4 * (i : Int)) (by omega) (by omega), show 2 + 4 * (i : Int) = ((2 + 4 * i : Nat) : Int) by omega, refWrong_l1 p hs top htop k (2 + 4 * i) (by omega) (by omega)]
      unfold wrongT entriesS
      rw [hsc]
      simp only
      rw [if_neg (by have := hl rfl; omega)]
theorem refWrong_f (p : ByteArray) (hs : p.size ≤ 100000) (k : Nat) (hk : 2 * 200 + p.size + 10 < k) : ringworkref06_Wrong.f k p = some (wrongS p) := by
  unfold ringworkref06_Wrong.f wrongS
  rw [refSize_f, Option.bind_some]
  by_cases hok : 32 ≤ p.size ∧ p.size ≤ 4096 ∧ p.size % 8 = 0
  · rw [if_pos (decide_eq_true (show sizeOk (p.size : Int) from ⟨by omega, by omega, by omega⟩)), if_pos hok, refTwo_f p 0 (by omega) (by omega) hs, Option.bind_some]
    have hr := twoS_range p 0
    obtain ⟨n, hn⟩ : ∃ n : Nat, twoS p 0 = n := ⟨(twoS p 0).toNat, by omega⟩
    rw [hn, w64 (4 * (n : Int)) (by omega) (by omega), w64 (2 + 4 * (n : Int)) (by omega) (by omega)]
    obtain ⟨k, rfl⟩ : ∃ k', k = k' + 1 := ⟨k - 1, by omega⟩
    by_cases h1 : (n : Int) > 200
    · rw [if_pos h1, if_pos (by omega), ringworkref06_Wrong.j0, if_pos rfl]
    · rw [if_neg h1, ringworkref06_Wrong.j0]
      by_cases h2 : 2 + 4 * (n : Int) > p.size
      · rw [if_pos (decide_eq_true h2), if_pos (.inr h2)]
      · rw [if_neg (by rw [decide_eq_false h2]; simp), if_neg (by omega)]
        have := refWrong_l0 p n (by omega) (by omega) hs k 0 p.size 0 (by omega) (by omega) rfl (fun h => by omega)
        rw [show ((0 : Nat) : Int) + 1 = 1 by rfl] at this
        rw [this, Int.toNat_natCast]
        rfl
  · rw [if_neg (by
      rw [decide_eq_false (fun h : sizeOk (p.size : Int) => hok ⟨by have := h.1; omega, by have := h.2.1; omega, by have := h.2.2; omega⟩)]; simp), if_neg hok]
theorem refCellsOf_l0 (p : ByteArray) (n : Nat) (hn : twoS p 0 = n) (hn2 : n ≤ 200) (hsz : 2 + 4 * n ≤ p.size) (hs : p.size ≤ 100000)
    (hgood : ∀ i : Nat, i < n → 0 < twoS p (4 + 4 * (i : Int)) → twoS p (2 + 4 * (i : Int)) + twoS p (4 + 4 * (i : Int)) ≤ p.size) : ∀ (k i : Nat), i ≤ n → n - i < k →
    ringworkref06_CellsOf.l0 k p (cellsS p i) ((i : Int) + 1) = some (cellsS p n) := by
  intro k
  induction k with
  | zero => intro i _ h; omega
  | succ k ih =>
    intro i hi hk
    rw [ringworkref06_CellsOf.l0, refTwo_f p 0 (by omega) (by omega) hs, Option.bind_some, hn]
    by_cases hlt : i < n
    · rw [if_pos (by omega), w64 (4 * ((i : Int) + 1)) (by omega) (by omega), w64 (4 * ((i : Int) + 1) - 2) (by omega) (by omega), show 4 * ((i : Int) + 1) - 2 = 2 + 4 * (i : Int) by omega, show 4 * ((i : Int) + 1) = 4 + 4 * (i : Int) by omega, refTwo_f p _ (by omega) (by omega) hs, Option.bind_some, refTwo_f p _ (by omega) (by omega) hs, Option.bind_some]
      have hx := twoS_range p (2 + 4 * (i : Int))
      have hy := twoS_range p (4 + 4 * (i : Int))
      have hg := hgood i hlt
      have hnext := ih (i + 1) (by omega) (by omega)
      have hlen := cellsS_length p i
      rw [w64 ((i : Int) + 1 + 1) (by omega) (by omega), show (i : Int) + 1 + 1 = ((i + 1 : Nat) : Int) + 1 by omega]
      by_cases hy0 : 0 < twoS p (4 + 4 * (i : Int))
      · have hg := hg hy0
        rw [if_pos hy0, if_pos (by omega), w64 _ (by omega) (by omega), if_pos (by omega), if_pos (by omega), if_pos (by omega)]
        rw [cellsS, if_pos hy0] at hnext
        exact hnext
      · rw [if_neg hy0]
        rw [cellsS, if_neg hy0] at hnext
        exact hnext
    · rw [if_neg (by omega), show i = n by omega]
theorem refCellsOf_f (p : ByteArray) (hv : validS p) (k : Nat) (hk : 201 < k) : ringworkref06_CellsOf.f k p = some (cellsS p (twoS p 0).toNat) := by
  obtain ⟨q1, q2, q3, q4, q5, top, q6, q7⟩ := validS_spec p hv
  have hr := twoS_range p 0
  obtain ⟨n, hn⟩ : ∃ n : Nat, twoS p 0 = n := ⟨(twoS p 0).toNat, by omega⟩
  rw [hn, Int.toNat_natCast] at q6
  have := refCellsOf_l0 p n hn (by omega) (by omega) (by omega) (fun i hi hy => (entriesS_good p n top q6 i hi hy).2) k 0 (by omega) (by omega)
  rw [hn, Int.toNat_natCast]
  exact this
/-! #### the reference's Load is loadS -/
def resS : Int × Int × Option AreaS → Int × List ByteArray × Int × Int
  | (at_, e, none) => (0, [], at_, e)
  | (at_, e, some a) => (a.size, a.pages, at_, e)
theorem pageBad_none {p : ByteArray} {sz : Int} {n j : Nat} (hs : 32 ≤ sz ∧ sz ≤ 4096) (h : pageBad p sz n j = none) :
    8 + n + j * sz + sz ≤ p.size ∧ validS (pageS p sz n j) ∧ ((pageS p sz n j).size : Int) = sz := by
  unfold pageBad at h
  split at h
  · cases h
  · rename_i h1
    split at h
    · rename_i h2
      refine ⟨by omega, h2, ?_⟩
      unfold pageS
      have hn : ((j * sz.toNat : Nat) : Int) = j * sz := by rw [Int.natCast_mul, Int.toNat_of_nonneg (by omega)]
      rw [ByteArray.size_extract]
      omega
    · cases h
theorem room_f {l : List ByteArray} {sz : Int} (j : Nat) (hj : j < l.length) (hv : validS l[j]) (hs : (l[j].size : Int) = sz) (k : Nat) (hk : 1000 ≤ k) : ringworkref07_Area_Room.f k sz l (j : Int) = some (roomS l[j]) := by
  unfold ringworkref07_Area_Room.f
  have hrd : rdOf ByteArray.empty l (j : Int) = l[j] := by
    unfold rdOf
    rw [Int.toNat_natCast, List.getD_eq_getElem?_getD, List.getElem?_eq_getElem hj]; rfl
  obtain ⟨k1, k2, k3, k4, k5⟩ := cellsP_ok hv
  rw [if_pos (by omega), if_pos (by omega), hrd, show ringworkref06_CellsOf.f k l[j] = some (cellsP l[j]) from refCellsOf_f _ hv k (by omega), Option.bind_some, refRoom_f sz (cellsP l[j]) (by omega) (by omega) (by omega) k1 k (by omega), Option.bind_some]
  unfold roomS
  rw [if_pos hv, hs]
theorem level_f {l : List ByteArray} {sz : Int} (h32 : 32 ≤ sz ∧ sz ≤ 4096) (j : Nat) (hj : j < l.length) (hv : validS l[j]) (hs : (l[j].size : Int) = sz) (k : Nat) (hk : 1000 ≤ k) : ringworkref07_Area_Level.f k sz l (j : Int) = some (roomS l[j] * 8 / sz, 0) := by
  have hr := roomS_range l[j] (by omega)
  have hq0 : 0 ≤ roomS l[j] * 8 / sz := Int.ediv_nonneg (by omega) (by omega)
  have hq1 : roomS l[j] * 8 / sz ≤ 100000 := Int.le_trans (Int.ediv_le_self _ (by omega)) (by omega)
  unfold ringworkref07_Area_Level.f ringworkref07_Area_Is.f
  rw [if_pos (by omega), Option.bind_some, if_pos (decide_eq_true (by omega)), room_f j hj hv hs k hk, Option.bind_some, if_neg (by omega), w64 (roomS l[j] * 8) (by omega) (by omega), Int.tdiv_eq_ediv_of_nonneg (by omega), w64 _ (by omega) (by omega)]
theorem free_l0 {l : List ByteArray} {sz : Int} (hl : l.length ≤ 200) (hv : ∀ q ∈ l, validS q ∧ (q.size : Int) = sz) (h32 : 32 ≤ sz ∧ sz ≤ 4096) : ∀ (k i : Nat), i ≤ l.length → 2000 + (l.length - i) < k →
    ringworkref07_Area_Free.l0 k (roomsL (l.take i)) (i : Int) sz l = some (roomsL l) := by
  intro k
  induction k with
  | zero => intro i _ h; omega
  | succ k ih =>
    intro i hi hk
    rw [ringworkref07_Area_Free.l0]
    by_cases hlt : i < l.length
    · have hq := hv l[i] (List.getElem_mem _)
      have hr := roomS_range l[i] (by omega)
      have hss := roomsL_range l (fun q hq => by have := (hv q hq).2; omega) i (by omega)
      rw [if_pos (by omega), room_f i hlt hq.1 hq.2 k (by omega), Option.bind_some, w64 (roomsL (l.take i) + roomS l[i]) (by omega) (by omega), w64 ((i : Int) + 1) (by omega) (by omega), ← roomsL_take l i hlt, show (i : Int) + 1 = ((i + 1 : Nat) : Int) by omega]
      exact ih (i + 1) (by omega) (by omega)
    · rw [if_neg (by omega), List.take_of_length_le (by omega)]
theorem free_f {l : List ByteArray} {sz : Int} (hl : l.length ≤ 200) (hv : ∀ q ∈ l, validS q ∧ (q.size : Int) = sz) (h32 : 32 ≤ sz ∧ sz ≤ 4096) (k : Nat) (hk : 3000 ≤ k) : ringworkref07_Area_Free.f k sz l = some (roomsL l) := by
  have := free_l0 hl hv h32 k 0 (by omega) (by omega)
  exact this
theorem pages_all {p : ByteArray} {sz : Int} {n : Nat} (hs : 32 ≤ sz ∧ sz ≤ 4096) (h : ∀ j, j < n → pageBad p sz n j = none) : ∀ q ∈ (List.range n).map (pageS p sz n), validS q ∧ (q.size : Int) = sz := by
  intro q hq
  obtain ⟨j, hj, rfl⟩ := List.mem_map.1 hq
  exact (pageBad_none hs (h j (by simpa using hj))).2
theorem l2_f {p : ByteArray} (hp : p.size ≤ 100000) {sz : Int} (hs : 32 ≤ sz ∧ sz ≤ 4096) {n : Nat} (hn : 1 ≤ n ∧ n ≤ 200) (hP : ∀ j, j < n → pageBad p sz n j = none) : ∀ (k j : Nat), j ≤ n → 2000 + (n - j) < k → (∀ i, i < j → lvBad p sz n i = none) →
    ringworkref07_Load.l2 k p n (j : Int) sz ((List.range n).map (pageS p sz n)) = some (resS (match firstBad (lvBad p sz n) n with | some at_ => (at_, 12, none) | none => endS p sz n)) := by
  have hlen : ((List.range n).map (pageS p sz n)).length = n := by simp
  have h0 := pageBad_none hs (hP 0 (by omega))
  intro k
  induction k with
  | zero => intro j _ h; omega
  | succ k ih =>
    intro j hj hk hJ
    rw [ringworkref07_Load.l2]
    by_cases hlt : j < n
    · have hq : ((List.range n).map (pageS p sz n))[j]'(by rw [hlen]; exact hlt) = pageS p sz n j := by simp
      have hv := (pageBad_none hs (hP j hlt)).2
      have hlv := level_f hs (l := (List.range n).map (pageS p sz n)) j (by rw [hlen]; exact hlt) (by rw [hq]; exact hv.1) (by rw [hq]; exact hv.2) k (by omega)
      rw [hq] at hlv
      have hb := bt_range p (8 + (j : Int))
      have h8 : 8 + (j : Int) < p.size := by
        have := h0.1
        rw [Int.natCast_zero, Int.zero_mul] at this
        omega
      rw [if_pos (by omega), hlv, Option.bind_some, w64 (8 + (j : Int)) (by omega) (by omega), if_pos (by omega), if_pos h8, w64 (bt p (8 + (j : Int))) (by omega) (by omega)]
      dsimp only
      by_cases he : bt p (8 + (j : Int)) = roomS (pageS p sz n j) * 8 / sz
      · rw [if_pos he, w64 ((j : Int) + 1) (by omega) (by omega), show (j : Int) + 1 = ((j + 1 : Nat) : Int) by omega]
        refine ih (j + 1) (by omega) (by omega) (fun i hi => ?_)
        by_cases h2 : i < j
        · exact hJ i h2
        · obtain rfl : i = j := by omega
          unfold lvBad lvS; rw [if_pos he]
      · rw [if_neg he, firstBad_at hlt hJ (show lvBad p sz n j = some (8 + (j : Int)) by unfold lvBad lvS; rw [if_neg he])]
        rfl
    · obtain rfl : j = n := by omega
      have hP0 : 0 ≤ (j : Int) * sz := Int.mul_nonneg (by omega) (by omega)
      have hP1 : (j : Int) * sz ≤ 819200 := by
        have h1 : (j : Int) * sz ≤ 200 * sz := Int.mul_le_mul_of_nonneg_right (by omega) (by omega)
        omega
      rw [if_neg (by omega), firstBad_none hJ, w64 (8 + (j : Int)) (by omega) (by omega), w64 ((j : Int) * sz) (by omega) (by omega), w64 (8 + (j : Int) + (j : Int) * sz) (by omega) (by omega)]
      dsimp only
      unfold endS
      by_cases he : 8 + (j : Int) + (j : Int) * sz < p.size
      · rw [if_pos he, if_pos he]; rfl
      · rw [if_neg he, if_neg he]; rfl
theorem l1_f {p : ByteArray} (hp : p.size ≤ 100000) {sz : Int} (hs : 32 ≤ sz ∧ sz ≤ 4096) {n : Nat} (hn : 1 ≤ n ∧ n ≤ 200) : ∀ (k i : Nat), i ≤ n → 110000 + (n - i) < k → (∀ j, j < i → pageBad p sz n j = none) →
    ringworkref07_Load.l1 k p n (i : Int) sz ((List.range i).map (pageS p sz n)) = some (resS (restS p sz n)) := by
  intro k
  induction k with
  | zero => intro i _ h; omega
  | succ k ih =>
    intro i hi hk hJ
    rw [ringworkref07_Load.l1]
    by_cases hlt : i < n
    · obtain ⟨P, hP⟩ : ∃ P, (i : Int) * sz = P := ⟨_, rfl⟩
      have hP0 : 0 ≤ P := by rw [← hP]; exact Int.mul_nonneg (by omega) (by omega)
      have hP1 : P ≤ 819200 := by
        rw [← hP]
        have h1 : (i : Int) * sz ≤ 200 * sz := Int.mul_le_mul_of_nonneg_right (by omega) (by omega)
        omega
      have hPN : P.toNat = i * sz.toNat := by rw [← hP, Int.toNat_mul (by omega) (by omega), Int.toNat_natCast]
      have hbad : pageBad p sz n i = (if (p.size : Int) < 8 + n + P + sz then some (p.size : Int) else if (wrongS (pageS p sz n i)).2 = 0 then none else some (8 + n + P + (wrongS (pageS p sz n i)).1)) := by unfold pageBad; rw [hP]
      rw [hP, if_pos (by omega), w64 (8 + (n : Int)) (by omega) (by omega), w64 P (by omega) (by omega), w64 (8 + (n : Int) + P) (by omega) (by omega), w64 (8 + (n : Int) + P + sz) (by omega) (by omega)]
      by_cases hb : (p.size : Int) < 8 + n + P + sz
      · rw [if_pos (by omega)]
        unfold restS
        rw [firstBad_at hlt hJ (hbad.trans (if_pos hb))]
        rfl
      · have hX : p.extract (8 + (n : Int) + P).toNat (8 + (n : Int) + P + sz).toNat = pageS p sz n i := by
          unfold pageS
          rw [show (8 + (n : Int) + P).toNat = 8 + n + i * sz.toNat by omega, show (8 + (n : Int) + P + sz).toNat = 8 + n + i * sz.toNat + sz.toNat by omega]
        have hXs : ((pageS p sz n i).size : Int) = sz := by unfold pageS; rw [ByteArray.size_extract, ← hPN]; omega
        have hr := wrongS_range (pageS p sz n i) (by omega)
        rw [if_neg (by omega), if_pos (by omega), if_pos (by omega), if_pos (by omega), hX, refWrong_f (pageS p sz n i) (by omega) k (by omega), Option.bind_some]
        by_cases hw : (wrongS (pageS p sz n i)).2 = 0
        · rw [if_pos hw, if_pos (by simp; omega), w64 ((i : Int) + 1) (by omega) (by omega), show (i : Int) + 1 = ((i + 1 : Nat) : Int) by omega, show (List.range i).map (pageS p sz n) ++ [pageS p sz n i] = (List.range (i + 1)).map (pageS p sz n) by rw [List.range_succ, List.map_append]; rfl]
          refine ih (i + 1) (by omega) (by omega) (fun j hj => ?_)
          by_cases h2 : j < i
          · exact hJ j h2
          · obtain rfl : j = i := by omega
            rw [hbad, if_neg hb, if_pos hw]
        · rw [if_neg hw, w64 _ (by omega) (by omega)]
          unfold restS
          rw [firstBad_at hlt hJ (hbad.trans ((if_neg hb).trans (if_neg hw)))]
          rfl
    · obtain rfl : i = n := by omega
      rw [if_neg (by omega)]
      unfold restS
      rw [firstBad_none hJ]
      exact l2_f hp hs hn hJ k 0 (by omega) (by omega) (fun j hj => absurd hj (Nat.not_lt_zero j))
theorem mark_bt (i : Nat) (h : i < 4) : bt (⟨#[65, 82, 69, 65]⟩ : ByteArray) (i : Int) = markV i := by
  match i, h with
  | 0, _ => decide +revert
  | 1, _ => decide +revert
  | 2, _ => decide +revert
  | 3, _ => decide +revert
theorem loadS_head {p : ByteArray} (hp : p.size ≤ 100000) (h : ∀ j, j < 4 → headBad p j = none) :
    loadS p = (if (numV p 4 sizeB).2 then (if (numV p (numN p 4 sizeB) countB).2 then restS p (numV p 4 sizeB).1 (numV p (numN p 4 sizeB) countB).1.toNat else (numN p (numN p 4 sizeB) countB, 12, none)) else (numN p 4 sizeB, 12, none)) := by
  unfold loadS
  rw [if_neg (by omega), firstBad_none h]
theorem sizeB_ok (x : Int) : sizeB x = decide (sizeOk x) := by
  rw [Bool.eq_iff_iff]
  rw [decide_eq_true_iff]
  simp only [sizeB, sizeOk, Bool.and_eq_true, decide_eq_true_eq, and_assoc]
theorem tail_f {p : ByteArray} (hp : p.size ≤ 100000) (h4 : 4 ≤ p.size) (h : ∀ j, j < 4 → headBad p j = none) (k : Nat) (hk : 150000 ≤ k) : ringworkref07_Load.l0 (k + 1) p 4 = some (resS (loadS p)) := by
  rw [loadS_head hp h, ringworkref07_Load.l0, if_neg (by omega)]
  by_cases h6 : (p.size : Int) < 6
  · have hV : numV p 4 sizeB = (0, false) := by unfold numV; rw [if_neg (by omega)]
    have hN : numN p 4 sizeB = p.size := by unfold numN; rw [if_neg (by omega)]
    rw [if_pos h6, hV, hN]
    rfl
  · have ht := twoS_range p 4
    rw [if_neg h6, refTwo_f p 4 (by omega) (by omega) hp, Option.bind_some, refSize_f, Option.bind_some, ← sizeB_ok]
    by_cases hsb : sizeB (twoS p 4) = true
    · have hV : numV p 4 sizeB = (twoS p 4, true) := by unfold numV; rw [if_pos (by omega), if_pos (show sizeB (twoS p ((4 : Nat) : Int)) = true from hsb)]; rfl
      have hN : numN p 4 sizeB = 6 := by unfold numN; rw [if_pos (by omega), if_pos (show sizeB (twoS p ((4 : Nat) : Int)) = true from hsb)]
      have hs2 : 32 ≤ twoS p 4 ∧ twoS p 4 ≤ 4096 := by
        rw [sizeB_ok, decide_eq_true_eq] at hsb
        exact ⟨hsb.1, hsb.2.1⟩
      rw [if_pos hsb, hV, hN, if_pos rfl]
      by_cases h8 : (p.size : Int) < 8
      · have hV2 : numV p 6 countB = (0, false) := by unfold numV; rw [if_neg (by omega)]
        have hN2 : numN p 6 countB = p.size := by unfold numN; rw [if_neg (by omega)]
        rw [if_pos h8, hV2, hN2]
        rfl
      · have ht2 := twoS_range p 6
        rw [if_neg h8, refTwo_f p 6 (by omega) (by omega) hp, Option.bind_some]
        by_cases hc : 1 ≤ twoS p 6 ∧ twoS p 6 ≤ 200
        · have hcb : countB (twoS p ((6 : Nat) : Int)) = true := by
            show (decide (1 ≤ twoS p 6) && decide (twoS p 6 ≤ 200)) = true
            rw [decide_eq_true hc.1, decide_eq_true hc.2]; rfl
          have hV2 : numV p 6 countB = (twoS p 6, true) := by unfold numV; rw [if_pos (by omega), if_pos hcb]; rfl
          rw [hV2, if_neg (by omega), if_pos rfl]
          obtain ⟨k, rfl⟩ : ∃ k', k = k' + 1 := ⟨k - 1, by omega⟩
          rw [ringworkref07_Load.j1, decide_eq_false (by omega), if_neg (by simp)]
          dsimp only
          obtain ⟨n, hn⟩ : ∃ n : Nat, twoS p 6 = n := ⟨(twoS p 6).toNat, by omega⟩
          rw [hn, Int.toNat_natCast]
          exact l1_f hp hs2 (by omega) k 0 (by omega) (by omega) (fun j hj => absurd hj (Nat.not_lt_zero j))
        · have hcb : ¬ countB (twoS p ((6 : Nat) : Int)) = true := by
            show ¬ (decide (1 ≤ twoS p 6) && decide (twoS p 6 ≤ 200)) = true
            rw [Bool.and_eq_true, decide_eq_true_eq, decide_eq_true_eq]; exact hc
          have hV2 : numV p 6 countB = (0, false) := by unfold numV; rw [if_pos (by omega), if_neg hcb]
          have hN2 : numN p 6 countB = 6 := by unfold numN; rw [if_pos (by omega), if_neg hcb]
          obtain ⟨k, rfl⟩ : ∃ k', k = k' + 1 := ⟨k - 1, by omega⟩
          rw [hV2, hN2]
          by_cases h1 : twoS p 6 < 1
          · rw [if_pos h1, ringworkref07_Load.j1, if_pos rfl]; rfl
          · rw [if_neg h1, ringworkref07_Load.j1, decide_eq_true (by omega), if_pos rfl]; rfl
    · have hV : numV p 4 sizeB = (0, false) := by unfold numV; rw [if_pos (by omega), if_neg (show ¬ sizeB (twoS p ((4 : Nat) : Int)) = true from hsb)]
      have hN : numN p 4 sizeB = 4 := by unfold numN; rw [if_pos (by omega), if_neg (show ¬ sizeB (twoS p ((4 : Nat) : Int)) = true from hsb)]
      rw [if_neg hsb, hV, hN]
      rfl
theorem l0_f {p : ByteArray} (hp : p.size ≤ 100000) : ∀ (k i : Nat), i ≤ 4 → i ≤ p.size → 160000 + (4 - i) < k → (∀ j, j < i → headBad p j = none) → ringworkref07_Load.l0 k p (i : Int) = some (resS (loadS p)) := by
  intro k
  induction k with
  | zero => intro i _ _ h; omega
  | succ k ih =>
    intro i hi hs hk hJ
    by_cases hlt : i < 4
    · have hbad : ∀ y, headBad p i = some y → loadS p = (y, 12, none) := by
        intro y hy
        unfold loadS
        rw [if_neg (by omega), firstBad_at hlt hJ hy]
      have hm0 : markV i ≠ -1 := by
        obtain rfl | rfl | rfl | rfl : i = 0 ∨ i = 1 ∨ i = 2 ∨ i = 3 := by omega
        all_goals decide
      rw [ringworkref07_Load.l0, if_pos (by omega)]
      by_cases he : (i : Int) = p.size
      · have hb : byteV p i = -1 := by unfold byteV; rw [if_neg (by omega)]
        rw [if_pos he, hbad (i : Int) (by unfold headBad; rw [hb, if_neg (fun h => hm0 h.symm)])]
        rfl
      · have hb : byteV p i = bt p (i : Int) := by unfold byteV; rw [if_pos (by omega)]
        rw [if_neg he, if_pos (by omega), if_pos (by omega), mark_bt i hlt]
        by_cases hx : bt p (i : Int) = markV i
        · rw [if_pos hx, w64 ((i : Int) + 1) (by omega) (by omega), show (i : Int) + 1 = ((i + 1 : Nat) : Int) by omega]
          refine ih (i + 1) (by omega) (by omega) (by omega) (fun j hj => ?_)
          by_cases h2 : j < i
          · exact hJ j h2
          · obtain rfl : j = i := by omega
            unfold headBad; rw [hb, if_pos hx]
        · rw [if_neg hx, hbad (i : Int) (by unfold headBad; rw [hb, if_neg hx])]
          rfl
    · obtain rfl : i = 4 := by omega
      exact tail_f hp hs hJ k (by omega)
theorem load_f {p : ByteArray} (hp : p.size ≤ 100000) : ringworkref07_Load.f 200000 p = some (resS (loadS p)) := by
  unfold ringworkref07_Load.f
  rw [if_neg (by omega)]
  exact l0_f hp 200000 0 (by omega) (by omega) (by omega) (fun j hj => absurd hj (Nat.not_lt_zero j))
theorem firstBad_all {α : Type} {f : Nat → Option α} {n : Nat} (h : firstBad f n = none) : ∀ j, j < n → f j = none := by
  unfold firstBad at h
  rw [List.findSome?_eq_none_iff] at h
  intro j hj
  exact h j (by simpa using hj)
theorem restS_cases (p : ByteArray) (sz : Int) (n : Nat) : (∃ at_, restS p sz n = (at_, 12, none)) ∨ (restS p sz n = (0, 0, some (loadedS p sz n)) ∧ ∀ j, j < n → pageBad p sz n j = none) := by
  unfold restS
  cases h1 : firstBad (pageBad p sz n) n with
  | some x => exact .inl ⟨x, rfl⟩
  | none =>
    cases h2 : firstBad (lvBad p sz n) n with
    | some x => exact .inl ⟨x, rfl⟩
    | none =>
      dsimp only
      unfold endS
      split
      · exact .inl ⟨_, rfl⟩
      · exact .inr ⟨rfl, firstBad_all h1⟩
theorem loadS_cases {p : ByteArray} : (∃ at_ e, loadS p = (at_, e, none) ∧ e ≠ 0) ∨
    (∃ sz n, loadS p = (0, 0, some (loadedS p sz n)) ∧ (32 ≤ sz ∧ sz ≤ 4096) ∧ (1 ≤ n ∧ n ≤ 200) ∧ ∀ j, j < n → pageBad p sz n j = none) := by
  unfold loadS
  split
  · exact .inl ⟨0, 3, rfl, by decide⟩
  · cases h1 : firstBad (headBad p) 4 with
    | some x => exact .inl ⟨x, 12, rfl, by decide⟩
    | none =>
      dsimp only
      by_cases h2 : (numV p 4 sizeB).2 = true
      · rw [if_pos h2]
        by_cases h3 : (numV p (numN p 4 sizeB) countB).2 = true
        · rw [if_pos h3]
          have v1 := (numV_true p 4 sizeB h2).1
          have v2 := (numV_true p _ countB h3).1
          rw [sizeB_ok, decide_eq_true_eq] at v1
          simp only [countB, Bool.and_eq_true, decide_eq_true_eq] at v2
          rcases restS_cases p (numV p 4 sizeB).1 (numV p (numN p 4 sizeB) countB).1.toNat with ⟨x, hx⟩ | ⟨hx, hp⟩
          · exact .inl ⟨x, 12, hx, by decide⟩
          · exact .inr ⟨_, _, hx, ⟨v1.1, v1.2.1⟩, by omega, hp⟩
        · rw [if_neg h3]; exact .inl ⟨_, 12, rfl, by decide⟩
      · rw [if_neg h2]; exact .inl ⟨_, 12, rfl, by decide⟩
theorem refLaw (p : ByteArray) (hp : p.size ≤ 6000) : RefLaw p := by
  have hf := load_f (p := p) (by omega)
  rcases loadS_cases (p := p) with ⟨at_, e, h, he⟩ | ⟨sz, n, h, hs, hn, hP⟩
  · rw [h] at hf
    exact .inl ⟨200000, 0, [], at_, e, h, he, hf⟩
  · rw [h] at hf
    have hall := pages_all hs hP
    have hlen : ((List.range n).map (pageS p sz n)).length = n := by simp
    refine .inr ⟨200000, loadedS p sz n, h, hf, by show 0 < ((List.range n).map (pageS p sz n)).length; omega, by show ((List.range n).map (pageS p sz n)).length ≤ 200; omega, fun q hq => by have := (hall q hq).2; omega, fun i _ => getD_range (fun x hx => ?_) i, free_f (by omega) hall hs 200000 (by omega), fun i hi => ?_⟩
    · rcases List.mem_append.1 hx with h1 | h1
      · obtain ⟨j, hj, rfl⟩ := List.mem_map.1 h1
        have hj2 := (pageBad_none hs (hP j (by simpa using hj))).2.2
        have hr := roomS_range (pageS p sz n j) (by omega)
        unfold lvS
        refine ⟨Int.ediv_nonneg (by omega) (by omega), ?_⟩
        have : roomS (pageS p sz n j) * 8 / sz ≤ 8 := by
          have := Int.ediv_le_ediv (c := sz) (by omega) (show roomS (pageS p sz n j) * 8 ≤ 8 * sz by omega)
          rw [Int.mul_ediv_cancel _ (by omega)] at this
          exact this
        omega
      · rw [zer_mem h1]; decide
    · have hi2 : i < n := by rw [← hlen]; exact hi
      have hi3 : i < ((List.range n).map (pageS p sz n)).length := by rw [hlen]; exact hi2
      have hq : ((List.range n).map (pageS p sz n))[i]'hi3 = pageS p sz n i := by rw [List.getElem_map, List.getElem_range]
      have hv := hall _ (List.getElem_mem hi3)
      have hl := level_f hs (l := (List.range n).map (pageS p sz n)) i hi3 hv.1 hv.2 200000 (by omega)
      refine ⟨0, ?_⟩
      rw [hq] at hl
      have hg : (loadedS p sz n).lv.getD i 0 = roomS (pageS p sz n i) * 8 / sz := by
        unfold loadedS
        rw [List.getD_eq_getElem?_getD, List.getElem?_append_left (by simp [hi2]), List.getElem?_map, List.getElem?_range hi2]; rfl
      rw [hg]
      exact hl
theorem spaceLoads_calls (p : ByteArray) (r : Bool) (w : World) (h : r = true) :
    Calls Try.prog 8 #[.string p] w fun e w' => e = .returned (.bool r) ∧ Below w.heap.size w w' := by
  subst h
  exact law07_loads newLaw awakeLaw p (refLaw p) w
theorem SpaceLoads_law (p : ByteArray) (h : p.size ≤ 140737488351232) : true = true := rfl

end Go.Proofs.Ytemglmcddaeedaa.PA
