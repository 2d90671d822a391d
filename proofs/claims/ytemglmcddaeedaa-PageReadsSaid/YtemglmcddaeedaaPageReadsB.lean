/- Part of the proof: PageReads: Valid, Wrong, Cells, Lines, Free and Next answer as the reference does, and Fill of Cells is the page. -/
import Derived.Test.YtemglmcddaeedaaPageReadsA
import Derived.ArgAppend
import Derived.Below
import Derived.BigQuiet
import Derived.ChangeOld
import Derived.Deep.AppendLies
import Derived.Deep.CutBlock
import Derived.Deep.DeepCutAuto
import Derived.Deep.Draws
import Derived.Deep.LoopGhost
import Derived.Deep.OwnRows
import Derived.Deep.QuietTactic
import Derived.Deep.RegionHeld3
import Derived.Deep.SlicePairs
import Derived.Defers
import Derived.DefersIn
import Derived.KernelRfl
import Derived.Laws.BitsLemmas
import Derived.Laws.BytesArg
import Derived.Laws.CopyOwn
import Derived.Laws.IdiomCopy
import Derived.Laws.MakeOwn
import Derived.Laws.OwnMore
import Derived.Laws.Rows
import Derived.Laws.Slices
import Derived.Lib.AppendStr
import Derived.Lib.BufferWrite
import Derived.Lib.ConvBytes
import Derived.Lib.Hide
import Derived.LoopIn
import Derived.LoopNIn
import Derived.Maps.AppendAt
import Derived.OpenShut
import Derived.OrdersHeld
import Derived.OwnWalk
import Derived.OwnWalkIn
import Derived.ProofKit
import Derived.RangeFuncBound
import Derived.RangeFuncCalls
import Derived.RangeFuncLeaves
import Derived.RangeFuncNested
import Derived.RangeFuncRecord
import Derived.Recover
import Derived.RecoverIn
import Derived.RowKit
import Derived.RowKit3
import Derived.Shelf.Abstract
import Derived.Shelf.RegionOpen
import Derived.ShutString
import Derived.SizedLaws
import Derived.StillTailTactics
import Derived.Tactics
import Derived.TacticsInMore
import Derived.Test.YtemglmcddaeedaaProg
import Derived.Test.YtemglmcddaeedaaRows
import Derived.Test.YtemglmcddaeedaaWApart
import Derived.Test.YtemglmcddaeedaaWArr
import Derived.Test.YtemglmcddaeedaaWAt
import Derived.Test.YtemglmcddaeedaaWEqStruct
import Derived.Test.YtemglmcddaeedaaWFoot
import Derived.Test.YtemglmcddaeedaaWFootNe
import Derived.Test.YtemglmcddaeedaaWFour
import Derived.Test.YtemglmcddaeedaaWGuard
import Derived.Test.YtemglmcddaeedaaWInv
import Derived.Test.YtemglmcddaeedaaWInvWords
import Derived.Test.YtemglmcddaeedaaWKept
import Derived.Test.YtemglmcddaeedaaWLast
import Derived.Test.YtemglmcddaeedaaWMore
import Derived.Test.YtemglmcddaeedaaWN
import Derived.Test.YtemglmcddaeedaaWNEv
import Derived.Test.YtemglmcddaeedaaWQPut
import Derived.Test.YtemglmcddaeedaaWRepsOne
import Derived.Test.YtemglmcddaeedaaWShare
import Derived.Test.YtemglmcddaeedaaWTab
import Derived.Test.YtemglmcddaeedaaWWords
import Derived.Test.YtemglmcddaeedaaWZeros
import Derived.WalkKit
import Derived.WalkLawsBesides
import Derived.WalkSpells
import Derived.WideLaws
namespace Go.Proofs.Ytemglmcddaeedaa.PA
open Go.RowKit Go.Proofs.YtemglmcddaeedaaW.PrintWords Go.Proofs.YtemglmcddaeedaaW.PrintLast Go.Proofs.YtemglmcddaeedaaW.PrintMore
attribute [local go_sem] max2_int min2_int max_two min_two max_three min_three max_four min_four   -- for this text's walks alone
set_option linter.unusedVariables false
set_option linter.unusedSimpArgs false

/-! ### ringworkref06_Wrong: function 20 -/
mutual
def ringworkref06_Wrong.j0 : Nat → ByteArray → Int → Bool → Option (Int × Int)
  | 0, _, _, _ => none
  | k + 1, x0, x4, x26 => if x26 = true then (some (0, 12)) else (ringworkref06_Wrong.l0 k x0 x4 (x0.size : Int) 1)
def ringworkref06_Wrong.l0 : Nat → ByteArray → Int → Int → Int → Option (Int × Int)
  | 0, _, _, _, _ => none
  | k + 1, x0, x4, x5, x6 => if x6 ≤ x4 then ((ringworkref06_Two.f x0 (wrap64 ((wrap64 (4 * x6)) - 2))).bind fun t180 => ((ringworkref06_Two.f x0 (wrap64 ((wrap64 ((wrap64 (4 * x6)) - 2)) + 2))).bind fun t181 => (if t180 = 0 then (ringworkref06_Wrong.j2 k x0 x4 x5 x6 (wrap64 ((wrap64 (4 * x6)) - 2)) t180 t181 (t181 == 0)) else (ringworkref06_Wrong.j2 k x0 x4 x5 x6 (wrap64 ((wrap64 (4 * x6)) - 2)) t180 t181 false)))) else (ringworkref06_Wrong.l1 k x0 x5 (wrap64 (2 + (wrap64 (4 * x4)))))
def ringworkref06_Wrong.j2 : Nat → ByteArray → Int → Int → Int → Int → Int → Int → Bool → Option (Int × Int)
  | 0, _, _, _, _, _, _, _, _ => none
  | k + 1, x0, x4, x5, x6, x7, x8, x9, x49 => if x49 = true then (if x6 = x4 then (some (x7, 12)) else (ringworkref06_Wrong.l0 k x0 x4 x5 (wrap64 (x6 + 1)))) else (if x8 = 0 then (some (x7, 12)) else (if x9 = 0 then (some (x7, 12)) else (if x8 = (wrap64 (x5 - x9)) then (if x8 < (wrap64 (2 + (wrap64 (4 * x4)))) then (some (x7, 12)) else (ringworkref06_Wrong.l0 k x0 x4 x8 (wrap64 (x6 + 1)))) else (some (x7, 12)))))
def ringworkref06_Wrong.l1 : Nat → ByteArray → Int → Int → Option (Int × Int)
  | 0, _, _, _ => none
  | k + 1, x0, x5, x10 => if x10 < x5 then (if 0 ≤ x10 then (if x10 < (x0.size : Int) then (if (bt x0 x10) = 0 then (ringworkref06_Wrong.l1 k x0 x5 (wrap64 (x10 + 1))) else (some (x10, 12))) else (none)) else (none)) else (some ((x0.size : Int), 0))
end
def ringworkref06_Wrong.f (k : Nat) (a0 : ByteArray) : Option (Int × Int) := (ringworkref06_Size.f (a0.size : Int)).bind fun t178 => (if t178 = true then ((ringworkref06_Two.f a0 0).bind fun t179 => (if t179 > 200 then (ringworkref06_Wrong.j0 k a0 t179 true) else (ringworkref06_Wrong.j0 k a0 t179 (decide ((wrap64 (2 + (wrap64 (4 * t179)))) > (a0.size : Int)))))) else (some (0, 11)))
theorem ringworkref06_Wrong.mono_l : ∀ k, (∀ y0 y1 y2, LeO (ringworkref06_Wrong.j0 k y0 y1 y2) (ringworkref06_Wrong.j0 (k + 1) y0 y1 y2)) ∧ (∀ y0 y1 y2 y3, LeO (ringworkref06_Wrong.l0 k y0 y1 y2 y3) (ringworkref06_Wrong.l0 (k + 1) y0 y1 y2 y3)) ∧ (∀ y0 y1 y2 y3 y4 y5 y6 y7, LeO (ringworkref06_Wrong.j2 k y0 y1 y2 y3 y4 y5 y6 y7) (ringworkref06_Wrong.j2 (k + 1) y0 y1 y2 y3 y4 y5 y6 y7)) ∧ (∀ y0 y1 y2, LeO (ringworkref06_Wrong.l1 k y0 y1 y2) (ringworkref06_Wrong.l1 (k + 1) y0 y1 y2))
  | 0 => ⟨fun _ _ _ r h => by simp [ringworkref06_Wrong.j0] at h, fun _ _ _ _ r h => by simp [ringworkref06_Wrong.l0] at h, fun _ _ _ _ _ _ _ _ r h => by simp [ringworkref06_Wrong.j2] at h, fun _ _ _ r h => by simp [ringworkref06_Wrong.l1] at h⟩
  | k + 1 => by
    obtain ⟨ih0, ih1, ih2, ih3⟩ := ringworkref06_Wrong.mono_l k
    refine ⟨?_, ?_, ?_, ?_⟩
    · intro y0 y1 y2
      unfold ringworkref06_Wrong.j0
      repeat' first
      | (with_reducible exact ih0 _ _ _)
      | (with_reducible exact ih1 _ _ _ _)
      | (with_reducible exact ih2 _ _ _ _ _ _ _ _)
      | (with_reducible exact ih3 _ _ _)
      | (with_reducible exact LeO.refl _)
      | (with_reducible exact LeO.none _)
      | (with_reducible refine LeO.ite ?_ ?_)
      | (with_reducible refine LeO.bind ?_ (fun _ => ?_))
      | exact ih0 _ _ _
      | exact ih1 _ _ _ _
      | exact ih2 _ _ _ _ _ _ _ _
      | exact ih3 _ _ _
      | exact LeO.none _
      | refine LeO.ite ?_ ?_
      | refine LeO.bind ?_ (fun _ => ?_)
    · intro y0 y1 y2 y3
      unfold ringworkref06_Wrong.l0
      repeat' first
      | (with_reducible exact ih0 _ _ _)
      | (with_reducible exact ih1 _ _ _ _)
      | (with_reducible exact ih2 _ _ _ _ _ _ _ _)
      | (with_reducible exact ih3 _ _ _)
      | (with_reducible exact LeO.refl _)
      | (with_reducible exact LeO.none _)
      | (with_reducible refine LeO.ite ?_ ?_)
      | (with_reducible refine LeO.bind ?_ (fun _ => ?_))
      | exact ih0 _ _ _
      | exact ih1 _ _ _ _
      | exact ih2 _ _ _ _ _ _ _ _
      | exact ih3 _ _ _
      | exact LeO.none _
      | refine LeO.ite ?_ ?_
      | refine LeO.bind ?_ (fun _ => ?_)
    · intro y0 y1 y2 y3 y4 y5 y6 y7
      unfold ringworkref06_Wrong.j2
      repeat' first
      | (with_reducible exact ih0 _ _ _)
      | (with_reducible exact ih1 _ _ _ _)
      | (with_reducible exact ih2 _ _ _ _ _ _ _ _)
      | (with_reducible exact ih3 _ _ _)
      | (with_reducible exact LeO.refl _)
      | (with_reducible exact LeO.none _)
      | (with_reducible refine LeO.ite ?_ ?_)
      | (with_reducible refine LeO.bind ?_ (fun _ => ?_))
      | exact ih0 _ _ _
      | exact ih1 _ _ _ _
      | exact ih2 _ _ _ _ _ _ _ _
      | exact ih3 _ _ _
      | exact LeO.none _
      | refine LeO.ite ?_ ?_
      | refine LeO.bind ?_ (fun _ => ?_)
    · intro y0 y1 y2
      unfold ringworkref06_Wrong.l1
      repeat' first
      | (with_reducible exact ih0 _ _ _)
      | (with_reducible exact ih1 _ _ _ _)
      | (with_reducible exact ih2 _ _ _ _ _ _ _ _)
      | (with_reducible exact ih3 _ _ _)
      | (with_reducible exact LeO.refl _)
      | (with_reducible exact LeO.none _)
      | (with_reducible refine LeO.ite ?_ ?_)
      | (with_reducible refine LeO.bind ?_ (fun _ => ?_))
      | exact ih0 _ _ _
      | exact ih1 _ _ _ _
      | exact ih2 _ _ _ _ _ _ _ _
      | exact ih3 _ _ _
      | exact LeO.none _
      | refine LeO.ite ?_ ?_
      | refine LeO.bind ?_ (fun _ => ?_)
theorem ringworkref06_Wrong.mono : ∀ a0 k, LeO (ringworkref06_Wrong.f k a0) (ringworkref06_Wrong.f (k + 1) a0) := by
  intro a0 k
  obtain ⟨ih0, ih1, ih2, ih3⟩ := ringworkref06_Wrong.mono_l k
  unfold ringworkref06_Wrong.f
  repeat' first
      | (with_reducible exact ih0 _ _ _)
      | (with_reducible exact ih1 _ _ _ _)
      | (with_reducible exact ih2 _ _ _ _ _ _ _ _)
      | (with_reducible exact ih3 _ _ _)
      | (with_reducible exact LeO.refl _)
      | (with_reducible exact LeO.none _)
      | (with_reducible refine LeO.ite ?_ ?_)
      | (with_reducible refine LeO.bind ?_ (fun _ => ?_))
      | exact ih0 _ _ _
      | exact ih1 _ _ _ _
      | exact ih2 _ _ _ _ _ _ _ _
      | exact ih3 _ _ _
      | exact LeO.none _
      | refine LeO.ite ?_ ?_
      | refine LeO.bind ?_ (fun _ => ?_)
set_option maxHeartbeats 8000000 in
set_option maxRecDepth 100000 in
theorem ringworkref06_Wrong.calls (k : Nat) (a0 : ByteArray) (r1 : Int) (r2 : Int) (w : World) (h : ringworkref06_Wrong.f k a0 = some (r1, r2)) :
    Calls Try.prog 20 #[.string a0] w fun e w' => e = .returned (.tuple #[.int .i64 r1, .int .i64 r2]) ∧ Drawn0 w w' := by
  have H : ((ringworkref06_Size.f (a0.size : Int)).bind fun t178 => (if t178 = true then ((ringworkref06_Two.f a0 0).bind fun t179 => (if t179 > 200 then (ringworkref06_Wrong.j0 k a0 t179 true) else (ringworkref06_Wrong.j0 k a0 t179 (decide ((wrap64 (2 + (wrap64 (4 * t179)))) > (a0.size : Int)))))) else (some (0, 11)))) = some (r1, r2) := h
  clear h
  replace H := Option.bind_eq_some_iff.mp H
  obtain ⟨t178, A20, H⟩ := H
  replace H : (if t178 = true then ((ringworkref06_Two.f a0 0).bind fun t179 => (if t179 > 200 then (ringworkref06_Wrong.j0 k a0 t179 true) else (ringworkref06_Wrong.j0 k a0 t179 (decide ((wrap64 (2 + (wrap64 (4 * t179)))) > (a0.size : Int)))))) else (some (0, 11))) = some (r1, r2) := H
  have A2 := Aside0.mk A20
  clear A20
  by_cases c3 : t178 = true
  · subst c3
    have H1 : ((ringworkref06_Two.f a0 0).bind fun t179 => (if t179 > 200 then (ringworkref06_Wrong.j0 k a0 t179 true) else (ringworkref06_Wrong.j0 k a0 t179 (decide ((wrap64 (2 + (wrap64 (4 * t179)))) > (a0.size : Int)))))) = some (r1, r2) := by rw [if_pos rfl] at H; exact H
    clear H
    have H := H1
    clear H1
    replace H := Option.bind_eq_some_iff.mp H
    obtain ⟨t179, A40, H⟩ := H
    replace H : (if t179 > 200 then (ringworkref06_Wrong.j0 k a0 t179 true) else (ringworkref06_Wrong.j0 k a0 t179 (decide ((wrap64 (2 + (wrap64 (4 * t179)))) > (a0.size : Int))))) = some (r1, r2) := H
    have A4 := Aside0.mk A40
    clear A40
    have HC5 := Aside0.mk H
    clear H
    go_enter Try.func20, Try.ntmps20
    go_upto_region 4 with (first | ((with_reducible refine gate_callee (f := 50) rfl ?_); refine goesL_ (some 13) rfl rfl Try.func50 (by kernel_rfl) rfl #[.int .i64 (a0.size : Int)] rfl (by (try simp only [List.map_toArray, List.map_cons, List.map_nil]); first | done | rfl | (simp only [List.length_drop, List.length_take]; rfl)) ?_; (with_reducible refine (ringworkref06_Size.calls (a0.size : Int) true _ A2.out).mono ?_); rintro e w' ⟨rfl, ⟨nd, rfl⟩⟩; refine ⟨_, rfl, ?_⟩) | ((with_reducible refine gate_callee (f := 59) rfl ?_); refine goesL_ (some 16) rfl rfl Try.func59 (by kernel_rfl) rfl #[.string a0, .int .i64 0] rfl (by (try simp only [List.map_toArray, List.map_cons, List.map_nil]); first | done | rfl | (simp only [List.length_drop, List.length_take]; rfl)) ?_; (with_reducible refine (ringworkref06_Two.calls a0 0 t179 _ A4.out).mono ?_); rintro e w' ⟨rfl, ⟨nd, rfl⟩⟩; refine ⟨_, rfl, ?_⟩))
    (try simp only [Act.put, List.setIfInBounds_toArray, List.set_cons_zero, List.set_cons_succ])
    go_cut [26] (fun v26 wc => ∃ (kq : Nat) (x26_4 : Bool), v26 = .bool x26_4 ∧ Aside0 (ringworkref06_Wrong.j0 kq a0 t179 x26_4 = some (r1, r2)) ∧ Aside0 (kq ≤ k) ∧ Drawn0 w wc)
    case first =>
      have H := HC5.out
      clear HC5
      by_cases c6 : t179 > 200
      · rw [if_pos c6] at H
        have c6b0 : decide (200 < t179) = true := decide_eq_true c6
        clear c6
        (first | rw [c6b0] | (simp only [i64_w, i32_w]; rw [c6b0]) | skip)
        have H' := Aside0.mk H
        clear H
        go_wp2
        go_meet
        case rel => exact ⟨_, (true), (by first | rfl | (simp; done) | (simp [*]; done)), H', ⟨by first | omega | exact Nat.le_refl _⟩, by repeat (first | exact Drawn0.refl _ | apply Drawn0.step)⟩
      · rw [if_neg c6] at H
        have c6b0 : decide (200 < t179) = false := decide_eq_false c6
        clear c6
        (first | rw [c6b0] | (simp only [i64_w, i32_w]; rw [c6b0]) | skip)
        have H' := Aside0.mk H
        clear H
        go_wp2
        go_meet
        case rel => exact ⟨_, (decide ((wrap64 (2 + (wrap64 (4 * t179)))) > (a0.size : Int))), (by first | rfl | (simp; done) | (simp [*]; done)), H', ⟨by first | omega | exact Nat.le_refl _⟩, by repeat (first | exact Drawn0.refl _ | apply Drawn0.step)⟩
    case rest =>
      clear HC5
      try clear c2
      try clear p2
      try clear c3
      try clear c5
      try clear c6
      try clear c6b0
      try clear p6
      obtain ⟨kq, x26_4, rfl, HA, HJ4, ⟨mc4, rfl⟩⟩ := hcut
      cases kq with
      | zero => exact absurd HA.out (by simp [ringworkref06_Wrong.j0])
      | succ kj4 =>
        have H := HA.out
        clear HA
        simp only [ringworkref06_Wrong.j0] at H
        by_cases c7 : x26_4 = true
        · subst c7
          have H1 : (some (0, 12)) = some (r1, r2) := by rw [if_pos rfl] at H; exact H
          clear H
          have H := H1
          clear H1
          simp only [Option.some.injEq, Prod.mk.injEq] at H
          obtain ⟨rfl, rfl⟩ := H
          go_wp2
          go_ret2
          exact ⟨by first | rfl | (simp; done) | (simp [*]; done), by repeat (first | exact Drawn0.refl _ | apply Drawn0.step)⟩
        · replace c7 := Bool.eq_false_iff.mpr c7
          subst c7
          have H1 : (ringworkref06_Wrong.l0 kj4 a0 t179 (a0.size : Int) 1) = some (r1, r2) := by rw [if_neg (show ¬ (false = true) by decide)] at H; exact H
          clear H
          have H := H1
          clear H1
          have H' := Aside0.mk H
          clear H
          go_wp2
          go_loopg [5, 6] kj4 (fun kq v5 v6 w' => ∃ (x5_2 : Int) (x6_2 : Int), v5 = .int .i64 x5_2 ∧ v6 = .int .i64 x6_2 ∧ Aside0 (ringworkref06_Wrong.l0 kq a0 t179 x5_2 x6_2 = some (r1, r2)) ∧ Aside0 (kq ≤ kj4) ∧ Drawn0 w w')
          case atStart => exact ⟨((a0.size : Int)), (1), (by first | rfl | (simp; done) | (simp [*]; done)), (by first | rfl | (simp; done) | (simp [*]; done)), H', ⟨Nat.le_refl _⟩, by repeat (first | exact Drawn0.refl _ | apply Drawn0.step)⟩
          case round =>
            clear H'
            try clear c2
            try clear p2
            try clear c3
            try clear c4
            try clear c5
            try clear c6
            try clear c6b0
            try clear p6
            try clear c7
            try clear p2
            try clear p6
            obtain ⟨x5_2, x6_2, rfl, rfl, HA, HK2, ⟨m2, rfl⟩⟩ := hrel
            cases gk with
            | zero => exact absurd HA.out (by simp [ringworkref06_Wrong.l0])
            | succ k2 =>
              have H := HA.out
              clear HA
              simp only [ringworkref06_Wrong.l0] at H
              by_cases c8 : x6_2 ≤ t179
              · rw [if_pos c8] at H
                have c8b0 : decide (x6_2 ≤ t179) = true := decide_eq_true c8
                clear c8
                replace H := Option.bind_eq_some_iff.mp H
                obtain ⟨t180, A90, H⟩ := H
                replace H : ((ringworkref06_Two.f a0 (wrap64 ((wrap64 ((wrap64 (4 * x6_2)) - 2)) + 2))).bind fun t181 => (if t180 = 0 then (ringworkref06_Wrong.j2 k2 a0 t179 x5_2 x6_2 (wrap64 ((wrap64 (4 * x6_2)) - 2)) t180 t181 (t181 == 0)) else (ringworkref06_Wrong.j2 k2 a0 t179 x5_2 x6_2 (wrap64 ((wrap64 (4 * x6_2)) - 2)) t180 t181 false))) = some (r1, r2) := H
                have A9 := Aside0.mk A90
                clear A90
                replace H := Option.bind_eq_some_iff.mp H
                obtain ⟨t181, A100, H⟩ := H
                replace H : (if t180 = 0 then (ringworkref06_Wrong.j2 k2 a0 t179 x5_2 x6_2 (wrap64 ((wrap64 (4 * x6_2)) - 2)) t180 t181 (t181 == 0)) else (ringworkref06_Wrong.j2 k2 a0 t179 x5_2 x6_2 (wrap64 ((wrap64 (4 * x6_2)) - 2)) t180 t181 false)) = some (r1, r2) := H
                have A10 := Aside0.mk A100
                clear A100
                have HC11 := Aside0.mk H
                clear H
                go_upto_region 12 with (first | ((with_reducible refine gate_callee (f := 59) rfl ?_); refine goesL_ (some 39) rfl rfl Try.func59 (by kernel_rfl) rfl #[.string a0, .int .i64 (wrap64 ((wrap64 (4 * x6_2)) - 2))] rfl (by (try simp only [List.map_toArray, List.map_cons, List.map_nil]); first | done | rfl | (simp only [List.length_drop, List.length_take]; rfl)) ?_; (with_reducible refine (ringworkref06_Two.calls a0 (wrap64 ((wrap64 (4 * x6_2)) - 2)) t180 _ A9.out).mono ?_); rintro e w' ⟨rfl, ⟨nd, rfl⟩⟩; refine ⟨_, rfl, ?_⟩) | ((with_reducible refine gate_callee (f := 59) rfl ?_); refine goesL_ (some 43) rfl rfl Try.func59 (by kernel_rfl) rfl #[.string a0, .int .i64 (wrap64 ((wrap64 ((wrap64 (4 * x6_2)) - 2)) + 2))] rfl (by (try simp only [List.map_toArray, List.map_cons, List.map_nil]); first | done | rfl | (simp only [List.length_drop, List.length_take]; rfl)) ?_; (with_reducible refine (ringworkref06_Two.calls a0 (wrap64 ((wrap64 ((wrap64 (4 * x6_2)) - 2)) + 2)) t181 _ A10.out).mono ?_); rintro e w' ⟨rfl, ⟨nd, rfl⟩⟩; refine ⟨_, rfl, ?_⟩))
                (try simp only [Act.put, List.setIfInBounds_toArray, List.set_cons_zero, List.set_cons_succ])
                go_cut [49] (fun v49 wc => ∃ (kq : Nat) (x49_10 : Bool), v49 = .bool x49_10 ∧ Aside0 (ringworkref06_Wrong.j2 kq a0 t179 x5_2 x6_2 (wrap64 ((wrap64 (4 * x6_2)) - 2)) t180 t181 x49_10 = some (r1, r2)) ∧ Aside0 (kq ≤ k2) ∧ Drawn0 w wc)
                case first =>
                  have H := HC11.out
                  clear HC11
                  by_cases c12 : t180 = 0
                  · rw [if_pos c12] at H
                    have c12b0 : (t180 == 0) = true := beq_iff_eq.mpr c12
                    have c12b1 : (t180 != 0) = false := bne_eq_false_iff_eq.mpr c12
                    clear c12
                    (first | rw [c12b0] | (simp only [i64_w, i32_w]; rw [c12b0]) | skip)
                    have H' := Aside0.mk H
                    clear H
                    go_wp2
                    go_meet
                    case rel => exact ⟨_, ((t181 == 0)), (by first | rfl | (simp; done) | (simp [*]; done)), H', ⟨by have := HJ4.out; have := HK2.out; first | omega | exact Nat.le_refl _⟩, by repeat (first | exact Drawn0.refl _ | apply Drawn0.step)⟩
                  · rw [if_neg c12] at H
                    have c12b0 : (t180 == 0) = false := beq_eq_false_iff_ne.mpr c12
                    have c12b1 : (t180 != 0) = true := bne_iff_ne.mpr c12
                    (first | rw [c12b0] | (simp only [i64_w, i32_w]; rw [c12b0]) | skip)
                    have H' := Aside0.mk H
                    clear H
                    go_wp2
                    go_meet
                    case rel => exact ⟨_, (false), (by first | rfl | (simp; done) | (simp [*]; done)), H', ⟨by have := HJ4.out; have := HK2.out; first | omega | exact Nat.le_refl _⟩, by repeat (first | exact Drawn0.refl _ | apply Drawn0.step)⟩
                case rest =>
                  clear HC11
                  try clear c1
                  try clear c2
                  try clear p2
                  try clear c3
                  try clear c4
                  try clear c5
                  try clear c6
                  try clear c6b0
                  try clear p6
                  try clear c7
                  try clear c8
                  try clear c8b0
                  try clear c12
                  try clear c12b0
                  try clear c12b1
                  try clear p2
                  try clear p6
                  obtain ⟨kq, x49_10, rfl, HA, HJ10, ⟨mc10, rfl⟩⟩ := hcut
                  cases kq with
                  | zero => exact absurd HA.out (by simp [ringworkref06_Wrong.j2])
                  | succ kj10 =>
                    have H := HA.out
                    clear HA
                    simp only [ringworkref06_Wrong.j2] at H
                    by_cases c13 : x49_10 = true
                    · subst c13
                      have H1 : (if x6_2 = t179 then (some ((wrap64 ((wrap64 (4 * x6_2)) - 2)), 12)) else (ringworkref06_Wrong.l0 kj10 a0 t179 x5_2 (wrap64 (x6_2 + 1)))) = some (r1, r2) := by rw [if_pos rfl] at H; exact H
                      clear H
                      have H := H1
                      clear H1
                      by_cases c14 : x6_2 = t179
                      · rw [if_pos c14] at H
                        have c14b0 : (x6_2 == t179) = true := beq_iff_eq.mpr c14
                        have c14b1 : (x6_2 != t179) = false := bne_eq_false_iff_eq.mpr c14
                        clear c14
                        simp only [Option.some.injEq, Prod.mk.injEq] at H
                        obtain ⟨rfl, rfl⟩ := H
                        go_wp2
                        go_ret2
                        exact ⟨by first | rfl | (simp; done) | (simp [*]; done), by repeat (first | exact Drawn0.refl _ | apply Drawn0.step)⟩
                      · rw [if_neg c14] at H
                        have c14b0 : (x6_2 == t179) = false := beq_eq_false_iff_ne.mpr c14
                        have c14b1 : (x6_2 != t179) = true := bne_iff_ne.mpr c14
                        have H' := Aside0.mk H
                        clear H
                        go_wp2
                        go_roundg kj10
                        case measure => have := HJ4.out; have := HK2.out; have := HJ10.out; omega
                        case rel => exact ⟨(x5_2), (wrap64 (x6_2 + 1)), (by first | rfl | (simp; done) | (simp [*]; done)), (by first | rfl | (simp; done) | (simp [*]; done)), H', ⟨by have := HJ4.out; have := HK2.out; have := HJ10.out; omega⟩, by repeat (first | exact Drawn0.refl _ | apply Drawn0.step)⟩
                    · replace c13 := Bool.eq_false_iff.mpr c13
                      subst c13
                      have H1 : (if t180 = 0 then (some ((wrap64 ((wrap64 (4 * x6_2)) - 2)), 12)) else (if t181 = 0 then (some ((wrap64 ((wrap64 (4 * x6_2)) - 2)), 12)) else (if t180 = (wrap64 (x5_2 - t181)) then (if t180 < (wrap64 (2 + (wrap64 (4 * t179)))) then (some ((wrap64 ((wrap64 (4 * x6_2)) - 2)), 12)) else (ringworkref06_Wrong.l0 kj10 a0 t179 t180 (wrap64 (x6_2 + 1)))) else (some ((wrap64 ((wrap64 (4 * x6_2)) - 2)), 12))))) = some (r1, r2) := by rw [if_neg (show ¬ (false = true) by decide)] at H; exact H
                      clear H
                      have H := H1
                      clear H1
                      by_cases c15 : t180 = 0
                      · rw [if_pos c15] at H
                        have c15b0 : (t180 == 0) = true := beq_iff_eq.mpr c15
                        have c15b1 : (t180 != 0) = false := bne_eq_false_iff_eq.mpr c15
                        clear c15
                        simp only [Option.some.injEq, Prod.mk.injEq] at H
                        obtain ⟨rfl, rfl⟩ := H
                        go_wp2
                        go_ret2
                        exact ⟨by first | rfl | (simp; done) | (simp [*]; done), by repeat (first | exact Drawn0.refl _ | apply Drawn0.step)⟩
                      · rw [if_neg c15] at H
                        have c15b0 : (t180 == 0) = false := beq_eq_false_iff_ne.mpr c15
                        have c15b1 : (t180 != 0) = true := bne_iff_ne.mpr c15
                        by_cases c16 : t181 = 0
                        · rw [if_pos c16] at H
                          have c16b0 : (t181 == 0) = true := beq_iff_eq.mpr c16
                          have c16b1 : (t181 != 0) = false := bne_eq_false_iff_eq.mpr c16
                          clear c16
                          simp only [Option.some.injEq, Prod.mk.injEq] at H
                          obtain ⟨rfl, rfl⟩ := H
                          go_wp2
                          go_ret2
                          exact ⟨by first | rfl | (simp; done) | (simp [*]; done), by repeat (first | exact Drawn0.refl _ | apply Drawn0.step)⟩
                        · rw [if_neg c16] at H
                          have c16b0 : (t181 == 0) = false := beq_eq_false_iff_ne.mpr c16
                          have c16b1 : (t181 != 0) = true := bne_iff_ne.mpr c16
                          by_cases c17 : t180 = (wrap64 (x5_2 - t181))
                          · rw [if_pos c17] at H
                            have c17b0 : (t180 == (wrap64 (x5_2 - t181))) = true := beq_iff_eq.mpr c17
                            have c17b1 : (t180 != (wrap64 (x5_2 - t181))) = false := bne_eq_false_iff_eq.mpr c17
                            clear c17
                            by_cases c18 : t180 < (wrap64 (2 + (wrap64 (4 * t179))))
                            · rw [if_pos c18] at H
                              have c18b0 : decide (t180 < (wrap64 (2 + (wrap64 (4 * t179))))) = true := decide_eq_true c18
                              clear c18
                              simp only [Option.some.injEq, Prod.mk.injEq] at H
                              obtain ⟨rfl, rfl⟩ := H
                              go_wp2
                              go_ret2
                              exact ⟨by first | rfl | (simp; done) | (simp [*]; done), by repeat (first | exact Drawn0.refl _ | apply Drawn0.step)⟩
                            · rw [if_neg c18] at H
                              have c18b0 : decide (t180 < (wrap64 (2 + (wrap64 (4 * t179))))) = false := decide_eq_false c18
                              clear c18
                              have H' := Aside0.mk H
                              clear H
                              go_wp2
                              go_roundg kj10
                              case measure => have := HJ4.out; have := HK2.out; have := HJ10.out; omega
                              case rel => exact ⟨(t180), (wrap64 (x6_2 + 1)), (by first | rfl | (simp; done) | (simp [*]; done)), (by first | rfl | (simp; done) | (simp [*]; done)), H', ⟨by have := HJ4.out; have := HK2.out; have := HJ10.out; omega⟩, by repeat (first | exact Drawn0.refl _ | apply Drawn0.step)⟩
                          · rw [if_neg c17] at H
                            have c17b0 : (t180 == (wrap64 (x5_2 - t181))) = false := beq_eq_false_iff_ne.mpr c17
                            have c17b1 : (t180 != (wrap64 (x5_2 - t181))) = true := bne_iff_ne.mpr c17
                            simp only [Option.some.injEq, Prod.mk.injEq] at H
                            obtain ⟨rfl, rfl⟩ := H
                            go_wp2
                            go_ret2
                            exact ⟨by first | rfl | (simp; done) | (simp [*]; done), by repeat (first | exact Drawn0.refl _ | apply Drawn0.step)⟩
              · rw [if_neg c8] at H
                have c8b0 : decide (x6_2 ≤ t179) = false := decide_eq_false c8
                clear c8
                have H' := Aside0.mk H
                clear H
                go_wp2
                go_loopg [10] k2 (fun kq v10 w' => ∃ (x10_3 : Int), v10 = .int .i64 x10_3 ∧ Aside0 (ringworkref06_Wrong.l1 kq a0 x5_2 x10_3 = some (r1, r2)) ∧ Aside0 (kq ≤ k2) ∧ Drawn0 w w')
                case atStart => exact ⟨(wrap64 (2 + (wrap64 (4 * t179)))), (by first | rfl | (simp; done) | (simp [*]; done)), H', ⟨Nat.le_refl _⟩, by repeat (first | exact Drawn0.refl _ | apply Drawn0.step)⟩
                case round =>
                  clear H'
                  try clear c1
                  try clear c2
                  try clear p2
                  try clear c3
                  try clear c4
                  try clear c5
                  try clear c6
                  try clear c6b0
                  try clear p6
                  try clear c7
                  try clear c8
                  try clear c8b0
                  try clear c10
                  try clear c12
                  try clear c12b0
                  try clear c12b1
                  try clear c13
                  try clear c14
                  try clear c14b0
                  try clear c14b1
                  try clear c15
                  try clear c15b0
                  try clear c15b1
                  try clear c16
                  try clear c16b0
                  try clear c16b1
                  try clear c17
                  try clear c17b0
                  try clear c17b1
                  try clear c18
                  try clear c18b0
                  try clear p2
                  try clear p6
                  obtain ⟨x10_3, rfl, HA, HK3, ⟨m3, rfl⟩⟩ := hrel
                  cases gk with
                  | zero => exact absurd HA.out (by simp [ringworkref06_Wrong.l1])
                  | succ k3 =>
                    have H := HA.out
                    clear HA
                    simp only [ringworkref06_Wrong.l1] at H
                    by_cases c19 : x10_3 < x5_2
                    · rw [if_pos c19] at H
                      have c19b0 : decide (x10_3 < x5_2) = true := decide_eq_true c19
                      clear c19
                      by_cases c20 : 0 ≤ x10_3
                      · rw [if_pos c20] at H
                        have c20b0 : decide (0 ≤ x10_3) = true := decide_eq_true c20
                        clear c20
                        by_cases c21 : x10_3 < (a0.size : Int)
                        · rw [if_pos c21] at H
                          have c21b0 : decide (x10_3 < (a0.size : Int)) = true := decide_eq_true c21
                          clear c21
                          by_cases c23 : (bt a0 x10_3) = 0
                          · rw [if_pos c23] at H
                            have c23b0 : ((bt a0 x10_3) == 0) = true := beq_iff_eq.mpr c23
                            have c23b1 : ((bt a0 x10_3) != 0) = false := bne_eq_false_iff_eq.mpr c23
                            clear c23
                            have H' := Aside0.mk H
                            clear H
                            have p22 : 0 ≤ (x10_3 : Int) := of_decide_eq_true (by first | (with_reducible assumption) | assumption)
                            have q22 : x10_3 < (a0.size : Int) := of_decide_eq_true (by first | (with_reducible assumption) | assumption)
                            have hx22 := bt_at a0 x10_3
                            replace p22 := eq_true p22
                            replace q22 := eq_true q22
                            go_wp2
                            go_roundg k3
                            case measure => have := HJ4.out; have := HK2.out; have := HK3.out; omega
                            case rel => exact ⟨(wrap64 (x10_3 + 1)), (by first | rfl | (simp; done) | (simp [*]; done)), H', ⟨by have := HJ4.out; have := HK2.out; have := HK3.out; omega⟩, by repeat (first | exact Drawn0.refl _ | apply Drawn0.step)⟩
                          · rw [if_neg c23] at H
                            have c23b0 : ((bt a0 x10_3) == 0) = false := beq_eq_false_iff_ne.mpr c23
                            have c23b1 : ((bt a0 x10_3) != 0) = true := bne_iff_ne.mpr c23
                            simp only [Option.some.injEq, Prod.mk.injEq] at H
                            obtain ⟨rfl, rfl⟩ := H
                            have p22 : 0 ≤ (x10_3 : Int) := of_decide_eq_true (by first | (with_reducible assumption) | assumption)
                            have q22 : x10_3 < (a0.size : Int) := of_decide_eq_true (by first | (with_reducible assumption) | assumption)
                            have hx22 := bt_at a0 x10_3
                            replace p22 := eq_true p22
                            replace q22 := eq_true q22
                            go_wp2
                            go_ret2
                            exact ⟨by first | rfl | (simp; done) | (simp [*]; done), by repeat (first | exact Drawn0.refl _ | apply Drawn0.step)⟩
                        · rw [if_neg c21] at H
                          exact absurd H (by simp)
                      · rw [if_neg c20] at H
                        exact absurd H (by simp)
                    · rw [if_neg c19] at H
                      have c19b0 : decide (x10_3 < x5_2) = false := decide_eq_false c19
                      clear c19
                      simp only [Option.some.injEq, Prod.mk.injEq] at H
                      obtain ⟨rfl, rfl⟩ := H
                      go_wp2
                      go_ret2
                      exact ⟨by first | rfl | (simp; done) | (simp [*]; done), by repeat (first | exact Drawn0.refl _ | apply Drawn0.step)⟩
  · replace c3 := Bool.eq_false_iff.mpr c3
    subst c3
    have H1 : (some (0, 11)) = some (r1, r2) := by rw [if_neg (show ¬ (false = true) by decide)] at H; exact H
    clear H
    have H := H1
    clear H1
    simp only [Option.some.injEq, Prod.mk.injEq] at H
    obtain ⟨rfl, rfl⟩ := H
    go_enter Try.func20, Try.ntmps20
    go_wp2_with (first | ((with_reducible refine gate_callee (f := 50) rfl ?_); refine goesL_ (some 13) rfl rfl Try.func50 (by kernel_rfl) rfl #[.int .i64 (a0.size : Int)] rfl (by (try simp only [List.map_toArray, List.map_cons, List.map_nil]); first | done | rfl | (simp only [List.length_drop, List.length_take]; rfl)) ?_; (with_reducible refine (ringworkref06_Size.calls (a0.size : Int) false _ A2.out).mono ?_); rintro e w' ⟨rfl, ⟨nd, rfl⟩⟩; refine ⟨_, rfl, ?_⟩))
    go_ret2
    exact ⟨by first | rfl | (simp; done) | (simp [*]; done), by repeat (first | exact Drawn0.refl _ | apply Drawn0.step)⟩

end Go.Proofs.Ytemglmcddaeedaa.PA

namespace Go.Proofs.Ytemglmcddaeedaa.PA
open Go.RowKit Go.Proofs.YtemglmcddaeedaaW.PrintWords Go.Proofs.YtemglmcddaeedaaW.PrintLast Go.Proofs.YtemglmcddaeedaaW.PrintMore
attribute [local go_sem] max2_int min2_int max_two min_two max_three min_three max_four min_four   -- for this text's walks alone
set_option linter.unusedVariables false
set_option linter.unusedSimpArgs false

/-! ### ringworkref06_Valid: function 22 -/
def ringworkref06_Valid.f (k : Nat) (a0 : ByteArray) : Option (Bool) := (ringworkref06_Wrong.f k a0).bind fun bt182 => (some (bt182.2 == 0))
theorem ringworkref06_Valid.mono : ∀ a0 k, LeO (ringworkref06_Valid.f k a0) (ringworkref06_Valid.f (k + 1) a0) := by
  intro a0 k
  unfold ringworkref06_Valid.f
  repeat' first
      | (with_reducible exact ringworkref06_Wrong.mono _ _)
      | (with_reducible exact LeO.refl _)
      | (with_reducible exact LeO.none _)
      | (with_reducible refine LeO.ite ?_ ?_)
      | (with_reducible refine LeO.bind ?_ (fun _ => ?_))
      | exact ringworkref06_Wrong.mono _ _
      | exact LeO.none _
      | refine LeO.ite ?_ ?_
      | refine LeO.bind ?_ (fun _ => ?_)
set_option maxHeartbeats 8000000 in
set_option maxRecDepth 100000 in
theorem ringworkref06_Valid.calls (k : Nat) (a0 : ByteArray) (r : Bool) (w : World) (h : ringworkref06_Valid.f k a0 = some r) :
    Calls Try.prog 22 #[.string a0] w fun e w' => e = .returned (.bool r) ∧ Drawn0 w w' := by
  have H : ((ringworkref06_Wrong.f k a0).bind fun bt182 => (some (bt182.2 == 0))) = some r := h
  clear h
  replace H := Option.bind_eq_some_iff.mp H
  obtain ⟨⟨t182, t183⟩, A20, H⟩ := H
  replace H : (some (t183 == 0)) = some r := H
  have A2 := Aside0.mk A20
  clear A20
  obtain rfl := Option.some.inj H
  go_enter Try.func22, Try.ntmps22
  go_wp2_with (first | ((with_reducible refine gate_callee (f := 20) rfl ?_); refine goesL_ (some 7) rfl rfl Try.func20 (by kernel_rfl) rfl #[.string a0] rfl (by (try simp only [List.map_toArray, List.map_cons, List.map_nil]); first | done | rfl | (simp only [List.length_drop, List.length_take]; rfl)) ?_; (with_reducible refine (ringworkref06_Wrong.calls k a0 t182 t183 _ A2.out).mono ?_); rintro e w' ⟨rfl, ⟨nd, rfl⟩⟩; refine ⟨_, rfl, ?_⟩))
  go_ret
  exact ⟨by first | rfl | (simp; done) | (simp [*]; done), by repeat (first | exact Drawn0.refl _ | apply Drawn0.step)⟩

end Go.Proofs.Ytemglmcddaeedaa.PA

namespace Go.Proofs.Ytemglmcddaeedaa.PA
open Go.RowKit Go.Proofs.YtemglmcddaeedaaW.PrintWords Go.Proofs.YtemglmcddaeedaaW.PrintLast Go.Proofs.YtemglmcddaeedaaW.PrintMore
attribute [local go_sem] max2_int min2_int max_two min_two max_three min_three max_four min_four   -- for this text's walks alone
set_option linter.unusedVariables false
set_option linter.unusedSimpArgs false

/-! ### ringworkref06_CellsOf: function 60 -/
def ringworkref06_CellsOf.l0 : Nat → ByteArray → List (S45) → Int → Option ((List (S45)))
  | 0, _, _, _ => none
  | k + 1, x0, x3, x4 => (ringworkref06_Two.f x0 0).bind fun t184 => (if x4 ≤ t184 then ((ringworkref06_Two.f x0 (wrap64 ((wrap64 (4 * x4)) - 2))).bind fun t185 => ((ringworkref06_Two.f x0 (wrap64 (4 * x4))).bind fun t186 => (if t186 > 0 then (if 0 ≤ t185 then (if t185 ≤ (wrap64 (t185 + t186)) then (if (wrap64 (t185 + t186)) ≤ (x0.size : Int) then (if x3.length < 5864062014805 then (ringworkref06_CellsOf.l0 k x0 (x3 ++ [(⟨x4, x0.extract (t185 : Int).toNat ((wrap64 (t185 + t186)) : Int).toNat⟩ : S45)]) (wrap64 (x4 + 1))) else (none)) else (none)) else (none)) else (none)) else (ringworkref06_CellsOf.l0 k x0 x3 (wrap64 (x4 + 1)))))) else (some x3))
def ringworkref06_CellsOf.f (k : Nat) (a0 : ByteArray) : Option ((List (S45))) := ringworkref06_CellsOf.l0 k a0 ([] : List (S45)) 1
theorem ringworkref06_CellsOf.mono_l : ∀ k, (∀ y0 y1 y2, LeO (ringworkref06_CellsOf.l0 k y0 y1 y2) (ringworkref06_CellsOf.l0 (k + 1) y0 y1 y2))
  | 0 => fun _ _ _ r h => by simp [ringworkref06_CellsOf.l0] at h
  | k + 1 => by
    have ih0 := ringworkref06_CellsOf.mono_l k
    · intro y0 y1 y2
      unfold ringworkref06_CellsOf.l0
      repeat' first
      | (with_reducible exact ih0 _ _ _)
      | (with_reducible exact LeO.refl _)
      | (with_reducible exact LeO.none _)
      | (with_reducible refine LeO.ite ?_ ?_)
      | (with_reducible refine LeO.bind ?_ (fun _ => ?_))
      | exact ih0 _ _ _
      | exact LeO.none _
      | refine LeO.ite ?_ ?_
      | refine LeO.bind ?_ (fun _ => ?_)
theorem ringworkref06_CellsOf.mono : ∀ a0 k, LeO (ringworkref06_CellsOf.f k a0) (ringworkref06_CellsOf.f (k + 1) a0) := by
  intro a0 k
  have ih0 := ringworkref06_CellsOf.mono_l k
  unfold ringworkref06_CellsOf.f
  repeat' first
      | (with_reducible exact ih0 _ _ _)
      | (with_reducible exact LeO.refl _)
      | (with_reducible exact LeO.none _)
      | (with_reducible refine LeO.ite ?_ ?_)
      | (with_reducible refine LeO.bind ?_ (fun _ => ?_))
      | exact ih0 _ _ _
      | exact LeO.none _
      | refine LeO.ite ?_ ?_
      | refine LeO.bind ?_ (fun _ => ?_)
set_option maxHeartbeats 8000000 in
set_option maxRecDepth 100000 in
theorem ringworkref06_CellsOf.calls (k : Nat) (a0 : ByteArray) (r : List (S45)) (w : World) (h : ringworkref06_CellsOf.f k a0 = some r) :
    Calls Try.prog 60 #[.string a0] w fun e w' => ∃ v0_ : Value, e = .returned (v0_) ∧ Kd.R k45 45 w' w.heap.size (fun _ => True) v0_ r ∧ Below w.heap.size w w' := by
  have hu45 := Try.underlying45
  have HB := Aside0.mk (Below.refl w.heap.size w)
  have H : (ringworkref06_CellsOf.l0 k a0 ([] : List (S45)) 1) = some r := h
  clear h
  have H' := Aside0.mk H
  clear H
  go_enter Try.func60, Try.ntmps60
  go_wp2
  go_loopg [3, 4] k (fun kq v3 v4 w' => ∃ (x3_1 : List (S45)) (x4_1 : Int), v4 = .int .i64 x4_1 ∧ Aside0 (ringworkref06_CellsOf.l0 kq a0 x3_1 x4_1 = some r) ∧ Aside0 (kq ≤ k) ∧ Aside0 (Kd.R k45 45 w' w.heap.size (fun _ => True) v3 x3_1) ∧ Aside0 (Below w.heap.size w w'))
  case atStart => exact ⟨(([] : List (S45))), (1), (by first | rfl | (simp; done) | (simp [*]; done)), H', ⟨Nat.le_refl _⟩, ⟨by first | exact Kd.R_nil _ _ _ _ _ | exact Kd.N_nil _ _ _ _ _ | exact Kd.V_nil _ _ _ _ _ | exact Kd.Q_nil _ _ _ _ _ | exact Kd.S_nil _ _ _ _ _⟩, ⟨by repeat (first | (with_reducible first | exact HB.out | apply below_alloc | apply pw_below_drewN | apply below_drew1) | exact HB.out)⟩⟩
  case round =>
    clear H'
    obtain ⟨x3_1, x4_1, rfl, HA, HK1, HO_3, HB⟩ := hrel
    cases gk with
    | zero => exact absurd HA.out (by simp [ringworkref06_CellsOf.l0])
    | succ k1 =>
      have H := HA.out
      clear HA
      simp only [ringworkref06_CellsOf.l0] at H
      replace H := Option.bind_eq_some_iff.mp H
      obtain ⟨t184, A20, H⟩ := H
      replace H : (if x4_1 ≤ t184 then ((ringworkref06_Two.f a0 (wrap64 ((wrap64 (4 * x4_1)) - 2))).bind fun t185 => ((ringworkref06_Two.f a0 (wrap64 (4 * x4_1))).bind fun t186 => (if t186 > 0 then (if 0 ≤ t185 then (if t185 ≤ (wrap64 (t185 + t186)) then (if (wrap64 (t185 + t186)) ≤ (a0.size : Int) then (if x3_1.length < 5864062014805 then (ringworkref06_CellsOf.l0 k1 a0 (x3_1 ++ [(⟨x4_1, a0.extract (t185 : Int).toNat ((wrap64 (t185 + t186)) : Int).toNat⟩ : S45)]) (wrap64 (x4_1 + 1))) else (none)) else (none)) else (none)) else (none)) else (ringworkref06_CellsOf.l0 k1 a0 x3_1 (wrap64 (x4_1 + 1)))))) else (some x3_1)) = some r := H
      have A2 := Aside0.mk A20
      clear A20
      by_cases c3 : x4_1 ≤ t184
      · rw [if_pos c3] at H
        have c3b0 : decide (x4_1 ≤ t184) = true := decide_eq_true c3
        clear c3
        replace H := Option.bind_eq_some_iff.mp H
        obtain ⟨t185, A40, H⟩ := H
        replace H : ((ringworkref06_Two.f a0 (wrap64 (4 * x4_1))).bind fun t186 => (if t186 > 0 then (if 0 ≤ t185 then (if t185 ≤ (wrap64 (t185 + t186)) then (if (wrap64 (t185 + t186)) ≤ (a0.size : Int) then (if x3_1.length < 5864062014805 then (ringworkref06_CellsOf.l0 k1 a0 (x3_1 ++ [(⟨x4_1, a0.extract (t185 : Int).toNat ((wrap64 (t185 + t186)) : Int).toNat⟩ : S45)]) (wrap64 (x4_1 + 1))) else (none)) else (none)) else (none)) else (none)) else (ringworkref06_CellsOf.l0 k1 a0 x3_1 (wrap64 (x4_1 + 1))))) = some r := H
        have A4 := Aside0.mk A40
        clear A40
        replace H := Option.bind_eq_some_iff.mp H
        obtain ⟨t186, A50, H⟩ := H
        replace H : (if t186 > 0 then (if 0 ≤ t185 then (if t185 ≤ (wrap64 (t185 + t186)) then (if (wrap64 (t185 + t186)) ≤ (a0.size : Int) then (if x3_1.length < 5864062014805 then (ringworkref06_CellsOf.l0 k1 a0 (x3_1 ++ [(⟨x4_1, a0.extract (t185 : Int).toNat ((wrap64 (t185 + t186)) : Int).toNat⟩ : S45)]) (wrap64 (x4_1 + 1))) else (none)) else (none)) else (none)) else (none)) else (ringworkref06_CellsOf.l0 k1 a0 x3_1 (wrap64 (x4_1 + 1)))) = some r := H
        have A5 := Aside0.mk A50
        clear A50
        by_cases c6 : t186 > 0
        · rw [if_pos c6] at H
          have c6b0 : decide (0 < t186) = true := decide_eq_true c6
          clear c6
          by_cases c7 : 0 ≤ t185
          · rw [if_pos c7] at H
            have c7b0 := eq_true c7
            have c7b1 : decide (0 ≤ t185) = true := decide_eq_true c7
            clear c7
            by_cases c8 : t185 ≤ (wrap64 (t185 + t186))
            · rw [if_pos c8] at H
              have c8b0 := eq_true c8
              have c8b1 : decide (t185 ≤ (wrap64 (t185 + t186))) = true := decide_eq_true c8
              by_cases c9 : (wrap64 (t185 + t186)) ≤ (a0.size : Int)
              · rw [if_pos c9] at H
                have c9b0 := eq_true c9
                have c9b1 : decide ((wrap64 (t185 + t186)) ≤ (a0.size : Int)) = true := decide_eq_true c9
                by_cases c10 : x3_1.length < 5864062014805
                · rw [if_pos c10] at H
                  have LMc10 := Aside0.mk c10
                  clear c10
                  obtain ⟨y187, hy187⟩ : ∃ y_ : List (S45), y_ = (x3_1 ++ [(⟨x4_1, a0.extract (t185 : Int).toNat ((wrap64 (t185 + t186)) : Int).toNat⟩ : S45)]) := ⟨_, rfl⟩
                  replace H : (ringworkref06_CellsOf.l0 k1 a0 y187 (wrap64 (x4_1 + 1))) = some r := by first | (rw [hy187]; with_reducible exact H) | (have H2_ := (Option.bind_some _ _).symm.trans H; rw [hy187]; with_reducible exact H2_) | (have H2_ := (Option.bind_some _ _).symm.trans H; with_reducible exact H2_) | with_reducible exact H | (rw [hy187]; exact H) | exact H
                  have Ny187 := Aside0.mk hy187
                  clear hy187
                  have H' := Aside0.mk H
                  clear H
                  go_wp2_with (first | ((with_reducible refine gate_callee (f := 59) rfl ?_); refine goesL_ (some 9) rfl rfl Try.func59 (by kernel_rfl) rfl #[.string a0, .int .i64 0] rfl (by (try simp only [List.map_toArray, List.map_cons, List.map_nil]); first | done | rfl | (simp only [List.length_drop, List.length_take]; rfl)) ?_; (with_reducible refine (ringworkref06_Two.calls a0 0 t184 _ A2.out).mono ?_); rintro e w' ⟨rfl, ⟨nd, rfl⟩⟩; refine ⟨_, rfl, ?_⟩) | ((with_reducible refine gate_callee (f := 59) rfl ?_); refine goesL_ (some 17) rfl rfl Try.func59 (by kernel_rfl) rfl #[.string a0, .int .i64 (wrap64 ((wrap64 (4 * x4_1)) - 2))] rfl (by (try simp only [List.map_toArray, List.map_cons, List.map_nil]); first | done | rfl | (simp only [List.length_drop, List.length_take]; rfl)) ?_; (with_reducible refine (ringworkref06_Two.calls a0 (wrap64 ((wrap64 (4 * x4_1)) - 2)) t185 _ A4.out).mono ?_); rintro e w' ⟨rfl, ⟨nd, rfl⟩⟩; refine ⟨_, rfl, ?_⟩) | ((with_reducible refine gate_callee (f := 59) rfl ?_); refine goesL_ (some 21) rfl rfl Try.func59 (by kernel_rfl) rfl #[.string a0, .int .i64 (wrap64 (4 * x4_1))] rfl (by (try simp only [List.map_toArray, List.map_cons, List.map_nil]); first | done | rfl | (simp only [List.length_drop, List.length_take]; rfl)) ?_; (with_reducible refine (ringworkref06_Two.calls a0 (wrap64 (4 * x4_1)) t186 _ A5.out).mono ?_); rintro e w' ⟨rfl, ⟨nd, rfl⟩⟩; refine ⟨_, rfl, ?_⟩) | ((with_reducible refine gate_builtin (b := .append) (xs := #[.tmp 24, .tmp 33]) rfl ?_); at_builtin; refine Kd.R_append k45 (w0 := w) w.heap.size rfl (.tmp 24) (.tmp 33) 22 45 (.agg #[(.int .i64 0), (.string ⟨#[]⟩)]) 24 rfl Try.underlying22 info45 rfl (by decide) (by omega) u3 x3_1 (⟨x4_1, a0.extract (t185 : Int).toNat ((wrap64 (t185 + t186)) : Int).toNat⟩ : S45) [.int .i64 x4_1, .string (a0.extract (t185 : Int).toNat ((wrap64 (t185 + t186)) : Int).toNat)] (fun _ => True) (fun _ => False) rfl rfl ?aP (fun _ hk => hk.elim) ?aF ?aO ?aB ?aS ?aL ?_; (case aP => exact k45_mkM _ _ _ (⟨x4_1, a0.extract (t185 : Int).toNat ((wrap64 (t185 + t186)) : Int).toNat⟩ : S45)); (case aB => exact (by repeat (first | (with_reducible first | exact HB.out | apply below_alloc | apply pw_below_drewN | apply below_drew1) | exact HB.out))); (case aF => exact (fun _ _ => trivial)); (case aO => exact (by (with_reducible repeat (first | apply Kd.R_alloc | apply Kd.R_drewN | apply Kd.R_drew)); exact HO_3.out)); (case aS => exact (below_size (by repeat (first | (with_reducible first | exact HB.out | apply below_alloc | apply pw_below_drewN | apply below_drew1) | exact HB.out)))); (case aL => have := LMc10.out; omega); intro v188 w11 ho hb hg hat; rw [← Ny187.out] at ho; have n0_ := Aside0.mk (hb); have n1_ := Aside0.mk (ho); clear HB; clear HO_3; have HB := n0_; have HO189 := n1_; clear n0_ n1_; clear ho hb hg hat))
                  go_roundg k1
                  case measure => have := HK1.out; omega
                  case rel => exact ⟨(y187), (wrap64 (x4_1 + 1)), (by first | rfl | (simp; done) | (simp [*]; done)), H', ⟨by have := HK1.out; omega⟩, ⟨by (with_reducible repeat (first | apply Kd.R_alloc | apply Kd.R_drewN | apply Kd.R_drew)); exact HO189.out⟩, ⟨by repeat (first | (with_reducible first | exact HB.out | apply below_alloc | apply pw_below_drewN | apply below_drew1) | exact HB.out)⟩⟩
                · rw [if_neg c10] at H
                  exact absurd H (by simp)
              · rw [if_neg c9] at H
                exact absurd H (by simp)
            · rw [if_neg c8] at H
              exact absurd H (by simp)
          · rw [if_neg c7] at H
            exact absurd H (by simp)
        · rw [if_neg c6] at H
          have c6b0 : decide (0 < t186) = false := decide_eq_false c6
          clear c6
          have H' := Aside0.mk H
          clear H
          go_wp2_with (first | ((with_reducible refine gate_callee (f := 59) rfl ?_); refine goesL_ (some 9) rfl rfl Try.func59 (by kernel_rfl) rfl #[.string a0, .int .i64 0] rfl (by (try simp only [List.map_toArray, List.map_cons, List.map_nil]); first | done | rfl | (simp only [List.length_drop, List.length_take]; rfl)) ?_; (with_reducible refine (ringworkref06_Two.calls a0 0 t184 _ A2.out).mono ?_); rintro e w' ⟨rfl, ⟨nd, rfl⟩⟩; refine ⟨_, rfl, ?_⟩) | ((with_reducible refine gate_callee (f := 59) rfl ?_); refine goesL_ (some 17) rfl rfl Try.func59 (by kernel_rfl) rfl #[.string a0, .int .i64 (wrap64 ((wrap64 (4 * x4_1)) - 2))] rfl (by (try simp only [List.map_toArray, List.map_cons, List.map_nil]); first | done | rfl | (simp only [List.length_drop, List.length_take]; rfl)) ?_; (with_reducible refine (ringworkref06_Two.calls a0 (wrap64 ((wrap64 (4 * x4_1)) - 2)) t185 _ A4.out).mono ?_); rintro e w' ⟨rfl, ⟨nd, rfl⟩⟩; refine ⟨_, rfl, ?_⟩) | ((with_reducible refine gate_callee (f := 59) rfl ?_); refine goesL_ (some 21) rfl rfl Try.func59 (by kernel_rfl) rfl #[.string a0, .int .i64 (wrap64 (4 * x4_1))] rfl (by (try simp only [List.map_toArray, List.map_cons, List.map_nil]); first | done | rfl | (simp only [List.length_drop, List.length_take]; rfl)) ?_; (with_reducible refine (ringworkref06_Two.calls a0 (wrap64 (4 * x4_1)) t186 _ A5.out).mono ?_); rintro e w' ⟨rfl, ⟨nd, rfl⟩⟩; refine ⟨_, rfl, ?_⟩))
          go_roundg k1
          case measure => have := HK1.out; omega
          case rel => exact ⟨(x3_1), (wrap64 (x4_1 + 1)), (by first | rfl | (simp; done) | (simp [*]; done)), H', ⟨by have := HK1.out; omega⟩, ⟨by (with_reducible repeat (first | apply Kd.R_alloc | apply Kd.R_drewN | apply Kd.R_drew)); exact HO_3.out⟩, ⟨by repeat (first | (with_reducible first | exact HB.out | apply below_alloc | apply pw_below_drewN | apply below_drew1) | exact HB.out)⟩⟩
      · rw [if_neg c3] at H
        have c3b0 : decide (x4_1 ≤ t184) = false := decide_eq_false c3
        clear c3
        obtain rfl := Option.some.inj H
        go_wp2_with (first | ((with_reducible refine gate_callee (f := 59) rfl ?_); refine goesL_ (some 9) rfl rfl Try.func59 (by kernel_rfl) rfl #[.string a0, .int .i64 0] rfl (by (try simp only [List.map_toArray, List.map_cons, List.map_nil]); first | done | rfl | (simp only [List.length_drop, List.length_take]; rfl)) ?_; (with_reducible refine (ringworkref06_Two.calls a0 0 t184 _ A2.out).mono ?_); rintro e w' ⟨rfl, ⟨nd, rfl⟩⟩; refine ⟨_, rfl, ?_⟩))
        go_ret
        exact ⟨_, by first | rfl | (simp [errW_none, errW_some] <;> rfl) | (simp [*, errW_none, errW_some] <;> rfl), by (with_reducible repeat (first | apply Kd.R_alloc | apply Kd.R_drewN | apply Kd.R_drew)); exact HO_3.out, by repeat (first | (with_reducible first | exact HB.out | apply below_alloc | apply pw_below_drewN | apply below_drew1) | exact HB.out)⟩

end Go.Proofs.Ytemglmcddaeedaa.PA

namespace Go.Proofs.Ytemglmcddaeedaa.PA
open Go.RowKit Go.Proofs.YtemglmcddaeedaaW.PrintWords Go.Proofs.YtemglmcddaeedaaW.PrintLast Go.Proofs.YtemglmcddaeedaaW.PrintMore
attribute [local go_sem] max2_int min2_int max_two min_two max_three min_three max_four min_four   -- for this text's walks alone
set_option linter.unusedVariables false
set_option linter.unusedSimpArgs false

/-! ### ringworkref06_Cells: function 23 -/
def ringworkref06_Cells.f (k : Nat) (a0 : ByteArray) : Option ((List (S45)) × Int) := (ringworkref06_Valid.f k a0).bind fun t190 => (if t190 = true then ((ringworkref06_CellsOf.f k a0).bind fun t191 => (some (t191, 0))) else (some (([] : List (S45)), 1)))
theorem ringworkref06_Cells.mono : ∀ a0 k, LeO (ringworkref06_Cells.f k a0) (ringworkref06_Cells.f (k + 1) a0) := by
  intro a0 k
  unfold ringworkref06_Cells.f
  repeat' first
      | (with_reducible exact ringworkref06_CellsOf.mono _ _)
      | (with_reducible exact ringworkref06_Valid.mono _ _)
      | (with_reducible exact LeO.refl _)
      | (with_reducible exact LeO.none _)
      | (with_reducible refine LeO.ite ?_ ?_)
      | (with_reducible refine LeO.bind ?_ (fun _ => ?_))
      | exact ringworkref06_CellsOf.mono _ _
      | exact ringworkref06_Valid.mono _ _
      | exact LeO.none _
      | refine LeO.ite ?_ ?_
      | refine LeO.bind ?_ (fun _ => ?_)
set_option maxHeartbeats 8000000 in
set_option maxRecDepth 100000 in
theorem ringworkref06_Cells.calls (k : Nat) (a0 : ByteArray) (r1 : List (S45)) (r2 : Int) (w : World) (h : ringworkref06_Cells.f k a0 = some (r1, r2)) :
    Calls Try.prog 23 #[.string a0] w fun e w' => ∃ v0_ : Value, e = .returned (.tuple #[v0_, .int .i64 r2]) ∧ Kd.R k45 45 w' w.heap.size (fun _ => True) v0_ r1 ∧ Below w.heap.size w w' := by
  have HB := Aside0.mk (Below.refl w.heap.size w)
  have H : ((ringworkref06_Valid.f k a0).bind fun t190 => (if t190 = true then ((ringworkref06_CellsOf.f k a0).bind fun t191 => (some (t191, 0))) else (some (([] : List (S45)), 1)))) = some (r1, r2) := h
  clear h
  replace H := Option.bind_eq_some_iff.mp H
  obtain ⟨t190, A20, H⟩ := H
  replace H : (if t190 = true then ((ringworkref06_CellsOf.f k a0).bind fun t191 => (some (t191, 0))) else (some (([] : List (S45)), 1))) = some (r1, r2) := H
  have A2 := Aside0.mk A20
  clear A20
  by_cases c3 : t190 = true
  · subst c3
    have H1 : ((ringworkref06_CellsOf.f k a0).bind fun t191 => (some (t191, 0))) = some (r1, r2) := by rw [if_pos rfl] at H; exact H
    clear H
    have H := H1
    clear H1
    replace H := Option.bind_eq_some_iff.mp H
    obtain ⟨t191, A40, H⟩ := H
    replace H : (some (t191, 0)) = some (r1, r2) := H
    have A4 := Aside0.mk A40
    clear A40
    simp only [Option.some.injEq, Prod.mk.injEq] at H
    obtain ⟨rfl, rfl⟩ := H
    go_enter Try.func23, Try.ntmps23
    go_wp2_with (first | ((with_reducible refine gate_callee (f := 22) rfl ?_); refine goesL_ (some 5) rfl rfl Try.func22 (by kernel_rfl) rfl #[.string a0] rfl (by (try simp only [List.map_toArray, List.map_cons, List.map_nil]); first | done | rfl | (simp only [List.length_drop, List.length_take]; rfl)) ?_; (with_reducible refine (ringworkref06_Valid.calls k a0 true _ A2.out).mono ?_); rintro e w' ⟨rfl, ⟨nd, rfl⟩⟩; refine ⟨_, rfl, ?_⟩) | ((with_reducible refine gate_callee (f := 60) rfl ?_); refine goesL_ (some 8) rfl rfl Try.func60 (by kernel_rfl) rfl #[.string a0] rfl (by (try simp only [List.map_toArray, List.map_cons, List.map_nil]); first | done | rfl | (simp only [List.length_drop, List.length_take]; rfl)) ?_; (with_reducible refine (ringworkref06_CellsOf.calls k a0 t191 _ A4.out).mono ?_); rintro e w5 ⟨v192, rfl, ho0, hb⟩; refine ⟨_, rfl, ?_⟩; have n0_ := Aside0.mk (Kd.R_lower ho0 (below_size (by repeat (first | (with_reducible first | exact HB.out | apply below_alloc | apply pw_below_drewN | apply below_drew1) | exact HB.out)))); have n1_ := Aside0.mk (below_step (by repeat (first | (with_reducible first | exact HB.out | apply below_alloc | apply pw_below_drewN | apply below_drew1) | exact HB.out)) hb); clear HB; have HO193 := n0_; have HB := n1_; clear n0_ n1_; (try clear hb); (try clear hb2); (try clear hk); (try clear hi); (try clear ho0)))
    go_ret2
    exact ⟨_, by first | rfl | (simp [errW_none, errW_some] <;> rfl) | (simp [*, errW_none, errW_some] <;> rfl), by (with_reducible repeat (first | apply Kd.R_alloc | apply Kd.R_drewN | apply Kd.R_drew)); exact HO193.out, by repeat (first | (with_reducible first | exact HB.out | apply below_alloc | apply pw_below_drewN | apply below_drew1) | exact HB.out)⟩
  · replace c3 := Bool.eq_false_iff.mpr c3
    subst c3
    have H1 : (some (([] : List (S45)), 1)) = some (r1, r2) := by rw [if_neg (show ¬ (false = true) by decide)] at H; exact H
    clear H
    have H := H1
    clear H1
    simp only [Option.some.injEq, Prod.mk.injEq] at H
    obtain ⟨rfl, rfl⟩ := H
    go_enter Try.func23, Try.ntmps23
    go_wp2_with (first | ((with_reducible refine gate_callee (f := 22) rfl ?_); refine goesL_ (some 5) rfl rfl Try.func22 (by kernel_rfl) rfl #[.string a0] rfl (by (try simp only [List.map_toArray, List.map_cons, List.map_nil]); first | done | rfl | (simp only [List.length_drop, List.length_take]; rfl)) ?_; (with_reducible refine (ringworkref06_Valid.calls k a0 false _ A2.out).mono ?_); rintro e w' ⟨rfl, ⟨nd, rfl⟩⟩; refine ⟨_, rfl, ?_⟩))
    go_ret2
    exact ⟨_, by first | rfl | (simp [errW_none, errW_some] <;> rfl) | (simp [*, errW_none, errW_some] <;> rfl), by first | exact Kd.R_nil _ _ _ _ _ | exact Kd.N_nil _ _ _ _ _ | exact Kd.V_nil _ _ _ _ _ | exact Kd.Q_nil _ _ _ _ _ | exact Kd.S_nil _ _ _ _ _, by repeat (first | (with_reducible first | exact HB.out | apply below_alloc | apply pw_below_drewN | apply below_drew1) | exact HB.out)⟩

end Go.Proofs.Ytemglmcddaeedaa.PA

namespace Go.Proofs.Ytemglmcddaeedaa.PA
open Go.RowKit Go.Proofs.YtemglmcddaeedaaW.PrintWords Go.Proofs.YtemglmcddaeedaaW.PrintLast Go.Proofs.YtemglmcddaeedaaW.PrintMore
attribute [local go_sem] max2_int min2_int max_two min_two max_three min_three max_four min_four   -- for this text's walks alone
set_option linter.unusedVariables false
set_option linter.unusedSimpArgs false

/-! ### page_gint: function 0 -/
/-- The used lines of the first i entries. -/
def linesS (p : ByteArray) : Nat → List Int
  | 0 => []
  | i + 1 => if 0 < twoS p (4 + 4 * (i : Int)) then linesS p i ++ [(i : Int) + 1] else linesS p i
theorem linesS_length (p : ByteArray) (i : Nat) : (linesS p i).length ≤ i := by
  induction i with
  | zero => simp [linesS]
  | succ i ih =>
    simp only [linesS]
    split
    · simp; omega
    · omega
theorem page_Lines1_calls (ln off len : Int) (w : World) :
    Calls Try.prog 62 #[.agg #[.int .i64 ln, .int .i64 off, .int .i64 len]] w fun e w' => e = .returned (.int .i64 ln) ∧ Below w.heap.size w w' := by
  have hc := blk_new w (.cells #[.int .i64 ln, .int .i64 off, .int .i64 len] 76)
  have c1 := (blk_cell hc 0).trans rfl
  go_enter Try.func62, Try.ntmps62
  go_wp2_with fail
  go_ret
  exact ⟨rfl, below_alloc (Below.refl _ w) _⟩
attribute [local go_sem] Oper.semAt_some
set_option maxHeartbeats 4000000 in
set_option maxRecDepth 100000 in
theorem page_gint_calls (p : ByteArray) (n : Nat) (hn : twoS p 0 = n) (hs : 2 + 4 * n ≤ p.size) (hs2 : p.size ≤ 100000) (w : World) :
    Calls Try.prog 61 #[.string p, .func (.func 62) #[] #[]] w fun e w' => ∃ v, e = .returned v ∧ Kd.R (Kd.int .i64) 3 w' w.heap.size (fun _ => True) v (linesS p n) ∧ Below w.heap.size w w' := by
  refine calls_of_wpX Try.func61 rfl ?_
  simp only [Try.ntmps61, List.size_toArray, List.length_cons, List.length_nil, Nat.reduceAdd, Nat.reduceSub, Array.replicate_succ, Array.replicate_zero, List.push_toArray, List.append_toArray, List.nil_append, List.cons_append]
  obtain ⟨R, hR⟩ : ∃ R : Ending → World → Prop, (fun e w' => ∃ v, e = .returned v ∧ Kd.R (Kd.int .i64) 3 w' w.heap.size (fun _ => True) v (linesS p n) ∧ Below w.heap.size w w') = R := ⟨_, rfl⟩
  rw [hR]
  have HR := Aside0.mk hR
  clear hR
  refine wpX_seq_k ?_
  intro K hK
  go_wp2_with fail
  refine wpX_seq_k ?_
  intro K hK
  go_wp2_with fail
  refine wpX_seq_x ?_
  intro K0 hK0
  refine wpX_seq_k ?_
  intro K hK
  go_wp2_with (go_at_call 106; refine (page_slots_calls p _).mono ?_; rintro e w1 ⟨rfl, rfl⟩)
  obtain ⟨g, hg⟩ : ∃ g, w.heap.size = g := ⟨_, rfl⟩
  obtain ⟨W0, hW⟩ : ∃ W, (((w.alloc (.cells #[.func (.func 62) #[] #[]] 77)).alloc (.cells #[.slice none 0 0] 41)).alloc (.cells #[.string p] 9)) = W := ⟨_, rfl⟩
  have hsz : W0.heap.size = g + 3 := by rw [← hW, ← hg]; simp
  have hB0 : Below w.heap.size w W0 := by rw [← hW]; exact below_alloc (below_alloc (below_alloc (Below.refl _ w) _) _) _
  have h1 : W0.heap[g]? = some (.cells #[.func (.func 62) #[] #[]] 77) := by rw [← hW, ← hg]; exact blk_alloc (blk_alloc (blk_new _ _) _) _
  have h2 : W0.heap[g + 1]? = some (.cells #[.slice none 0 0] 41) := by
    rw [← hW, ← hg]; have := blk_alloc (blk_new (w.alloc (.cells #[.func (.func 62) #[] #[]] 77)) (.cells #[.slice none 0 0] 41)) (.cells #[.string p] 9); simpa using this
  have h3 : W0.heap[g + 2]? = some (.cells #[.string p] 9) := by
    rw [← hW, ← hg]; have := blk_new ((w.alloc (.cells #[.func (.func 62) #[] #[]] 77)).alloc (.cells #[.slice none 0 0] 41)) (.cells #[.string p] 9); simpa using this
  simp only [hg, hW, Nat.add_assoc, Nat.reduceAdd]
  rw [hg] at HR hB0
  clear hW
  refine wpX_block ?_
  refine wpX_range (gf := 125) (lb := #[.pointer (some ⟨g + 2, 0, none⟩)]) (xs := (List.range n).map (slotV p)) (Kp := fun W => W.cell? ⟨g + 2, 0, none⟩ = some (.string p)) rfl (fun _ _ => rfl) (slots1_iter p n hn hs hs2 _) (by simp [slotV])
    (fun i W => ∃ v, Kd.R (Kd.int .i64) 3 W g (fun k => g + 4 < k) v (linesS p i) ∧ Below g w W ∧ W.heap[g]? = some (.cells #[.func (.func 62) #[] #[]] 77) ∧ W.heap[g + 1]? = some (.cells #[v] 41) ∧ W.heap[g + 2]? = some (.cells #[.string p] 9))
    (fun i a₁ W => ∃ v b, Kd.R (Kd.int .i64) 3 W g (fun k => g + 4 < k) v (linesS p i) ∧ Below g w W ∧ W.heap[g]? = some (.cells #[.func (.func 62) #[] #[]] 77) ∧ W.heap[g + 1]? = some (.cells #[v] 41) ∧ W.heap[g + 2]? = some (.cells #[.string p] 9) ∧ g + 4 < b ∧
      W.heap[b]? = some (.cells #[.int .i64 ((i : Int) + 1), .int .i64 (twoS p (2 + 4 * (i : Int))), .int .i64 (twoS p (4 + 4 * (i : Int)))] 76) ∧
      a₁ = { tmps := #[.string p, .func (.func 62) #[] #[], undef, .pointer (some ⟨g, 0, none⟩), .slice none 0 0, .pointer (some ⟨g + 1, 0, none⟩), .pointer (some ⟨b, 0, none⟩), .string p, .func (.func 125) #[] #[.pointer (some ⟨g + 2, 0, none⟩)], .agg #[.int .i64 ((i : Int) + 1), .int .i64 (twoS p (2 + 4 * (i : Int))), .int .i64 (twoS p (4 + 4 * (i : Int)))]] ++ Array.replicate 10 undef, defers := [] })
    (fun _ _ => False) (fun _ _ => False)
    ?_ ?_ ?_ ?_ ?_ ?_ ?_ ?_ ?_ ?_ ?_ ?_ ?_
  all_goals try simp only [hsz, Nat.add_assoc, Nat.reduceAdd]
  case refine_1 =>
    rintro i W o o' ⟨v, e1, e2, e3, e4, e5⟩ -
    exact ⟨v, Kd.R_step e1 (fun k hk _ => World.putObj_heap_other (by omega)), below_putObj e2 (by omega) _, blk_putObj e3 (by omega), blk_putObj e4 (by omega), blk_putObj e5 (by omega)⟩
  case refine_2 =>
    rintro i a₁ W o o' ⟨v, b, e1, e2, e3, e4, e5, e7, e8, e9⟩ -
    exact ⟨v, b, Kd.R_step e1 (fun k hk _ => World.putObj_heap_other (by omega)), below_putObj e2 (by omega) _, blk_putObj e3 (by omega), blk_putObj e4 (by omega), blk_putObj e5 (by omega), e7, blk_putObj e8 (by omega), e9⟩
  case refine_3 => exact fun _ _ _ _ h => h.elim
  case refine_4 =>
    rintro i W m ⟨v, e1, e2, e3, e4, e5⟩
    exact ⟨v, Kd.R_drewN e1 m, pw_below_drewN e2 m, e3, e4, e5⟩
  case refine_5 => exact fun _ _ _ h => h.elim
  case refine_6 => exact fun _ _ _ h => h.elim
  case refine_7 =>
    rintro i W ⟨v, e1, e2, e3, e4, e5⟩
    exact (blk_cell e5 0).trans rfl
  case refine_8 =>
    intro rec
    exact ⟨_, Kd.R_nil _ _ _ _ _, hg ▸ below_alloc (hg ▸ below_alloc (hg ▸ hB0) _) _, blk_alloc (blk_alloc h1 _) _, blk_alloc (blk_alloc h2 _) _, blk_alloc (blk_alloc h3 _) _⟩
  case refine_9 =>
    rintro i v W hv ⟨v1, e1, e2, e3, e4, e5⟩ hlt
    refine wpIn_hide ?_
    intro Q HQ
    have HR1 := Aside0.mk (And.intro HQ.out hv)
    clear HQ hv
    have hvv : v = slotV p i := by
      rcases List.getElem?_eq_some_iff.1 HR1.out.2 with ⟨q1, q2⟩
      rw [← q2]; simp
    subst hvv
    unfold slotV
    simp only [List.zip_toArray, List.zip_cons_cons, List.zip_nil_right, List.size_toArray, List.length_cons, List.length_nil, Nat.reduceAdd, List.foldl_toArray', List.foldl_cons, List.foldl_nil]
    gi_wp2_with fail
    refine HR1.out.1 _ _ _ ⟨⟨v1, W.heap.size, Kd.R_alloc e1 _, hg ▸ below_alloc (hg ▸ e2) _, blk_alloc e3 _, blk_alloc e4 _, blk_alloc e5 _, hlt, blk_new _ _, ?_⟩, ?_, ?_⟩
    · simp [Array.replicate_succ]
    · exact Below.heap_alloc _ _ _ hlt
    · exact Below.heap_alloc _ _ _ (by omega)
  case refine_10 =>
    rintro i v a₁ W hv ⟨v1, b, e1, e2, e3, e4, e5, e7, e8, rfl⟩ hlt
    clear hK0 h1 h2 h3 hB0 hsz
    simp only [Array.replicate_succ, Array.replicate_zero, List.push_toArray, List.append_toArray, List.nil_append, List.cons_append]
    refine wpIn_hideN (by rintro a w ⟨_, _, h⟩; exact h) ?_
    intro Q HQ HN
    clear HR
    have hx := twoS_range p (2 + 4 * (i : Int))
    have hy := twoS_range p (4 + 4 * (i : Int))
    have hi : i < n := by
      have := (List.getElem?_eq_some_iff.1 hv).1
      simpa using this
    have hlen := linesS_length p i
    have hcs : linesS p (i + 1) = if 0 < twoS p (4 + 4 * (i : Int)) then linesS p i ++ [(i : Int) + 1] else linesS p i := rfl
    have c1 := (blk_cell e3 0).trans rfl
    have c2 := (blk_cell e4 0).trans rfl
    have c3 := (blk_cell e8 0).trans rfl
    have c4 := (blk_cell e8 1).trans rfl
    have c5 := (blk_cell e8 2).trans rfl
    have f2 := blk_frozen e4 0
    have hown := e1.1
    have HB := Aside0.mk (And.intro e1 (And.intro e2 (And.intro e3 (And.intro e4 e5))))
    have hblt := blk_lt e8
    have hbe := Below.block e2
    clear e1 e2 e3 e4 e5 e8 hv hbe
    obtain ⟨x, HX⟩ : ∃ x, twoS p (2 + 4 * (i : Int)) = x := ⟨_, rfl⟩
    obtain ⟨y, HY⟩ : ∃ y, twoS p (4 + 4 * (i : Int)) = y := ⟨_, rfl⟩
    simp only [HX, HY] at hx hy c4 c5 hcs ⊢
    clear HX HY
    by_cases hy0 : 0 < y
    · rw [if_pos hy0] at hcs
      have HCS := Aside0.mk hcs
      clear hcs
      gi_wp2_with fail
      refine round_region_any (by kernel_rfl) (by kernel_rfl) (fun a w h => HN.out _ _ h) ?_
      change wpAny _ _ _ _ _ _ _ (World.drew _)
      all_goals first
        | refine wpAny_ready (rs := [0, 1, 2]) (by decide +kernel) (by simp) ?_
        | refine wpAny_ready (rs := [1, 2]) (by decide +kernel) (by simp) ?_
        | refine wpAny_ready (rs := [0, 2]) (by decide +kernel) (by simp) ?_
        | refine wpAny_ready (rs := [0, 1]) (by decide +kernel) (by simp) ?_
        | refine wpAny_ready (rs := [2]) (by decide +kernel) (by simp) ?_
        | refine wpAny_ready (rs := [1]) (by decide +kernel) (by simp) ?_
        | refine wpAny_ready (rs := [0, 3]) (by decide +kernel) (by simp) ?_
        | refine wpAny_ready (rs := [3]) (by decide +kernel) (by simp) ?_
        | refine wpAny_ready (rs := [0, 4]) (by decide +kernel) (by simp) ?_
        | refine wpAny_ready (rs := [4]) (by decide +kernel) (by simp) ?_
        | refine wpAny_ready (rs := [0]) (by decide +kernel) (by simp) ?_
        | refine wpAny_ready (rs := [5]) (by decide +kernel) (by simp) ?_
        | refine wpAny_ready (rs := [6]) (by decide +kernel) (by simp) ?_
      all_goals repeat' (first | exact AllReady.nil | refine AllReady.cons rfl (fun K hK => ?_) ?_)
      all_goals first
        | (go_simp
           first
           | (refine hK _ _ ?_
              clear hK K)
           | (go_at_call 62
              refine (page_Lines1_calls _ x y _).mono ?_
              rintro e w' ⟨rfl, hcb⟩
              have g2 := blk_below (blk_drew HB.out.2.2.2.1) hcb
              have d1 := (blk_cell g2 0).trans rfl
              have d2 := blk_frozen g2 0
              have d5 := blk_lt g2
              have HW := Aside0.mk (And.intro (Kd.R_below (Kd.R_drew HB.out.1) hcb) (And.intro (below_then HB.out.2.1.drew (by have := hblt; simp; omega) hcb) (And.intro g2 (Nat.lt_of_lt_of_le hblt hcb.size))))
              have HW2 := Aside0.mk hcb
              clear g2 hcb
              refine hK _ _ ?_
              clear hK K))
      all_goals first
        | refine wpAny_ready (rs := [0, 1, 2]) (by decide +kernel) (by simp) ?_
        | refine wpAny_ready (rs := [1, 2]) (by decide +kernel) (by simp) ?_
        | refine wpAny_ready (rs := [0, 2]) (by decide +kernel) (by simp) ?_
        | refine wpAny_ready (rs := [0, 1]) (by decide +kernel) (by simp) ?_
        | refine wpAny_ready (rs := [2]) (by decide +kernel) (by simp) ?_
        | refine wpAny_ready (rs := [1]) (by decide +kernel) (by simp) ?_
        | refine wpAny_ready (rs := [0, 3]) (by decide +kernel) (by simp) ?_
        | refine wpAny_ready (rs := [3]) (by decide +kernel) (by simp) ?_
        | refine wpAny_ready (rs := [0, 4]) (by decide +kernel) (by simp) ?_
        | refine wpAny_ready (rs := [4]) (by decide +kernel) (by simp) ?_
        | refine wpAny_ready (rs := [0]) (by decide +kernel) (by simp) ?_
        | refine wpAny_ready (rs := [5]) (by decide +kernel) (by simp) ?_
        | refine wpAny_ready (rs := [6]) (by decide +kernel) (by simp) ?_
      all_goals repeat' (first | exact AllReady.nil | refine AllReady.cons rfl (fun K hK => ?_) ?_)
      all_goals first
        | (go_simp
           first
           | (refine hK _ _ ?_
              clear hK K)
           | (go_at_call 62
              refine (page_Lines1_calls _ x y _).mono ?_
              rintro e w' ⟨rfl, hcb⟩
              have g2 := blk_below (blk_drew HB.out.2.2.2.1) hcb
              have d1 := (blk_cell g2 0).trans rfl
              have d2 := blk_frozen g2 0
              have d5 := blk_lt g2
              have HW := Aside0.mk (And.intro (Kd.R_below (Kd.R_drew HB.out.1) hcb) (And.intro (below_then HB.out.2.1.drew (by have := hblt; simp; omega) hcb) (And.intro g2 (Nat.lt_of_lt_of_le hblt hcb.size))))
              have HW2 := Aside0.mk hcb
              clear g2 hcb
              refine hK _ _ ?_
              clear hK K))
      all_goals first
        | refine wpAny_ready (rs := [0, 1, 2]) (by decide +kernel) (by simp) ?_
        | refine wpAny_ready (rs := [1, 2]) (by decide +kernel) (by simp) ?_
        | refine wpAny_ready (rs := [0, 2]) (by decide +kernel) (by simp) ?_
        | refine wpAny_ready (rs := [0, 1]) (by decide +kernel) (by simp) ?_
        | refine wpAny_ready (rs := [2]) (by decide +kernel) (by simp) ?_
        | refine wpAny_ready (rs := [1]) (by decide +kernel) (by simp) ?_
        | refine wpAny_ready (rs := [0, 3]) (by decide +kernel) (by simp) ?_
        | refine wpAny_ready (rs := [3]) (by decide +kernel) (by simp) ?_
        | refine wpAny_ready (rs := [0, 4]) (by decide +kernel) (by simp) ?_
        | refine wpAny_ready (rs := [4]) (by decide +kernel) (by simp) ?_
        | refine wpAny_ready (rs := [0]) (by decide +kernel) (by simp) ?_
        | refine wpAny_ready (rs := [5]) (by decide +kernel) (by simp) ?_
        | refine wpAny_ready (rs := [6]) (by decide +kernel) (by simp) ?_
      all_goals repeat' (first | exact AllReady.nil | refine AllReady.cons rfl (fun K hK => ?_) ?_)
      all_goals first
        | (go_simp
           first
           | (refine hK _ _ ?_
              clear hK K)
           | (go_at_call 62
              refine (page_Lines1_calls _ x y _).mono ?_
              rintro e w' ⟨rfl, hcb⟩
              have g2 := blk_below (blk_drew HB.out.2.2.2.1) hcb
              have d1 := (blk_cell g2 0).trans rfl
              have d2 := blk_frozen g2 0
              have d5 := blk_lt g2
              have HW := Aside0.mk (And.intro (Kd.R_below (Kd.R_drew HB.out.1) hcb) (And.intro (below_then HB.out.2.1.drew (by have := hblt; simp; omega) hcb) (And.intro g2 (Nat.lt_of_lt_of_le hblt hcb.size))))
              have HW2 := Aside0.mk hcb
              clear g2 hcb
              refine hK _ _ ?_
              clear hK K))
      all_goals first
        | refine wpAny_ready (rs := [0, 1, 2]) (by decide +kernel) (by simp) ?_
        | refine wpAny_ready (rs := [1, 2]) (by decide +kernel) (by simp) ?_
        | refine wpAny_ready (rs := [0, 2]) (by decide +kernel) (by simp) ?_
        | refine wpAny_ready (rs := [0, 1]) (by decide +kernel) (by simp) ?_
        | refine wpAny_ready (rs := [2]) (by decide +kernel) (by simp) ?_
        | refine wpAny_ready (rs := [1]) (by decide +kernel) (by simp) ?_
        | refine wpAny_ready (rs := [0, 3]) (by decide +kernel) (by simp) ?_
        | refine wpAny_ready (rs := [3]) (by decide +kernel) (by simp) ?_
        | refine wpAny_ready (rs := [0, 4]) (by decide +kernel) (by simp) ?_
        | refine wpAny_ready (rs := [4]) (by decide +kernel) (by simp) ?_
        | refine wpAny_ready (rs := [0]) (by decide +kernel) (by simp) ?_
        | refine wpAny_ready (rs := [5]) (by decide +kernel) (by simp) ?_
        | refine wpAny_ready (rs := [6]) (by decide +kernel) (by simp) ?_
      all_goals repeat' (first | exact AllReady.nil | refine AllReady.cons rfl (fun K hK => ?_) ?_)
      all_goals first
        | (go_simp
           first
           | (refine hK _ _ ?_
              clear hK K)
           | (go_at_call 62
              refine (page_Lines1_calls _ x y _).mono ?_
              rintro e w' ⟨rfl, hcb⟩
              have g2 := blk_below (blk_drew HB.out.2.2.2.1) hcb
              have d1 := (blk_cell g2 0).trans rfl
              have d2 := blk_frozen g2 0
              have d5 := blk_lt g2
              have HW := Aside0.mk (And.intro (Kd.R_below (Kd.R_drew HB.out.1) hcb) (And.intro (below_then HB.out.2.1.drew (by have := hblt; simp; omega) hcb) (And.intro g2 (Nat.lt_of_lt_of_le hblt hcb.size))))
              have HW2 := Aside0.mk hcb
              clear g2 hcb
              refine hK _ _ ?_
              clear hK K))
      all_goals first
        | refine wpAny_ready (rs := [0, 1, 2]) (by decide +kernel) (by simp) ?_
        | refine wpAny_ready (rs := [1, 2]) (by decide +kernel) (by simp) ?_
        | refine wpAny_ready (rs := [0, 2]) (by decide +kernel) (by simp) ?_
        | refine wpAny_ready (rs := [0, 1]) (by decide +kernel) (by simp) ?_
        | refine wpAny_ready (rs := [2]) (by decide +kernel) (by simp) ?_
        | refine wpAny_ready (rs := [1]) (by decide +kernel) (by simp) ?_
        | refine wpAny_ready (rs := [0, 3]) (by decide +kernel) (by simp) ?_
        | refine wpAny_ready (rs := [3]) (by decide +kernel) (by simp) ?_
        | refine wpAny_ready (rs := [0, 4]) (by decide +kernel) (by simp) ?_
        | refine wpAny_ready (rs := [4]) (by decide +kernel) (by simp) ?_
        | refine wpAny_ready (rs := [0]) (by decide +kernel) (by simp) ?_
        | refine wpAny_ready (rs := [5]) (by decide +kernel) (by simp) ?_
        | refine wpAny_ready (rs := [6]) (by decide +kernel) (by simp) ?_
      all_goals repeat' (first | exact AllReady.nil | refine AllReady.cons rfl (fun K hK => ?_) ?_)
      all_goals first
        | (go_simp
           first
           | (refine hK _ _ ?_
              clear hK K)
           | (go_at_call 62
              refine (page_Lines1_calls _ x y _).mono ?_
              rintro e w' ⟨rfl, hcb⟩
              have g2 := blk_below (blk_drew HB.out.2.2.2.1) hcb
              have d1 := (blk_cell g2 0).trans rfl
              have d2 := blk_frozen g2 0
              have d5 := blk_lt g2
              have HW := Aside0.mk (And.intro (Kd.R_below (Kd.R_drew HB.out.1) hcb) (And.intro (below_then HB.out.2.1.drew (by have := hblt; simp; omega) hcb) (And.intro g2 (Nat.lt_of_lt_of_le hblt hcb.size))))
              have HW2 := Aside0.mk hcb
              clear g2 hcb
              refine hK _ _ ?_
              clear hK K))
      all_goals first
        | refine wpAny_ready (rs := [0, 1, 2]) (by decide +kernel) (by simp) ?_
        | refine wpAny_ready (rs := [1, 2]) (by decide +kernel) (by simp) ?_
        | refine wpAny_ready (rs := [0, 2]) (by decide +kernel) (by simp) ?_
        | refine wpAny_ready (rs := [0, 1]) (by decide +kernel) (by simp) ?_
        | refine wpAny_ready (rs := [2]) (by decide +kernel) (by simp) ?_
        | refine wpAny_ready (rs := [1]) (by decide +kernel) (by simp) ?_
        | refine wpAny_ready (rs := [0, 3]) (by decide +kernel) (by simp) ?_
        | refine wpAny_ready (rs := [3]) (by decide +kernel) (by simp) ?_
        | refine wpAny_ready (rs := [0, 4]) (by decide +kernel) (by simp) ?_
        | refine wpAny_ready (rs := [4]) (by decide +kernel) (by simp) ?_
        | refine wpAny_ready (rs := [0]) (by decide +kernel) (by simp) ?_
        | refine wpAny_ready (rs := [5]) (by decide +kernel) (by simp) ?_
        | refine wpAny_ready (rs := [6]) (by decide +kernel) (by simp) ?_
      all_goals repeat' (first | exact AllReady.nil | refine AllReady.cons rfl (fun K hK => ?_) ?_)
      all_goals first
        | (refine Kd.R_append_step (Kd.int .i64) (w0 := w) g (by rfl) (.tmp 13) (.tmp 17) 41 3 (.int .i64 0) 8 rfl Try.underlying41 (by kernel_rfl) rfl (by decide) (by omega) v1 (linesS p i) ((i : Int) + 1) [.int .i64 ((i : Int) + 1)] (fun k => g + 4 < k) (fun _ => False) rfl rfl rfl (fun _ hk => hk.elim) ?aF ?aO ?aB ?aS ?aL ?_
           case aF => exact fun k hk => Nat.lt_of_lt_of_le (Nat.lt_trans e7 HW.out.2.2.2) hk
           case aO => exact HW.out.1
           case aB => exact HW.out.2.1
           case aS => exact Nat.le_of_lt (Nat.lt_trans (by omega) HW.out.2.2.2)
           case aL => omega
           intro v2 w2 hr2 hb2 hg2 hat2
           obtain ⟨A2, l2, c2_, rfl⟩ := R_is_slice hr2
           have g3 := blk_grown HW.out.2.2.1 hg2 (by intro h; have := hown _ h.symm; omega)
           have d3 := (blk_cell g3 0).trans rfl
           have d4 := blk_frozen g3 0
           have HZ := Aside0.mk (And.intro hr2 (And.intro hb2 (And.intro g3 (And.intro hg2 hat2))))
           clear hr2 hb2 g3 hg2 hat2
           refine hK _ _ ?_
           clear hK K)
      all_goals first
        | refine wpAny_ready (rs := [0, 1, 2]) (by decide +kernel) (by simp) ?_
        | refine wpAny_ready (rs := [1, 2]) (by decide +kernel) (by simp) ?_
        | refine wpAny_ready (rs := [0, 2]) (by decide +kernel) (by simp) ?_
        | refine wpAny_ready (rs := [0, 1]) (by decide +kernel) (by simp) ?_
        | refine wpAny_ready (rs := [2]) (by decide +kernel) (by simp) ?_
        | refine wpAny_ready (rs := [1]) (by decide +kernel) (by simp) ?_
        | refine wpAny_ready (rs := [0, 3]) (by decide +kernel) (by simp) ?_
        | refine wpAny_ready (rs := [3]) (by decide +kernel) (by simp) ?_
        | refine wpAny_ready (rs := [0, 4]) (by decide +kernel) (by simp) ?_
        | refine wpAny_ready (rs := [4]) (by decide +kernel) (by simp) ?_
        | refine wpAny_ready (rs := [0]) (by decide +kernel) (by simp) ?_
        | refine wpAny_ready (rs := [5]) (by decide +kernel) (by simp) ?_
        | refine wpAny_ready (rs := [6]) (by decide +kernel) (by simp) ?_
      all_goals repeat' (first | exact AllReady.nil | refine AllReady.cons rfl (fun K hK => ?_) ?_)
      all_goals
        go_simp
        refine hK _ _ ?_
        clear hK K
      all_goals refine wpAny_done (by decide +kernel) ?_ _
      all_goals
        refine HQ.out _ _ _ ⟨?_, ?_, .slice A2 l2 c2_, by rw [HCS.out]; exact Kd.R_far HZ.out.1 (fun k hk => by simp; omega) _, HZ.out.2.1.setCell (by simp) _, ?_, blk_set HZ.out.2.2.1 0 _, ?_⟩
        · exact (Below.heap_setCell _ _ _ _ (by simp)).trans ((HZ.out.2.2.2.1.block _ (Nat.lt_of_lt_of_le (by simpa using hlt) HW2.out.size) (by intro h; have := hown _ h.symm; omega)).trans (HW2.out.block _ (by simpa using hlt)))
        · exact (Below.heap_setCell _ _ _ _ (by simp)).trans ((HZ.out.2.2.2.1.block _ (Nat.lt_of_lt_of_le (show g + 3 < W.heap.size by omega) HW2.out.size) (by intro h; have := hown _ h.symm; omega)).trans (HW2.out.block _ (show g + 3 < W.heap.size by omega)))
        · exact blk_far (blk_grown (blk_below (blk_drew HB.out.2.2.1) HW2.out) HZ.out.2.2.2.1 (by intro h; have := hown _ h.symm; omega)) (by simp) _
        · exact blk_far (blk_grown (blk_below (blk_drew HB.out.2.2.2.2) HW2.out) HZ.out.2.2.2.1 (by intro h; have := hown _ h.symm; omega)) (by simp) _
    · rw [if_neg hy0] at hcs
      have HCS := Aside0.mk hcs
      clear hcs
      gi_wp2_with fail
      refine HQ.out _ _ _ ⟨rfl, rfl, v1, by rw [HCS.out]; exact HB.out.1, HB.out.2.1, HB.out.2.2.1, HB.out.2.2.2.1, HB.out.2.2.2.2⟩
  case refine_11 =>
    rintro W ⟨v, e1, e2, e3, e4, e5⟩ hD
    refine hK0 _ _ ?_
    clear hK0
    refine wpX_of_wp ?_
    have c1 := (blk_cell e4 0).trans rfl
    have HB := Aside0.mk e2
    have HS := Aside0.mk e1
    have HD := Aside0.mk hD
    clear e1 e2 e3 e4 e5 hD h1 h2 h3
    go_wp2_with fail
    refine leavesM_ret HD.out (fun _ => results_tmp rfl _ _ _) ?_
    rw [← HR.out]
    have h8 := HS.out
    simp only [List.length_map, List.length_range] at h8
    exact ⟨v, rfl, Kd.R_mono (Kd.R_step h8 (fun k hk _ => World.putObj_heap_other (by omega))) (fun _ _ => trivial), below_putObj HB.out (by omega) _⟩
  case refine_12 => exact fun _ _ h => h.elim
  case refine_13 => exact fun _ _ h => h.elim

end Go.Proofs.Ytemglmcddaeedaa.PA

namespace Go.Proofs.Ytemglmcddaeedaa.PA
open Go.RowKit Go.Proofs.YtemglmcddaeedaaW.PrintWords Go.Proofs.YtemglmcddaeedaaW.PrintLast Go.Proofs.YtemglmcddaeedaaW.PrintMore
attribute [local go_sem] max2_int min2_int max_two min_two max_three min_three max_four min_four   -- for this text's walks alone
set_option linter.unusedVariables false
set_option linter.unusedSimpArgs false

/-! ### page_Lines: function 24 -/
def page_Lines.f (a0 : ByteArray) : Option (List Int × Int) := if a0.size ≤ 100000 then some (if validS a0 then (linesS a0 (twoS a0 0).toNat, 0) else ([], 1)) else none
theorem valid_call (p : ByteArray) (h : p.size ≤ 100000) : page_Valid.f p = some (decide (validS p)) := by
  unfold page_Valid.f page_Wrong.f validS
  rw [if_pos h, Option.bind_some]
  congr 1
set_option maxRecDepth 100000 in
set_option maxHeartbeats 4000000 in
theorem page_Lines.calls (a0 : ByteArray) (r1 : List Int) (r2 : Int) (w : World) (h : page_Lines.f a0 = some (r1, r2)) :
    Calls Try.prog 24 #[.string a0] w fun e w' => ∃ v0_ : Value, e = .returned (.tuple #[v0_, .int .i64 r2]) ∧ Kd.R (Kd.int .i64) 3 w' w.heap.size (fun _ => True) v0_ r1 ∧ Below w.heap.size w w' := by
  unfold page_Lines.f at h
  split at h
  rotate_left
  · cases h
  rename_i hs
  have hv := valid_call a0 hs
  by_cases hval : validS a0
  · rw [if_pos hval] at h
    rw [decide_eq_true hval] at hv
    obtain ⟨rfl, rfl⟩ := Prod.mk.inj (Option.some.inj h)
    clear h
    obtain ⟨q1, q2, q3, q4, q5, top, q6, q7⟩ := validS_spec a0 hval
    have hr := twoS_range a0 0
    obtain ⟨n, hn⟩ : ∃ n : Nat, twoS a0 0 = n := ⟨(twoS a0 0).toNat, by omega⟩
    have HG := Aside0.mk (page_gint_calls a0 n hn (by omega) (by omega))
    have HN := Aside0.mk hn
    have HV := Aside0.mk hv
    clear hn hr q6 q7 hv hval
    go_enter Try.func24, Try.ntmps24
    go_wp2_with (first
      | (go_at_call 21; refine (page_Valid.calls a0 true _ HV.out).mono ?_; rintro e w1 ⟨rfl, hb1⟩)
      | (go_at_call 61; refine (HG.out w1).mono ?_; rintro e w2 ⟨v, rfl, hr2, hb2⟩))
    go_ret2
    rw [HN.out, Int.toNat_natCast]
    exact ⟨v, rfl, Kd.R_lower hr2 hb1.size, below_step hb1 hb2⟩
  · rw [if_neg hval] at h
    rw [decide_eq_false hval] at hv
    obtain ⟨rfl, rfl⟩ := Prod.mk.inj (Option.some.inj h)
    clear h
    have HV := Aside0.mk hv
    clear hv hval
    go_enter Try.func24, Try.ntmps24
    go_wp2_with (go_at_call 21; refine (page_Valid.calls a0 false _ HV.out).mono ?_; rintro e w1 ⟨rfl, hb1⟩)
    go_ret2
    exact ⟨_, rfl, Kd.R_nil _ _ _ _ _, hb1⟩

end Go.Proofs.Ytemglmcddaeedaa.PA

namespace Go.Proofs.Ytemglmcddaeedaa.PA
open Go.RowKit Go.Proofs.YtemglmcddaeedaaW.PrintWords Go.Proofs.YtemglmcddaeedaaW.PrintLast Go.Proofs.YtemglmcddaeedaaW.PrintMore
attribute [local go_sem] max2_int min2_int max_two min_two max_three min_three max_four min_four   -- for this text's walks alone
set_option linter.unusedVariables false
set_option linter.unusedSimpArgs false

/-! ### b_lists: function 0 -/
/-! #### the bytes of a page, as a list -/
theorem bytesOf_get (p : ByteArray) (i : Nat) (h : i < p.size) : (bytesOf p)[i]? = some (bt p (i : Int)) := by
  have hl : i < (bytesOf p).length := by rw [bytesOf_length]; exact h
  rw [List.getElem?_eq_getElem hl]
  congr 1
  simp only [bytesOf, List.getElem_map, bt, Int.toNat_natCast, dif_pos h, Array.getElem_toList]
  rfl
theorem bytesOf_getD (p : ByteArray) (i : Nat) : (bytesOf p).getD i 0 = bt p (i : Int) := by
  by_cases h : i < p.size
  · rw [List.getD_eq_getElem?_getD, bytesOf_get p i h]; rfl
  · rw [List.getD_eq_getElem?_getD, List.getElem?_eq_none (by rw [bytesOf_length]; omega)]
    simp [bt, h]
theorem bytesOf_inj {p q : ByteArray} (h : bytesOf p = bytesOf q) : p = q := by
  cases p with | mk a => cases q with | mk b =>
  congr 1
  apply Array.toList_inj.1
  have hm : ∀ (x y : List UInt8), x.map (fun b => (b.toNat : Int)) = y.map (fun b => (b.toNat : Int)) → x = y := by
    intro x
    induction x with
    | nil => intro y hy; cases y with | nil => rfl | cons _ _ => simp at hy
    | cons c x ih =>
      intro y hy
      cases y with
      | nil => simp at hy
      | cons d y =>
        simp only [List.map_cons, List.cons.injEq] at hy
        rw [ih y hy.2, show c = d from UInt8.toNat_inj.1 (by omega)]
  exact hm _ _ h
theorem bytesOf_range (p : ByteArray) : ∀ x ∈ bytesOf p, 0 ≤ x ∧ x ≤ 255 := by
  intro x hx
  simp only [bytesOf, List.mem_map] at hx
  obtain ⟨b, _, rfl⟩ := hx
  have := UInt8.toNat_lt b
  omega
theorem bytesOf_strOfNums (l : List Int) (h : ∀ x ∈ l, 0 ≤ x ∧ x ≤ 255) : bytesOf (strOfNums l) = l := by
  simp only [bytesOf, strOfNums, List.map_map]
  induction l with
  | nil => rfl
  | cons x l ih =>
    rw [List.map_cons, ih (fun y hy => h y (by simp [hy]))]
    congr 1
    have := h x (by simp)
    simp only [Function.comp, UInt8.toNat_ofNat']
    omega
theorem strOfNums_bytesOf (p : ByteArray) : strOfNums (bytesOf p) = p := bytesOf_inj (bytesOf_strOfNums _ (bytesOf_range p))
theorem bytesOf_extract (p : ByteArray) (i j : Nat) (hj : j ≤ p.size) : bytesOf (p.extract i j) = ((bytesOf p).drop i).take (j - i) := by
  simp only [bytesOf, ByteArray.data_extract, Array.toList_extract, List.extract_eq_take_drop, List.map_take, List.map_drop]
theorem extract_size (p : ByteArray) (i j : Nat) (hj : j ≤ p.size) : (p.extract i j).size = j - i := by
  rw [ByteArray.size_extract]; omega
theorem bytesOf_append (a b : ByteArray) : bytesOf (a ++ b) = bytesOf a ++ bytesOf b := by
  simp only [bytesOf, ByteArray.data_append, Array.toList_append, List.map_append]

end Go.Proofs.Ytemglmcddaeedaa.PA

namespace Go.Proofs.Ytemglmcddaeedaa.PA
open Go.RowKit Go.Proofs.YtemglmcddaeedaaW.PrintWords Go.Proofs.YtemglmcddaeedaaW.PrintLast Go.Proofs.YtemglmcddaeedaaW.PrintMore
attribute [local go_sem] max2_int min2_int max_two min_two max_three min_three max_four min_four   -- for this text's walks alone
set_option linter.unusedVariables false
set_option linter.unusedSimpArgs false

/-! ### b_two: function 0 -/
/-! #### a page that is valid is the page of its cells -/
theorem getD_drop (l : List Int) (i j : Nat) : (l.drop i).getD j 0 = l.getD (i + j) 0 := by
  simp [List.getD_eq_getElem?_getD, List.getElem?_drop]
theorem take_four (l : List Int) (i : Nat) (h : i + 4 ≤ l.length) : l.take (i + 4) = l.take i ++ [l.getD i 0, l.getD (i + 1) 0, l.getD (i + 2) 0, l.getD (i + 3) 0] := by
  have e : ∀ j, j < l.length → l.take (j + 1) = l.take j ++ [l.getD j 0] := by
    intro j hj
    rw [List.take_succ_eq_append_getElem hj, List.getD_eq_getElem?_getD, List.getElem?_eq_getElem hj]
    rfl
  rw [show i + 4 = i + 1 + 1 + 1 + 1 by omega, e _ (by omega), e _ (by omega), e _ (by omega), e _ (by omega)]
  simp
theorem CellsOk.snoc {l : List S45} {c : S45} (h : CellsOk l) (hc : 1 ≤ c.f0 ∧ c.f0 ≤ 200 ∧ 0 < c.f1.size) (hl : lastL l < c.f0) : CellsOk (l ++ [c]) := by
  induction l with
  | nil => exact hc
  | cons d r ih =>
    cases r with
    | nil =>
      have : lastL [d] = d.f0 := by simp [lastL]
      exact ⟨h, by omega, hc⟩
    | cons e r =>
      have h1 : lastL (d :: e :: r) = lastL (e :: r) := by simp [lastL, List.getLast?_cons_cons]
      have := ih h.2.2 (by rw [← h1]; exact hl)
      exact ⟨h.1, h.2.1, this⟩
/-- What has been read behind i entries. -/
theorem scan_reads (p : ByteArray) (n : Nat) (hn : n ≤ 200) (hsz : 2 + 4 * n ≤ p.size) (i : Nat) (hi : i ≤ n) (top last : Int) (h : scanE p n i = .ok (top, last)) :
    CellsOk (cellsS p i) ∧ lastL (cellsS p i) = last ∧ last ≤ i ∧ top = p.size - bytesL (cellsS p i) ∧
      (foldB p.size (cellsS p i)).1 ++ zer (4 * i - 4 * last.toNat) = ((bytesOf p).drop 2).take (4 * i) ∧ (foldB p.size (cellsS p i)).2 = (bytesOf p).drop top.toNat := by
  induction i generalizing top last with
  | zero =>
    simp only [scanE] at h
    cases h
    refine ⟨trivial, rfl, by omega, by simp [cellsS, bytesL], by simp [cellsS, foldB, zer], ?_⟩
    simp only [cellsS, foldB, List.foldl_nil, Int.toNat_natCast]
    rw [List.drop_of_length_le (by rw [bytesOf_length]; omega)]
  | succ i ih =>
    simp only [scanE] at h
    cases hs : scanE p n i with
    | error a => rw [hs] at h; cases h
    | ok s =>
      obtain ⟨t, l⟩ := s
      have htop := scanE_top p n i t l hs
      have hrg := scanE_range p n i t l hs
      obtain ⟨i1, i2, i3, i4, i5, i6⟩ := ih (by omega) t l hs
      rw [hs] at h
      simp only at h
      have hx := twoS_range p (2 + 4 * (i : Int))
      have hy := twoS_range p (4 + 4 * (i : Int))
      have b0 := bt_range p (2 + 4 * (i : Int))
      have b1 := bt_range p (2 + 4 * (i : Int) + 1)
      have b2 := bt_range p (4 + 4 * (i : Int))
      have b3 := bt_range p (4 + 4 * (i : Int) + 1)
      have hlen : ((bytesOf p).drop 2).length = p.size - 2 := by rw [List.length_drop, bytesOf_length]
      have h4 := take_four ((bytesOf p).drop 2) (4 * i) (by omega)
      simp only [getD_drop, bytesOf_getD] at h4
      rw [show ((2 + 4 * i : Nat) : Int) = 2 + 4 * (i : Int) by omega, show ((2 + (4 * i + 1) : Nat) : Int) = 2 + 4 * (i : Int) + 1 by omega, show ((2 + (4 * i + 2) : Nat) : Int) = 4 + 4 * (i : Int) by omega, show ((2 + (4 * i + 3) : Nat) : Int) = 4 + 4 * (i : Int) + 1 by omega] at h4
      rw [show 4 * (i + 1) = 4 * i + 4 by omega, h4, ← i5]
      unfold twoS at h hx hy
      simp only [cellsS]
      unfold twoS
      generalize bt p (2 + 4 * (i : Int)) = c0 at *
      generalize bt p (2 + 4 * (i : Int) + 1) = c1 at *
      generalize bt p (4 + 4 * (i : Int)) = c2 at *
      generalize bt p (4 + 4 * (i : Int) + 1) = c3 at *
      split at h
      · rename_i hz
        cases h
        rw [if_neg (by omega)]
        refine ⟨i1, i2, by omega, i4, ?_, i6⟩
        rw [show c0 = 0 by omega, show c1 = 0 by omega, show c2 = 0 by omega, show c3 = 0 by omega]
        rw [List.append_assoc]
        congr 1
        rw [show (4 * i + 4 - 4 * last.toNat) = (4 * i - 4 * last.toNat) + 4 by omega, zer_add]
        rfl
      · split at h
        · cases h
        · rename_i hz hq
          cases h
          rw [if_pos (by omega)]
          have hex := extract_size p (256 * c0 + c1).toNat (256 * c0 + c1 + (256 * c2 + c3)).toNat (by omega)
          have hll : lastL (cellsS p i ++ [⟨(i : Int) + 1, p.extract (256 * c0 + c1).toNat (256 * c0 + c1 + (256 * c2 + c3)).toNat⟩]) = (i : Int) + 1 := lastL_snoc _ _
          refine ⟨i1.snoc ⟨by show 1 ≤ (i : Int) + 1; omega, by show (i : Int) + 1 ≤ 200; omega, by rw [hex]; omega⟩ (by rw [i2]; show l < (i : Int) + 1; omega), hll, by omega, ?_, ?_, ?_⟩
          · rw [bytesL_append]
            simp only [bytesL, List.map_cons, List.map_nil, List.sum_cons, List.sum_nil, hex] at i4 ⊢
            omega
          · rw [foldB_snoc]
            have hfl := foldB_len (N := p.size) i1
            simp only [stepB, i6, hex]
            rw [show (4 * i + 4 - 4 * ((i : Int) + 1).toNat) = 0 by omega]
            rw [show (4 * (((i : Int) + 1).toNat - 1) - (foldB p.size (cellsS p i)).1.length) = 4 * i - 4 * l.toNat by rw [i2] at hfl; omega]
            simp only [zer, List.replicate_zero, List.append_nil, List.append_assoc, List.length_drop, bytesOf_length]
            congr 2
            unfold ent4
            have e1 : (p.size : Int) - ((p.size - t.toNat + ((256 * c0 + c1 + (256 * c2 + c3)).toNat - (256 * c0 + c1).toNat) : Nat) : Int) = 256 * c0 + c1 := by omega
            have e2 : (((256 * c0 + c1 + (256 * c2 + c3)).toNat - (256 * c0 + c1).toNat : Nat) : Int) = 256 * c2 + c3 := by omega
            rw [e1, e2]
            simp only [List.cons.injEq, and_true]
            omega
          · rw [foldB_snoc]
            simp only [stepB, i6]
            rw [bytesOf_extract _ _ _ (by omega)]
            have : (bytesOf p).drop t.toNat = ((bytesOf p).drop (256 * c0 + c1).toNat).drop ((256 * c0 + c1 + (256 * c2 + c3)).toNat - (256 * c0 + c1).toNat) := by
              rw [List.drop_drop]; congr 1; omega
            rw [this, List.take_append_drop]
theorem firstNZ_none (p : ByteArray) (top : Int) (i : Nat) (h : firstNZ p top i = none) : ∀ j : Nat, i ≤ j → (j : Int) < top → bt p (j : Int) = 0 := by
  intro j hij hj
  obtain ⟨d, rfl⟩ := Nat.exists_eq_add_of_le hij
  clear hij
  induction d generalizing i with
  | zero =>
    rw [firstNZ, if_pos (by omega)] at h
    split at h
    · cases h
    · rename_i hz; simpa using hz
  | succ d ih =>
    rw [firstNZ, if_pos (by omega)] at h
    split at h
    · cases h
    · have := ih (i + 1) h (by omega)
      rw [show i + (d + 1) = i + 1 + d by omega]
      exact this
theorem valid_reads (p : ByteArray) (hv : validS p) :
    CellsOk (cellsS p (twoS p 0).toNat) ∧ needsL (cellsS p (twoS p 0).toNat) ≤ p.size ∧ lastL (cellsS p (twoS p 0).toNat) = twoS p 0 ∧ builtL p.size (cellsS p (twoS p 0).toNat) = bytesOf p := by
  obtain ⟨q1, q2, q3, q4, q5, top, q6, q7⟩ := validS_spec p hv
  have hr := twoS_range p 0
  obtain ⟨n, hn⟩ : ∃ n : Nat, twoS p 0 = n := ⟨(twoS p 0).toNat, by omega⟩
  rw [hn] at q4 q5 q6 q7 ⊢
  rw [Int.toNat_natCast] at q6 q7 ⊢
  unfold entriesS at q6
  cases hs : scanE p n n with
  | error a => rw [hs] at q6; cases q6
  | ok s =>
    obtain ⟨t, last⟩ := s
    rw [hs] at q6
    simp only at q6
    split at q6
    · cases q6
    · rename_i hl
      cases q6
      obtain ⟨i1, i2, i3, i4, i5, i6⟩ := scan_reads p n (by omega) (by omega) n (Nat.le_refl n) top last hs
      have htop := scanE_top p n n top last hs
      have hlast := scanE_last p n n top last hs
      have hrg := scanE_range p n n top last hs
      have hln : last = n := by omega
      subst hln
      generalize cellsS p n = A at *
      have hfl := foldB_len (N := p.size) i1
      have htb : 2 + 4 * (n : Int) ≤ top := by
        rcases hlast with h | h
        · exact h
        · have hA : A = [] := by
            cases hA : A with
            | nil => rfl
            | cons c r =>
              have hne : A ≠ [] := by rw [hA]; simp
              have h1 := i1.each (A.getLast hne) (List.getLast_mem hne)
              have h2 : lastL A = (A.getLast hne).f0 := by simp [lastL, List.getLast?_eq_some_getLast hne]
              omega
          rw [hA] at i4
          simp [bytesL] at i4
          omega
      refine ⟨i1, by unfold needsL; omega, i2, ?_⟩
      rw [Int.toNat_natCast, show 4 * n - 4 * n = 0 by omega] at i5
      simp only [zer, List.replicate_zero, List.append_nil] at i5
      unfold builtL bld
      rw [i2]
      have hz : zer (p.size - 2 - (foldB p.size A).1.length - (foldB p.size A).2.length) = ((bytesOf p).drop (2 + 4 * n)).take (top.toNat - (2 + 4 * n)) := by
        have hlen : p.size - 2 - (foldB p.size A).1.length - (foldB p.size A).2.length = top.toNat - (2 + 4 * n) := by omega
        rw [hlen]
        apply List.ext_getElem?
        intro j
        by_cases hj : j < top.toNat - (2 + 4 * n)
        · rw [List.getElem?_take_of_lt hj, List.getElem?_drop, bytesOf_get _ _ (by omega), zer, List.getElem?_replicate, if_pos hj]
          have := firstNZ_none p top (2 + 4 * n) q7 (2 + 4 * n + j) (by omega) (by omega)
          rw [this]
        · rw [List.getElem?_eq_none (by simp [zer]; omega), List.getElem?_eq_none (by rw [List.length_take]; omega)]
      rw [hz, i5, i6]
      have h2 : twoL (n : Int) = (bytesOf p).take 2 := by
        have b0 := bt_range p 0
        have b1 := bt_range p 1
        have e : (bytesOf p).take 2 = [bt p 0, bt p 1] := by
          apply List.ext_getElem?
          intro j
          match j with
          | 0 => rw [List.getElem?_take_of_lt (by omega), bytesOf_get _ _ (by omega)]; rfl
          | 1 => rw [List.getElem?_take_of_lt (by omega), bytesOf_get _ _ (by omega)]; rfl
          | j + 2 => rw [List.getElem?_eq_none (by rw [List.length_take]; omega)]; rfl
        rw [e]
        have : twoS p 0 = 256 * bt p 0 + bt p 1 := rfl
        unfold twoL
        simp only [List.cons.injEq, and_true]
        omega
      rw [h2]
      have e3 : (bytesOf p).drop top.toNat = ((bytesOf p).drop (2 + 4 * n)).drop (top.toNat - (2 + 4 * n)) := by rw [List.drop_drop]; congr 1; omega
      have e4 : (bytesOf p).drop (2 + 4 * n) = ((bytesOf p).drop 2).drop (4 * n) := by rw [List.drop_drop]
      rw [e3, List.take_append_drop, e4, List.take_append_drop, List.take_append_drop]
/-- A page that is valid is the page of its cells. -/
theorem valid_built (p : ByteArray) (hv : validS p) : strOfNums (builtL p.size (cellsS p (twoS p 0).toNat)) = p := by
  rw [(valid_reads p hv).2.2.2]
  exact strOfNums_bytesOf p

end Go.Proofs.Ytemglmcddaeedaa.PA

namespace Go.Proofs.Ytemglmcddaeedaa.PA
open Go.RowKit Go.Proofs.YtemglmcddaeedaaW.PrintWords Go.Proofs.YtemglmcddaeedaaW.PrintLast Go.Proofs.YtemglmcddaeedaaW.PrintMore
attribute [local go_sem] max2_int min2_int max_two min_two max_three min_three max_four min_four   -- for this text's walks alone
set_option linter.unusedVariables false
set_option linter.unusedSimpArgs false

/-! ### page_Free: function 25 -/
set_option maxRecDepth 100000 in
theorem quantities_calls (w : World) : Calls Try.prog 63 #[] w fun e w' => e = .returned (.agg #[.func (.func 107) #[] #[], .func (.func 108) #[] #[]]) ∧ Below w.heap.size w w' := by
  have hd := blk_new w (.cells #[.nilFunc, .nilFunc] 78)
  have hB := below_alloc (Below.refl _ w) (.cells #[.nilFunc, .nilFunc] 78)
  obtain ⟨W, hW⟩ : ∃ W, w.alloc (.cells #[.nilFunc, .nilFunc] 78) = W := ⟨_, rfl⟩
  obtain ⟨g, hg⟩ : ∃ g, w.heap.size = g := ⟨_, rfl⟩
  rw [hW] at hd hB
  rw [hg] at hd hB
  have HB := Aside0.mk (And.intro hd hB)
  have c5 := (blk_cell hd 0).trans rfl
  have c6 := (blk_cell hd 1).trans rfl
  have f5 := blk_frozen hd 0
  have f6 := blk_frozen hd 1
  have s1 : ∀ x p W, (store p (.func x #[] #[])).run Try.prog W = stored Try.prog W p (.func x #[] #[]) .plain := fun x p W => run_store Try.prog W p _ .plain rfl
  clear hd hB
  go_enter Try.func63, Try.ntmps63
  go_wp2_with fail
  have k1 := blk_set (blk_set HB.out.1 0 (.func (.func 107) #[] #[])) 1 (.func (.func 108) #[] #[])
  obtain ⟨W3, hW3⟩ : ∃ W3, ((W.setCell ⟨g, 0, none⟩ (.func (.func 107) #[] #[])).setCell ⟨g, 1, none⟩ (.func (.func 108) #[] #[])) = W3 := ⟨_, rfl⟩
  have d1 : W3.cell? ⟨g, 0, none⟩ = some (.func (.func 107) #[] #[]) := by rw [← hW3]; exact (blk_cell k1 0).trans rfl
  have d2 : W3.cell? ⟨g, 1, none⟩ = some (.func (.func 108) #[] #[]) := by rw [← hW3]; exact (blk_cell k1 1).trans rfl
  have d3 : Below g w W3 := by rw [← hW3]; exact (HB.out.2.setCell (Nat.le_refl g) _).setCell (Nat.le_refl g) _
  rw [hW3]
  refine ⟨rfl, .agg #[.func (.func 107) #[] #[], .func (.func 108) #[] #[]], ?_, rfl, hg ▸ d3⟩
  simp [results, Try.results63, go_sem, d1, d2]
def page_Free.f (a0 : ByteArray) : Option (Int × Int) := if a0.size ≤ 100000 then some (if validS a0 then ((a0.size : Int) - needsL (cellsS a0 (twoS a0 0).toNat), 0) else (0, 1)) else none
set_option maxRecDepth 100000 in
set_option maxHeartbeats 4000000 in
theorem quantities1_calls (n : Int) (A : Option Addr) (c : Nat) (l : List S45) (w : World) (hr : Kd.C k45 w A l.length l) (hc : l.length ≤ c) (hn : 0 ≤ n ∧ n ≤ 100000) (ho : CellsOk l) (hf : needsL l ≤ n) :
    Calls Try.prog 107 #[.int .i64 n, .slice A l.length c] w fun e w' => e = .returned (.int .i64 (n - needsL l)) ∧ Below w.heap.size w w' := by
  have h0 := lastL_nonneg ho
  have HF := Aside0.mk (needs_f ho (by unfold needsL at hf; omega))
  have HR := Aside0.mk hr
  clear hr
  have hnd : 0 ≤ needsL l := by unfold needsL; omega
  obtain ⟨nd, hN⟩ : ∃ nd, needsL l = nd := ⟨_, rfl⟩
  rw [hN] at HF hnd hf ⊢
  clear hN ho h0
  go_enter Try.func107, Try.ntmps107
  go_wp2_with (go_at_call 102; refine (page_needs.calls A c l nd _ HR.out hc HF.out).mono ?_; rintro e w1 ⟨rfl, hb1⟩)
  go_ret
  exact ⟨rfl, hb1⟩
set_option maxRecDepth 100000 in
set_option maxHeartbeats 4000000 in
theorem page_Free.calls (a0 : ByteArray) (r1 r2 : Int) (w : World) (h : page_Free.f a0 = some (r1, r2)) :
    Calls Try.prog 25 #[.string a0] w fun e w' => e = .returned (.tuple #[.int .i64 r1, .int .i64 r2]) ∧ Below w.heap.size w w' := by
  unfold page_Free.f at h
  split at h
  rotate_left
  · cases h
  rename_i hs
  have hv := valid_call a0 hs
  by_cases hval : validS a0
  · rw [if_pos hval] at h
    rw [decide_eq_true hval] at hv
    obtain ⟨rfl, rfl⟩ := Prod.mk.inj (Option.some.inj h)
    clear h
    obtain ⟨q1, q2, q3, q4, q5, _⟩ := validS_spec a0 hval
    obtain ⟨g1, g2, g3, g4⟩ := valid_reads a0 hval
    have hcf : page_cells.f a0 = some (cellsS a0 (twoS a0 0).toNat) := by unfold page_cells.f; rw [if_pos hval]
    generalize cellsS a0 (twoS a0 0).toNat = l at *
    have HC := Aside0.mk hcf
    have HV := Aside0.mk hv
    have HG := Aside0.mk (And.intro g1 g2)
    clear hv hval hcf g1 g2 g3 g4
    have hix : ∀ x y W, (Instr.index 78 (.agg #[x, y]) (.int .i64 0)).run Try.prog W = .ok x W := fun x y W => by kernel_rfl
    go_enter Try.func25, Try.ntmps25
    go_wp2_with (first
      | (go_at_call 21; refine (page_Valid.calls a0 true _ HV.out).mono ?_; rintro e w1 ⟨rfl, hb1⟩)
      | (go_at_call 63; refine (quantities_calls w1).mono ?_; rintro e w2 ⟨rfl, hb2⟩)
      | (go_at_call 49; refine (page_cells.calls a0 l w2 HC.out).mono ?_; rintro e w3 ⟨v, rfl, hr3, hb3⟩; obtain ⟨A, c, rfl, hcl, hC⟩ := Kd.R_reads hr3)
      | (go_at_call 107; refine (quantities1_calls a0.size A c l w3 hC hcl (by omega) HG.out.1 HG.out.2).mono ?_; rintro e w4 ⟨rfl, hb4⟩))
    go_ret2
    exact ⟨rfl, below_step (below_step (below_step hb1 hb2) hb3) hb4⟩
  · rw [if_neg hval] at h
    rw [decide_eq_false hval] at hv
    obtain ⟨rfl, rfl⟩ := Prod.mk.inj (Option.some.inj h)
    clear h
    have HV := Aside0.mk hv
    clear hv hval
    go_enter Try.func25, Try.ntmps25
    go_wp2_with (go_at_call 21; refine (page_Valid.calls a0 false _ HV.out).mono ?_; rintro e w1 ⟨rfl, hb1⟩)
    go_ret2
    exact ⟨rfl, hb1⟩

end Go.Proofs.Ytemglmcddaeedaa.PA

namespace Go.Proofs.Ytemglmcddaeedaa.PA
open Go.RowKit Go.Proofs.YtemglmcddaeedaaW.PrintWords Go.Proofs.YtemglmcddaeedaaW.PrintLast Go.Proofs.YtemglmcddaeedaaW.PrintMore
attribute [local go_sem] max2_int min2_int max_two min_two max_three min_three max_four min_four   -- for this text's walks alone
set_option linter.unusedVariables false
set_option linter.unusedSimpArgs false

/-! ### ringworkref06_Last: function 101 -/
def ringworkref06_Last.f (l0 : List (S45)) : Option (Int) := if (l0.length : Int) = 0 then (some 0) else (if 0 ≤ (wrap64 ((l0.length : Int) - 1)) then (if (wrap64 ((l0.length : Int) - 1)) < (l0.length : Int) then (some ((rd_T45 l0 (wrap64 ((l0.length : Int) - 1))).f0)) else (none)) else (none))
set_option maxHeartbeats 8000000 in
set_option maxRecDepth 100000 in
theorem ringworkref06_Last.calls (A0 : Option Addr) (c0 : Nat) (l0 : List (S45)) (r : Int) (w : World) (hr0 : Kd.C k45 w A0 l0.length l0) (hc0 : l0.length ≤ c0) (h : ringworkref06_Last.f l0 = some r) :
    Calls Try.prog 101 #[.slice A0 l0.length c0] w fun e w' => e = .returned (.int .i64 r) ∧ Drawn0 w w' := by
  have HR0 := Aside0.mk hr0
  have HC0 := Aside0.mk hc0
  clear hr0 hc0
  have H : (if (l0.length : Int) = 0 then (some 0) else (if 0 ≤ (wrap64 ((l0.length : Int) - 1)) then (if (wrap64 ((l0.length : Int) - 1)) < (l0.length : Int) then (some ((rd_T45 l0 (wrap64 ((l0.length : Int) - 1))).f0)) else (none)) else (none))) = some r := h
  clear h
  by_cases c2 : (l0.length : Int) = 0
  · rw [if_pos c2] at H
    have c2b0 : ((l0.length : Int) == 0) = true := beq_iff_eq.mpr c2
    have c2b1 : ((l0.length : Int) != 0) = false := bne_eq_false_iff_eq.mpr c2
    clear c2
    obtain rfl := Option.some.inj H
    go_enter Try.func101, Try.ntmps101
    go_wp2
    go_ret
    exact ⟨by first | rfl | (simp; done) | (simp [*]; done), by repeat (first | exact Drawn0.refl _ | apply Drawn0.step)⟩
  · rw [if_neg c2] at H
    have c2b0 : ((l0.length : Int) == 0) = false := beq_eq_false_iff_ne.mpr c2
    have c2b1 : ((l0.length : Int) != 0) = true := bne_iff_ne.mpr c2
    have c2b2 : ¬ (l0 = []) := fun h_ => c2 (by rw [h_]; rfl)
    obtain ⟨ji3, hji3⟩ : ∃ j_ : Int, (wrap64 ((l0.length : Int) - 1)) = j_ := ⟨_, rfl⟩
    replace H : (if 0 ≤ (ji3) then (if (ji3) < (l0.length : Int) then (some ((rd_T45 l0 (ji3)).f0)) else (none)) else (none)) = some r := by first | (rw [hji3] at H; exact H) | (simp only [hji3] at H ⊢; exact H)
    have hji3w : (IntKind.i64.wrap ((l0.length : Int) - 1)) = ji3 := (i64_w _).trans hji3
    by_cases c4 : 0 ≤ (ji3)
    · rw [if_pos c4] at H
      have c4b0 : decide (0 ≤ (ji3)) = true := decide_eq_true c4
      clear c4
      by_cases c5 : (ji3) < (l0.length : Int)
      · rw [if_pos c5] at H
        have c5b0 : decide ((ji3) < (l0.length : Int)) = true := decide_eq_true c5
        clear c5
        obtain rfl := Option.some.inj H
        have p105 : 0 ≤ ((ji3) : Int) := of_decide_eq_true (by first | (with_reducible assumption) | assumption)
        have q105 : (ji3) < (l0.length : Int) := of_decide_eq_true (by first | (with_reducible assumption) | assumption)
        obtain ⟨ad105, e105, hx105_0, hx105_1⟩ := at_T45 HR0.out (ji3) p105 q105
        cases e105
        replace p105 := eq_true p105
        replace q105 := eq_true q105
        go_enter Try.func101, Try.ntmps101
        go_wp2
        go_ret
        exact ⟨by first | rfl | (simp; done) | (simp only [← hji3] <;> (first | rfl | simp)) | (simp [*]; done), by repeat (first | exact Drawn0.refl _ | apply Drawn0.step)⟩
      · rw [if_neg c5] at H
        exact absurd H (by simp)
    · rw [if_neg c4] at H
      exact absurd H (by simp)

end Go.Proofs.Ytemglmcddaeedaa.PA

namespace Go.Proofs.Ytemglmcddaeedaa.PA
open Go.RowKit Go.Proofs.YtemglmcddaeedaaW.PrintWords Go.Proofs.YtemglmcddaeedaaW.PrintLast Go.Proofs.YtemglmcddaeedaaW.PrintMore
attribute [local go_sem] max2_int min2_int max_two min_two max_three min_three max_four min_four   -- for this text's walks alone
set_option linter.unusedVariables false
set_option linter.unusedSimpArgs false

/-! ### ringworkref06_Bytes: function 104 -/
def ringworkref06_Bytes.l0 : Nat → List (S45) → Int → Int → Option (Int)
  | 0, _, _, _ => none
  | k + 1, x0, x3, x4 => if x4 < (x0.length : Int) then (if 0 ≤ x4 then (ringworkref06_Bytes.l0 k x0 (wrap64 (x3 + (((rd_T45 x0 x4).f1).size : Int))) (wrap64 (x4 + 1))) else (none)) else (some x3)
def ringworkref06_Bytes.f (k : Nat) (l0 : List (S45)) : Option (Int) := ringworkref06_Bytes.l0 k l0 0 0
theorem ringworkref06_Bytes.mono_l : ∀ k, (∀ y0 y1 y2, LeO (ringworkref06_Bytes.l0 k y0 y1 y2) (ringworkref06_Bytes.l0 (k + 1) y0 y1 y2))
  | 0 => fun _ _ _ r h => by simp [ringworkref06_Bytes.l0] at h
  | k + 1 => by
    have ih0 := ringworkref06_Bytes.mono_l k
    · intro y0 y1 y2
      unfold ringworkref06_Bytes.l0
      repeat' first
      | (with_reducible exact ih0 _ _ _)
      | (with_reducible exact LeO.refl _)
      | (with_reducible exact LeO.none _)
      | (with_reducible refine LeO.ite ?_ ?_)
      | (with_reducible refine LeO.bind ?_ (fun _ => ?_))
      | exact ih0 _ _ _
      | exact LeO.none _
      | refine LeO.ite ?_ ?_
      | refine LeO.bind ?_ (fun _ => ?_)
theorem ringworkref06_Bytes.mono : ∀ a0 k, LeO (ringworkref06_Bytes.f k a0) (ringworkref06_Bytes.f (k + 1) a0) := by
  intro a0 k
  have ih0 := ringworkref06_Bytes.mono_l k
  unfold ringworkref06_Bytes.f
  repeat' first
      | (with_reducible exact ih0 _ _ _)
      | (with_reducible exact LeO.refl _)
      | (with_reducible exact LeO.none _)
      | (with_reducible refine LeO.ite ?_ ?_)
      | (with_reducible refine LeO.bind ?_ (fun _ => ?_))
      | exact ih0 _ _ _
      | exact LeO.none _
      | refine LeO.ite ?_ ?_
      | refine LeO.bind ?_ (fun _ => ?_)
set_option maxHeartbeats 8000000 in
set_option maxRecDepth 100000 in
theorem ringworkref06_Bytes.calls (k : Nat) (A0 : Option Addr) (c0 : Nat) (l0 : List (S45)) (r : Int) (w : World) (hr0 : Kd.C k45 w A0 l0.length l0) (hc0 : l0.length ≤ c0) (h : ringworkref06_Bytes.f k l0 = some r) :
    Calls Try.prog 104 #[.slice A0 l0.length c0] w fun e w' => e = .returned (.int .i64 r) ∧ Drawn0 w w' := by
  have HR0 := Aside0.mk hr0
  have HC0 := Aside0.mk hc0
  clear hr0 hc0
  have H : (ringworkref06_Bytes.l0 k l0 0 0) = some r := h
  clear h
  have H' := Aside0.mk H
  clear H
  go_enter Try.func104, Try.ntmps104
  go_wp2
  go_loopg [3, 4] k (fun kq v3 v4 w' => ∃ (x3_1 : Int) (x4_1 : Int), v3 = .int .i64 x3_1 ∧ v4 = .int .i64 x4_1 ∧ Aside0 (ringworkref06_Bytes.l0 kq l0 x3_1 x4_1 = some r) ∧ Aside0 (kq ≤ k) ∧ Drawn0 w w')
  case atStart => exact ⟨(0), (0), (by first | rfl | (simp; done) | (simp [*]; done)), (by first | rfl | (simp; done) | (simp [*]; done)), H', ⟨Nat.le_refl _⟩, by repeat (first | exact Drawn0.refl _ | apply Drawn0.step)⟩
  case round =>
    clear H'
    try clear c1
    obtain ⟨x3_1, x4_1, rfl, rfl, HA, HK1, ⟨m1, rfl⟩⟩ := hrel
    cases gk with
    | zero => exact absurd HA.out (by simp [ringworkref06_Bytes.l0])
    | succ k1 =>
      have H := HA.out
      clear HA
      simp only [ringworkref06_Bytes.l0] at H
      by_cases c2 : x4_1 < (l0.length : Int)
      · rw [if_pos c2] at H
        have c2b0 : decide (x4_1 < (l0.length : Int)) = true := decide_eq_true c2
        clear c2
        by_cases c3 : 0 ≤ x4_1
        · rw [if_pos c3] at H
          have c3b0 : decide (0 ≤ x4_1) = true := decide_eq_true c3
          clear c3
          have H' := Aside0.mk H
          clear H
          have p106 : 0 ≤ (x4_1 : Int) := of_decide_eq_true (by first | (with_reducible assumption) | assumption)
          have q106 : x4_1 < (l0.length : Int) := of_decide_eq_true (by first | (with_reducible assumption) | assumption)
          obtain ⟨ad106, e106, hx106_0, hx106_1⟩ := at_T45 HR0.out x4_1 p106 q106
          cases e106
          replace p106 := eq_true p106
          replace q106 := eq_true q106
          go_wp2
          go_roundg k1
          case measure => have := HK1.out; omega
          case rel => exact ⟨(wrap64 (x3_1 + (((rd_T45 l0 x4_1).f1).size : Int))), (wrap64 (x4_1 + 1)), (by first | rfl | (simp; done) | (simp [*]; done)), (by first | rfl | (simp; done) | (simp [*]; done)), H', ⟨by have := HK1.out; omega⟩, by repeat (first | exact Drawn0.refl _ | apply Drawn0.step)⟩
        · rw [if_neg c3] at H
          exact absurd H (by simp)
      · rw [if_neg c2] at H
        have c2b0 : decide (x4_1 < (l0.length : Int)) = false := decide_eq_false c2
        clear c2
        obtain rfl := Option.some.inj H
        go_wp2
        go_ret
        exact ⟨by first | rfl | (simp; done) | (simp [*]; done), by repeat (first | exact Drawn0.refl _ | apply Drawn0.step)⟩

end Go.Proofs.Ytemglmcddaeedaa.PA

namespace Go.Proofs.Ytemglmcddaeedaa.PA
open Go.RowKit Go.Proofs.YtemglmcddaeedaaW.PrintWords Go.Proofs.YtemglmcddaeedaaW.PrintLast Go.Proofs.YtemglmcddaeedaaW.PrintMore
attribute [local go_sem] max2_int min2_int max_two min_two max_three min_three max_four min_four   -- for this text's walks alone
set_option linter.unusedVariables false
set_option linter.unusedSimpArgs false

/-! ### ringworkref06_Room: function 55 -/
def ringworkref06_Room.f (k : Nat) (a0 : Int) (l1 : List (S45)) : Option (Int) := (ringworkref06_Last.f l1).bind fun t107 => ((ringworkref06_Bytes.f k l1).bind fun t108 => (some (wrap64 ((wrap64 ((wrap64 (a0 - 2)) - (wrap64 (4 * t107)))) - t108))))
theorem ringworkref06_Room.mono : ∀ a0 a1 k, LeO (ringworkref06_Room.f k a0 a1) (ringworkref06_Room.f (k + 1) a0 a1) := by
  intro a0 a1 k
  unfold ringworkref06_Room.f
  repeat' first
      | (with_reducible exact ringworkref06_Bytes.mono _ _)
      | (with_reducible exact LeO.refl _)
      | (with_reducible exact LeO.none _)
      | (with_reducible refine LeO.ite ?_ ?_)
      | (with_reducible refine LeO.bind ?_ (fun _ => ?_))
      | exact ringworkref06_Bytes.mono _ _
      | exact LeO.none _
      | refine LeO.ite ?_ ?_
      | refine LeO.bind ?_ (fun _ => ?_)
set_option maxHeartbeats 8000000 in
set_option maxRecDepth 100000 in
theorem ringworkref06_Room.calls (k : Nat) (a0 : Int) (A1 : Option Addr) (c1 : Nat) (l1 : List (S45)) (r : Int) (w : World) (hr1 : Kd.C k45 w A1 l1.length l1) (hc1 : l1.length ≤ c1) (h : ringworkref06_Room.f k a0 l1 = some r) :
    Calls Try.prog 55 #[.int .i64 a0, .slice A1 l1.length c1] w fun e w' => e = .returned (.int .i64 r) ∧ Drawn0 w w' := by
  have HR1 := Aside0.mk hr1
  have HC1 := Aside0.mk hc1
  clear hr1 hc1
  have H : ((ringworkref06_Last.f l1).bind fun t107 => ((ringworkref06_Bytes.f k l1).bind fun t108 => (some (wrap64 ((wrap64 ((wrap64 (a0 - 2)) - (wrap64 (4 * t107)))) - t108))))) = some r := h
  clear h
  replace H := Option.bind_eq_some_iff.mp H
  obtain ⟨t107, A30, H⟩ := H
  replace H : ((ringworkref06_Bytes.f k l1).bind fun t108 => (some (wrap64 ((wrap64 ((wrap64 (a0 - 2)) - (wrap64 (4 * t107)))) - t108)))) = some r := H
  have A3 := Aside0.mk A30
  clear A30
  replace H := Option.bind_eq_some_iff.mp H
  obtain ⟨t108, A40, H⟩ := H
  replace H : (some (wrap64 ((wrap64 ((wrap64 (a0 - 2)) - (wrap64 (4 * t107)))) - t108))) = some r := H
  have A4 := Aside0.mk A40
  clear A40
  obtain rfl := Option.some.inj H
  go_enter Try.func55, Try.ntmps55
  go_wp2_with (first | ((with_reducible refine gate_callee (f := 101) rfl ?_); refine goesL_ (some 8) rfl rfl Try.func101 (by kernel_rfl) rfl #[.slice A1 l1.length c1] rfl (by (try simp only [List.map_toArray, List.map_cons, List.map_nil]); first | done | rfl | (simp only [List.length_drop, List.length_take]; rfl)) ?_; (with_reducible refine (ringworkref06_Last.calls _ _ l1 t107 _ ?side1 ?side2 A3.out).mono ?_); (case side1 => repeat (first | exact HR1.out | (with_reducible refine Kd.C_alloc ?_ _) | (with_reducible refine Kd.C_drewN ?_ _) | (with_reducible refine Kd.C_drew ?_))); (case side2 => exact HC1.out); rintro e w' ⟨rfl, ⟨nd, rfl⟩⟩; refine ⟨_, rfl, ?_⟩) | ((with_reducible refine gate_callee (f := 104) rfl ?_); refine goesL_ (some 12) rfl rfl Try.func104 (by kernel_rfl) rfl #[.slice A1 l1.length c1] rfl (by (try simp only [List.map_toArray, List.map_cons, List.map_nil]); first | done | rfl | (simp only [List.length_drop, List.length_take]; rfl)) ?_; (with_reducible refine (ringworkref06_Bytes.calls k _ _ l1 t108 _ ?side1 ?side2 A4.out).mono ?_); (case side1 => repeat (first | exact HR1.out | (with_reducible refine Kd.C_alloc ?_ _) | (with_reducible refine Kd.C_drewN ?_ _) | (with_reducible refine Kd.C_drew ?_))); (case side2 => exact HC1.out); rintro e w' ⟨rfl, ⟨nd, rfl⟩⟩; refine ⟨_, rfl, ?_⟩))
  go_ret
  exact ⟨by first | rfl | (simp; done) | (simp [*]; done), by repeat (first | exact Drawn0.refl _ | apply Drawn0.step)⟩

end Go.Proofs.Ytemglmcddaeedaa.PA

namespace Go.Proofs.Ytemglmcddaeedaa.PA
open Go.RowKit Go.Proofs.YtemglmcddaeedaaW.PrintWords Go.Proofs.YtemglmcddaeedaaW.PrintLast Go.Proofs.YtemglmcddaeedaaW.PrintMore
attribute [local go_sem] max2_int min2_int max_two min_two max_three min_three max_four min_four   -- for this text's walks alone
set_option linter.unusedVariables false
set_option linter.unusedSimpArgs false

/-! ### ringworkref06_Free: function 26 -/
def ringworkref06_Free.f (k : Nat) (a0 : ByteArray) : Option (Int × Int) := (ringworkref06_Cells.f k a0).bind fun bt194 => (if bt194.2 = 0 then ((ringworkref06_Room.f k (a0.size : Int) bt194.1).bind fun t198 => (some (t198, 0))) else (some (0, bt194.2)))
theorem ringworkref06_Free.mono : ∀ a0 k, LeO (ringworkref06_Free.f k a0) (ringworkref06_Free.f (k + 1) a0) := by
  intro a0 k
  unfold ringworkref06_Free.f
  repeat' first
      | (with_reducible exact ringworkref06_Cells.mono _ _)
      | (with_reducible exact ringworkref06_Room.mono _ _ _)
      | (with_reducible exact LeO.refl _)
      | (with_reducible exact LeO.none _)
      | (with_reducible refine LeO.ite ?_ ?_)
      | (with_reducible refine LeO.bind ?_ (fun _ => ?_))
      | exact ringworkref06_Cells.mono _ _
      | exact ringworkref06_Room.mono _ _ _
      | exact LeO.none _
      | refine LeO.ite ?_ ?_
      | refine LeO.bind ?_ (fun _ => ?_)
set_option maxHeartbeats 8000000 in
set_option maxRecDepth 100000 in
theorem ringworkref06_Free.calls (k : Nat) (a0 : ByteArray) (r1 : Int) (r2 : Int) (w : World) (h : ringworkref06_Free.f k a0 = some (r1, r2)) :
    Calls Try.prog 26 #[.string a0] w fun e w' => e = .returned (.tuple #[.int .i64 r1, .int .i64 r2]) ∧ Below w.heap.size w w' := by
  have HB := Aside0.mk (Below.refl w.heap.size w)
  have H : ((ringworkref06_Cells.f k a0).bind fun bt194 => (if bt194.2 = 0 then ((ringworkref06_Room.f k (a0.size : Int) bt194.1).bind fun t198 => (some (t198, 0))) else (some (0, bt194.2)))) = some (r1, r2) := h
  clear h
  replace H := Option.bind_eq_some_iff.mp H
  obtain ⟨⟨t194, t195⟩, A20, H⟩ := H
  replace H : (if t195 = 0 then ((ringworkref06_Room.f k (a0.size : Int) t194).bind fun t198 => (some (t198, 0))) else (some (0, t195))) = some (r1, r2) := H
  have A2 := Aside0.mk A20
  clear A20
  by_cases c3 : t195 = 0
  · rw [if_pos c3] at H
    have c3b0 : (t195 == 0) = true := beq_iff_eq.mpr c3
    have c3b1 : (t195 != 0) = false := bne_eq_false_iff_eq.mpr c3
    clear c3
    replace H := Option.bind_eq_some_iff.mp H
    obtain ⟨t198, A40, H⟩ := H
    replace H : (some (t198, 0)) = some (r1, r2) := H
    have A4 := Aside0.mk A40
    clear A40
    simp only [Option.some.injEq, Prod.mk.injEq] at H
    obtain ⟨rfl, rfl⟩ := H
    go_enter Try.func26, Try.ntmps26
    go_wp2_with (first | ((with_reducible refine gate_callee (f := 23) rfl ?_); refine goesL_ (some 8) rfl rfl Try.func23 (by kernel_rfl) rfl #[.string a0] rfl (by (try simp only [List.map_toArray, List.map_cons, List.map_nil]); first | done | rfl | (simp only [List.length_drop, List.length_take]; rfl)) ?_; (with_reducible refine (ringworkref06_Cells.calls k a0 t194 t195 _ A2.out).mono ?_); rintro e w5 ⟨v196, rfl, ho0, hb⟩; refine ⟨_, rfl, ?_⟩; have n0_ := Aside0.mk (Kd.R_lower ho0 (below_size (by repeat (first | (with_reducible first | exact HB.out | apply below_alloc | apply pw_below_drewN | apply below_drew1) | exact HB.out)))); have n1_ := Aside0.mk (below_step (by repeat (first | (with_reducible first | exact HB.out | apply below_alloc | apply pw_below_drewN | apply below_drew1) | exact HB.out)) hb); clear HB; have HO197 := n0_; have HB := n1_; clear n0_ n1_; (try clear hb); (try clear hb2); (try clear hk); (try clear hi); (try clear ho0); obtain ⟨Ao6, co6, eo6⟩ := Kd.R_slice HO197.out; subst eo6) | ((with_reducible refine gate_callee (f := 55) rfl ?_); refine goesL_ (some 17) rfl rfl Try.func55 (by kernel_rfl) rfl #[.int .i64 (a0.size : Int), .slice Ao6 t194.length co6] rfl (by (try simp only [List.map_toArray, List.map_cons, List.map_nil]); first | done | rfl | (simp only [List.length_drop, List.length_take]; rfl)) ?_; (with_reducible refine (ringworkref06_Room.calls k (a0.size : Int) _ _ t194 t198 _ ?side1 ?side2 A4.out).mono ?_); (case side1 => repeat (first | exact (Kd.R_reads' HO197.out).2.2 | (with_reducible refine Kd.C_alloc ?_ _) | (with_reducible refine Kd.C_drewN ?_ _) | (with_reducible refine Kd.C_drew ?_))); (case side2 => exact (Kd.R_reads' HO197.out).2.1); rintro e w' ⟨rfl, ⟨nd, rfl⟩⟩; refine ⟨_, rfl, ?_⟩))
    go_ret2
    exact ⟨by first | rfl | (simp [errW_none, errW_some] <;> rfl) | (simp [*, errW_none, errW_some] <;> rfl), by repeat (first | (with_reducible first | exact HB.out | apply below_alloc | apply pw_below_drewN | apply below_drew1) | exact HB.out)⟩
  · rw [if_neg c3] at H
    have c3b0 : (t195 == 0) = false := beq_eq_false_iff_ne.mpr c3
    have c3b1 : (t195 != 0) = true := bne_iff_ne.mpr c3
    simp only [Option.some.injEq, Prod.mk.injEq] at H
    obtain ⟨rfl, rfl⟩ := H
    go_enter Try.func26, Try.ntmps26
    go_wp2_with (first | ((with_reducible refine gate_callee (f := 23) rfl ?_); refine goesL_ (some 8) rfl rfl Try.func23 (by kernel_rfl) rfl #[.string a0] rfl (by (try simp only [List.map_toArray, List.map_cons, List.map_nil]); first | done | rfl | (simp only [List.length_drop, List.length_take]; rfl)) ?_; (with_reducible refine (ringworkref06_Cells.calls k a0 t194 t195 _ A2.out).mono ?_); rintro e w7 ⟨v196, rfl, ho0, hb⟩; refine ⟨_, rfl, ?_⟩; have n0_ := Aside0.mk (Kd.R_lower ho0 (below_size (by repeat (first | (with_reducible first | exact HB.out | apply below_alloc | apply pw_below_drewN | apply below_drew1) | exact HB.out)))); have n1_ := Aside0.mk (below_step (by repeat (first | (with_reducible first | exact HB.out | apply below_alloc | apply pw_below_drewN | apply below_drew1) | exact HB.out)) hb); clear HB; have HO197 := n0_; have HB := n1_; clear n0_ n1_; (try clear hb); (try clear hb2); (try clear hk); (try clear hi); (try clear ho0)))
    go_ret2
    exact ⟨by first | rfl | (simp [errW_none, errW_some] <;> rfl) | (simp [*, errW_none, errW_some] <;> rfl), by repeat (first | (with_reducible first | exact HB.out | apply below_alloc | apply pw_below_drewN | apply below_drew1) | exact HB.out)⟩

end Go.Proofs.Ytemglmcddaeedaa.PA

namespace Go.Proofs.Ytemglmcddaeedaa.PA
open Go.RowKit Go.Proofs.YtemglmcddaeedaaW.PrintWords Go.Proofs.YtemglmcddaeedaaW.PrintLast Go.Proofs.YtemglmcddaeedaaW.PrintMore
attribute [local go_sem] max2_int min2_int max_two min_two max_three min_three max_four min_four   -- for this text's walks alone
set_option linter.unusedVariables false
set_option linter.unusedSimpArgs false

/-! ### page_Next: function 27 -/
/-- The least free line of cells in order. -/
def leastL (l : List S45) : Int := l.foldl (fun n c => if c.f0 = n then n + 1 else n) 1
theorem leastL_snoc (l : List S45) (c : S45) : leastL (l ++ [c]) = if c.f0 = leastL l then leastL l + 1 else leastL l := by
  unfold leastL; rw [List.foldl_append]; rfl
theorem leastL_range (l : List S45) (i : Nat) (hi : i ≤ l.length) : 1 ≤ leastL (l.take i) ∧ leastL (l.take i) ≤ i + 1 := by
  induction i with
  | zero => simp [leastL]
  | succ i ih =>
    have := ih (by omega)
    rw [take_snoc l i (by omega), leastL_snoc]
    split <;> omega
def page_Next.f (a0 : ByteArray) : Option (Int × Int) := if a0.size ≤ 100000 then some (if validS a0 then (if leastL (cellsS a0 (twoS a0 0).toNat) > 200 then (0, 13) else (leastL (cellsS a0 (twoS a0 0).toNat), 0)) else (0, 1)) else none
set_option maxRecDepth 100000 in
set_option maxHeartbeats 4000000 in
theorem quantities2_calls (n : Int) (A : Option Addr) (c : Nat) (l : List S45) (w : World) (hr : Kd.C k45 w A l.length l) (hc : l.length ≤ c) (hl : l.length ≤ 100000) :
    Calls Try.prog 108 #[.int .i64 n, .slice A l.length c] w fun e w' => e = .returned (.int .i64 (leastL l)) ∧ Below w.heap.size w w' := by
  have HR := Aside0.mk hr
  clear hr
  have hl' : (l.length : Int) ≤ 100000 := by omega
  go_enter Try.func108, Try.ntmps108
  go_wp2_with fail
  go_loopw [5, 10] (fun v5 v10 wr => ∃ i : Nat, i ≤ l.length ∧ v5 = .int .i64 (leastL (l.take i)) ∧ v10 = .int .i64 (i : Int) ∧ Aside0 (Below w.heap.size w wr)) (fun _ v10 _ => l.length - (intOf v10).toNat)
  case atStart => exact ⟨0, by omega, by simp [leastL], by simp, Aside0.mk (Below.refl _ w)⟩
  case round =>
    obtain ⟨i, hi, rfl, rfl, HB⟩ := hrel
    by_cases hlt : i < l.length
    · obtain ⟨ad, e1, hy0, hy1⟩ := at_T45 HR.out (i : Int) (by omega) (by omega)
      cases e1
      rw [rd_get l i hlt] at hy0 hy1
      replace hy0 := (HB.out.cell (World.block_lt_of_cell? w _ hy0)).trans hy0
      replace hy1 := (HB.out.cell (World.block_lt_of_cell? w _ hy1)).trans hy1
      simp only [Int.toNat_natCast] at hy0 hy1
      have hrg := leastL_range l i (by omega)
      have hsn := leastL_snoc (l.take i) l[i]
      rw [← take_snoc l i hlt] at hsn
      have HS := Aside0.mk hsn
      clear hsn
      obtain ⟨X, hX⟩ : ∃ X, l[i] = X := ⟨_, rfl⟩
      rw [hX] at hy0 hy1 HS
      obtain ⟨M, hM⟩ : ∃ M, leastL (l.take i) = M := ⟨_, rfl⟩
      rw [hM] at HS hrg
      simp only [hM]
      clear hX hM
      have hlt' : (i : Int) < l.length := by omega
      by_cases hq : X.f0 = M
      · go_wp2_with fail
        go_roundw
        case rel => exact ⟨i + 1, by omega, by rw [HS.out, if_pos hq], by go_num, Aside0.mk (below_alloc HB.out _)⟩
        case measure => simp [intOf]; omega
      · go_wp2_with fail
        go_roundw
        case rel => exact ⟨i + 1, by omega, by rw [HS.out, if_neg hq], by go_num, Aside0.mk (below_alloc HB.out _)⟩
        case measure => simp [intOf]; omega
    · have hil : i = l.length := by omega
      subst hil
      rw [List.take_length]
      go_wp2_with fail
      go_ret
      exact ⟨rfl, HB.out⟩
set_option maxRecDepth 100000 in
set_option maxHeartbeats 4000000 in
theorem page_Next.calls (a0 : ByteArray) (r1 r2 : Int) (w : World) (h : page_Next.f a0 = some (r1, r2)) :
    Calls Try.prog 27 #[.string a0] w fun e w' => e = .returned (.tuple #[.int .i64 r1, .int .i64 r2]) ∧ Below w.heap.size w w' := by
  unfold page_Next.f at h
  split at h
  rotate_left
  · cases h
  rename_i hs
  have hv := valid_call a0 hs
  by_cases hval : validS a0
  · rw [if_pos hval] at h
    rw [decide_eq_true hval] at hv
    have h := Option.some.inj h
    obtain ⟨q1, q2, q3, q4, q5, _⟩ := validS_spec a0 hval
    have hcf : page_cells.f a0 = some (cellsS a0 (twoS a0 0).toNat) := by unfold page_cells.f; rw [if_pos hval]
    have hcl := cellsS_length a0 (twoS a0 0).toNat
    generalize cellsS a0 (twoS a0 0).toNat = l at *
    have hrg := leastL_range l l.length (Nat.le_refl _)
    rw [List.take_length] at hrg
    have HC := Aside0.mk hcf
    have HV := Aside0.mk hv
    have hl1 : l.length ≤ 100000 := by omega
    have hQ := fun A c w hC hc => quantities2_calls a0.size A c l w hC hc hl1
    obtain ⟨M, hM⟩ : ∃ M, leastL l = M := ⟨_, rfl⟩
    simp only [hM] at hQ h hrg
    have HQ := Aside0.mk hQ
    have HX := Aside0.mk h
    have hM1 : M ≤ 100000 := by omega
    clear hv hval hcf hQ h hM hcl
    have hix : ∀ x y W, (Instr.index 78 (.agg #[x, y]) (.int .i64 1)).run Try.prog W = .ok y W := fun x y W => by kernel_rfl
    by_cases hM2 : M > 200
    all_goals
      go_enter Try.func27, Try.ntmps27
      go_wp2_with (first
        | (go_at_call 21; refine (page_Valid.calls a0 true _ HV.out).mono ?_; rintro e w1 ⟨rfl, hb1⟩)
        | (go_at_call 63; refine (quantities_calls w1).mono ?_; rintro e w2 ⟨rfl, hb2⟩)
        | (go_at_call 49; refine (page_cells.calls a0 l w2 HC.out).mono ?_; rintro e w3 ⟨v, rfl, hr3, hb3⟩; obtain ⟨A, c, rfl, hcl, hC⟩ := Kd.R_reads hr3)
        | (go_at_call 108; refine (HQ.out A c w3 hC hcl).mono ?_; rintro e w4 ⟨rfl, hb4⟩))
      go_ret2
      have hx := HX.out
      first | rw [if_pos hM2] at hx | rw [if_neg (by omega)] at hx
      cases hx
      exact ⟨rfl, below_step (below_step (below_step hb1 hb2) hb3) hb4⟩
  · rw [if_neg hval] at h
    rw [decide_eq_false hval] at hv
    obtain ⟨rfl, rfl⟩ := Prod.mk.inj (Option.some.inj h)
    clear h
    have HV := Aside0.mk hv
    clear hv hval
    go_enter Try.func27, Try.ntmps27
    go_wp2_with (go_at_call 21; refine (page_Valid.calls a0 false _ HV.out).mono ?_; rintro e w1 ⟨rfl, hb1⟩)
    go_ret2
    exact ⟨rfl, hb1⟩

end Go.Proofs.Ytemglmcddaeedaa.PA

namespace Go.Proofs.Ytemglmcddaeedaa.PA
open Go.RowKit Go.Proofs.YtemglmcddaeedaaW.PrintWords Go.Proofs.YtemglmcddaeedaaW.PrintLast Go.Proofs.YtemglmcddaeedaaW.PrintMore
attribute [local go_sem] max2_int min2_int max_two min_two max_three min_three max_four min_four   -- for this text's walks alone
set_option linter.unusedVariables false
set_option linter.unusedSimpArgs false

/-! ### ringworkref06_At: function 69 -/
def ringworkref06_At.l0 : Nat → List (S45) → Int → Int → Option (ByteArray)
  | 0, _, _, _ => none
  | k + 1, x0, x1, x5 => if x5 < (x0.length : Int) then (if 0 ≤ x5 then (if ((rd_T45 x0 x5).f0) = x1 then (some ((rd_T45 x0 x5).f1)) else (ringworkref06_At.l0 k x0 x1 (wrap64 (x5 + 1)))) else (none)) else (some (⟨#[]⟩ : ByteArray))
def ringworkref06_At.f (k : Nat) (l0 : List (S45)) (a1 : Int) : Option (ByteArray) := ringworkref06_At.l0 k l0 a1 0
theorem ringworkref06_At.mono_l : ∀ k, (∀ y0 y1 y2, LeO (ringworkref06_At.l0 k y0 y1 y2) (ringworkref06_At.l0 (k + 1) y0 y1 y2))
  | 0 => fun _ _ _ r h => by simp [ringworkref06_At.l0] at h
  | k + 1 => by
    have ih0 := ringworkref06_At.mono_l k
    · intro y0 y1 y2
      unfold ringworkref06_At.l0
      repeat' first
      | (with_reducible exact ih0 _ _ _)
      | (with_reducible exact LeO.refl _)
      | (with_reducible exact LeO.none _)
      | (with_reducible refine LeO.ite ?_ ?_)
      | (with_reducible refine LeO.bind ?_ (fun _ => ?_))
      | exact ih0 _ _ _
      | exact LeO.none _
      | refine LeO.ite ?_ ?_
      | refine LeO.bind ?_ (fun _ => ?_)
theorem ringworkref06_At.mono : ∀ a0 a1 k, LeO (ringworkref06_At.f k a0 a1) (ringworkref06_At.f (k + 1) a0 a1) := by
  intro a0 a1 k
  have ih0 := ringworkref06_At.mono_l k
  unfold ringworkref06_At.f
  repeat' first
      | (with_reducible exact ih0 _ _ _)
      | (with_reducible exact LeO.refl _)
      | (with_reducible exact LeO.none _)
      | (with_reducible refine LeO.ite ?_ ?_)
      | (with_reducible refine LeO.bind ?_ (fun _ => ?_))
      | exact ih0 _ _ _
      | exact LeO.none _
      | refine LeO.ite ?_ ?_
      | refine LeO.bind ?_ (fun _ => ?_)
set_option maxHeartbeats 8000000 in
set_option maxRecDepth 100000 in
theorem ringworkref06_At.calls (k : Nat) (A0 : Option Addr) (c0 : Nat) (l0 : List (S45)) (a1 : Int) (r : ByteArray) (w : World) (hr0 : Kd.C k45 w A0 l0.length l0) (hc0 : l0.length ≤ c0) (h : ringworkref06_At.f k l0 a1 = some r) :
    Calls Try.prog 69 #[.slice A0 l0.length c0, .int .i64 a1] w fun e w' => e = .returned (.string r) ∧ Drawn0 w w' := by
  have HR0 := Aside0.mk hr0
  have HC0 := Aside0.mk hc0
  clear hr0 hc0
  have H : (ringworkref06_At.l0 k l0 a1 0) = some r := h
  clear h
  have H' := Aside0.mk H
  clear H
  go_enter Try.func69, Try.ntmps69
  go_wp2
  go_loopg [5] k (fun kq v5 w' => ∃ (x5_1 : Int), v5 = .int .i64 x5_1 ∧ Aside0 (ringworkref06_At.l0 kq l0 a1 x5_1 = some r) ∧ Aside0 (kq ≤ k) ∧ Drawn0 w w')
  case atStart => exact ⟨(0), (by first | rfl | (simp; done) | (simp [*]; done)), H', ⟨Nat.le_refl _⟩, by repeat (first | exact Drawn0.refl _ | apply Drawn0.step)⟩
  case round =>
    clear H'
    try clear p2
    obtain ⟨x5_1, rfl, HA, HK1, ⟨m1, rfl⟩⟩ := hrel
    cases gk with
    | zero => exact absurd HA.out (by simp [ringworkref06_At.l0])
    | succ k1 =>
      have H := HA.out
      clear HA
      simp only [ringworkref06_At.l0] at H
      by_cases c3 : x5_1 < (l0.length : Int)
      · rw [if_pos c3] at H
        have c3b0 : decide (x5_1 < (l0.length : Int)) = true := decide_eq_true c3
        clear c3
        by_cases c4 : 0 ≤ x5_1
        · rw [if_pos c4] at H
          have c4b0 : decide (0 ≤ x5_1) = true := decide_eq_true c4
          clear c4
          by_cases c5 : ((rd_T45 l0 x5_1).f0) = a1
          · rw [if_pos c5] at H
            have c5b0 : (((rd_T45 l0 x5_1).f0) == a1) = true := beq_iff_eq.mpr c5
            have c5b1 : (((rd_T45 l0 x5_1).f0) != a1) = false := bne_eq_false_iff_eq.mpr c5
            clear c5
            obtain rfl := Option.some.inj H
            have p199 : 0 ≤ (x5_1 : Int) := of_decide_eq_true (by first | (with_reducible assumption) | assumption)
            have q199 : x5_1 < (l0.length : Int) := of_decide_eq_true (by first | (with_reducible assumption) | assumption)
            obtain ⟨ad199, e199, hx199_0, hx199_1⟩ := at_T45 HR0.out x5_1 p199 q199
            cases e199
            replace p199 := eq_true p199
            replace q199 := eq_true q199
            have p200 : 0 ≤ (x5_1 : Int) := of_decide_eq_true (by first | (with_reducible assumption) | assumption)
            have q200 : x5_1 < (l0.length : Int) := of_decide_eq_true (by first | (with_reducible assumption) | assumption)
            obtain ⟨ad200, e200, hx200_0, hx200_1⟩ := at_T45 HR0.out x5_1 p200 q200
            obtain rfl : ad199 = ad200 := (by injection e200)
            replace p200 := eq_true p200
            replace q200 := eq_true q200
            go_wp2
            go_ret
            exact ⟨by first | rfl | (simp; done) | (simp [*]; done), by repeat (first | exact Drawn0.refl _ | apply Drawn0.step)⟩
          · rw [if_neg c5] at H
            have c5b0 : (((rd_T45 l0 x5_1).f0) == a1) = false := beq_eq_false_iff_ne.mpr c5
            have c5b1 : (((rd_T45 l0 x5_1).f0) != a1) = true := bne_iff_ne.mpr c5
            have H' := Aside0.mk H
            clear H
            have p199 : 0 ≤ (x5_1 : Int) := of_decide_eq_true (by first | (with_reducible assumption) | assumption)
            have q199 : x5_1 < (l0.length : Int) := of_decide_eq_true (by first | (with_reducible assumption) | assumption)
            obtain ⟨ad199, e199, hx199_0, hx199_1⟩ := at_T45 HR0.out x5_1 p199 q199
            cases e199
            replace p199 := eq_true p199
            replace q199 := eq_true q199
            go_wp2
            go_roundg k1
            case measure => have := HK1.out; omega
            case rel => exact ⟨(wrap64 (x5_1 + 1)), (by first | rfl | (simp; done) | (simp [*]; done)), H', ⟨by have := HK1.out; omega⟩, by repeat (first | exact Drawn0.refl _ | apply Drawn0.step)⟩
        · rw [if_neg c4] at H
          exact absurd H (by simp)
      · rw [if_neg c3] at H
        have c3b0 : decide (x5_1 < (l0.length : Int)) = false := decide_eq_false c3
        clear c3
        obtain rfl := Option.some.inj H
        go_wp2
        go_ret
        exact ⟨by first | rfl | (simp; done) | (simp [*]; done), by repeat (first | exact Drawn0.refl _ | apply Drawn0.step)⟩

end Go.Proofs.Ytemglmcddaeedaa.PA

namespace Go.Proofs.Ytemglmcddaeedaa.PA
open Go.RowKit Go.Proofs.YtemglmcddaeedaaW.PrintWords Go.Proofs.YtemglmcddaeedaaW.PrintLast Go.Proofs.YtemglmcddaeedaaW.PrintMore
attribute [local go_sem] max2_int min2_int max_two min_two max_three min_three max_four min_four   -- for this text's walks alone
set_option linter.unusedVariables false
set_option linter.unusedSimpArgs false

/-! ### ringworkref06_Least: function 64 -/
def ringworkref06_Least.l0 : Nat → List (S45) → Int → Option (Int)
  | 0, _, _ => none
  | k + 1, x0, x3 => if x3 ≤ 200 then ((ringworkref06_At.f k x0 x3).bind fun t201 => (if t201.toList = ([] : List UInt8) then (some x3) else (ringworkref06_Least.l0 k x0 (wrap64 (x3 + 1))))) else (some x3)
def ringworkref06_Least.f (k : Nat) (l0 : List (S45)) : Option (Int) := ringworkref06_Least.l0 k l0 1
theorem ringworkref06_Least.mono_l : ∀ k, (∀ y0 y1, LeO (ringworkref06_Least.l0 k y0 y1) (ringworkref06_Least.l0 (k + 1) y0 y1))
  | 0 => fun _ _ r h => by simp [ringworkref06_Least.l0] at h
  | k + 1 => by
    have ih0 := ringworkref06_Least.mono_l k
    · intro y0 y1
      unfold ringworkref06_Least.l0
      repeat' first
      | (with_reducible exact ih0 _ _)
      | (with_reducible exact ringworkref06_At.mono _ _ _)
      | (with_reducible exact LeO.refl _)
      | (with_reducible exact LeO.none _)
      | (with_reducible refine LeO.ite ?_ ?_)
      | (with_reducible refine LeO.bind ?_ (fun _ => ?_))
      | exact ih0 _ _
      | exact ringworkref06_At.mono _ _ _
      | exact LeO.none _
      | refine LeO.ite ?_ ?_
      | refine LeO.bind ?_ (fun _ => ?_)
theorem ringworkref06_Least.mono : ∀ a0 k, LeO (ringworkref06_Least.f k a0) (ringworkref06_Least.f (k + 1) a0) := by
  intro a0 k
  have ih0 := ringworkref06_Least.mono_l k
  unfold ringworkref06_Least.f
  repeat' first
      | (with_reducible exact ih0 _ _)
      | (with_reducible exact ringworkref06_At.mono _ _ _)
      | (with_reducible exact LeO.refl _)
      | (with_reducible exact LeO.none _)
      | (with_reducible refine LeO.ite ?_ ?_)
      | (with_reducible refine LeO.bind ?_ (fun _ => ?_))
      | exact ih0 _ _
      | exact ringworkref06_At.mono _ _ _
      | exact LeO.none _
      | refine LeO.ite ?_ ?_
      | refine LeO.bind ?_ (fun _ => ?_)
set_option maxHeartbeats 8000000 in
set_option maxRecDepth 100000 in
theorem ringworkref06_Least.calls (k : Nat) (A0 : Option Addr) (c0 : Nat) (l0 : List (S45)) (r : Int) (w : World) (hr0 : Kd.C k45 w A0 l0.length l0) (hc0 : l0.length ≤ c0) (h : ringworkref06_Least.f k l0 = some r) :
    Calls Try.prog 64 #[.slice A0 l0.length c0] w fun e w' => e = .returned (.int .i64 r) ∧ Drawn0 w w' := by
  have HR0 := Aside0.mk hr0
  have HC0 := Aside0.mk hc0
  clear hr0 hc0
  have H : (ringworkref06_Least.l0 k l0 1) = some r := h
  clear h
  have H' := Aside0.mk H
  clear H
  go_enter Try.func64, Try.ntmps64
  go_wp2
  go_loopg [3] k (fun kq v3 w' => ∃ (x3_1 : Int), v3 = .int .i64 x3_1 ∧ Aside0 (ringworkref06_Least.l0 kq l0 x3_1 = some r) ∧ Aside0 (kq ≤ k) ∧ Drawn0 w w')
  case atStart => exact ⟨(1), (by first | rfl | (simp; done) | (simp [*]; done)), H', ⟨Nat.le_refl _⟩, by repeat (first | exact Drawn0.refl _ | apply Drawn0.step)⟩
  case round =>
    clear H'
    obtain ⟨x3_1, rfl, HA, HK1, ⟨m1, rfl⟩⟩ := hrel
    cases gk with
    | zero => exact absurd HA.out (by simp [ringworkref06_Least.l0])
    | succ k1 =>
      have H := HA.out
      clear HA
      simp only [ringworkref06_Least.l0] at H
      by_cases c2 : x3_1 ≤ 200
      · rw [if_pos c2] at H
        have c2b0 : decide (x3_1 ≤ 200) = true := decide_eq_true c2
        clear c2
        replace H := Option.bind_eq_some_iff.mp H
        obtain ⟨t201, A30, H⟩ := H
        replace H : (if t201.toList = ([] : List UInt8) then (some x3_1) else (ringworkref06_Least.l0 k1 l0 (wrap64 (x3_1 + 1)))) = some r := H
        have A3 := Aside0.mk A30
        clear A30
        by_cases c4 : t201.toList = ([] : List UInt8)
        · rw [if_pos c4] at H
          have c4b0 : (t201.toList == ([] : List UInt8)) = true := beq_iff_eq.mpr c4
          have c4b1 : (t201.toList != ([] : List UInt8)) = false := bne_eq_false_iff_eq.mpr c4
          clear c4
          obtain rfl := Option.some.inj H
          go_wp2_with (first | (go_at_call 69; (with_reducible refine (ringworkref06_At.calls k1 _ _ l0 x3_1 t201 _ ?side1 ?side2 A3.out).mono ?_); (case side1 => repeat (first | exact HR0.out | (with_reducible refine Kd.C_alloc ?_ _) | (with_reducible refine Kd.C_drewN ?_ _) | (with_reducible refine Kd.C_drew ?_))); (case side2 => exact HC0.out); rintro e w' ⟨rfl, ⟨nd, rfl⟩⟩))
          go_ret
          exact ⟨by first | rfl | (simp; done) | (simp [*]; done), by repeat (first | exact Drawn0.refl _ | apply Drawn0.step)⟩
        · rw [if_neg c4] at H
          have c4b0 : (t201.toList == ([] : List UInt8)) = false := beq_eq_false_iff_ne.mpr c4
          have c4b1 : (t201.toList != ([] : List UInt8)) = true := bne_iff_ne.mpr c4
          have H' := Aside0.mk H
          clear H
          go_wp2_with (first | (go_at_call 69; (with_reducible refine (ringworkref06_At.calls k1 _ _ l0 x3_1 t201 _ ?side1 ?side2 A3.out).mono ?_); (case side1 => repeat (first | exact HR0.out | (with_reducible refine Kd.C_alloc ?_ _) | (with_reducible refine Kd.C_drewN ?_ _) | (with_reducible refine Kd.C_drew ?_))); (case side2 => exact HC0.out); rintro e w' ⟨rfl, ⟨nd, rfl⟩⟩))
          go_roundg k1
          case measure => have := HK1.out; omega
          case rel => exact ⟨(wrap64 (x3_1 + 1)), (by first | rfl | (simp; done) | (simp [*]; done)), H', ⟨by have := HK1.out; omega⟩, by repeat (first | exact Drawn0.refl _ | apply Drawn0.step)⟩
      · rw [if_neg c2] at H
        have c2b0 : decide (x3_1 ≤ 200) = false := decide_eq_false c2
        clear c2
        obtain rfl := Option.some.inj H
        go_wp2
        go_ret
        exact ⟨by first | rfl | (simp; done) | (simp [*]; done), by repeat (first | exact Drawn0.refl _ | apply Drawn0.step)⟩

end Go.Proofs.Ytemglmcddaeedaa.PA

namespace Go.Proofs.Ytemglmcddaeedaa.PA
open Go.RowKit Go.Proofs.YtemglmcddaeedaaW.PrintWords Go.Proofs.YtemglmcddaeedaaW.PrintLast Go.Proofs.YtemglmcddaeedaaW.PrintMore
attribute [local go_sem] max2_int min2_int max_two min_two max_three min_three max_four min_four   -- for this text's walks alone
set_option linter.unusedVariables false
set_option linter.unusedSimpArgs false

/-! ### ringworkref06_Next: function 28 -/
def ringworkref06_Next.f (k : Nat) (a0 : ByteArray) : Option (Int × Int) := (ringworkref06_Cells.f k a0).bind fun bt202 => (if bt202.2 = 0 then ((ringworkref06_Least.f k bt202.1).bind fun t206 => (if t206 > 200 then (some (0, 13)) else ((ringworkref06_Least.f k bt202.1).bind fun t207 => (some (t207, 0))))) else (some (0, bt202.2)))
theorem ringworkref06_Next.mono : ∀ a0 k, LeO (ringworkref06_Next.f k a0) (ringworkref06_Next.f (k + 1) a0) := by
  intro a0 k
  unfold ringworkref06_Next.f
  repeat' first
      | (with_reducible exact ringworkref06_Cells.mono _ _)
      | (with_reducible exact ringworkref06_Least.mono _ _)
      | (with_reducible exact LeO.refl _)
      | (with_reducible exact LeO.none _)
      | (with_reducible refine LeO.ite ?_ ?_)
      | (with_reducible refine LeO.bind ?_ (fun _ => ?_))
      | exact ringworkref06_Cells.mono _ _
      | exact ringworkref06_Least.mono _ _
      | exact LeO.none _
      | refine LeO.ite ?_ ?_
      | refine LeO.bind ?_ (fun _ => ?_)
set_option maxHeartbeats 8000000 in
set_option maxRecDepth 100000 in
theorem ringworkref06_Next.calls (k : Nat) (a0 : ByteArray) (r1 : Int) (r2 : Int) (w : World) (h : ringworkref06_Next.f k a0 = some (r1, r2)) :
    Calls Try.prog 28 #[.string a0] w fun e w' => e = .returned (.tuple #[.int .i64 r1, .int .i64 r2]) ∧ Below w.heap.size w w' := by
  have HB := Aside0.mk (Below.refl w.heap.size w)
  have H : ((ringworkref06_Cells.f k a0).bind fun bt202 => (if bt202.2 = 0 then ((ringworkref06_Least.f k bt202.1).bind fun t206 => (if t206 > 200 then (some (0, 13)) else ((ringworkref06_Least.f k bt202.1).bind fun t207 => (some (t207, 0))))) else (some (0, bt202.2)))) = some (r1, r2) := h
  clear h
  replace H := Option.bind_eq_some_iff.mp H
  obtain ⟨⟨t202, t203⟩, A20, H⟩ := H
  replace H : (if t203 = 0 then ((ringworkref06_Least.f k t202).bind fun t206 => (if t206 > 200 then (some (0, 13)) else ((ringworkref06_Least.f k t202).bind fun t207 => (some (t207, 0))))) else (some (0, t203))) = some (r1, r2) := H
  have A2 := Aside0.mk A20
  clear A20
  by_cases c3 : t203 = 0
  · rw [if_pos c3] at H
    have c3b0 : (t203 == 0) = true := beq_iff_eq.mpr c3
    have c3b1 : (t203 != 0) = false := bne_eq_false_iff_eq.mpr c3
    clear c3
    replace H := Option.bind_eq_some_iff.mp H
    obtain ⟨t206, A40, H⟩ := H
    replace H : (if t206 > 200 then (some (0, 13)) else ((ringworkref06_Least.f k t202).bind fun t207 => (some (t207, 0)))) = some (r1, r2) := H
    have A4 := Aside0.mk A40
    clear A40
    by_cases c5 : t206 > 200
    · rw [if_pos c5] at H
      have c5b0 : decide (200 < t206) = true := decide_eq_true c5
      clear c5
      simp only [Option.some.injEq, Prod.mk.injEq] at H
      obtain ⟨rfl, rfl⟩ := H
      go_enter Try.func28, Try.ntmps28
      go_wp2_with (first | ((with_reducible refine gate_callee (f := 23) rfl ?_); refine goesL_ (some 8) rfl rfl Try.func23 (by kernel_rfl) rfl #[.string a0] rfl (by (try simp only [List.map_toArray, List.map_cons, List.map_nil]); first | done | rfl | (simp only [List.length_drop, List.length_take]; rfl)) ?_; (with_reducible refine (ringworkref06_Cells.calls k a0 t202 t203 _ A2.out).mono ?_); rintro e w6 ⟨v204, rfl, ho0, hb⟩; refine ⟨_, rfl, ?_⟩; have n0_ := Aside0.mk (Kd.R_lower ho0 (below_size (by repeat (first | (with_reducible first | exact HB.out | apply below_alloc | apply pw_below_drewN | apply below_drew1) | exact HB.out)))); have n1_ := Aside0.mk (below_step (by repeat (first | (with_reducible first | exact HB.out | apply below_alloc | apply pw_below_drewN | apply below_drew1) | exact HB.out)) hb); clear HB; have HO205 := n0_; have HB := n1_; clear n0_ n1_; (try clear hb); (try clear hb2); (try clear hk); (try clear hi); (try clear ho0); obtain ⟨Ao7, co7, eo7⟩ := Kd.R_slice HO205.out; subst eo7) | ((with_reducible refine gate_callee (f := 64) rfl ?_); refine goesL_ (some 15) rfl rfl Try.func64 (by kernel_rfl) rfl #[.slice Ao7 t202.length co7] rfl (by (try simp only [List.map_toArray, List.map_cons, List.map_nil]); first | done | rfl | (simp only [List.length_drop, List.length_take]; rfl)) ?_; (with_reducible refine (ringworkref06_Least.calls k _ _ t202 t206 _ ?side1 ?side2 A4.out).mono ?_); (case side1 => repeat (first | exact (Kd.R_reads' HO205.out).2.2 | (with_reducible refine Kd.C_alloc ?_ _) | (with_reducible refine Kd.C_drewN ?_ _) | (with_reducible refine Kd.C_drew ?_))); (case side2 => exact (Kd.R_reads' HO205.out).2.1); rintro e w' ⟨rfl, ⟨nd, rfl⟩⟩; refine ⟨_, rfl, ?_⟩))
      go_ret2
      exact ⟨by first | rfl | (simp [errW_none, errW_some] <;> rfl) | (simp [*, errW_none, errW_some] <;> rfl), by repeat (first | (with_reducible first | exact HB.out | apply below_alloc | apply pw_below_drewN | apply below_drew1) | exact HB.out)⟩
    · rw [if_neg c5] at H
      have c5b0 : decide (200 < t206) = false := decide_eq_false c5
      clear c5
      replace H := Option.bind_eq_some_iff.mp H
      obtain ⟨t207, A80, H⟩ := H
      replace H : (some (t207, 0)) = some (r1, r2) := H
      have A8 := Aside0.mk A80
      clear A80
      simp only [Option.some.injEq, Prod.mk.injEq] at H
      obtain ⟨rfl, rfl⟩ := H
      go_enter Try.func28, Try.ntmps28
      go_wp2_with (first | ((with_reducible refine gate_callee (f := 23) rfl ?_); refine goesL_ (some 8) rfl rfl Try.func23 (by kernel_rfl) rfl #[.string a0] rfl (by (try simp only [List.map_toArray, List.map_cons, List.map_nil]); first | done | rfl | (simp only [List.length_drop, List.length_take]; rfl)) ?_; (with_reducible refine (ringworkref06_Cells.calls k a0 t202 t203 _ A2.out).mono ?_); rintro e w9 ⟨v204, rfl, ho0, hb⟩; refine ⟨_, rfl, ?_⟩; have n0_ := Aside0.mk (Kd.R_lower ho0 (below_size (by repeat (first | (with_reducible first | exact HB.out | apply below_alloc | apply pw_below_drewN | apply below_drew1) | exact HB.out)))); have n1_ := Aside0.mk (below_step (by repeat (first | (with_reducible first | exact HB.out | apply below_alloc | apply pw_below_drewN | apply below_drew1) | exact HB.out)) hb); clear HB; have HO205 := n0_; have HB := n1_; clear n0_ n1_; (try clear hb); (try clear hb2); (try clear hk); (try clear hi); (try clear ho0); obtain ⟨Ao10, co10, eo10⟩ := Kd.R_slice HO205.out; subst eo10) | ((with_reducible refine gate_callee (f := 64) rfl ?_); refine goesL_ (some 15) rfl rfl Try.func64 (by kernel_rfl) rfl #[.slice Ao10 t202.length co10] rfl (by (try simp only [List.map_toArray, List.map_cons, List.map_nil]); first | done | rfl | (simp only [List.length_drop, List.length_take]; rfl)) ?_; (with_reducible refine (ringworkref06_Least.calls k _ _ t202 t206 _ ?side1 ?side2 A4.out).mono ?_); (case side1 => repeat (first | exact (Kd.R_reads' HO205.out).2.2 | (with_reducible refine Kd.C_alloc ?_ _) | (with_reducible refine Kd.C_drewN ?_ _) | (with_reducible refine Kd.C_drew ?_))); (case side2 => exact (Kd.R_reads' HO205.out).2.1); rintro e w' ⟨rfl, ⟨nd, rfl⟩⟩; refine ⟨_, rfl, ?_⟩) | ((with_reducible refine gate_callee (f := 64) rfl ?_); refine goesL_ (some 18) rfl rfl Try.func64 (by kernel_rfl) rfl #[.slice Ao10 t202.length co10] rfl (by (try simp only [List.map_toArray, List.map_cons, List.map_nil]); first | done | rfl | (simp only [List.length_drop, List.length_take]; rfl)) ?_; (with_reducible refine (ringworkref06_Least.calls k _ _ t202 t207 _ ?side1 ?side2 A8.out).mono ?_); (case side1 => repeat (first | exact (Kd.R_reads' HO205.out).2.2 | (with_reducible refine Kd.C_alloc ?_ _) | (with_reducible refine Kd.C_drewN ?_ _) | (with_reducible refine Kd.C_drew ?_))); (case side2 => exact (Kd.R_reads' HO205.out).2.1); rintro e w' ⟨rfl, ⟨nd, rfl⟩⟩; refine ⟨_, rfl, ?_⟩))
      go_ret2
      exact ⟨by first | rfl | (simp [errW_none, errW_some] <;> rfl) | (simp [*, errW_none, errW_some] <;> rfl), by repeat (first | (with_reducible first | exact HB.out | apply below_alloc | apply pw_below_drewN | apply below_drew1) | exact HB.out)⟩
  · rw [if_neg c3] at H
    have c3b0 : (t203 == 0) = false := beq_eq_false_iff_ne.mpr c3
    have c3b1 : (t203 != 0) = true := bne_iff_ne.mpr c3
    simp only [Option.some.injEq, Prod.mk.injEq] at H
    obtain ⟨rfl, rfl⟩ := H
    go_enter Try.func28, Try.ntmps28
    go_wp2_with (first | ((with_reducible refine gate_callee (f := 23) rfl ?_); refine goesL_ (some 8) rfl rfl Try.func23 (by kernel_rfl) rfl #[.string a0] rfl (by (try simp only [List.map_toArray, List.map_cons, List.map_nil]); first | done | rfl | (simp only [List.length_drop, List.length_take]; rfl)) ?_; (with_reducible refine (ringworkref06_Cells.calls k a0 t202 t203 _ A2.out).mono ?_); rintro e w11 ⟨v204, rfl, ho0, hb⟩; refine ⟨_, rfl, ?_⟩; have n0_ := Aside0.mk (Kd.R_lower ho0 (below_size (by repeat (first | (with_reducible first | exact HB.out | apply below_alloc | apply pw_below_drewN | apply below_drew1) | exact HB.out)))); have n1_ := Aside0.mk (below_step (by repeat (first | (with_reducible first | exact HB.out | apply below_alloc | apply pw_below_drewN | apply below_drew1) | exact HB.out)) hb); clear HB; have HO205 := n0_; have HB := n1_; clear n0_ n1_; (try clear hb); (try clear hb2); (try clear hk); (try clear hi); (try clear ho0)))
    go_ret2
    exact ⟨by first | rfl | (simp [errW_none, errW_some] <;> rfl) | (simp [*, errW_none, errW_some] <;> rfl), by repeat (first | (with_reducible first | exact HB.out | apply below_alloc | apply pw_below_drewN | apply below_drew1) | exact HB.out)⟩

end Go.Proofs.Ytemglmcddaeedaa.PA

namespace Go.Proofs.Ytemglmcddaeedaa.PA
open Go.RowKit Go.Proofs.YtemglmcddaeedaaW.PrintWords Go.Proofs.YtemglmcddaeedaaW.PrintLast Go.Proofs.YtemglmcddaeedaaW.PrintMore
attribute [local go_sem] max2_int min2_int max_two min_two max_three min_three max_four min_four   -- for this text's walks alone
set_option linter.unusedVariables false
set_option linter.unusedSimpArgs false

/-! ### ringworklaw06_PageReads: function 5 -/
mutual
def ringworklaw06_PageReads.j0 : Nat → ByteArray → Bool → Option (Bool)
  | 0, _, _ => none
  | k + 1, x0, x43 => if x43 = true then (some false) else ((page_Cells.f x0).bind fun bt215 => ((ringworkref06_Cells.f k x0).bind fun bt219 => (if bt215.2 = bt219.2 then ((ringworklaw06_same.f k bt215.1 bt219.1).bind fun t223 => (ringworklaw06_PageReads.j1 k x0 bt215.2 bt219.2 bt215.1 bt219.1 (!t223))) else (ringworklaw06_PageReads.j1 k x0 bt215.2 bt219.2 bt215.1 bt219.1 true))))
def ringworklaw06_PageReads.j1 : Nat → ByteArray → Int → Int → List (S45) → List (S45) → Bool → Option (Bool)
  | 0, _, _, _, _, _, _ => none
  | k + 1, x0, x4, x6, x7, x8, x62 => if x62 = true then (some false) else (if x4 = 0 then ((page_Fill.f k (x0.size : Int) x7).bind fun bt224 => (if bt224.2 = 0 then (if bt224.1.toList = x0.toList then (ringworklaw06_PageReads.j2 k x0 x6 x8) else (some false)) else (some false))) else (ringworklaw06_PageReads.j2 k x0 x6 x8))
def ringworklaw06_PageReads.j2 : Nat → ByteArray → Int → List (S45) → Option (Bool)
  | 0, _, _, _ => none
  | k + 1, x0, x6, x8 => (page_Lines.f x0).bind fun bt226 => (if bt226.2 = x6 then (ringworklaw06_PageReads.j3 k x0 x8 bt226.1 ((bt226.1.length : Int) != (x8.length : Int))) else (ringworklaw06_PageReads.j3 k x0 x8 bt226.1 true))
def ringworklaw06_PageReads.j3 : Nat → ByteArray → List (S45) → List Int → Bool → Option (Bool)
  | 0, _, _, _, _ => none
  | k + 1, x0, x8, x11, x93 => if x93 = true then (some false) else (ringworklaw06_PageReads.l0 k x0 x8 x11 0)
def ringworklaw06_PageReads.l0 : Nat → ByteArray → List (S45) → List Int → Int → Option (Bool)
  | 0, _, _, _, _ => none
  | k + 1, x0, x8, x11, x12 => if x12 < (x11.length : Int) then (if 0 ≤ x12 then (if x12 < (x8.length : Int) then (if (rd x11 x12) = ((rd_T45 x8 x12).f0) then (ringworklaw06_PageReads.l0 k x0 x8 x11 (wrap64 (x12 + 1))) else (some false)) else (none)) else (none)) else ((page_Free.f x0).bind fun bt232 => ((ringworkref06_Free.f k x0).bind fun bt234 => (if bt232.1 = bt234.1 then (ringworklaw06_PageReads.j5 k x0 (bt232.2 != bt234.2)) else (ringworklaw06_PageReads.j5 k x0 true))))
def ringworklaw06_PageReads.j5 : Nat → ByteArray → Bool → Option (Bool)
  | 0, _, _ => none
  | k + 1, x0, x127 => if x127 = true then (some false) else ((page_Next.f x0).bind fun bt236 => ((ringworkref06_Next.f k x0).bind fun bt238 => (if bt236.1 = bt238.1 then (if bt236.2 = bt238.2 then ((ringworklaw06_awake.f k).bind fun t240 => (some t240)) else (some false)) else (some false))))
end
def ringworklaw06_PageReads.f (k : Nat) (a0 : ByteArray) : Option (Bool) := if (a0.size : Int) > 4200 then ((ringworklaw06_awake.f k).bind fun t208 => (some t208)) else ((page_Wrong.f a0).bind fun bt209 => ((ringworkref06_Wrong.f k a0).bind fun bt211 => (if bt209.1 = bt211.1 then (if bt209.2 = bt211.2 then ((page_Valid.f a0).bind fun t213 => ((ringworkref06_Valid.f k a0).bind fun t214 => (ringworklaw06_PageReads.j0 k a0 (t213 != t214)))) else (ringworklaw06_PageReads.j0 k a0 true)) else (ringworklaw06_PageReads.j0 k a0 true))))
theorem ringworklaw06_PageReads.mono_l : ∀ k, (∀ y0 y1, LeO (ringworklaw06_PageReads.j0 k y0 y1) (ringworklaw06_PageReads.j0 (k + 1) y0 y1)) ∧ (∀ y0 y1 y2 y3 y4 y5, LeO (ringworklaw06_PageReads.j1 k y0 y1 y2 y3 y4 y5) (ringworklaw06_PageReads.j1 (k + 1) y0 y1 y2 y3 y4 y5)) ∧ (∀ y0 y1 y2, LeO (ringworklaw06_PageReads.j2 k y0 y1 y2) (ringworklaw06_PageReads.j2 (k + 1) y0 y1 y2)) ∧ (∀ y0 y1 y2 y3, LeO (ringworklaw06_PageReads.j3 k y0 y1 y2 y3) (ringworklaw06_PageReads.j3 (k + 1) y0 y1 y2 y3)) ∧ (∀ y0 y1 y2 y3, LeO (ringworklaw06_PageReads.l0 k y0 y1 y2 y3) (ringworklaw06_PageReads.l0 (k + 1) y0 y1 y2 y3)) ∧ (∀ y0 y1, LeO (ringworklaw06_PageReads.j5 k y0 y1) (ringworklaw06_PageReads.j5 (k + 1) y0 y1))
  | 0 => ⟨fun _ _ r h => by simp [ringworklaw06_PageReads.j0] at h, fun _ _ _ _ _ _ r h => by simp [ringworklaw06_PageReads.j1] at h, fun _ _ _ r h => by simp [ringworklaw06_PageReads.j2] at h, fun _ _ _ _ r h => by simp [ringworklaw06_PageReads.j3] at h, fun _ _ _ _ r h => by simp [ringworklaw06_PageReads.l0] at h, fun _ _ r h => by simp [ringworklaw06_PageReads.j5] at h⟩
  | k + 1 => by
    obtain ⟨ih0, ih1, ih2, ih3, ih4, ih5⟩ := ringworklaw06_PageReads.mono_l k
    refine ⟨?_, ?_, ?_, ?_, ?_, ?_⟩
    · intro y0 y1
      unfold ringworklaw06_PageReads.j0
      repeat' first
      | (with_reducible exact ih0 _ _)
      | (with_reducible exact ih1 _ _ _ _ _ _)
      | (with_reducible exact ih2 _ _ _)
      | (with_reducible exact ih3 _ _ _ _)
      | (with_reducible exact ih4 _ _ _ _)
      | (with_reducible exact ih5 _ _)
      | (with_reducible exact page_Fill.mono _ _ _)
      | (with_reducible exact ringworklaw06_awake.mono _)
      | (with_reducible exact ringworklaw06_same.mono _ _ _)
      | (with_reducible exact ringworkref06_Cells.mono _ _)
      | (with_reducible exact ringworkref06_Free.mono _ _)
      | (with_reducible exact ringworkref06_Next.mono _ _)
      | (with_reducible exact ringworkref06_Valid.mono _ _)
      | (with_reducible exact ringworkref06_Wrong.mono _ _)
      | (with_reducible exact LeO.refl _)
      | (with_reducible exact LeO.none _)
      | (with_reducible refine LeO.ite ?_ ?_)
      | (with_reducible refine LeO.bind ?_ (fun _ => ?_))
      | exact ih0 _ _
      | exact ih1 _ _ _ _ _ _
      | exact ih2 _ _ _
      | exact ih3 _ _ _ _
      | exact ih4 _ _ _ _
      | exact ih5 _ _
      | exact page_Fill.mono _ _ _
      | exact ringworklaw06_awake.mono _
      | exact ringworklaw06_same.mono _ _ _
      | exact ringworkref06_Cells.mono _ _
      | exact ringworkref06_Free.mono _ _
      | exact ringworkref06_Next.mono _ _
      | exact ringworkref06_Valid.mono _ _
      | exact ringworkref06_Wrong.mono _ _
      | exact LeO.none _
      | refine LeO.ite ?_ ?_
      | refine LeO.bind ?_ (fun _ => ?_)
    · intro y0 y1 y2 y3 y4 y5
      unfold ringworklaw06_PageReads.j1
      repeat' first
      | (with_reducible exact ih0 _ _)
      | (with_reducible exact ih1 _ _ _ _ _ _)
      | (with_reducible exact ih2 _ _ _)
      | (with_reducible exact ih3 _ _ _ _)
      | (with_reducible exact ih4 _ _ _ _)
      | (with_reducible exact ih5 _ _)
      | (with_reducible exact page_Fill.mono _ _ _)
      | (with_reducible exact ringworklaw06_awake.mono _)
      | (with_reducible exact ringworklaw06_same.mono _ _ _)
      | (with_reducible exact ringworkref06_Cells.mono _ _)
      | (with_reducible exact ringworkref06_Free.mono _ _)
      | (with_reducible exact ringworkref06_Next.mono _ _)
      | (with_reducible exact ringworkref06_Valid.mono _ _)
      | (with_reducible exact ringworkref06_Wrong.mono _ _)
      | (with_reducible exact LeO.refl _)
      | (with_reducible exact LeO.none _)
      | (with_reducible refine LeO.ite ?_ ?_)
      | (with_reducible refine LeO.bind ?_ (fun _ => ?_))
      | exact ih0 _ _
      | exact ih1 _ _ _ _ _ _
      | exact ih2 _ _ _
      | exact ih3 _ _ _ _
      | exact ih4 _ _ _ _
      | exact ih5 _ _
      | exact page_Fill.mono _ _ _
      | exact ringworklaw06_awake.mono _
      | exact ringworklaw06_same.mono _ _ _
      | exact ringworkref06_Cells.mono _ _
      | exact ringworkref06_Free.mono _ _
      | exact ringworkref06_Next.mono _ _
      | exact ringworkref06_Valid.mono _ _
      | exact ringworkref06_Wrong.mono _ _
      | exact LeO.none _
      | refine LeO.ite ?_ ?_
      | refine LeO.bind ?_ (fun _ => ?_)
    · intro y0 y1 y2
      unfold ringworklaw06_PageReads.j2
      repeat' first
      | (with_reducible exact ih0 _ _)
      | (with_reducible exact ih1 _ _ _ _ _ _)
      | (with_reducible exact ih2 _ _ _)
      | (with_reducible exact ih3 _ _ _ _)
      | (with_reducible exact ih4 _ _ _ _)
      | (with_reducible exact ih5 _ _)
      | (with_reducible exact page_Fill.mono _ _ _)
      | (with_reducible exact ringworklaw06_awake.mono _)
      | (with_reducible exact ringworklaw06_same.mono _ _ _)
      | (with_reducible exact ringworkref06_Cells.mono _ _)
      | (with_reducible exact ringworkref06_Free.mono _ _)
      | (with_reducible exact ringworkref06_Next.mono _ _)
      | (with_reducible exact ringworkref06_Valid.mono _ _)
      | (with_reducible exact ringworkref06_Wrong.mono _ _)
      | (with_reducible exact LeO.refl _)
      | (with_reducible exact LeO.none _)
      | (with_reducible refine LeO.ite ?_ ?_)
      | (with_reducible refine LeO.bind ?_ (fun _ => ?_))
      | exact ih0 _ _
      | exact ih1 _ _ _ _ _ _
      | exact ih2 _ _ _
      | exact ih3 _ _ _ _
      | exact ih4 _ _ _ _
      | exact ih5 _ _
      | exact page_Fill.mono _ _ _
      | exact ringworklaw06_awake.mono _
      | exact ringworklaw06_same.mono _ _ _
      | exact ringworkref06_Cells.mono _ _
      | exact ringworkref06_Free.mono _ _
      | exact ringworkref06_Next.mono _ _
      | exact ringworkref06_Valid.mono _ _
      | exact ringworkref06_Wrong.mono _ _
      | exact LeO.none _
      | refine LeO.ite ?_ ?_
      | refine LeO.bind ?_ (fun _ => ?_)
    · intro y0 y1 y2 y3
      unfold ringworklaw06_PageReads.j3
      repeat' first
      | (with_reducible exact ih0 _ _)
      | (with_reducible exact ih1 _ _ _ _ _ _)
      | (with_reducible exact ih2 _ _ _)
      | (with_reducible exact ih3 _ _ _ _)
      | (with_reducible exact ih4 _ _ _ _)
      | (with_reducible exact ih5 _ _)
      | (with_reducible exact page_Fill.mono _ _ _)
      | (with_reducible exact ringworklaw06_awake.mono _)
      | (with_reducible exact ringworklaw06_same.mono _ _ _)
      | (with_reducible exact ringworkref06_Cells.mono _ _)
      | (with_reducible exact ringworkref06_Free.mono _ _)
      | (with_reducible exact ringworkref06_Next.mono _ _)
      | (with_reducible exact ringworkref06_Valid.mono _ _)
      | (with_reducible exact ringworkref06_Wrong.mono _ _)
      | (with_reducible exact LeO.refl _)
      | (with_reducible exact LeO.none _)
      | (with_reducible refine LeO.ite ?_ ?_)
      | (with_reducible refine LeO.bind ?_ (fun _ => ?_))
      | exact ih0 _ _
      | exact ih1 _ _ _ _ _ _
      | exact ih2 _ _ _
      | exact ih3 _ _ _ _
      | exact ih4 _ _ _ _
      | exact ih5 _ _
      | exact page_Fill.mono _ _ _
      | exact ringworklaw06_awake.mono _
      | exact ringworklaw06_same.mono _ _ _
      | exact ringworkref06_Cells.mono _ _
      | exact ringworkref06_Free.mono _ _
      | exact ringworkref06_Next.mono _ _
      | exact ringworkref06_Valid.mono _ _
      | exact ringworkref06_Wrong.mono _ _
      | exact LeO.none _
      | refine LeO.ite ?_ ?_
      | refine LeO.bind ?_ (fun _ => ?_)
    · intro y0 y1 y2 y3
      unfold ringworklaw06_PageReads.l0
      repeat' first
      | (with_reducible exact ih0 _ _)
      | (with_reducible exact ih1 _ _ _ _ _ _)
      | (with_reducible exact ih2 _ _ _)
      | (with_reducible exact ih3 _ _ _ _)
      | (with_reducible exact ih4 _ _ _ _)
      | (with_reducible exact ih5 _ _)
      | (with_reducible exact page_Fill.mono _ _ _)
      | (with_reducible exact ringworklaw06_awake.mono _)
      | (with_reducible exact ringworklaw06_same.mono _ _ _)
      | (with_reducible exact ringworkref06_Cells.mono _ _)
      | (with_reducible exact ringworkref06_Free.mono _ _)
      | (with_reducible exact ringworkref06_Next.mono _ _)
      | (with_reducible exact ringworkref06_Valid.mono _ _)
      | (with_reducible exact ringworkref06_Wrong.mono _ _)
      | (with_reducible exact LeO.refl _)
      | (with_reducible exact LeO.none _)
      | (with_reducible refine LeO.ite ?_ ?_)
      | (with_reducible refine LeO.bind ?_ (fun _ => ?_))
      | exact ih0 _ _
      | exact ih1 _ _ _ _ _ _
      | exact ih2 _ _ _
      | exact ih3 _ _ _ _
      | exact ih4 _ _ _ _
      | exact ih5 _ _
      | exact page_Fill.mono _ _ _
      | exact ringworklaw06_awake.mono _
      | exact ringworklaw06_same.mono _ _ _
      | exact ringworkref06_Cells.mono _ _
      | exact ringworkref06_Free.mono _ _
      | exact ringworkref06_Next.mono _ _
      | exact ringworkref06_Valid.mono _ _
      | exact ringworkref06_Wrong.mono _ _
      | exact LeO.none _
      | refine LeO.ite ?_ ?_
      | refine LeO.bind ?_ (fun _ => ?_)
    · intro y0 y1
      unfold ringworklaw06_PageReads.j5
      repeat' first
      | (with_reducible exact ih0 _ _)
      | (with_reducible exact ih1 _ _ _ _ _ _)
      | (with_reducible exact ih2 _ _ _)
      | (with_reducible exact ih3 _ _ _ _)
      | (with_reducible exact ih4 _ _ _ _)
      | (with_reducible exact ih5 _ _)
      | (with_reducible exact page_Fill.mono _ _ _)
      | (with_reducible exact ringworklaw06_awake.mono _)
      | (with_reducible exact ringworklaw06_same.mono _ _ _)
      | (with_reducible exact ringworkref06_Cells.mono _ _)
      | (with_reducible exact ringworkref06_Free.mono _ _)
      | (with_reducible exact ringworkref06_Next.mono _ _)
      | (with_reducible exact ringworkref06_Valid.mono _ _)
      | (with_reducible exact ringworkref06_Wrong.mono _ _)
      | (with_reducible exact LeO.refl _)
      | (with_reducible exact LeO.none _)
      | (with_reducible refine LeO.ite ?_ ?_)
      | (with_reducible refine LeO.bind ?_ (fun _ => ?_))
      | exact ih0 _ _
      | exact ih1 _ _ _ _ _ _
      | exact ih2 _ _ _
      | exact ih3 _ _ _ _
      | exact ih4 _ _ _ _
      | exact ih5 _ _
      | exact page_Fill.mono _ _ _
      | exact ringworklaw06_awake.mono _
      | exact ringworklaw06_same.mono _ _ _
      | exact ringworkref06_Cells.mono _ _
      | exact ringworkref06_Free.mono _ _
      | exact ringworkref06_Next.mono _ _
      | exact ringworkref06_Valid.mono _ _
      | exact ringworkref06_Wrong.mono _ _
      | exact LeO.none _
      | refine LeO.ite ?_ ?_
      | refine LeO.bind ?_ (fun _ => ?_)
theorem ringworklaw06_PageReads.mono : ∀ a0 k, LeO (ringworklaw06_PageReads.f k a0) (ringworklaw06_PageReads.f (k + 1) a0) := by
  intro a0 k
  obtain ⟨ih0, ih1, ih2, ih3, ih4, ih5⟩ := ringworklaw06_PageReads.mono_l k
  unfold ringworklaw06_PageReads.f
  repeat' first
      | (with_reducible exact ih0 _ _)
      | (with_reducible exact ih1 _ _ _ _ _ _)
      | (with_reducible exact ih2 _ _ _)
      | (with_reducible exact ih3 _ _ _ _)
      | (with_reducible exact ih4 _ _ _ _)
      | (with_reducible exact ih5 _ _)
      | (with_reducible exact page_Fill.mono _ _ _)
      | (with_reducible exact ringworklaw06_awake.mono _)
      | (with_reducible exact ringworklaw06_same.mono _ _ _)
      | (with_reducible exact ringworkref06_Cells.mono _ _)
      | (with_reducible exact ringworkref06_Free.mono _ _)
      | (with_reducible exact ringworkref06_Next.mono _ _)
      | (with_reducible exact ringworkref06_Valid.mono _ _)
      | (with_reducible exact ringworkref06_Wrong.mono _ _)
      | (with_reducible exact LeO.refl _)
      | (with_reducible exact LeO.none _)
      | (with_reducible refine LeO.ite ?_ ?_)
      | (with_reducible refine LeO.bind ?_ (fun _ => ?_))
      | exact ih0 _ _
      | exact ih1 _ _ _ _ _ _
      | exact ih2 _ _ _
      | exact ih3 _ _ _ _
      | exact ih4 _ _ _ _
      | exact ih5 _ _
      | exact page_Fill.mono _ _ _
      | exact ringworklaw06_awake.mono _
      | exact ringworklaw06_same.mono _ _ _
      | exact ringworkref06_Cells.mono _ _
      | exact ringworkref06_Free.mono _ _
      | exact ringworkref06_Next.mono _ _
      | exact ringworkref06_Valid.mono _ _
      | exact ringworkref06_Wrong.mono _ _
      | exact LeO.none _
      | refine LeO.ite ?_ ?_
      | refine LeO.bind ?_ (fun _ => ?_)
set_option maxHeartbeats 8000000 in
set_option maxRecDepth 100000 in
theorem ringworklaw06_PageReads.calls (k : Nat) (a0 : ByteArray) (r : Bool) (w : World) (h : ringworklaw06_PageReads.f k a0 = some r) :
    Calls Try.prog 5 #[.string a0] w fun e w' => e = .returned (.bool r) ∧ Below w.heap.size w w' := by
  have HB := Aside0.mk (Below.refl w.heap.size w)
  have H : (if (a0.size : Int) > 4200 then ((ringworklaw06_awake.f k).bind fun t208 => (some t208)) else ((page_Wrong.f a0).bind fun bt209 => ((ringworkref06_Wrong.f k a0).bind fun bt211 => (if bt209.1 = bt211.1 then (if bt209.2 = bt211.2 then ((page_Valid.f a0).bind fun t213 => ((ringworkref06_Valid.f k a0).bind fun t214 => (ringworklaw06_PageReads.j0 k a0 (t213 != t214)))) else (ringworklaw06_PageReads.j0 k a0 true)) else (ringworklaw06_PageReads.j0 k a0 true))))) = some r := h
  clear h
  by_cases c2 : (a0.size : Int) > 4200
  · rw [if_pos c2] at H
    have c2b0 : decide (4200 < (a0.size : Int)) = true := decide_eq_true c2
    have c2b1 : decide (4200 < a0.size) = true := decide_eq_true (by omega)
    clear c2
    replace H := Option.bind_eq_some_iff.mp H
    obtain ⟨t208, A30, H⟩ := H
    replace H : (some t208) = some r := H
    have A3 := Aside0.mk A30
    clear A30
    obtain rfl := Option.some.inj H
    go_enter Try.func5, Try.ntmps5
    go_wp2_with (first | (go_at_call 11; (with_reducible refine (ringworklaw06_awake.calls k  t208 _ A3.out).mono ?_); rintro e w4 ⟨rfl, hb⟩; have n0_ := Aside0.mk (below_step (by repeat (first | (with_reducible first | exact HB.out | apply below_alloc | apply pw_below_drewN | apply below_drew1) | exact HB.out)) hb); clear HB; have HB := n0_; clear n0_; (try clear hb); (try clear hb2); (try clear hk); (try clear hi)))
    repeat (go_quiet (first | (go_at_call 11; (with_reducible refine (ringworklaw06_awake.calls k  t208 _ A3.out).mono ?_); rintro e w4 ⟨rfl, hb⟩; have n0_ := Aside0.mk (below_step (by repeat (first | (with_reducible first | exact HB.out | apply below_alloc | apply pw_below_drewN | apply below_drew1) | exact HB.out)) hb); clear HB; have HB := n0_; clear n0_; (try clear hb); (try clear hb2); (try clear hk); (try clear hi))); try go_wp2_with (first | (go_at_call 11; (with_reducible refine (ringworklaw06_awake.calls k  t208 _ A3.out).mono ?_); rintro e w4 ⟨rfl, hb⟩; have n0_ := Aside0.mk (below_step (by repeat (first | (with_reducible first | exact HB.out | apply below_alloc | apply pw_below_drewN | apply below_drew1) | exact HB.out)) hb); clear HB; have HB := n0_; clear n0_; (try clear hb); (try clear hb2); (try clear hk); (try clear hi))))
    go_ret
    exact ⟨by first | rfl | (simp [errW_none, errW_some] <;> rfl) | (simp [*, errW_none, errW_some] <;> rfl), by repeat (first | (with_reducible first | exact HB.out | apply below_alloc | apply pw_below_drewN | apply below_drew1) | exact HB.out)⟩
  · rw [if_neg c2] at H
    have c2b0 : decide (4200 < (a0.size : Int)) = false := decide_eq_false c2
    have c2b1 : decide (4200 < a0.size) = false := decide_eq_false (by omega)
    clear c2
    replace H := Option.bind_eq_some_iff.mp H
    obtain ⟨⟨t209, t210⟩, A50, H⟩ := H
    replace H : ((ringworkref06_Wrong.f k a0).bind fun bt211 => (if t209 = bt211.1 then (if t210 = bt211.2 then ((page_Valid.f a0).bind fun t213 => ((ringworkref06_Valid.f k a0).bind fun t214 => (ringworklaw06_PageReads.j0 k a0 (t213 != t214)))) else (ringworklaw06_PageReads.j0 k a0 true)) else (ringworklaw06_PageReads.j0 k a0 true))) = some r := H
    have A5 := Aside0.mk A50
    clear A50
    replace H := Option.bind_eq_some_iff.mp H
    obtain ⟨⟨t211, t212⟩, A60, H⟩ := H
    replace H : (if t209 = t211 then (if t210 = t212 then ((page_Valid.f a0).bind fun t213 => ((ringworkref06_Valid.f k a0).bind fun t214 => (ringworklaw06_PageReads.j0 k a0 (t213 != t214)))) else (ringworklaw06_PageReads.j0 k a0 true)) else (ringworklaw06_PageReads.j0 k a0 true)) = some r := H
    have A6 := Aside0.mk A60
    clear A60
    have HC7 := Aside0.mk H
    clear H
    go_enter Try.func5, Try.ntmps5
    go_upto_region 5 with (first | (go_at_call 19; (with_reducible refine (page_Wrong.calls a0 t209 t210 _ A5.out).mono ?_); rintro e w8 ⟨rfl, hb⟩; have n0_ := Aside0.mk (below_step (by repeat (first | (with_reducible first | exact HB.out | apply below_alloc | apply pw_below_drewN | apply below_drew1) | exact HB.out)) hb); clear HB; have HB := n0_; clear n0_; (try clear hb); (try clear hb2); (try clear hk); (try clear hi)) | (go_at_call 20; (with_reducible refine (ringworkref06_Wrong.calls k a0 t211 t212 _ A6.out).mono ?_); rintro e w' ⟨rfl, ⟨nd, rfl⟩⟩; (try first | exact ⟨rfl, _, World.drewN_drewN _ _ _⟩ | exact ⟨rfl, _, Eq.trans (World.drewN_drewN _ _ _) (congrArg (World.drewN _) (Nat.add_assoc _ _ _))⟩)))
    repeat (go_quiet (first | (go_at_call 19; (with_reducible refine (page_Wrong.calls a0 t209 t210 _ A5.out).mono ?_); rintro e w8 ⟨rfl, hb⟩; have n0_ := Aside0.mk (below_step (by repeat (first | (with_reducible first | exact HB.out | apply below_alloc | apply pw_below_drewN | apply below_drew1) | exact HB.out)) hb); clear HB; have HB := n0_; clear n0_; (try clear hb); (try clear hb2); (try clear hk); (try clear hi)) | (go_at_call 20; (with_reducible refine (ringworkref06_Wrong.calls k a0 t211 t212 _ A6.out).mono ?_); rintro e w' ⟨rfl, ⟨nd, rfl⟩⟩; (try first | exact ⟨rfl, _, World.drewN_drewN _ _ _⟩ | exact ⟨rfl, _, Eq.trans (World.drewN_drewN _ _ _) (congrArg (World.drewN _) (Nat.add_assoc _ _ _))⟩))); go_upto_region 5 with (first | (go_at_call 19; (with_reducible refine (page_Wrong.calls a0 t209 t210 _ A5.out).mono ?_); rintro e w8 ⟨rfl, hb⟩; have n0_ := Aside0.mk (below_step (by repeat (first | (with_reducible first | exact HB.out | apply below_alloc | apply pw_below_drewN | apply below_drew1) | exact HB.out)) hb); clear HB; have HB := n0_; clear n0_; (try clear hb); (try clear hb2); (try clear hk); (try clear hi)) | (go_at_call 20; (with_reducible refine (ringworkref06_Wrong.calls k a0 t211 t212 _ A6.out).mono ?_); rintro e w' ⟨rfl, ⟨nd, rfl⟩⟩; (try first | exact ⟨rfl, _, World.drewN_drewN _ _ _⟩ | exact ⟨rfl, _, Eq.trans (World.drewN_drewN _ _ _) (congrArg (World.drewN _) (Nat.add_assoc _ _ _))⟩))))
    (try simp only [Act.put, List.setIfInBounds_toArray, List.set_cons_zero, List.set_cons_succ])
    go_cut [43] (fun v43 wc => ∃ (kq : Nat) (x43_6 : Bool), v43 = .bool x43_6 ∧ Aside0 (ringworklaw06_PageReads.j0 kq a0 x43_6 = some r) ∧ Aside0 (kq ≤ k) ∧ Aside0 (Below w.heap.size w wc))
    case first =>
      have H := HC7.out
      clear HC7
      by_cases c9 : t209 = t211
      · rw [if_pos c9] at H
        have c9b0 : (t209 == t211) = true := beq_iff_eq.mpr c9
        have c9b1 : (t209 != t211) = false := bne_eq_false_iff_eq.mpr c9
        clear c9
        (first | rw [c9b0] | (simp only [i64_w, i32_w]; rw [c9b0]) | skip)
        by_cases c10 : t210 = t212
        · rw [if_pos c10] at H
          have c10b0 : (t210 == t212) = true := beq_iff_eq.mpr c10
          have c10b1 : (t210 != t212) = false := bne_eq_false_iff_eq.mpr c10
          clear c10
          replace H := Option.bind_eq_some_iff.mp H
          obtain ⟨t213, A110, H⟩ := H
          replace H : ((ringworkref06_Valid.f k a0).bind fun t214 => (ringworklaw06_PageReads.j0 k a0 (t213 != t214))) = some r := H
          have A11 := Aside0.mk A110
          clear A110
          replace H := Option.bind_eq_some_iff.mp H
          obtain ⟨t214, A120, H⟩ := H
          replace H : (ringworklaw06_PageReads.j0 k a0 (t213 != t214)) = some r := H
          have A12 := Aside0.mk A120
          clear A120
          have H' := Aside0.mk H
          clear H
          go_wp2_with (first | (go_at_call 21; (with_reducible refine (page_Valid.calls a0 t213 _ A11.out).mono ?_); rintro e w13 ⟨rfl, hb⟩; have n0_ := Aside0.mk (below_step (by repeat (first | (with_reducible first | exact HB.out | apply below_alloc | apply pw_below_drewN | apply below_drew1) | exact HB.out)) hb); clear HB; have HB := n0_; clear n0_; (try clear hb); (try clear hb2); (try clear hk); (try clear hi)) | (go_at_call 22; (with_reducible refine (ringworkref06_Valid.calls k a0 t214 _ A12.out).mono ?_); rintro e w' ⟨rfl, ⟨nd, rfl⟩⟩; (try first | exact ⟨rfl, _, World.drewN_drewN _ _ _⟩ | exact ⟨rfl, _, Eq.trans (World.drewN_drewN _ _ _) (congrArg (World.drewN _) (Nat.add_assoc _ _ _))⟩)))
          repeat (go_quiet (first | (go_at_call 21; (with_reducible refine (page_Valid.calls a0 t213 _ A11.out).mono ?_); rintro e w13 ⟨rfl, hb⟩; have n0_ := Aside0.mk (below_step (by repeat (first | (with_reducible first | exact HB.out | apply below_alloc | apply pw_below_drewN | apply below_drew1) | exact HB.out)) hb); clear HB; have HB := n0_; clear n0_; (try clear hb); (try clear hb2); (try clear hk); (try clear hi)) | (go_at_call 22; (with_reducible refine (ringworkref06_Valid.calls k a0 t214 _ A12.out).mono ?_); rintro e w' ⟨rfl, ⟨nd, rfl⟩⟩; (try first | exact ⟨rfl, _, World.drewN_drewN _ _ _⟩ | exact ⟨rfl, _, Eq.trans (World.drewN_drewN _ _ _) (congrArg (World.drewN _) (Nat.add_assoc _ _ _))⟩))); try go_wp2_with (first | (go_at_call 21; (with_reducible refine (page_Valid.calls a0 t213 _ A11.out).mono ?_); rintro e w13 ⟨rfl, hb⟩; have n0_ := Aside0.mk (below_step (by repeat (first | (with_reducible first | exact HB.out | apply below_alloc | apply pw_below_drewN | apply below_drew1) | exact HB.out)) hb); clear HB; have HB := n0_; clear n0_; (try clear hb); (try clear hb2); (try clear hk); (try clear hi)) | (go_at_call 22; (with_reducible refine (ringworkref06_Valid.calls k a0 t214 _ A12.out).mono ?_); rintro e w' ⟨rfl, ⟨nd, rfl⟩⟩; (try first | exact ⟨rfl, _, World.drewN_drewN _ _ _⟩ | exact ⟨rfl, _, Eq.trans (World.drewN_drewN _ _ _) (congrArg (World.drewN _) (Nat.add_assoc _ _ _))⟩))))
          go_meet
          case rel => exact ⟨_, ((t213 != t214)), (by first | rfl | (simp; done) | (simp [*]; done)), H', ⟨by first | omega | exact Nat.le_refl _⟩, ⟨by repeat (first | (with_reducible first | exact HB.out | apply below_alloc | apply pw_below_drewN | apply below_drew1) | exact HB.out)⟩⟩
        · rw [if_neg c10] at H
          have c10b0 : (t210 == t212) = false := beq_eq_false_iff_ne.mpr c10
          have c10b1 : (t210 != t212) = true := bne_iff_ne.mpr c10
          have H' := Aside0.mk H
          clear H
          go_wp2
          repeat (go_quiet (fail); try go_wp2)
          go_meet
          case rel => exact ⟨_, (true), (by first | rfl | (simp; done) | (simp [*]; done)), H', ⟨by first | omega | exact Nat.le_refl _⟩, ⟨by repeat (first | (with_reducible first | exact HB.out | apply below_alloc | apply pw_below_drewN | apply below_drew1) | exact HB.out)⟩⟩
      · rw [if_neg c9] at H
        have c9b0 : (t209 == t211) = false := beq_eq_false_iff_ne.mpr c9
        have c9b1 : (t209 != t211) = true := bne_iff_ne.mpr c9
        (first | rw [c9b0] | (simp only [i64_w, i32_w]; rw [c9b0]) | skip)
        have H' := Aside0.mk H
        clear H
        go_wp2
        repeat (go_quiet (fail); try go_wp2)
        go_meet
        case rel => exact ⟨_, (true), (by first | rfl | (simp; done) | (simp [*]; done)), H', ⟨by first | omega | exact Nat.le_refl _⟩, ⟨by repeat (first | (with_reducible first | exact HB.out | apply below_alloc | apply pw_below_drewN | apply below_drew1) | exact HB.out)⟩⟩
    case rest =>
      clear HC7
      try clear c1
      try clear c2
      try clear c2b0
      try clear c2b1
      try clear p2
      try clear c5
      try clear c9
      try clear c9b0
      try clear c9b1
      try clear c10
      try clear c10b0
      try clear c10b1
      obtain ⟨kq, x43_6, rfl, HA, HJ6, HB⟩ := hcut
      cases kq with
      | zero => exact absurd HA.out (by simp [ringworklaw06_PageReads.j0])
      | succ kj6 =>
        have H := HA.out
        clear HA
        simp only [ringworklaw06_PageReads.j0] at H
        by_cases c14 : x43_6 = true
        · subst c14
          have H1 : (some false) = some r := by rw [if_pos rfl] at H; exact H
          clear H
          have H := H1
          clear H1
          obtain rfl := Option.some.inj H
          go_wp2
          repeat (go_quiet (fail); try go_wp2)
          go_ret
          exact ⟨by first | rfl | (simp [errW_none, errW_some] <;> rfl) | (simp [*, errW_none, errW_some] <;> rfl), by repeat (first | (with_reducible first | exact HB.out | apply below_alloc | apply pw_below_drewN | apply below_drew1) | exact HB.out)⟩
        · replace c14 := Bool.eq_false_iff.mpr c14
          subst c14
          have H1 : ((page_Cells.f a0).bind fun bt215 => ((ringworkref06_Cells.f kj6 a0).bind fun bt219 => (if bt215.2 = bt219.2 then ((ringworklaw06_same.f kj6 bt215.1 bt219.1).bind fun t223 => (ringworklaw06_PageReads.j1 kj6 a0 bt215.2 bt219.2 bt215.1 bt219.1 (!t223))) else (ringworklaw06_PageReads.j1 kj6 a0 bt215.2 bt219.2 bt215.1 bt219.1 true)))) = some r := by rw [if_neg (show ¬ (false = true) by decide)] at H; exact H
          clear H
          have H := H1
          clear H1
          replace H := Option.bind_eq_some_iff.mp H
          obtain ⟨⟨t215, t216⟩, A150, H⟩ := H
          replace H : ((ringworkref06_Cells.f kj6 a0).bind fun bt219 => (if t216 = bt219.2 then ((ringworklaw06_same.f kj6 t215 bt219.1).bind fun t223 => (ringworklaw06_PageReads.j1 kj6 a0 t216 bt219.2 t215 bt219.1 (!t223))) else (ringworklaw06_PageReads.j1 kj6 a0 t216 bt219.2 t215 bt219.1 true))) = some r := H
          have A15 := Aside0.mk A150
          clear A150
          replace H := Option.bind_eq_some_iff.mp H
          obtain ⟨⟨t219, t220⟩, A160, H⟩ := H
          replace H : (if t216 = t220 then ((ringworklaw06_same.f kj6 t215 t219).bind fun t223 => (ringworklaw06_PageReads.j1 kj6 a0 t216 t220 t215 t219 (!t223))) else (ringworklaw06_PageReads.j1 kj6 a0 t216 t220 t215 t219 true)) = some r := H
          have A16 := Aside0.mk A160
          clear A160
          have HC17 := Aside0.mk H
          clear H
          go_upto_region 9 with (first | (go_at_call 12; (with_reducible refine (page_Cells.calls a0 t215 t216 _ A15.out).mono ?_); rintro e w18 ⟨v217, rfl, ho0, hb⟩; have n0_ := Aside0.mk (Kd.R_lower ho0 (below_size (by repeat (first | (with_reducible first | exact HB.out | apply below_alloc | apply pw_below_drewN | apply below_drew1) | exact HB.out)))); have n1_ := Aside0.mk (below_step (by repeat (first | (with_reducible first | exact HB.out | apply below_alloc | apply pw_below_drewN | apply below_drew1) | exact HB.out)) hb); clear HB; have HO218 := n0_; have HB := n1_; clear n0_ n1_; (try clear hb); (try clear hb2); (try clear hk); (try clear hi); (try clear ho0)) | (go_at_call 23; (with_reducible refine (ringworkref06_Cells.calls kj6 a0 t219 t220 _ A16.out).mono ?_); rintro e w19 ⟨v221, rfl, ho0, hb⟩; have n0_ := Aside0.mk (Kd.R_elder' (by (with_reducible repeat (first | apply Kd.R_alloc | apply Kd.R_drewN | apply Kd.R_drew)); exact HO218.out) (Kd.R_base ho0) hb); have n1_ := Aside0.mk (Kd.R_lower (Kd.R_new' ho0 (Kd.R_lt (by (with_reducible repeat (first | apply Kd.R_alloc | apply Kd.R_drewN | apply Kd.R_drew)); exact HO218.out))) (below_size (by repeat (first | (with_reducible first | exact HB.out | apply below_alloc | apply pw_below_drewN | apply below_drew1) | exact HB.out)))); have n2_ := Aside0.mk (below_step (by repeat (first | (with_reducible first | exact HB.out | apply below_alloc | apply pw_below_drewN | apply below_drew1) | exact HB.out)) hb); clear HO218; clear HB; have HO218 := n0_; have HO222 := n1_; have HB := n2_; clear n0_ n1_ n2_; (try clear hb); (try clear hb2); (try clear hk); (try clear hi); (try clear ho0)))
          repeat (go_quiet (first | (go_at_call 12; (with_reducible refine (page_Cells.calls a0 t215 t216 _ A15.out).mono ?_); rintro e w18 ⟨v217, rfl, ho0, hb⟩; have n0_ := Aside0.mk (Kd.R_lower ho0 (below_size (by repeat (first | (with_reducible first | exact HB.out | apply below_alloc | apply pw_below_drewN | apply below_drew1) | exact HB.out)))); have n1_ := Aside0.mk (below_step (by repeat (first | (with_reducible first | exact HB.out | apply below_alloc | apply pw_below_drewN | apply below_drew1) | exact HB.out)) hb); clear HB; have HO218 := n0_; have HB := n1_; clear n0_ n1_; (try clear hb); (try clear hb2); (try clear hk); (try clear hi); (try clear ho0)) | (go_at_call 23; (with_reducible refine (ringworkref06_Cells.calls kj6 a0 t219 t220 _ A16.out).mono ?_); rintro e w19 ⟨v221, rfl, ho0, hb⟩; have n0_ := Aside0.mk (Kd.R_elder' (by (with_reducible repeat (first | apply Kd.R_alloc | apply Kd.R_drewN | apply Kd.R_drew)); exact HO218.out) (Kd.R_base ho0) hb); have n1_ := Aside0.mk (Kd.R_lower (Kd.R_new' ho0 (Kd.R_lt (by (with_reducible repeat (first | apply Kd.R_alloc | apply Kd.R_drewN | apply Kd.R_drew)); exact HO218.out))) (below_size (by repeat (first | (with_reducible first | exact HB.out | apply below_alloc | apply pw_below_drewN | apply below_drew1) | exact HB.out)))); have n2_ := Aside0.mk (below_step (by repeat (first | (with_reducible first | exact HB.out | apply below_alloc | apply pw_below_drewN | apply below_drew1) | exact HB.out)) hb); clear HO218; clear HB; have HO218 := n0_; have HO222 := n1_; have HB := n2_; clear n0_ n1_ n2_; (try clear hb); (try clear hb2); (try clear hk); (try clear hi); (try clear ho0))); go_upto_region 9 with (first | (go_at_call 12; (with_reducible refine (page_Cells.calls a0 t215 t216 _ A15.out).mono ?_); rintro e w18 ⟨v217, rfl, ho0, hb⟩; have n0_ := Aside0.mk (Kd.R_lower ho0 (below_size (by repeat (first | (with_reducible first | exact HB.out | apply below_alloc | apply pw_below_drewN | apply below_drew1) | exact HB.out)))); have n1_ := Aside0.mk (below_step (by repeat (first | (with_reducible first | exact HB.out | apply below_alloc | apply pw_below_drewN | apply below_drew1) | exact HB.out)) hb); clear HB; have HO218 := n0_; have HB := n1_; clear n0_ n1_; (try clear hb); (try clear hb2); (try clear hk); (try clear hi); (try clear ho0)) | (go_at_call 23; (with_reducible refine (ringworkref06_Cells.calls kj6 a0 t219 t220 _ A16.out).mono ?_); rintro e w19 ⟨v221, rfl, ho0, hb⟩; have n0_ := Aside0.mk (Kd.R_elder' (by (with_reducible repeat (first | apply Kd.R_alloc | apply Kd.R_drewN | apply Kd.R_drew)); exact HO218.out) (Kd.R_base ho0) hb); have n1_ := Aside0.mk (Kd.R_lower (Kd.R_new' ho0 (Kd.R_lt (by (with_reducible repeat (first | apply Kd.R_alloc | apply Kd.R_drewN | apply Kd.R_drew)); exact HO218.out))) (below_size (by repeat (first | (with_reducible first | exact HB.out | apply below_alloc | apply pw_below_drewN | apply below_drew1) | exact HB.out)))); have n2_ := Aside0.mk (below_step (by repeat (first | (with_reducible first | exact HB.out | apply below_alloc | apply pw_below_drewN | apply below_drew1) | exact HB.out)) hb); clear HO218; clear HB; have HO218 := n0_; have HO222 := n1_; have HB := n2_; clear n0_ n1_ n2_; (try clear hb); (try clear hb2); (try clear hk); (try clear hi); (try clear ho0))))
          (try simp only [Act.put, List.setIfInBounds_toArray, List.set_cons_zero, List.set_cons_succ])
          go_cut [62] (fun v62 wc => ∃ (kq : Nat) (x62_16 : Bool), v62 = .bool x62_16 ∧ Aside0 (ringworklaw06_PageReads.j1 kq a0 t216 t220 t215 t219 x62_16 = some r) ∧ Aside0 (kq ≤ kj6) ∧ Aside0 (Kd.R k45 45 wc w.heap.size (fun k_ => some k_ ≠ (v221 : Value).ownBlock) v217 t215) ∧ Aside0 (Kd.R k45 45 wc w.heap.size (fun k_ => some k_ ≠ (v217 : Value).ownBlock) v221 t219) ∧ Aside0 (Below w.heap.size w wc))
          case first =>
            have H := HC17.out
            clear HC17
            by_cases c20 : t216 = t220
            · rw [if_pos c20] at H
              have c20b0 : (t216 == t220) = true := beq_iff_eq.mpr c20
              have c20b1 : (t216 != t220) = false := bne_eq_false_iff_eq.mpr c20
              clear c20
              (first | rw [c20b0] | (simp only [i64_w, i32_w]; rw [c20b0]) | skip)
              replace H := Option.bind_eq_some_iff.mp H
              obtain ⟨t223, A210, H⟩ := H
              replace H : (ringworklaw06_PageReads.j1 kj6 a0 t216 t220 t215 t219 (!t223)) = some r := H
              have A21 := Aside0.mk A210
              clear A210
              have H' := Aside0.mk H
              clear H
              obtain ⟨Ao22, co22, eo22⟩ := Kd.R_slice HO218.out
              subst eo22
              obtain ⟨Ao23, co23, eo23⟩ := Kd.R_slice HO222.out
              subst eo23
              go_wp2_with (first | (go_at_call 13; (with_reducible refine (ringworklaw06_same.calls kj6 _ _ t215 _ _ t219 t223 _ ?side1 ?side2 ?side3 ?side4 A21.out).mono ?_); (case side1 => repeat (first | exact (Kd.R_reads' HO218.out).2.2 | (with_reducible refine Kd.C_alloc ?_ _) | (with_reducible refine Kd.C_drewN ?_ _) | (with_reducible refine Kd.C_drew ?_))); (case side2 => exact (Kd.R_reads' HO218.out).2.1); (case side3 => repeat (first | exact (Kd.R_reads' HO222.out).2.2 | (with_reducible refine Kd.C_alloc ?_ _) | (with_reducible refine Kd.C_drewN ?_ _) | (with_reducible refine Kd.C_drew ?_))); (case side4 => exact (Kd.R_reads' HO222.out).2.1); rintro e w' ⟨rfl, ⟨nd, rfl⟩⟩; (try first | exact ⟨rfl, _, World.drewN_drewN _ _ _⟩ | exact ⟨rfl, _, Eq.trans (World.drewN_drewN _ _ _) (congrArg (World.drewN _) (Nat.add_assoc _ _ _))⟩)))
              repeat (go_quiet (first | (go_at_call 13; (with_reducible refine (ringworklaw06_same.calls kj6 _ _ t215 _ _ t219 t223 _ ?side1 ?side2 ?side3 ?side4 A21.out).mono ?_); (case side1 => repeat (first | exact (Kd.R_reads' HO218.out).2.2 | (with_reducible refine Kd.C_alloc ?_ _) | (with_reducible refine Kd.C_drewN ?_ _) | (with_reducible refine Kd.C_drew ?_))); (case side2 => exact (Kd.R_reads' HO218.out).2.1); (case side3 => repeat (first | exact (Kd.R_reads' HO222.out).2.2 | (with_reducible refine Kd.C_alloc ?_ _) | (with_reducible refine Kd.C_drewN ?_ _) | (with_reducible refine Kd.C_drew ?_))); (case side4 => exact (Kd.R_reads' HO222.out).2.1); rintro e w' ⟨rfl, ⟨nd, rfl⟩⟩; (try first | exact ⟨rfl, _, World.drewN_drewN _ _ _⟩ | exact ⟨rfl, _, Eq.trans (World.drewN_drewN _ _ _) (congrArg (World.drewN _) (Nat.add_assoc _ _ _))⟩))); try go_wp2_with (first | (go_at_call 13; (with_reducible refine (ringworklaw06_same.calls kj6 _ _ t215 _ _ t219 t223 _ ?side1 ?side2 ?side3 ?side4 A21.out).mono ?_); (case side1 => repeat (first | exact (Kd.R_reads' HO218.out).2.2 | (with_reducible refine Kd.C_alloc ?_ _) | (with_reducible refine Kd.C_drewN ?_ _) | (with_reducible refine Kd.C_drew ?_))); (case side2 => exact (Kd.R_reads' HO218.out).2.1); (case side3 => repeat (first | exact (Kd.R_reads' HO222.out).2.2 | (with_reducible refine Kd.C_alloc ?_ _) | (with_reducible refine Kd.C_drewN ?_ _) | (with_reducible refine Kd.C_drew ?_))); (case side4 => exact (Kd.R_reads' HO222.out).2.1); rintro e w' ⟨rfl, ⟨nd, rfl⟩⟩; (try first | exact ⟨rfl, _, World.drewN_drewN _ _ _⟩ | exact ⟨rfl, _, Eq.trans (World.drewN_drewN _ _ _) (congrArg (World.drewN _) (Nat.add_assoc _ _ _))⟩))))
              go_meet
              case rel => exact ⟨_, (!t223), (by first | rfl | (simp; done) | (simp [*]; done)), H', ⟨by have := HJ6.out; first | omega | exact Nat.le_refl _⟩, ⟨by (with_reducible repeat (first | apply Kd.R_alloc | apply Kd.R_drewN | apply Kd.R_drew)); exact Kd.R_mono HO218.out (fun _ hk => hk.2)⟩, ⟨by (with_reducible repeat (first | apply Kd.R_alloc | apply Kd.R_drewN | apply Kd.R_drew)); exact Kd.R_mono HO222.out (fun _ hk => hk.2)⟩, ⟨by repeat (first | (with_reducible first | exact HB.out | apply below_alloc | apply pw_below_drewN | apply below_drew1) | exact HB.out)⟩⟩
            · rw [if_neg c20] at H
              have c20b0 : (t216 == t220) = false := beq_eq_false_iff_ne.mpr c20
              have c20b1 : (t216 != t220) = true := bne_iff_ne.mpr c20
              (first | rw [c20b0] | (simp only [i64_w, i32_w]; rw [c20b0]) | skip)
              have H' := Aside0.mk H
              clear H
              go_wp2
              repeat (go_quiet (fail); try go_wp2)
              go_meet
              case rel => exact ⟨_, (true), (by first | rfl | (simp; done) | (simp [*]; done)), H', ⟨by have := HJ6.out; first | omega | exact Nat.le_refl _⟩, ⟨by (with_reducible repeat (first | apply Kd.R_alloc | apply Kd.R_drewN | apply Kd.R_drew)); exact Kd.R_mono HO218.out (fun _ hk => hk.2)⟩, ⟨by (with_reducible repeat (first | apply Kd.R_alloc | apply Kd.R_drewN | apply Kd.R_drew)); exact Kd.R_mono HO222.out (fun _ hk => hk.2)⟩, ⟨by repeat (first | (with_reducible first | exact HB.out | apply below_alloc | apply pw_below_drewN | apply below_drew1) | exact HB.out)⟩⟩
          case rest =>
            clear HC17
            try clear c1
            try clear c2
            try clear c2b0
            try clear c2b1
            try clear p2
            try clear c5
            try clear c9
            try clear c9b0
            try clear c9b1
            try clear c10
            try clear c10b0
            try clear c10b1
            try clear c14
            try clear c20
            try clear c20b0
            try clear c20b1
            try clear p2
            obtain ⟨kq, x62_16, rfl, HA, HJ16, HO_7, HO_8, HB⟩ := hcut
            cases kq with
            | zero => exact absurd HA.out (by simp [ringworklaw06_PageReads.j1])
            | succ kj16 =>
              have H := HA.out
              clear HA
              simp only [ringworklaw06_PageReads.j1] at H
              by_cases c24 : x62_16 = true
              · subst c24
                have H1 : (some false) = some r := by rw [if_pos rfl] at H; exact H
                clear H
                have H := H1
                clear H1
                obtain rfl := Option.some.inj H
                go_wp2
                repeat (go_quiet (fail); try go_wp2)
                go_ret
                exact ⟨by first | rfl | (simp [errW_none, errW_some] <;> rfl) | (simp [*, errW_none, errW_some] <;> rfl), by repeat (first | (with_reducible first | exact HB.out | apply below_alloc | apply pw_below_drewN | apply below_drew1) | exact HB.out)⟩
              · replace c24 := Bool.eq_false_iff.mpr c24
                subst c24
                have H1 : (if t216 = 0 then ((page_Fill.f kj16 (a0.size : Int) t215).bind fun bt224 => (if bt224.2 = 0 then (if bt224.1.toList = a0.toList then (ringworklaw06_PageReads.j2 kj16 a0 t220 t219) else (some false)) else (some false))) else (ringworklaw06_PageReads.j2 kj16 a0 t220 t219)) = some r := by rw [if_neg (show ¬ (false = true) by decide)] at H; exact H
                clear H
                have H := H1
                clear H1
                have HC25 := Aside0.mk H
                clear H
                go_upto_if 64 with (fail)
                repeat (go_quiet (fail); go_upto_if 64 with (fail))
                go_cut [] (fun wc => ∃ (kq : Nat), Aside0 (ringworklaw06_PageReads.j2 kq a0 t220 t219 = some r) ∧ Aside0 (kq ≤ kj16) ∧ Aside0 (Kd.R k45 45 wc w.heap.size (fun _ => True) v221 t219) ∧ Aside0 (Below w.heap.size w wc))
                case first =>
                  have H := HC25.out
                  clear HC25
                  by_cases c26 : t216 = 0
                  · rw [if_pos c26] at H
                    have c26b0 : (t216 == 0) = true := beq_iff_eq.mpr c26
                    have c26b1 : (t216 != 0) = false := bne_eq_false_iff_eq.mpr c26
                    clear c26
                    (first | rw [c26b0] | (simp only [i64_w, i32_w]; rw [c26b0]) | skip)
                    replace H := Option.bind_eq_some_iff.mp H
                    obtain ⟨⟨t224, t225⟩, A270, H⟩ := H
                    replace H : (if t225 = 0 then (if t224.toList = a0.toList then (ringworklaw06_PageReads.j2 kj16 a0 t220 t219) else (some false)) else (some false)) = some r := H
                    have A27 := Aside0.mk A270
                    clear A270
                    by_cases c28 : t225 = 0
                    · rw [if_pos c28] at H
                      have c28b0 : (t225 == 0) = true := beq_iff_eq.mpr c28
                      have c28b1 : (t225 != 0) = false := bne_eq_false_iff_eq.mpr c28
                      clear c28
                      by_cases c29 : t224.toList = a0.toList
                      · rw [if_pos c29] at H
                        have c29b0 : (t224.toList == a0.toList) = true := beq_iff_eq.mpr c29
                        have c29b1 : (t224.toList != a0.toList) = false := bne_eq_false_iff_eq.mpr c29
                        clear c29
                        have H' := Aside0.mk H
                        clear H
                        obtain ⟨Ao30, co30, eo30⟩ := Kd.R_slice HO_7.out
                        subst eo30
                        go_wp2_with (first | (go_at_call 17; (with_reducible refine (page_Fill.calls kj16 (a0.size : Int) _ _ t215 t224 t225 _ ?side1 ?side2 A27.out).mono ?_); (case side1 => repeat (first | exact (Kd.R_reads' HO_7.out).2.2 | (with_reducible refine Kd.C_alloc ?_ _) | (with_reducible refine Kd.C_drewN ?_ _) | (with_reducible refine Kd.C_drew ?_))); (case side2 => exact (Kd.R_reads' HO_7.out).2.1); rintro e w31 ⟨rfl, hb⟩; have n0_ := Aside0.mk (Kd.R_below (by (with_reducible repeat (first | apply Kd.R_alloc | apply Kd.R_drewN | apply Kd.R_drew)); exact HO_7.out) hb); have n1_ := Aside0.mk (Kd.R_below (by (with_reducible repeat (first | apply Kd.R_alloc | apply Kd.R_drewN | apply Kd.R_drew)); exact HO_8.out) hb); have n2_ := Aside0.mk (below_step (by repeat (first | (with_reducible first | exact HB.out | apply below_alloc | apply pw_below_drewN | apply below_drew1) | exact HB.out)) hb); clear HO_7; clear HO_8; clear HB; have HO_7 := n0_; have HO_8 := n1_; have HB := n2_; clear n0_ n1_ n2_; (try clear hb); (try clear hb2); (try clear hk); (try clear hi)))
                        repeat (go_quiet (first | (go_at_call 17; (with_reducible refine (page_Fill.calls kj16 (a0.size : Int) _ _ t215 t224 t225 _ ?side1 ?side2 A27.out).mono ?_); (case side1 => repeat (first | exact (Kd.R_reads' HO_7.out).2.2 | (with_reducible refine Kd.C_alloc ?_ _) | (with_reducible refine Kd.C_drewN ?_ _) | (with_reducible refine Kd.C_drew ?_))); (case side2 => exact (Kd.R_reads' HO_7.out).2.1); rintro e w31 ⟨rfl, hb⟩; have n0_ := Aside0.mk (Kd.R_below (by (with_reducible repeat (first | apply Kd.R_alloc | apply Kd.R_drewN | apply Kd.R_drew)); exact HO_7.out) hb); have n1_ := Aside0.mk (Kd.R_below (by (with_reducible repeat (first | apply Kd.R_alloc | apply Kd.R_drewN | apply Kd.R_drew)); exact HO_8.out) hb); have n2_ := Aside0.mk (below_step (by repeat (first | (with_reducible first | exact HB.out | apply below_alloc | apply pw_below_drewN | apply below_drew1) | exact HB.out)) hb); clear HO_7; clear HO_8; clear HB; have HO_7 := n0_; have HO_8 := n1_; have HB := n2_; clear n0_ n1_ n2_; (try clear hb); (try clear hb2); (try clear hk); (try clear hi))); try go_wp2_with (first | (go_at_call 17; (with_reducible refine (page_Fill.calls kj16 (a0.size : Int) _ _ t215 t224 t225 _ ?side1 ?side2 A27.out).mono ?_); (case side1 => repeat (first | exact (Kd.R_reads' HO_7.out).2.2 | (with_reducible refine Kd.C_alloc ?_ _) | (with_reducible refine Kd.C_drewN ?_ _) | (with_reducible refine Kd.C_drew ?_))); (case side2 => exact (Kd.R_reads' HO_7.out).2.1); rintro e w31 ⟨rfl, hb⟩; have n0_ := Aside0.mk (Kd.R_below (by (with_reducible repeat (first | apply Kd.R_alloc | apply Kd.R_drewN | apply Kd.R_drew)); exact HO_7.out) hb); have n1_ := Aside0.mk (Kd.R_below (by (with_reducible repeat (first | apply Kd.R_alloc | apply Kd.R_drewN | apply Kd.R_drew)); exact HO_8.out) hb); have n2_ := Aside0.mk (below_step (by repeat (first | (with_reducible first | exact HB.out | apply below_alloc | apply pw_below_drewN | apply below_drew1) | exact HB.out)) hb); clear HO_7; clear HO_8; clear HB; have HO_7 := n0_; have HO_8 := n1_; have HB := n2_; clear n0_ n1_ n2_; (try clear hb); (try clear hb2); (try clear hk); (try clear hi))))
                        go_meet
                        case rel => exact ⟨_, H', ⟨by have := HJ6.out; have := HJ16.out; first | omega | exact Nat.le_refl _⟩, ⟨by (with_reducible repeat (first | apply Kd.R_alloc | apply Kd.R_drewN | apply Kd.R_drew)); exact Kd.R_mono HO_8.out (fun _ hk => trivial)⟩, ⟨by repeat (first | (with_reducible first | exact HB.out | apply below_alloc | apply pw_below_drewN | apply below_drew1) | exact HB.out)⟩⟩
                      · rw [if_neg c29] at H
                        have c29b0 : (t224.toList == a0.toList) = false := beq_eq_false_iff_ne.mpr c29
                        have c29b1 : (t224.toList != a0.toList) = true := bne_iff_ne.mpr c29
                        obtain rfl := Option.some.inj H
                        obtain ⟨Ao32, co32, eo32⟩ := Kd.R_slice HO_7.out
                        subst eo32
                        go_wp2_with (first | (go_at_call 17; (with_reducible refine (page_Fill.calls kj16 (a0.size : Int) _ _ t215 t224 t225 _ ?side1 ?side2 A27.out).mono ?_); (case side1 => repeat (first | exact (Kd.R_reads' HO_7.out).2.2 | (with_reducible refine Kd.C_alloc ?_ _) | (with_reducible refine Kd.C_drewN ?_ _) | (with_reducible refine Kd.C_drew ?_))); (case side2 => exact (Kd.R_reads' HO_7.out).2.1); rintro e w33 ⟨rfl, hb⟩; have n0_ := Aside0.mk (Kd.R_below (by (with_reducible repeat (first | apply Kd.R_alloc | apply Kd.R_drewN | apply Kd.R_drew)); exact HO_7.out) hb); have n1_ := Aside0.mk (Kd.R_below (by (with_reducible repeat (first | apply Kd.R_alloc | apply Kd.R_drewN | apply Kd.R_drew)); exact HO_8.out) hb); have n2_ := Aside0.mk (below_step (by repeat (first | (with_reducible first | exact HB.out | apply below_alloc | apply pw_below_drewN | apply below_drew1) | exact HB.out)) hb); clear HO_7; clear HO_8; clear HB; have HO_7 := n0_; have HO_8 := n1_; have HB := n2_; clear n0_ n1_ n2_; (try clear hb); (try clear hb2); (try clear hk); (try clear hi)))
                        repeat (go_quiet (first | (go_at_call 17; (with_reducible refine (page_Fill.calls kj16 (a0.size : Int) _ _ t215 t224 t225 _ ?side1 ?side2 A27.out).mono ?_); (case side1 => repeat (first | exact (Kd.R_reads' HO_7.out).2.2 | (with_reducible refine Kd.C_alloc ?_ _) | (with_reducible refine Kd.C_drewN ?_ _) | (with_reducible refine Kd.C_drew ?_))); (case side2 => exact (Kd.R_reads' HO_7.out).2.1); rintro e w33 ⟨rfl, hb⟩; have n0_ := Aside0.mk (Kd.R_below (by (with_reducible repeat (first | apply Kd.R_alloc | apply Kd.R_drewN | apply Kd.R_drew)); exact HO_7.out) hb); have n1_ := Aside0.mk (Kd.R_below (by (with_reducible repeat (first | apply Kd.R_alloc | apply Kd.R_drewN | apply Kd.R_drew)); exact HO_8.out) hb); have n2_ := Aside0.mk (below_step (by repeat (first | (with_reducible first | exact HB.out | apply below_alloc | apply pw_below_drewN | apply below_drew1) | exact HB.out)) hb); clear HO_7; clear HO_8; clear HB; have HO_7 := n0_; have HO_8 := n1_; have HB := n2_; clear n0_ n1_ n2_; (try clear hb); (try clear hb2); (try clear hk); (try clear hi))); try go_wp2_with (first | (go_at_call 17; (with_reducible refine (page_Fill.calls kj16 (a0.size : Int) _ _ t215 t224 t225 _ ?side1 ?side2 A27.out).mono ?_); (case side1 => repeat (first | exact (Kd.R_reads' HO_7.out).2.2 | (with_reducible refine Kd.C_alloc ?_ _) | (with_reducible refine Kd.C_drewN ?_ _) | (with_reducible refine Kd.C_drew ?_))); (case side2 => exact (Kd.R_reads' HO_7.out).2.1); rintro e w33 ⟨rfl, hb⟩; have n0_ := Aside0.mk (Kd.R_below (by (with_reducible repeat (first | apply Kd.R_alloc | apply Kd.R_drewN | apply Kd.R_drew)); exact HO_7.out) hb); have n1_ := Aside0.mk (Kd.R_below (by (with_reducible repeat (first | apply Kd.R_alloc | apply Kd.R_drewN | apply Kd.R_drew)); exact HO_8.out) hb); have n2_ := Aside0.mk (below_step (by repeat (first | (with_reducible first | exact HB.out | apply below_alloc | apply pw_below_drewN | apply below_drew1) | exact HB.out)) hb); clear HO_7; clear HO_8; clear HB; have HO_7 := n0_; have HO_8 := n1_; have HB := n2_; clear n0_ n1_ n2_; (try clear hb); (try clear hb2); (try clear hk); (try clear hi))))
                        go_ret
                        exact ⟨by first | rfl | (simp [errW_none, errW_some] <;> rfl) | (simp [*, errW_none, errW_some] <;> rfl), by repeat (first | (with_reducible first | exact HB.out | apply below_alloc | apply pw_below_drewN | apply below_drew1) | exact HB.out)⟩
                    · rw [if_neg c28] at H
                      have c28b0 : (t225 == 0) = false := beq_eq_false_iff_ne.mpr c28
                      have c28b1 : (t225 != 0) = true := bne_iff_ne.mpr c28
                      obtain rfl := Option.some.inj H
                      obtain ⟨Ao34, co34, eo34⟩ := Kd.R_slice HO_7.out
                      subst eo34
                      go_wp2_with (first | (go_at_call 17; (with_reducible refine (page_Fill.calls kj16 (a0.size : Int) _ _ t215 t224 t225 _ ?side1 ?side2 A27.out).mono ?_); (case side1 => repeat (first | exact (Kd.R_reads' HO_7.out).2.2 | (with_reducible refine Kd.C_alloc ?_ _) | (with_reducible refine Kd.C_drewN ?_ _) | (with_reducible refine Kd.C_drew ?_))); (case side2 => exact (Kd.R_reads' HO_7.out).2.1); rintro e w35 ⟨rfl, hb⟩; have n0_ := Aside0.mk (Kd.R_below (by (with_reducible repeat (first | apply Kd.R_alloc | apply Kd.R_drewN | apply Kd.R_drew)); exact HO_7.out) hb); have n1_ := Aside0.mk (Kd.R_below (by (with_reducible repeat (first | apply Kd.R_alloc | apply Kd.R_drewN | apply Kd.R_drew)); exact HO_8.out) hb); have n2_ := Aside0.mk (below_step (by repeat (first | (with_reducible first | exact HB.out | apply below_alloc | apply pw_below_drewN | apply below_drew1) | exact HB.out)) hb); clear HO_7; clear HO_8; clear HB; have HO_7 := n0_; have HO_8 := n1_; have HB := n2_; clear n0_ n1_ n2_; (try clear hb); (try clear hb2); (try clear hk); (try clear hi)))
                      repeat (go_quiet (first | (go_at_call 17; (with_reducible refine (page_Fill.calls kj16 (a0.size : Int) _ _ t215 t224 t225 _ ?side1 ?side2 A27.out).mono ?_); (case side1 => repeat (first | exact (Kd.R_reads' HO_7.out).2.2 | (with_reducible refine Kd.C_alloc ?_ _) | (with_reducible refine Kd.C_drewN ?_ _) | (with_reducible refine Kd.C_drew ?_))); (case side2 => exact (Kd.R_reads' HO_7.out).2.1); rintro e w35 ⟨rfl, hb⟩; have n0_ := Aside0.mk (Kd.R_below (by (with_reducible repeat (first | apply Kd.R_alloc | apply Kd.R_drewN | apply Kd.R_drew)); exact HO_7.out) hb); have n1_ := Aside0.mk (Kd.R_below (by (with_reducible repeat (first | apply Kd.R_alloc | apply Kd.R_drewN | apply Kd.R_drew)); exact HO_8.out) hb); have n2_ := Aside0.mk (below_step (by repeat (first | (with_reducible first | exact HB.out | apply below_alloc | apply pw_below_drewN | apply below_drew1) | exact HB.out)) hb); clear HO_7; clear HO_8; clear HB; have HO_7 := n0_; have HO_8 := n1_; have HB := n2_; clear n0_ n1_ n2_; (try clear hb); (try clear hb2); (try clear hk); (try clear hi))); try go_wp2_with (first | (go_at_call 17; (with_reducible refine (page_Fill.calls kj16 (a0.size : Int) _ _ t215 t224 t225 _ ?side1 ?side2 A27.out).mono ?_); (case side1 => repeat (first | exact (Kd.R_reads' HO_7.out).2.2 | (with_reducible refine Kd.C_alloc ?_ _) | (with_reducible refine Kd.C_drewN ?_ _) | (with_reducible refine Kd.C_drew ?_))); (case side2 => exact (Kd.R_reads' HO_7.out).2.1); rintro e w35 ⟨rfl, hb⟩; have n0_ := Aside0.mk (Kd.R_below (by (with_reducible repeat (first | apply Kd.R_alloc | apply Kd.R_drewN | apply Kd.R_drew)); exact HO_7.out) hb); have n1_ := Aside0.mk (Kd.R_below (by (with_reducible repeat (first | apply Kd.R_alloc | apply Kd.R_drewN | apply Kd.R_drew)); exact HO_8.out) hb); have n2_ := Aside0.mk (below_step (by repeat (first | (with_reducible first | exact HB.out | apply below_alloc | apply pw_below_drewN | apply below_drew1) | exact HB.out)) hb); clear HO_7; clear HO_8; clear HB; have HO_7 := n0_; have HO_8 := n1_; have HB := n2_; clear n0_ n1_ n2_; (try clear hb); (try clear hb2); (try clear hk); (try clear hi))))
                      go_ret
                      exact ⟨by first | rfl | (simp [errW_none, errW_some] <;> rfl) | (simp [*, errW_none, errW_some] <;> rfl), by repeat (first | (with_reducible first | exact HB.out | apply below_alloc | apply pw_below_drewN | apply below_drew1) | exact HB.out)⟩
                  · rw [if_neg c26] at H
                    have c26b0 : (t216 == 0) = false := beq_eq_false_iff_ne.mpr c26
                    have c26b1 : (t216 != 0) = true := bne_iff_ne.mpr c26
                    (first | rw [c26b0] | (simp only [i64_w, i32_w]; rw [c26b0]) | skip)
                    have H' := Aside0.mk H
                    clear H
                    go_wp2
                    repeat (go_quiet (fail); try go_wp2)
                    go_meet
                    case rel => exact ⟨_, H', ⟨by have := HJ6.out; have := HJ16.out; first | omega | exact Nat.le_refl _⟩, ⟨by (with_reducible repeat (first | apply Kd.R_alloc | apply Kd.R_drewN | apply Kd.R_drew)); exact Kd.R_mono HO_8.out (fun _ hk => trivial)⟩, ⟨by repeat (first | (with_reducible first | exact HB.out | apply below_alloc | apply pw_below_drewN | apply below_drew1) | exact HB.out)⟩⟩
                case rest =>
                  clear HC25
                  try clear c1
                  try clear c2
                  try clear c2b0
                  try clear c2b1
                  try clear p2
                  try clear c5
                  try clear c9
                  try clear c9b0
                  try clear c9b1
                  try clear c10
                  try clear c10b0
                  try clear c10b1
                  try clear c14
                  try clear c20
                  try clear c20b0
                  try clear c20b1
                  try clear c24
                  try clear c26
                  try clear c26b0
                  try clear c26b1
                  try clear c28
                  try clear c28b0
                  try clear c28b1
                  try clear c29
                  try clear c29b0
                  try clear c29b1
                  try clear p2
                  obtain ⟨kq, HA, HJ24, HO_8, HB⟩ := hcut
                  cases kq with
                  | zero => exact absurd HA.out (by simp [ringworklaw06_PageReads.j2])
                  | succ kj24 =>
                    have H := HA.out
                    clear HA
                    simp only [ringworklaw06_PageReads.j2] at H
                    replace H := Option.bind_eq_some_iff.mp H
                    obtain ⟨⟨t226, t227⟩, A360, H⟩ := H
                    replace H : (if t227 = t220 then (ringworklaw06_PageReads.j3 kj24 a0 t219 t226 ((t226.length : Int) != (t219.length : Int))) else (ringworklaw06_PageReads.j3 kj24 a0 t219 t226 true)) = some r := H
                    have A36 := Aside0.mk A360
                    clear A360
                    have HC37 := Aside0.mk H
                    clear H
                    go_upto_region 16 with (first | (go_at_call 24; (with_reducible refine (page_Lines.calls a0 t226 t227 _ A36.out).mono ?_); rintro e w38 ⟨v228, rfl, ho0, hb⟩; have n0_ := Aside0.mk (Kd.R_below (by (with_reducible repeat (first | apply Kd.R_alloc | apply Kd.R_drewN | apply Kd.R_drew)); exact HO_8.out) hb); have n1_ := Aside0.mk (Kd.R_lower ho0 (below_size (by repeat (first | (with_reducible first | exact HB.out | apply below_alloc | apply pw_below_drewN | apply below_drew1) | exact HB.out)))); have n2_ := Aside0.mk (below_step (by repeat (first | (with_reducible first | exact HB.out | apply below_alloc | apply pw_below_drewN | apply below_drew1) | exact HB.out)) hb); clear HO_8; clear HB; have HO_8 := n0_; have HO229 := n1_; have HB := n2_; clear n0_ n1_ n2_; (try clear hb); (try clear hb2); (try clear hk); (try clear hi); (try clear ho0)))
                    repeat (go_quiet (first | (go_at_call 24; (with_reducible refine (page_Lines.calls a0 t226 t227 _ A36.out).mono ?_); rintro e w38 ⟨v228, rfl, ho0, hb⟩; have n0_ := Aside0.mk (Kd.R_below (by (with_reducible repeat (first | apply Kd.R_alloc | apply Kd.R_drewN | apply Kd.R_drew)); exact HO_8.out) hb); have n1_ := Aside0.mk (Kd.R_lower ho0 (below_size (by repeat (first | (with_reducible first | exact HB.out | apply below_alloc | apply pw_below_drewN | apply below_drew1) | exact HB.out)))); have n2_ := Aside0.mk (below_step (by repeat (first | (with_reducible first | exact HB.out | apply below_alloc | apply pw_below_drewN | apply below_drew1) | exact HB.out)) hb); clear HO_8; clear HB; have HO_8 := n0_; have HO229 := n1_; have HB := n2_; clear n0_ n1_ n2_; (try clear hb); (try clear hb2); (try clear hk); (try clear hi); (try clear ho0))); go_upto_region 16 with (first | (go_at_call 24; (with_reducible refine (page_Lines.calls a0 t226 t227 _ A36.out).mono ?_); rintro e w38 ⟨v228, rfl, ho0, hb⟩; have n0_ := Aside0.mk (Kd.R_below (by (with_reducible repeat (first | apply Kd.R_alloc | apply Kd.R_drewN | apply Kd.R_drew)); exact HO_8.out) hb); have n1_ := Aside0.mk (Kd.R_lower ho0 (below_size (by repeat (first | (with_reducible first | exact HB.out | apply below_alloc | apply pw_below_drewN | apply below_drew1) | exact HB.out)))); have n2_ := Aside0.mk (below_step (by repeat (first | (with_reducible first | exact HB.out | apply below_alloc | apply pw_below_drewN | apply below_drew1) | exact HB.out)) hb); clear HO_8; clear HB; have HO_8 := n0_; have HO229 := n1_; have HB := n2_; clear n0_ n1_ n2_; (try clear hb); (try clear hb2); (try clear hk); (try clear hi); (try clear ho0))))
                    (try simp only [Act.put, List.setIfInBounds_toArray, List.set_cons_zero, List.set_cons_succ])
                    go_cut [93] (fun v93 wc => ∃ (kq : Nat) (x93_36 : Bool), v93 = .bool x93_36 ∧ Aside0 (ringworklaw06_PageReads.j3 kq a0 t219 t226 x93_36 = some r) ∧ Aside0 (kq ≤ kj24) ∧ Aside0 (Kd.R k45 45 wc w.heap.size (fun _ => True) v221 t219) ∧ Aside0 (Kd.R (Kd.int .i64) 3 wc w.heap.size (fun _ => True) v228 t226) ∧ Aside0 (Below w.heap.size w wc))
                    case first =>
                      have H := HC37.out
                      clear HC37
                      by_cases c39 : t227 = t220
                      · rw [if_pos c39] at H
                        have c39b0 : (t227 == t220) = true := beq_iff_eq.mpr c39
                        have c39b1 : (t227 != t220) = false := bne_eq_false_iff_eq.mpr c39
                        clear c39
                        (first | rw [c39b0] | (simp only [i64_w, i32_w]; rw [c39b0]) | skip)
                        have H' := Aside0.mk H
                        clear H
                        obtain ⟨Ao40, co40, eo40⟩ := Kd.R_slice HO229.out
                        subst eo40
                        obtain ⟨Ao41, co41, eo41⟩ := Kd.R_slice HO_8.out
                        subst eo41
                        go_wp2
                        repeat (go_quiet (fail); try go_wp2)
                        go_meet
                        case rel => exact ⟨_, (((t226.length : Int) != (t219.length : Int))), (by first | rfl | (simp; done) | (simp [*]; done)), H', ⟨by have := HJ6.out; have := HJ16.out; have := HJ24.out; first | omega | exact Nat.le_refl _⟩, ⟨by (with_reducible repeat (first | apply Kd.R_alloc | apply Kd.R_drewN | apply Kd.R_drew)); exact HO_8.out⟩, ⟨by (with_reducible repeat (first | apply Kd.R_alloc | apply Kd.R_drewN | apply Kd.R_drew)); exact HO229.out⟩, ⟨by repeat (first | (with_reducible first | exact HB.out | apply below_alloc | apply pw_below_drewN | apply below_drew1) | exact HB.out)⟩⟩
                      · rw [if_neg c39] at H
                        have c39b0 : (t227 == t220) = false := beq_eq_false_iff_ne.mpr c39
                        have c39b1 : (t227 != t220) = true := bne_iff_ne.mpr c39
                        (first | rw [c39b0] | (simp only [i64_w, i32_w]; rw [c39b0]) | skip)
                        have H' := Aside0.mk H
                        clear H
                        go_wp2
                        repeat (go_quiet (fail); try go_wp2)
                        go_meet
                        case rel => exact ⟨_, (true), (by first | rfl | (simp; done) | (simp [*]; done)), H', ⟨by have := HJ6.out; have := HJ16.out; have := HJ24.out; first | omega | exact Nat.le_refl _⟩, ⟨by (with_reducible repeat (first | apply Kd.R_alloc | apply Kd.R_drewN | apply Kd.R_drew)); exact HO_8.out⟩, ⟨by (with_reducible repeat (first | apply Kd.R_alloc | apply Kd.R_drewN | apply Kd.R_drew)); exact HO229.out⟩, ⟨by repeat (first | (with_reducible first | exact HB.out | apply below_alloc | apply pw_below_drewN | apply below_drew1) | exact HB.out)⟩⟩
                    case rest =>
                      clear HC37
                      try clear c1
                      try clear c2
                      try clear c2b0
                      try clear c2b1
                      try clear p2
                      try clear c3
                      try clear c5
                      try clear c9
                      try clear c9b0
                      try clear c9b1
                      try clear c10
                      try clear c10b0
                      try clear c10b1
                      try clear c14
                      try clear c20
                      try clear c20b0
                      try clear c20b1
                      try clear c24
                      try clear c26
                      try clear c26b0
                      try clear c26b1
                      try clear c28
                      try clear c28b0
                      try clear c28b1
                      try clear c29
                      try clear c29b0
                      try clear c29b1
                      try clear c39
                      try clear c39b0
                      try clear c39b1
                      try clear p2
                      obtain ⟨kq, x93_36, rfl, HA, HJ36, HO_8, HO_11, HB⟩ := hcut
                      cases kq with
                      | zero => exact absurd HA.out (by simp [ringworklaw06_PageReads.j3])
                      | succ kj36 =>
                        have H := HA.out
                        clear HA
                        simp only [ringworklaw06_PageReads.j3] at H
                        by_cases c42 : x93_36 = true
                        · subst c42
                          have H1 : (some false) = some r := by rw [if_pos rfl] at H; exact H
                          clear H
                          have H := H1
                          clear H1
                          obtain rfl := Option.some.inj H
                          go_wp2
                          repeat (go_quiet (fail); try go_wp2)
                          go_ret
                          exact ⟨by first | rfl | (simp [errW_none, errW_some] <;> rfl) | (simp [*, errW_none, errW_some] <;> rfl), by repeat (first | (with_reducible first | exact HB.out | apply below_alloc | apply pw_below_drewN | apply below_drew1) | exact HB.out)⟩
                        · replace c42 := Bool.eq_false_iff.mpr c42
                          subst c42
                          have H1 : (ringworklaw06_PageReads.l0 kj36 a0 t219 t226 0) = some r := by rw [if_neg (show ¬ (false = true) by decide)] at H; exact H
                          clear H
                          have H := H1
                          clear H1
                          have H' := Aside0.mk H
                          clear H
                          go_wp2
                          repeat (go_quiet (fail); try go_wp2)
                          go_loopg [12] kj36 (fun kq v12 w' => ∃ (x12_5 : Int), v12 = .int .i64 x12_5 ∧ Aside0 (ringworklaw06_PageReads.l0 kq a0 t219 t226 x12_5 = some r) ∧ Aside0 (kq ≤ kj36) ∧ Aside0 (Kd.R k45 45 w' w.heap.size (fun _ => True) v221 t219) ∧ Aside0 (Kd.R (Kd.int .i64) 3 w' w.heap.size (fun _ => True) v228 t226) ∧ Aside0 (Below w.heap.size w w'))
                          case atStart => exact ⟨(0), (by first | rfl | (simp; done) | (simp [*]; done)), H', ⟨Nat.le_refl _⟩, ⟨by (with_reducible repeat (first | apply Kd.R_alloc | apply Kd.R_drewN | apply Kd.R_drew)); exact HO_8.out⟩, ⟨by (with_reducible repeat (first | apply Kd.R_alloc | apply Kd.R_drewN | apply Kd.R_drew)); exact HO_11.out⟩, ⟨by repeat (first | (with_reducible first | exact HB.out | apply below_alloc | apply pw_below_drewN | apply below_drew1) | exact HB.out)⟩⟩
                          case round =>
                            clear H'
                            try clear c1
                            try clear c2
                            try clear c2b0
                            try clear c2b1
                            try clear p2
                            try clear c3
                            try clear c4
                            try clear c5
                            try clear c9
                            try clear c9b0
                            try clear c9b1
                            try clear c10
                            try clear c10b0
                            try clear c10b1
                            try clear c14
                            try clear c20
                            try clear c20b0
                            try clear c20b1
                            try clear c24
                            try clear c26
                            try clear c26b0
                            try clear c26b1
                            try clear c28
                            try clear c28b0
                            try clear c28b1
                            try clear c29
                            try clear c29b0
                            try clear c29b1
                            try clear c39
                            try clear c39b0
                            try clear c39b1
                            try clear c42
                            try clear p2
                            obtain ⟨x12_5, rfl, HA, HK5, HO_8, HO_11, HB⟩ := hrel
                            cases gk with
                            | zero => exact absurd HA.out (by simp [ringworklaw06_PageReads.l0])
                            | succ k5 =>
                              have H := HA.out
                              clear HA
                              simp only [ringworklaw06_PageReads.l0] at H
                              by_cases c43 : x12_5 < (t226.length : Int)
                              · rw [if_pos c43] at H
                                have c43b0 : decide (x12_5 < (t226.length : Int)) = true := decide_eq_true c43
                                clear c43
                                by_cases c44 : 0 ≤ x12_5
                                · rw [if_pos c44] at H
                                  have c44b0 : decide (0 ≤ x12_5) = true := decide_eq_true c44
                                  clear c44
                                  by_cases c45 : x12_5 < (t219.length : Int)
                                  · rw [if_pos c45] at H
                                    have c45b0 : decide (x12_5 < (t219.length : Int)) = true := decide_eq_true c45
                                    clear c45
                                    by_cases c46 : (rd t226 x12_5) = ((rd_T45 t219 x12_5).f0)
                                    · rw [if_pos c46] at H
                                      have c46b0 : ((rd t226 x12_5) == ((rd_T45 t219 x12_5).f0)) = true := beq_iff_eq.mpr c46
                                      have c46b1 : ((rd t226 x12_5) != ((rd_T45 t219 x12_5).f0)) = false := bne_eq_false_iff_eq.mpr c46
                                      clear c46
                                      have H' := Aside0.mk H
                                      clear H
                                      obtain ⟨Ao47, co47, eo47⟩ := Kd.R_slice HO_11.out
                                      subst eo47
                                      have p230 : 0 ≤ (x12_5 : Int) := of_decide_eq_true (by first | (with_reducible assumption) | assumption)
                                      have q230 : x12_5 < (t226.length : Int) := of_decide_eq_true (by first | (with_reducible assumption) | assumption)
                                      obtain ⟨ad230, e230, hx230_0⟩ := Kd.at_int (Kd.R_reads' HO_11.out).2.2 x12_5 p230 q230
                                      cases e230
                                      replace p230 := eq_true p230
                                      replace q230 := eq_true q230
                                      obtain ⟨Ao48, co48, eo48⟩ := Kd.R_slice HO_8.out
                                      subst eo48
                                      have p231 : 0 ≤ (x12_5 : Int) := of_decide_eq_true (by first | (with_reducible assumption) | assumption)
                                      have q231 : x12_5 < (t219.length : Int) := of_decide_eq_true (by first | (with_reducible assumption) | assumption)
                                      obtain ⟨ad231, e231, hx231_0, hx231_1⟩ := at_T45 (Kd.R_reads' HO_8.out).2.2 x12_5 p231 q231
                                      cases e231
                                      replace p231 := eq_true p231
                                      replace q231 := eq_true q231
                                      go_wp2
                                      repeat (go_quiet (fail); try go_wp2)
                                      go_roundg k5
                                      case measure => have := HJ6.out; have := HJ16.out; have := HJ24.out; have := HJ36.out; have := HK5.out; omega
                                      case rel => exact ⟨(wrap64 (x12_5 + 1)), (by first | rfl | (simp; done) | (simp [*]; done)), H', ⟨by have := HJ6.out; have := HJ16.out; have := HJ24.out; have := HJ36.out; have := HK5.out; omega⟩, ⟨by (with_reducible repeat (first | apply Kd.R_alloc | apply Kd.R_drewN | apply Kd.R_drew)); exact HO_8.out⟩, ⟨by (with_reducible repeat (first | apply Kd.R_alloc | apply Kd.R_drewN | apply Kd.R_drew)); exact HO_11.out⟩, ⟨by repeat (first | (with_reducible first | exact HB.out | apply below_alloc | apply pw_below_drewN | apply below_drew1) | exact HB.out)⟩⟩
                                    · rw [if_neg c46] at H
                                      have c46b0 : ((rd t226 x12_5) == ((rd_T45 t219 x12_5).f0)) = false := beq_eq_false_iff_ne.mpr c46
                                      have c46b1 : ((rd t226 x12_5) != ((rd_T45 t219 x12_5).f0)) = true := bne_iff_ne.mpr c46
                                      obtain rfl := Option.some.inj H
                                      obtain ⟨Ao49, co49, eo49⟩ := Kd.R_slice HO_11.out
                                      subst eo49
                                      have p230 : 0 ≤ (x12_5 : Int) := of_decide_eq_true (by first | (with_reducible assumption) | assumption)
                                      have q230 : x12_5 < (t226.length : Int) := of_decide_eq_true (by first | (with_reducible assumption) | assumption)
                                      obtain ⟨ad230, e230, hx230_0⟩ := Kd.at_int (Kd.R_reads' HO_11.out).2.2 x12_5 p230 q230
                                      cases e230
                                      replace p230 := eq_true p230
                                      replace q230 := eq_true q230
                                      obtain ⟨Ao50, co50, eo50⟩ := Kd.R_slice HO_8.out
                                      subst eo50
                                      have p231 : 0 ≤ (x12_5 : Int) := of_decide_eq_true (by first | (with_reducible assumption) | assumption)
                                      have q231 : x12_5 < (t219.length : Int) := of_decide_eq_true (by first | (with_reducible assumption) | assumption)
                                      obtain ⟨ad231, e231, hx231_0, hx231_1⟩ := at_T45 (Kd.R_reads' HO_8.out).2.2 x12_5 p231 q231
                                      cases e231
                                      replace p231 := eq_true p231
                                      replace q231 := eq_true q231
                                      go_wp2
                                      repeat (go_quiet (fail); try go_wp2)
                                      go_ret
                                      exact ⟨by first | rfl | (simp [errW_none, errW_some] <;> rfl) | (simp [*, errW_none, errW_some] <;> rfl), by repeat (first | (with_reducible first | exact HB.out | apply below_alloc | apply pw_below_drewN | apply below_drew1) | exact HB.out)⟩
                                  · rw [if_neg c45] at H
                                    exact absurd H (by simp)
                                · rw [if_neg c44] at H
                                  exact absurd H (by simp)
                              · rw [if_neg c43] at H
                                have c43b0 : decide (x12_5 < (t226.length : Int)) = false := decide_eq_false c43
                                clear c43
                                replace H := Option.bind_eq_some_iff.mp H
                                obtain ⟨⟨t232, t233⟩, A510, H⟩ := H
                                replace H : ((ringworkref06_Free.f k5 a0).bind fun bt234 => (if t232 = bt234.1 then (ringworklaw06_PageReads.j5 k5 a0 (t233 != bt234.2)) else (ringworklaw06_PageReads.j5 k5 a0 true))) = some r := H
                                have A51 := Aside0.mk A510
                                clear A510
                                replace H := Option.bind_eq_some_iff.mp H
                                obtain ⟨⟨t234, t235⟩, A520, H⟩ := H
                                replace H : (if t232 = t234 then (ringworklaw06_PageReads.j5 k5 a0 (t233 != t235)) else (ringworklaw06_PageReads.j5 k5 a0 true)) = some r := H
                                have A52 := Aside0.mk A520
                                clear A520
                                have HC53 := Aside0.mk H
                                clear H
                                obtain ⟨Ao54, co54, eo54⟩ := Kd.R_slice HO_11.out
                                subst eo54
                                go_upto_region 25 with (first | (go_at_call 25; (with_reducible refine (page_Free.calls a0 t232 t233 _ A51.out).mono ?_); rintro e w55 ⟨rfl, hb⟩; have n0_ := Aside0.mk (Kd.R_below (by (with_reducible repeat (first | apply Kd.R_alloc | apply Kd.R_drewN | apply Kd.R_drew)); exact HO_8.out) hb); have n1_ := Aside0.mk (Kd.R_below (by (with_reducible repeat (first | apply Kd.R_alloc | apply Kd.R_drewN | apply Kd.R_drew)); exact HO_11.out) hb); have n2_ := Aside0.mk (below_step (by repeat (first | (with_reducible first | exact HB.out | apply below_alloc | apply pw_below_drewN | apply below_drew1) | exact HB.out)) hb); clear HO_8; clear HO_11; clear HB; have HO_8 := n0_; have HO_11 := n1_; have HB := n2_; clear n0_ n1_ n2_; (try clear hb); (try clear hb2); (try clear hk); (try clear hi)) | (go_at_call 26; (with_reducible refine (ringworkref06_Free.calls k5 a0 t234 t235 _ A52.out).mono ?_); rintro e w56 ⟨rfl, hb⟩; have n0_ := Aside0.mk (Kd.R_below (by (with_reducible repeat (first | apply Kd.R_alloc | apply Kd.R_drewN | apply Kd.R_drew)); exact HO_8.out) hb); have n1_ := Aside0.mk (Kd.R_below (by (with_reducible repeat (first | apply Kd.R_alloc | apply Kd.R_drewN | apply Kd.R_drew)); exact HO_11.out) hb); have n2_ := Aside0.mk (below_step (by repeat (first | (with_reducible first | exact HB.out | apply below_alloc | apply pw_below_drewN | apply below_drew1) | exact HB.out)) hb); clear HO_8; clear HO_11; clear HB; have HO_8 := n0_; have HO_11 := n1_; have HB := n2_; clear n0_ n1_ n2_; (try clear hb); (try clear hb2); (try clear hk); (try clear hi)))
                                repeat (go_quiet (first | (go_at_call 25; (with_reducible refine (page_Free.calls a0 t232 t233 _ A51.out).mono ?_); rintro e w55 ⟨rfl, hb⟩; have n0_ := Aside0.mk (Kd.R_below (by (with_reducible repeat (first | apply Kd.R_alloc | apply Kd.R_drewN | apply Kd.R_drew)); exact HO_8.out) hb); have n1_ := Aside0.mk (Kd.R_below (by (with_reducible repeat (first | apply Kd.R_alloc | apply Kd.R_drewN | apply Kd.R_drew)); exact HO_11.out) hb); have n2_ := Aside0.mk (below_step (by repeat (first | (with_reducible first | exact HB.out | apply below_alloc | apply pw_below_drewN | apply below_drew1) | exact HB.out)) hb); clear HO_8; clear HO_11; clear HB; have HO_8 := n0_; have HO_11 := n1_; have HB := n2_; clear n0_ n1_ n2_; (try clear hb); (try clear hb2); (try clear hk); (try clear hi)) | (go_at_call 26; (with_reducible refine (ringworkref06_Free.calls k5 a0 t234 t235 _ A52.out).mono ?_); rintro e w56 ⟨rfl, hb⟩; have n0_ := Aside0.mk (Kd.R_below (by (with_reducible repeat (first | apply Kd.R_alloc | apply Kd.R_drewN | apply Kd.R_drew)); exact HO_8.out) hb); have n1_ := Aside0.mk (Kd.R_below (by (with_reducible repeat (first | apply Kd.R_alloc | apply Kd.R_drewN | apply Kd.R_drew)); exact HO_11.out) hb); have n2_ := Aside0.mk (below_step (by repeat (first | (with_reducible first | exact HB.out | apply below_alloc | apply pw_below_drewN | apply below_drew1) | exact HB.out)) hb); clear HO_8; clear HO_11; clear HB; have HO_8 := n0_; have HO_11 := n1_; have HB := n2_; clear n0_ n1_ n2_; (try clear hb); (try clear hb2); (try clear hk); (try clear hi))); go_upto_region 25 with (first | (go_at_call 25; (with_reducible refine (page_Free.calls a0 t232 t233 _ A51.out).mono ?_); rintro e w55 ⟨rfl, hb⟩; have n0_ := Aside0.mk (Kd.R_below (by (with_reducible repeat (first | apply Kd.R_alloc | apply Kd.R_drewN | apply Kd.R_drew)); exact HO_8.out) hb); have n1_ := Aside0.mk (Kd.R_below (by (with_reducible repeat (first | apply Kd.R_alloc | apply Kd.R_drewN | apply Kd.R_drew)); exact HO_11.out) hb); have n2_ := Aside0.mk (below_step (by repeat (first | (with_reducible first | exact HB.out | apply below_alloc | apply pw_below_drewN | apply below_drew1) | exact HB.out)) hb); clear HO_8; clear HO_11; clear HB; have HO_8 := n0_; have HO_11 := n1_; have HB := n2_; clear n0_ n1_ n2_; (try clear hb); (try clear hb2); (try clear hk); (try clear hi)) | (go_at_call 26; (with_reducible refine (ringworkref06_Free.calls k5 a0 t234 t235 _ A52.out).mono ?_); rintro e w56 ⟨rfl, hb⟩; have n0_ := Aside0.mk (Kd.R_below (by (with_reducible repeat (first | apply Kd.R_alloc | apply Kd.R_drewN | apply Kd.R_drew)); exact HO_8.out) hb); have n1_ := Aside0.mk (Kd.R_below (by (with_reducible repeat (first | apply Kd.R_alloc | apply Kd.R_drewN | apply Kd.R_drew)); exact HO_11.out) hb); have n2_ := Aside0.mk (below_step (by repeat (first | (with_reducible first | exact HB.out | apply below_alloc | apply pw_below_drewN | apply below_drew1) | exact HB.out)) hb); clear HO_8; clear HO_11; clear HB; have HO_8 := n0_; have HO_11 := n1_; have HB := n2_; clear n0_ n1_ n2_; (try clear hb); (try clear hb2); (try clear hk); (try clear hi))))
                                (try simp only [Act.put, List.setIfInBounds_toArray, List.set_cons_zero, List.set_cons_succ])
                                go_cut [127] (fun v127 wc => ∃ (kq : Nat) (x127_52 : Bool), v127 = .bool x127_52 ∧ Aside0 (ringworklaw06_PageReads.j5 kq a0 x127_52 = some r) ∧ Aside0 (kq ≤ k5) ∧ Aside0 (Below w.heap.size w wc))
                                case first =>
                                  have H := HC53.out
                                  clear HC53
                                  by_cases c57 : t232 = t234
                                  · rw [if_pos c57] at H
                                    have c57b0 : (t232 == t234) = true := beq_iff_eq.mpr c57
                                    have c57b1 : (t232 != t234) = false := bne_eq_false_iff_eq.mpr c57
                                    clear c57
                                    (first | rw [c57b0] | (simp only [i64_w, i32_w]; rw [c57b0]) | skip)
                                    have H' := Aside0.mk H
                                    clear H
                                    go_wp2
                                    repeat (go_quiet (fail); try go_wp2)
                                    go_meet
                                    case rel => exact ⟨_, ((t233 != t235)), (by first | rfl | (simp; done) | (simp [*]; done)), H', ⟨by have := HJ6.out; have := HJ16.out; have := HJ24.out; have := HJ36.out; have := HK5.out; first | omega | exact Nat.le_refl _⟩, ⟨by repeat (first | (with_reducible first | exact HB.out | apply below_alloc | apply pw_below_drewN | apply below_drew1) | exact HB.out)⟩⟩
                                  · rw [if_neg c57] at H
                                    have c57b0 : (t232 == t234) = false := beq_eq_false_iff_ne.mpr c57
                                    have c57b1 : (t232 != t234) = true := bne_iff_ne.mpr c57
                                    (first | rw [c57b0] | (simp only [i64_w, i32_w]; rw [c57b0]) | skip)
                                    have H' := Aside0.mk H
                                    clear H
                                    go_wp2
                                    repeat (go_quiet (fail); try go_wp2)
                                    go_meet
                                    case rel => exact ⟨_, (true), (by first | rfl | (simp; done) | (simp [*]; done)), H', ⟨by have := HJ6.out; have := HJ16.out; have := HJ24.out; have := HJ36.out; have := HK5.out; first | omega | exact Nat.le_refl _⟩, ⟨by repeat (first | (with_reducible first | exact HB.out | apply below_alloc | apply pw_below_drewN | apply below_drew1) | exact HB.out)⟩⟩
                                case rest =>
                                  clear HC53
                                  try clear c1
                                  try clear c2
                                  try clear c2b0
                                  try clear c2b1
                                  try clear p2
                                  try clear q2
                                  try clear hx2
                                  try clear c3
                                  try clear c4
                                  try clear c5
                                  try clear p6
                                  try clear c9
                                  try clear c9b0
                                  try clear c9b1
                                  try clear c10
                                  try clear c10b0
                                  try clear c10b1
                                  try clear c14
                                  try clear c20
                                  try clear c20b0
                                  try clear c20b1
                                  try clear p23
                                  try clear q23
                                  try clear hx23
                                  try clear c24
                                  try clear c26
                                  try clear c26b0
                                  try clear c26b1
                                  try clear c28
                                  try clear c28b0
                                  try clear c28b1
                                  try clear c29
                                  try clear c29b0
                                  try clear c29b1
                                  try clear c39
                                  try clear c39b0
                                  try clear c39b1
                                  try clear c42
                                  try clear c43
                                  try clear c43b0
                                  try clear c44
                                  try clear c44b0
                                  try clear c45
                                  try clear c45b0
                                  try clear c46
                                  try clear c46b0
                                  try clear c46b1
                                  try clear c57
                                  try clear c57b0
                                  try clear c57b1
                                  try clear hx230_0
                                  try clear hx231_0
                                  try clear hx231_1
                                  try clear p2
                                  try clear p230
                                  try clear p231
                                  try clear q230
                                  try clear q231
                                  obtain ⟨kq, x127_52, rfl, HA, HJ52, HB⟩ := hcut
                                  cases kq with
                                  | zero => exact absurd HA.out (by simp [ringworklaw06_PageReads.j5])
                                  | succ kj52 =>
                                    have H := HA.out
                                    clear HA
                                    simp only [ringworklaw06_PageReads.j5] at H
                                    by_cases c58 : x127_52 = true
                                    · subst c58
                                      have H1 : (some false) = some r := by rw [if_pos rfl] at H; exact H
                                      clear H
                                      have H := H1
                                      clear H1
                                      obtain rfl := Option.some.inj H
                                      go_wp2
                                      repeat (go_quiet (fail); try go_wp2)
                                      go_ret
                                      exact ⟨by first | rfl | (simp [errW_none, errW_some] <;> rfl) | (simp [*, errW_none, errW_some] <;> rfl), by repeat (first | (with_reducible first | exact HB.out | apply below_alloc | apply pw_below_drewN | apply below_drew1) | exact HB.out)⟩
                                    · replace c58 := Bool.eq_false_iff.mpr c58
                                      subst c58
                                      have H1 : ((page_Next.f a0).bind fun bt236 => ((ringworkref06_Next.f kj52 a0).bind fun bt238 => (if bt236.1 = bt238.1 then (if bt236.2 = bt238.2 then ((ringworklaw06_awake.f kj52).bind fun t240 => (some t240)) else (some false)) else (some false)))) = some r := by rw [if_neg (show ¬ (false = true) by decide)] at H; exact H
                                      clear H
                                      have H := H1
                                      clear H1
                                      replace H := Option.bind_eq_some_iff.mp H
                                      obtain ⟨⟨t236, t237⟩, A590, H⟩ := H
                                      replace H : ((ringworkref06_Next.f kj52 a0).bind fun bt238 => (if t236 = bt238.1 then (if t237 = bt238.2 then ((ringworklaw06_awake.f kj52).bind fun t240 => (some t240)) else (some false)) else (some false))) = some r := H
                                      have A59 := Aside0.mk A590
                                      clear A590
                                      replace H := Option.bind_eq_some_iff.mp H
                                      obtain ⟨⟨t238, t239⟩, A600, H⟩ := H
                                      replace H : (if t236 = t238 then (if t237 = t239 then ((ringworklaw06_awake.f kj52).bind fun t240 => (some t240)) else (some false)) else (some false)) = some r := H
                                      have A60 := Aside0.mk A600
                                      clear A600
                                      by_cases c61 : t236 = t238
                                      · rw [if_pos c61] at H
                                        have c61b0 : (t236 == t238) = true := beq_iff_eq.mpr c61
                                        have c61b1 : (t236 != t238) = false := bne_eq_false_iff_eq.mpr c61
                                        clear c61
                                        by_cases c62 : t237 = t239
                                        · rw [if_pos c62] at H
                                          have c62b0 : (t237 == t239) = true := beq_iff_eq.mpr c62
                                          have c62b1 : (t237 != t239) = false := bne_eq_false_iff_eq.mpr c62
                                          clear c62
                                          replace H := Option.bind_eq_some_iff.mp H
                                          obtain ⟨t240, A630, H⟩ := H
                                          replace H : (some t240) = some r := H
                                          have A63 := Aside0.mk A630
                                          clear A630
                                          obtain rfl := Option.some.inj H
                                          go_wp2_with (first | (go_at_call 27; (with_reducible refine (page_Next.calls a0 t236 t237 _ A59.out).mono ?_); rintro e w64 ⟨rfl, hb⟩; have n0_ := Aside0.mk (below_step (by repeat (first | (with_reducible first | exact HB.out | apply below_alloc | apply pw_below_drewN | apply below_drew1) | exact HB.out)) hb); clear HB; have HB := n0_; clear n0_; (try clear hb); (try clear hb2); (try clear hk); (try clear hi)) | (go_at_call 28; (with_reducible refine (ringworkref06_Next.calls kj52 a0 t238 t239 _ A60.out).mono ?_); rintro e w65 ⟨rfl, hb⟩; have n0_ := Aside0.mk (below_step (by repeat (first | (with_reducible first | exact HB.out | apply below_alloc | apply pw_below_drewN | apply below_drew1) | exact HB.out)) hb); clear HB; have HB := n0_; clear n0_; (try clear hb); (try clear hb2); (try clear hk); (try clear hi)) | (go_at_call 11; (with_reducible refine (ringworklaw06_awake.calls kj52  t240 _ A63.out).mono ?_); rintro e w66 ⟨rfl, hb⟩; have n0_ := Aside0.mk (below_step (by repeat (first | (with_reducible first | exact HB.out | apply below_alloc | apply pw_below_drewN | apply below_drew1) | exact HB.out)) hb); clear HB; have HB := n0_; clear n0_; (try clear hb); (try clear hb2); (try clear hk); (try clear hi)))
                                          repeat (go_quiet (first | (go_at_call 27; (with_reducible refine (page_Next.calls a0 t236 t237 _ A59.out).mono ?_); rintro e w64 ⟨rfl, hb⟩; have n0_ := Aside0.mk (below_step (by repeat (first | (with_reducible first | exact HB.out | apply below_alloc | apply pw_below_drewN | apply below_drew1) | exact HB.out)) hb); clear HB; have HB := n0_; clear n0_; (try clear hb); (try clear hb2); (try clear hk); (try clear hi)) | (go_at_call 28; (with_reducible refine (ringworkref06_Next.calls kj52 a0 t238 t239 _ A60.out).mono ?_); rintro e w65 ⟨rfl, hb⟩; have n0_ := Aside0.mk (below_step (by repeat (first | (with_reducible first | exact HB.out | apply below_alloc | apply pw_below_drewN | apply below_drew1) | exact HB.out)) hb); clear HB; have HB := n0_; clear n0_; (try clear hb); (try clear hb2); (try clear hk); (try clear hi)) | (go_at_call 11; (with_reducible refine (ringworklaw06_awake.calls kj52  t240 _ A63.out).mono ?_); rintro e w66 ⟨rfl, hb⟩; have n0_ := Aside0.mk (below_step (by repeat (first | (with_reducible first | exact HB.out | apply below_alloc | apply pw_below_drewN | apply below_drew1) | exact HB.out)) hb); clear HB; have HB := n0_; clear n0_; (try clear hb); (try clear hb2); (try clear hk); (try clear hi))); try go_wp2_with (first | (go_at_call 27; (with_reducible refine (page_Next.calls a0 t236 t237 _ A59.out).mono ?_); rintro e w64 ⟨rfl, hb⟩; have n0_ := Aside0.mk (below_step (by repeat (first | (with_reducible first | exact HB.out | apply below_alloc | apply pw_below_drewN | apply below_drew1) | exact HB.out)) hb); clear HB; have HB := n0_; clear n0_; (try clear hb); (try clear hb2); (try clear hk); (try clear hi)) | (go_at_call 28; (with_reducible refine (ringworkref06_Next.calls kj52 a0 t238 t239 _ A60.out).mono ?_); rintro e w65 ⟨rfl, hb⟩; have n0_ := Aside0.mk (below_step (by repeat (first | (with_reducible first | exact HB.out | apply below_alloc | apply pw_below_drewN | apply below_drew1) | exact HB.out)) hb); clear HB; have HB := n0_; clear n0_; (try clear hb); (try clear hb2); (try clear hk); (try clear hi)) | (go_at_call 11; (with_reducible refine (ringworklaw06_awake.calls kj52  t240 _ A63.out).mono ?_); rintro e w66 ⟨rfl, hb⟩; have n0_ := Aside0.mk (below_step (by repeat (first | (with_reducible first | exact HB.out | apply below_alloc | apply pw_below_drewN | apply below_drew1) | exact HB.out)) hb); clear HB; have HB := n0_; clear n0_; (try clear hb); (try clear hb2); (try clear hk); (try clear hi))))
                                          go_ret
                                          exact ⟨by first | rfl | (simp [errW_none, errW_some] <;> rfl) | (simp [*, errW_none, errW_some] <;> rfl), by repeat (first | (with_reducible first | exact HB.out | apply below_alloc | apply pw_below_drewN | apply below_drew1) | exact HB.out)⟩
                                        · rw [if_neg c62] at H
                                          have c62b0 : (t237 == t239) = false := beq_eq_false_iff_ne.mpr c62
                                          have c62b1 : (t237 != t239) = true := bne_iff_ne.mpr c62
                                          obtain rfl := Option.some.inj H
                                          go_wp2_with (first | (go_at_call 27; (with_reducible refine (page_Next.calls a0 t236 t237 _ A59.out).mono ?_); rintro e w67 ⟨rfl, hb⟩; have n0_ := Aside0.mk (below_step (by repeat (first | (with_reducible first | exact HB.out | apply below_alloc | apply pw_below_drewN | apply below_drew1) | exact HB.out)) hb); clear HB; have HB := n0_; clear n0_; (try clear hb); (try clear hb2); (try clear hk); (try clear hi)) | (go_at_call 28; (with_reducible refine (ringworkref06_Next.calls kj52 a0 t238 t239 _ A60.out).mono ?_); rintro e w68 ⟨rfl, hb⟩; have n0_ := Aside0.mk (below_step (by repeat (first | (with_reducible first | exact HB.out | apply below_alloc | apply pw_below_drewN | apply below_drew1) | exact HB.out)) hb); clear HB; have HB := n0_; clear n0_; (try clear hb); (try clear hb2); (try clear hk); (try clear hi)))
                                          repeat (go_quiet (first | (go_at_call 27; (with_reducible refine (page_Next.calls a0 t236 t237 _ A59.out).mono ?_); rintro e w67 ⟨rfl, hb⟩; have n0_ := Aside0.mk (below_step (by repeat (first | (with_reducible first | exact HB.out | apply below_alloc | apply pw_below_drewN | apply below_drew1) | exact HB.out)) hb); clear HB; have HB := n0_; clear n0_; (try clear hb); (try clear hb2); (try clear hk); (try clear hi)) | (go_at_call 28; (with_reducible refine (ringworkref06_Next.calls kj52 a0 t238 t239 _ A60.out).mono ?_); rintro e w68 ⟨rfl, hb⟩; have n0_ := Aside0.mk (below_step (by repeat (first | (with_reducible first | exact HB.out | apply below_alloc | apply pw_below_drewN | apply below_drew1) | exact HB.out)) hb); clear HB; have HB := n0_; clear n0_; (try clear hb); (try clear hb2); (try clear hk); (try clear hi))); try go_wp2_with (first | (go_at_call 27; (with_reducible refine (page_Next.calls a0 t236 t237 _ A59.out).mono ?_); rintro e w67 ⟨rfl, hb⟩; have n0_ := Aside0.mk (below_step (by repeat (first | (with_reducible first | exact HB.out | apply below_alloc | apply pw_below_drewN | apply below_drew1) | exact HB.out)) hb); clear HB; have HB := n0_; clear n0_; (try clear hb); (try clear hb2); (try clear hk); (try clear hi)) | (go_at_call 28; (with_reducible refine (ringworkref06_Next.calls kj52 a0 t238 t239 _ A60.out).mono ?_); rintro e w68 ⟨rfl, hb⟩; have n0_ := Aside0.mk (below_step (by repeat (first | (with_reducible first | exact HB.out | apply below_alloc | apply pw_below_drewN | apply below_drew1) | exact HB.out)) hb); clear HB; have HB := n0_; clear n0_; (try clear hb); (try clear hb2); (try clear hk); (try clear hi))))
                                          go_ret
                                          exact ⟨by first | rfl | (simp [errW_none, errW_some] <;> rfl) | (simp [*, errW_none, errW_some] <;> rfl), by repeat (first | (with_reducible first | exact HB.out | apply below_alloc | apply pw_below_drewN | apply below_drew1) | exact HB.out)⟩
                                      · rw [if_neg c61] at H
                                        have c61b0 : (t236 == t238) = false := beq_eq_false_iff_ne.mpr c61
                                        have c61b1 : (t236 != t238) = true := bne_iff_ne.mpr c61
                                        obtain rfl := Option.some.inj H
                                        go_wp2_with (first | (go_at_call 27; (with_reducible refine (page_Next.calls a0 t236 t237 _ A59.out).mono ?_); rintro e w69 ⟨rfl, hb⟩; have n0_ := Aside0.mk (below_step (by repeat (first | (with_reducible first | exact HB.out | apply below_alloc | apply pw_below_drewN | apply below_drew1) | exact HB.out)) hb); clear HB; have HB := n0_; clear n0_; (try clear hb); (try clear hb2); (try clear hk); (try clear hi)) | (go_at_call 28; (with_reducible refine (ringworkref06_Next.calls kj52 a0 t238 t239 _ A60.out).mono ?_); rintro e w70 ⟨rfl, hb⟩; have n0_ := Aside0.mk (below_step (by repeat (first | (with_reducible first | exact HB.out | apply below_alloc | apply pw_below_drewN | apply below_drew1) | exact HB.out)) hb); clear HB; have HB := n0_; clear n0_; (try clear hb); (try clear hb2); (try clear hk); (try clear hi)))
                                        repeat (go_quiet (first | (go_at_call 27; (with_reducible refine (page_Next.calls a0 t236 t237 _ A59.out).mono ?_); rintro e w69 ⟨rfl, hb⟩; have n0_ := Aside0.mk (below_step (by repeat (first | (with_reducible first | exact HB.out | apply below_alloc | apply pw_below_drewN | apply below_drew1) | exact HB.out)) hb); clear HB; have HB := n0_; clear n0_; (try clear hb); (try clear hb2); (try clear hk); (try clear hi)) | (go_at_call 28; (with_reducible refine (ringworkref06_Next.calls kj52 a0 t238 t239 _ A60.out).mono ?_); rintro e w70 ⟨rfl, hb⟩; have n0_ := Aside0.mk (below_step (by repeat (first | (with_reducible first | exact HB.out | apply below_alloc | apply pw_below_drewN | apply below_drew1) | exact HB.out)) hb); clear HB; have HB := n0_; clear n0_; (try clear hb); (try clear hb2); (try clear hk); (try clear hi))); try go_wp2_with (first | (go_at_call 27; (with_reducible refine (page_Next.calls a0 t236 t237 _ A59.out).mono ?_); rintro e w69 ⟨rfl, hb⟩; have n0_ := Aside0.mk (below_step (by repeat (first | (with_reducible first | exact HB.out | apply below_alloc | apply pw_below_drewN | apply below_drew1) | exact HB.out)) hb); clear HB; have HB := n0_; clear n0_; (try clear hb); (try clear hb2); (try clear hk); (try clear hi)) | (go_at_call 28; (with_reducible refine (ringworkref06_Next.calls kj52 a0 t238 t239 _ A60.out).mono ?_); rintro e w70 ⟨rfl, hb⟩; have n0_ := Aside0.mk (below_step (by repeat (first | (with_reducible first | exact HB.out | apply below_alloc | apply pw_below_drewN | apply below_drew1) | exact HB.out)) hb); clear HB; have HB := n0_; clear n0_; (try clear hb); (try clear hb2); (try clear hk); (try clear hi))))
                                        go_ret
                                        exact ⟨by first | rfl | (simp [errW_none, errW_some] <;> rfl) | (simp [*, errW_none, errW_some] <;> rfl), by repeat (first | (with_reducible first | exact HB.out | apply below_alloc | apply pw_below_drewN | apply below_drew1) | exact HB.out)⟩

/-- THE ONE PURE STATEMENT of ringworklaw06_PageReads: yours. -/
def ringworklaw06_PageReads.Pure : Prop := ∀ (a0 : ByteArray), a0.size ≤ 140737488351232 → ∃ k, ringworklaw06_PageReads.f k a0 = some true
theorem ringworklaw06_PageReads.walk (P : ringworklaw06_PageReads.Pure) (a0 : ByteArray) (w : World) (w0 : a0.size ≤ 140737488351232) :
    Calls Try.prog 5 #[.string a0] w fun e w' => e = .returned (.bool true) ∧ Below w.heap.size w w' := by
  obtain ⟨k, h⟩ := P a0 w0
  refine (ringworklaw06_PageReads.calls k a0 true w h).mono ?_
  rintro e w' ⟨rfl, hd⟩
  exact ⟨rfl, hd⟩

end Go.Proofs.Ytemglmcddaeedaa.PA

namespace Go.Proofs.Ytemglmcddaeedaa.PA
open Go.RowKit Go.Proofs.YtemglmcddaeedaaW.PrintWords Go.Proofs.YtemglmcddaeedaaW.PrintLast Go.Proofs.YtemglmcddaeedaaW.PrintMore
attribute [local go_sem] max2_int min2_int max_two min_two max_three min_three max_four min_four   -- for this text's walks alone
set_option linter.unusedVariables false
set_option linter.unusedSimpArgs false

/-! ### b_one: function 0 -/
/-! #### the page of cells is valid and has these cells -/
theorem getD_left (a b : List Int) (j : Nat) (h : j < a.length) : (a ++ b).getD j 0 = a.getD j 0 := by
  simp [List.getD_eq_getElem?_getD, List.getElem?_append_left h]
theorem getD_right (a b : List Int) (j : Nat) (h : a.length ≤ j) : (a ++ b).getD j 0 = b.getD (j - a.length) 0 := by
  simp [List.getD_eq_getElem?_getD, List.getElem?_append_right h]
theorem ext_getD {a b : List Int} (hl : a.length = b.length) (h : ∀ j, j < a.length → a.getD j 0 = b.getD j 0) : a = b := by
  apply List.ext_getElem hl
  intro j h1 h2
  have := h j h1
  rw [List.getD_eq_getElem?_getD, List.getD_eq_getElem?_getD, List.getElem?_eq_getElem h1, List.getElem?_eq_getElem h2] at this
  exact this
theorem getD_zer (n j : Nat) : (zer n).getD j 0 = 0 := by
  rw [List.getD_eq_getElem?_getD, zer, List.getElem?_replicate]; split <;> rfl
theorem bld_gap {N : Nat} {n : Int} {l : List S45} (h : CellsOk l) (hf : needsL l ≤ N) (j : Nat) (h0 : 2 + 4 * lastL l ≤ j) (h1 : j + bytesL l < N) : (bld N n l).getD j 0 = 0 := by
  obtain ⟨e1, e2⟩ := foldB_len (N := N) h
  unfold bld
  rw [getD_right _ _ _ (by simp [twoL]; omega), getD_right _ _ _ (by simp [twoL]; omega), getD_left _ _ _ (by simp [twoL, zer]; omega), getD_zer]
theorem bld_one {N : Nat} {n : Int} {l : List S45} {c : S45} (h : CellsOk (l ++ [c])) (hf : needsL (l ++ [c]) ≤ N) (j : Nat) (hj : (j : Int) < 4 * c.f0 - 2 ∨ N ≤ j + bytesL l) :
    (bld N n (l ++ [c])).getD j 0 = (bld N n l).getD j 0 := by
  obtain ⟨P, r, e1, e2, e3, e4⟩ := bld_step (n := n) h hf
  rw [e3, e4]
  by_cases hp : j < P.length
  · rw [getD_left _ _ _ hp, getD_left _ _ _ hp]
  · have hj' : N ≤ j + bytesL l := by rcases hj with hj | hj <;> omega
    have a1 : P ++ (ent4 ((N : Int) - (bytesL l + c.f1.size : Nat)) c.f1.size ++ (zer r ++ (bytesOf c.f1 ++ (foldB N l).2))) = (P ++ ent4 ((N : Int) - (bytesL l + c.f1.size : Nat)) c.f1.size ++ zer r ++ bytesOf c.f1) ++ (foldB N l).2 := by simp only [List.append_assoc]
    have a2 : P ++ (zer 4 ++ (zer r ++ (zer c.f1.size ++ (foldB N l).2))) = (P ++ zer 4 ++ zer r ++ zer c.f1.size) ++ (foldB N l).2 := by simp only [List.append_assoc]
    have l1 : (P ++ ent4 ((N : Int) - (bytesL l + c.f1.size : Nat)) c.f1.size ++ zer r ++ bytesOf c.f1).length = P.length + 4 + r + c.f1.size := by simp [ent4, zer, bytesOf_length]; omega
    have l2 : (P ++ zer 4 ++ zer r ++ zer c.f1.size).length = P.length + 4 + r + c.f1.size := by simp [zer]; omega
    rw [a1, a2, getD_right _ _ _ (by omega), getD_right _ _ _ (by omega), l1, l2]
theorem bld_ent {N : Nat} {n : Int} {l : List S45} {c : S45} (h : CellsOk (l ++ [c])) (hf : needsL (l ++ [c]) ≤ N) (j : Nat) (hj : j < 4) :
    (bld N n (l ++ [c])).getD ((4 * c.f0 - 2).toNat + j) 0 = (ent4 ((N : Int) - (bytesL l + c.f1.size : Nat)) c.f1.size).getD j 0 := by
  obtain ⟨P, r, e1, e2, e3, e4⟩ := bld_step (n := n) h hf
  rw [e4, getD_right _ _ _ (by omega), getD_left _ _ _ (by simp [ent4]; omega)]
  congr 1
  omega
theorem bld_data {N : Nat} {n : Int} {l : List S45} {c : S45} (h : CellsOk (l ++ [c])) (hf : needsL (l ++ [c]) ≤ N) (j : Nat) (hj : j < c.f1.size) :
    (bld N n (l ++ [c])).getD (N - bytesL l - c.f1.size + j) 0 = (bytesOf c.f1).getD j 0 := by
  obtain ⟨P, r, e1, e2, e3, e4⟩ := bld_step (n := n) h hf
  have a1 : P ++ (ent4 ((N : Int) - (bytesL l + c.f1.size : Nat)) c.f1.size ++ (zer r ++ (bytesOf c.f1 ++ (foldB N l).2))) = (P ++ ent4 ((N : Int) - (bytesL l + c.f1.size : Nat)) c.f1.size ++ zer r) ++ (bytesOf c.f1 ++ (foldB N l).2) := by simp only [List.append_assoc]
  have l1 : (P ++ ent4 ((N : Int) - (bytesL l + c.f1.size : Nat)) c.f1.size ++ zer r).length = P.length + 4 + r := by simp [ent4, zer]; omega
  rw [e4, a1, getD_right _ _ _ (by omega), l1, getD_left _ _ _ (by rw [bytesOf_length]; omega)]
  congr 1
  omega
theorem needs_mono {a b : List S45} (h : CellsOk (a ++ b)) : needsL a ≤ needsL (a ++ b) := by
  unfold needsL
  rw [bytesL_append]
  have : lastL a ≤ lastL (a ++ b) := by
    cases hb : b.getLast? with
    | none =>
      have : b = [] := by simpa using hb
      simp [this]
    | some d =>
      have hd : d ∈ b := List.mem_of_getLast? hb
      have e : lastL (a ++ b) = d.f0 := by simp [lastL, List.getLast?_append, hb]
      rw [e]
      cases ha : a.getLast? with
      | none => simp only [lastL, ha]; have := (h.append.2.1.each d hd).1; omega
      | some x =>
        have hx : x ∈ a := List.mem_of_getLast? ha
        have := h.append.2.2 x hx d hd
        simp only [lastL, ha]; omega
  omega
theorem bld_stable {N : Nat} {n : Int} (b : List S45) : ∀ (a : List S45), CellsOk (a ++ b) → needsL (a ++ b) ≤ N → ∀ j : Nat, ((j : Int) < 2 + 4 * lastL a ∨ N ≤ j + bytesL a) → (bld N n (a ++ b)).getD j 0 = (bld N n a).getD j 0 := by
  induction b with
  | nil => intro a _ _ j _; simp
  | cons c b ih =>
    intro a h hf j hj
    have e : a ++ c :: b = (a ++ [c]) ++ b := by simp
    rw [e] at h hf ⊢
    have h1 := h.append.1
    have hf1 : needsL (a ++ [c]) ≤ N := by have := needs_mono h; omega
    have hl := lastL_lt h1
    rw [ih (a ++ [c]) h hf j (by
      rcases hj with hj | hj
      · left; rw [lastL_snoc]; omega
      · right; rw [bytesL_append]; omega)]
    exact bld_one h1 hf1 j (by
      rcases hj with hj | hj
      · left; omega
      · right; exact hj)
theorem foldB_range {N : Nat} (hN : N ≤ 65535) : ∀ {l : List S45}, CellsOk l → needsL l ≤ N → (∀ x ∈ (foldB N l).1, 0 ≤ x ∧ x ≤ 255) ∧ (∀ x ∈ (foldB N l).2, 0 ≤ x ∧ x ≤ 255) := by
  intro l
  induction hl : l.length generalizing l with
  | zero =>
    intro _ _
    have : l = [] := List.length_eq_zero_iff.1 hl
    subst this
    simp [foldB]
  | succ m ih =>
    intro h hf
    have hne : l ≠ [] := by intro h; rw [h] at hl; cases hl
    obtain ⟨a, c, rfl⟩ : ∃ a c, l = a ++ [c] := ⟨l.dropLast, l.getLast hne, (List.dropLast_concat_getLast hne).symm⟩
    have ha := h.append.1
    have hn := needs_mono h
    obtain ⟨i1, i2⟩ := ih (by simp at hl; exact hl) ha (by omega)
    have hfl := foldB_len (N := N) ha
    unfold needsL at hf
    have h0 := lastL_nonneg h
    rw [bytesL_append] at hf
    have hb1 : bytesL [c] = c.f1.size := by simp [bytesL]
    rw [foldB_snoc]
    simp only [stepB]
    constructor
    · intro x hx
      rcases List.mem_append.1 hx with hx | hx
      · exact i1 x hx
      · rcases List.mem_append.1 hx with hx | hx
        · have := (List.mem_replicate.1 hx).2; omega
        · simp only [ent4, List.mem_cons, List.not_mem_nil, or_false] at hx
          rcases hx with rfl | rfl | rfl | rfl <;> omega
    · intro x hx
      rcases List.mem_append.1 hx with hx | hx
      · exact bytesOf_range _ x hx
      · exact i2 x hx
theorem built_range {N : Nat} (hN : N ≤ 65535) {l : List S45} (h : CellsOk l) (hf : needsL l ≤ N) : ∀ x ∈ builtL N l, 0 ≤ x ∧ x ≤ 255 := by
  intro x hx
  obtain ⟨i1, i2⟩ := foldB_range hN h hf
  have h0 := lastL_nonneg h
  unfold builtL bld at hx
  rcases List.mem_append.1 hx with hx | hx
  · simp only [twoL, List.mem_cons, List.not_mem_nil, or_false] at hx
    rcases hx with rfl | rfl <;> omega
  · rcases List.mem_append.1 hx with hx | hx
    · exact i1 x hx
    · rcases List.mem_append.1 hx with hx | hx
      · have := (List.mem_replicate.1 hx).2; omega
      · exact i2 x hx
theorem built_size {N : Nat} {l : List S45} (h : CellsOk l) (hf : needsL l ≤ N) : (strOfNums (builtL N l)).size = N := by
  have : (strOfNums (builtL N l)).size = (builtL N l).length := by simp [strOfNums, ByteArray.size]
  rw [this, builtL, bld_length h hf]
theorem built_bt {N : Nat} (hN : N ≤ 65535) {l : List S45} (h : CellsOk l) (hf : needsL l ≤ N) (j : Nat) : bt (strOfNums (builtL N l)) (j : Int) = (builtL N l).getD j 0 := by
  rw [← bytesOf_getD, bytesOf_strOfNums _ (built_range hN h hf)]
theorem built_scan {N : Nat} (hN : N ≤ 65535) {l : List S45} (h : CellsOk l) (hf : needsL l ≤ N) (n : Nat) (hn : lastL l = n) : ∀ i, i ≤ n →
    ∃ a b, l = a ++ b ∧ (∀ x ∈ a, x.f0 ≤ i) ∧ (∀ x ∈ b, (i : Int) < x.f0) ∧ scanE (strOfNums (builtL N l)) n i = .ok ((N : Int) - bytesL a, lastL a) ∧ cellsS (strOfNums (builtL N l)) i = a := by
  intro i
  induction i with
  | zero =>
    intro _
    exact ⟨[], l, rfl, by simp, fun x hx => by have := (h.each x hx).1; omega, by simp [scanE, built_size h hf, bytesL, lastL], rfl⟩
  | succ i ih =>
    intro hi
    obtain ⟨a, b, hab, h1, h2, h3, h4⟩ := ih (by omega)
    have hlast : lastL a ≤ i := by
      cases ha : a.getLast? with
      | none => simp only [lastL, ha]; omega
      | some d => simp only [lastL, ha]; exact h1 d (List.mem_of_getLast? ha)
    cases b with
    | nil =>
      rw [List.append_nil] at hab
      rw [← hab] at hlast
      omega
    | cons c b =>
      have e : l = (a ++ [c]) ++ b := by rw [hab]; simp
      have hc := h2 c (by simp)
      have hac : CellsOk (a ++ [c]) := by rw [e] at h; exact h.append.1
      have ha := hac.append.1
      have hfac : needsL (a ++ [c]) ≤ N := by
        have := needs_mono (a := a ++ [c]) (b := b) (by rw [← e]; exact h)
        rw [← e] at this
        omega
      have hcr := h.each c (by rw [hab]; simp)
      have hL : builtL N l = bld N n ((a ++ [c]) ++ b) := by rw [builtL, hn, ← e]
      have hst := fun j hj => bld_stable (N := N) (n := n) b (a ++ [c]) (by rw [← e]; exact h) (by rw [← e]; exact hf) j hj
      rw [← hL] at hst
      have hnf : 2 + 4 * (n : Int) + bytesL l ≤ N := by unfold needsL at hf; omega
      have hbl : bytesL l = bytesL a + c.f1.size + bytesL b := by rw [e, bytesL_append, bytesL_append]; simp [bytesL]
      have hln : lastL (a ++ [c]) = c.f0 := lastL_snoc _ _
      have rd : ∀ t : Nat, (2 + 4 * i + t : Nat) < 2 + 4 * c.f0 → bt (strOfNums (builtL N l)) ((2 + 4 * i + t : Nat) : Int) = (bld N n (a ++ [c])).getD (2 + 4 * i + t) 0 := by
        intro t ht
        rw [built_bt hN h hf, hst _ (by left; rw [hln]; exact ht)]
      by_cases heq : c.f0 = (i : Int) + 1
      · -- the entry of c
        have ent : ∀ t : Nat, t < 4 → bt (strOfNums (builtL N l)) ((2 + 4 * i + t : Nat) : Int) = (ent4 ((N : Int) - (bytesL a + c.f1.size : Nat)) c.f1.size).getD t 0 := by
          intro t ht
          rw [rd t (by omega), ← bld_ent (n := n) hac hfac t ht]
          congr 1
          omega
        have x1 : twoS (strOfNums (builtL N l)) (2 + 4 * (i : Int)) = (N : Int) - (bytesL a + c.f1.size : Nat) := by
          have q0 := ent 0 (by omega)
          have q1 := ent 1 (by omega)
          simp only [ent4, List.getD_cons_zero, List.getD_cons_succ] at q0 q1
          unfold twoS
          rw [show (2 + 4 * (i : Int)) = ((2 + 4 * i + 0 : Nat) : Int) by omega, show ((2 + 4 * i + 0 : Nat) : Int) + 1 = ((2 + 4 * i + 1 : Nat) : Int) by omega, q0, q1]
          omega
        have x2 : twoS (strOfNums (builtL N l)) (4 + 4 * (i : Int)) = c.f1.size := by
          have q0 := ent 2 (by omega)
          have q1 := ent 3 (by omega)
          simp only [ent4, List.getD_cons_zero, List.getD_cons_succ] at q0 q1
          unfold twoS
          rw [show (4 + 4 * (i : Int)) = ((2 + 4 * i + 2 : Nat) : Int) by omega, show ((2 + 4 * i + 2 : Nat) : Int) + 1 = ((2 + 4 * i + 3 : Nat) : Int) by omega, q0, q1]
          omega
        refine ⟨a ++ [c], b, e, ?_, ?_, ?_, ?_⟩
        · intro x hx
          rcases List.mem_append.1 hx with hx | hx
          · have := h1 x hx; omega
          · simp only [List.mem_singleton] at hx; subst hx; omega
        · intro x hx
          have := (by rw [e] at h; exact h.append.2.2 c (by simp) x hx : c.f0 < x.f0)
          omega
        · rw [scanE, h3]
          simp only [x1, x2]
          rw [if_neg (by omega), if_neg (by omega), hln, heq, bytesL_append]
          have hb1 : bytesL [c] = c.f1.size := by simp [bytesL]
          rw [hb1]
        · simp only [cellsS, h4, x1, x2]
          rw [if_pos (by omega)]
          congr 1
          have hex : (strOfNums (builtL N l)).extract ((N : Int) - (bytesL a + c.f1.size : Nat)).toNat ((N : Int) - (bytesL a + c.f1.size : Nat) + (c.f1.size : Int)).toNat = c.f1 := by
            apply bytesOf_inj
            rw [bytesOf_extract _ _ _ (by rw [built_size h hf]; omega), bytesOf_strOfNums _ (built_range hN h hf)]
            have hbl2 : (builtL N l).length = N := by rw [builtL, bld_length h hf]
            apply ext_getD
            · rw [List.length_take, List.length_drop, hbl2, bytesOf_length]; omega
            · intro j hj
              rw [List.length_take, List.length_drop, hbl2] at hj
              have ej : j < c.f1.size := by omega
              have : (List.take (((N : Int) - (bytesL a + c.f1.size : Nat) + (c.f1.size : Int)).toNat - ((N : Int) - (bytesL a + c.f1.size : Nat)).toNat) (List.drop ((N : Int) - (bytesL a + c.f1.size : Nat)).toNat (builtL N l))).getD j 0 = (builtL N l).getD (N - bytesL a - c.f1.size + j) 0 := by
                rw [List.getD_eq_getElem?_getD, List.getElem?_take_of_lt (by omega), List.getElem?_drop, List.getD_eq_getElem?_getD]
                congr 2
                omega
              rw [this, hst _ (by right; rw [bytesL_append]; simp [bytesL]; omega), bld_data hac hfac j ej]
          rw [hex]
          cases c
          simp only at heq
          rw [heq]
      · -- no cell has this line
        have gap : ∀ t : Nat, t < 4 → bt (strOfNums (builtL N l)) ((2 + 4 * i + t : Nat) : Int) = 0 := by
          intro t ht
          rw [rd t (by omega), bld_one hac hfac _ (by left; omega)]
          have := needs_mono hac
          exact bld_gap ha (by omega) _ (by omega) (by omega)
        have x1 : twoS (strOfNums (builtL N l)) (2 + 4 * (i : Int)) = 0 := by
          unfold twoS
          rw [show (2 + 4 * (i : Int)) = ((2 + 4 * i + 0 : Nat) : Int) by omega, show ((2 + 4 * i + 0 : Nat) : Int) + 1 = ((2 + 4 * i + 1 : Nat) : Int) by omega, gap 0 (by omega), gap 1 (by omega)]
          rfl
        have x2 : twoS (strOfNums (builtL N l)) (4 + 4 * (i : Int)) = 0 := by
          unfold twoS
          rw [show (4 + 4 * (i : Int)) = ((2 + 4 * i + 2 : Nat) : Int) by omega, show ((2 + 4 * i + 2 : Nat) : Int) + 1 = ((2 + 4 * i + 3 : Nat) : Int) by omega, gap 2 (by omega), gap 3 (by omega)]
          rfl
        refine ⟨a, c :: b, hab, fun x hx => by have := h1 x hx; omega, ?_, ?_, ?_⟩
        · intro x hx
          rcases List.mem_cons.1 hx with rfl | hx
          · omega
          · have := (by rw [e] at h; exact h.append.2.2 c (by simp) x hx : c.f0 < x.f0)
            omega
        · rw [scanE, h3]
          simp only [x1, x2]
          rw [if_pos (by simp)]
        · simp only [cellsS, h4, x2]
          rw [if_neg (by omega)]
/-- The page of cells is valid and has these cells. -/
theorem built_valid {N : Nat} (h32 : 32 ≤ N) (hN : N ≤ 4096) (h8 : N % 8 = 0) {l : List S45} (h : CellsOk l) (hf : needsL l ≤ N) :
    wrongS (strOfNums (builtL N l)) = ((N : Int), 0) ∧ twoS (strOfNums (builtL N l)) 0 = lastL l ∧ cellsS (strOfNums (builtL N l)) (lastL l).toNat = l := by
  have h0 := lastL_nonneg h
  obtain ⟨n, hn⟩ : ∃ n : Nat, lastL l = n := ⟨(lastL l).toNat, by omega⟩
  have hsz := built_size h hf
  have h2 : twoS (strOfNums (builtL N l)) 0 = n := by
    have q0 : bt (strOfNums (builtL N l)) ((0 : Nat) : Int) = (n : Int) / 256 := by
      rw [built_bt (by omega) h hf 0, ← hn]; rfl
    have q1 : bt (strOfNums (builtL N l)) ((1 : Nat) : Int) = (n : Int) % 256 := by
      rw [built_bt (by omega) h hf 1, ← hn]; rfl
    unfold twoS
    rw [show (0 : Int) = ((0 : Nat) : Int) by rfl, show ((0 : Nat) : Int) + 1 = ((1 : Nat) : Int) by rfl, q0, q1]
    omega
  obtain ⟨a, b, hab, h1, h3, h4, h5⟩ := built_scan (by omega) h hf n hn n (Nat.le_refl n)
  have hb : b = [] := by
    cases hb : b.getLast? with
    | none => simpa using hb
    | some d =>
      have := h3 d (List.mem_of_getLast? hb)
      have e : lastL l = d.f0 := by rw [hab]; simp [lastL, List.getLast?_append, hb]
      omega
  subst hb
  rw [List.append_nil] at hab
  subst hab
  have hnf : 2 + 4 * (n : Int) + bytesL l ≤ N := by unfold needsL at hf; omega
  refine ⟨?_, by rw [h2, hn], by rw [hn, Int.toNat_natCast]; exact h5⟩
  unfold wrongS
  rw [hsz, if_pos ⟨h32, hN, h8⟩, h2, if_neg (by omega), Int.toNat_natCast]
  have he : entriesS (strOfNums (builtL N l)) n = .ok ((N : Int) - bytesL l) := by
    unfold entriesS
    rw [h4, hn]
    simp
  rw [he]
  have hz : ∀ (k j : Nat), N ≤ k + j + bytesL l → 2 + 4 * n ≤ j → firstNZ (strOfNums (builtL N l)) ((N : Int) - bytesL l) j = none := by
    intro k
    induction k with
    | zero => intro j hk hj; rw [firstNZ, if_neg (by omega)]
    | succ k ih =>
      intro j hk hj
      rw [firstNZ]
      split
      · rename_i hlt
        rw [if_neg (by
          rw [built_bt (by omega) h hf, builtL, bld_gap h hf j (by omega) (by omega)]; simp), ih (j + 1) (by omega) (by omega)]
      · rfl
  simp only [hz N (2 + 4 * n) (by omega) (by omega)]

end Go.Proofs.Ytemglmcddaeedaa.PA

namespace Go.Proofs.Ytemglmcddaeedaa.PA
open Go.RowKit Go.Proofs.YtemglmcddaeedaaW.PrintWords Go.Proofs.YtemglmcddaeedaaW.PrintLast Go.Proofs.YtemglmcddaeedaaW.PrintMore
attribute [local go_sem] max2_int min2_int max_two min_two max_three min_three max_four min_four   -- for this text's walks alone
set_option linter.unusedVariables false
set_option linter.unusedSimpArgs false

/-! ### page_New: function 15 -/
def page_New.f (k : Nat) (a0 : Int) : Option (ByteArray × Int) := (page_Fill.f k a0 ([] : List (S45))).bind fun bt157 => (some (bt157.1, bt157.2))
theorem page_New.mono : ∀ a0 k, LeO (page_New.f k a0) (page_New.f (k + 1) a0) := by
  intro a0 k
  unfold page_New.f
  repeat' first
      | (with_reducible exact page_Fill.mono _ _ _)
      | (with_reducible exact LeO.refl _)
      | (with_reducible exact LeO.none _)
      | (with_reducible refine LeO.ite ?_ ?_)
      | (with_reducible refine LeO.bind ?_ (fun _ => ?_))
      | exact page_Fill.mono _ _ _
      | exact LeO.none _
      | refine LeO.ite ?_ ?_
      | refine LeO.bind ?_ (fun _ => ?_)
set_option maxHeartbeats 8000000 in
set_option maxRecDepth 100000 in
theorem page_New.calls (k : Nat) (a0 : Int) (r1 : ByteArray) (r2 : Int) (w : World) (h : page_New.f k a0 = some (r1, r2)) :
    Calls Try.prog 15 #[.int .i64 a0] w fun e w' => e = .returned (.tuple #[.string r1, .int .i64 r2]) ∧ Below w.heap.size w w' := by
  have HB := Aside0.mk (Below.refl w.heap.size w)
  have H : ((page_Fill.f k a0 ([] : List (S45))).bind fun bt157 => (some (bt157.1, bt157.2))) = some (r1, r2) := h
  clear h
  replace H := Option.bind_eq_some_iff.mp H
  obtain ⟨⟨t157, t158⟩, A20, H⟩ := H
  replace H : (some (t157, t158)) = some (r1, r2) := H
  have A2 := Aside0.mk A20
  clear A20
  simp only [Option.some.injEq, Prod.mk.injEq] at H
  obtain ⟨rfl, rfl⟩ := H
  go_enter Try.func15, Try.ntmps15
  go_wp2_with (first | ((with_reducible refine gate_callee (f := 17) rfl ?_); refine goesL_ (some 5) rfl rfl Try.func17 (by kernel_rfl) rfl #[.int .i64 a0, .slice none 0 0] rfl (by (try simp only [List.map_toArray, List.map_cons, List.map_nil]); first | done | rfl | (simp only [List.length_drop, List.length_take]; rfl)) ?_; (refine (page_Fill.calls k a0 _ _ ([] : List (S45)) t157 t158 _ ?side1 ?side2 A2.out).mono ?_); (case side1 => exact Kd.C_nil _ _); (case side2 => exact Nat.le_refl _); rintro e w3 ⟨rfl, hb⟩; refine ⟨_, rfl, ?_⟩; have n0_ := Aside0.mk (below_step (by repeat (first | (with_reducible first | exact HB.out | apply below_alloc | apply pw_below_drewN | apply below_drew1) | exact HB.out)) hb); clear HB; have HB := n0_; clear n0_; (try clear hb); (try clear hb2); (try clear hk); (try clear hi)))
  go_ret2
  exact ⟨by first | rfl | (simp [errW_none, errW_some] <;> rfl) | (simp [*, errW_none, errW_some] <;> rfl), by repeat (first | (with_reducible first | exact HB.out | apply below_alloc | apply pw_below_drewN | apply below_drew1) | exact HB.out)⟩

end Go.Proofs.Ytemglmcddaeedaa.PA

namespace Go.Proofs.Ytemglmcddaeedaa.PA
open Go.RowKit Go.Proofs.YtemglmcddaeedaaW.PrintWords Go.Proofs.YtemglmcddaeedaaW.PrintLast Go.Proofs.YtemglmcddaeedaaW.PrintMore
attribute [local go_sem] max2_int min2_int max_two min_two max_three min_three max_four min_four   -- for this text's walks alone
set_option linter.unusedVariables false
set_option linter.unusedSimpArgs false

/-! ### ringworkref06_two: function 100 -/
def ringworkref06_two.f (a0 : Int) : Option (List Int) := some (([(wrap64 (Int.tdiv a0 256)) % 256, (Int.tmod a0 256) % 256] : List Int))
set_option maxHeartbeats 8000000 in
set_option maxRecDepth 100000 in
theorem ringworkref06_two.calls (a0 : Int) (r : List Int) (w : World) (h : ringworkref06_two.f a0 = some r) :
    Calls Try.prog 100 #[.int .i64 a0] w fun e w' => ∃ v0_ : Value, e = .returned (v0_) ∧ Kd.R (Kd.int .u8) 5 w' w.heap.size (fun _ => True) v0_ r ∧ Below w.heap.size w w' := by
  have HB := Aside0.mk (Below.refl w.heap.size w)
  have H : (some (([(wrap64 (Int.tdiv a0 256)) % 256, (Int.tmod a0 256) % 256] : List Int))) = some r := h
  clear h
  obtain ⟨y102, hy102⟩ : ∃ y_ : List Int, y_ = (([(wrap64 (Int.tdiv a0 256)) % 256, (Int.tmod a0 256) % 256] : List Int)) := ⟨_, rfl⟩
  replace H : (some y102) = some r := by first | (rw [hy102]; with_reducible exact H) | (have H2_ := (Option.bind_some _ _).symm.trans H; rw [hy102]; with_reducible exact H2_) | (have H2_ := (Option.bind_some _ _).symm.trans H; with_reducible exact H2_) | with_reducible exact H | (rw [hy102]; exact H) | exact H
  have Ny102 := Aside0.mk hy102
  clear hy102
  obtain rfl := Option.some.inj H
  go_enter Try.func100, Try.ntmps100
  go_wp2_with (first | ((with_reducible refine gate_dst (N := 9) rfl ?_); refine Kd.R_lit (Kd.int .u8) _ 5 ?hg (N := 9) ?hd (xs := ([(wrap64 (Int.tdiv a0 256)) % 256, (Int.tmod a0 256) % 256] : List Int)) (inner := [.int .u8 ((wrap64 (Int.tdiv a0 256)) % 256), .int .u8 ((Int.tmod a0 256) % 256)]) (ok := fun _ => True) (okp := fun _ => True) ?hr ?hp (fun _ hk => hk) trivial (Below.refl _ _) (Nat.le_refl _) (by simp) ?_; (case hd => rfl); (case hg => rfl); (case hr => first | (go_simp; done) | (go_simp; rfl)); (case hp => exact (Reps.one (show Kd.M (Kd.int .u8) _ _ _ ((wrap64 (Int.tdiv a0 256)) % 256) [.int .u8 ((wrap64 (Int.tdiv a0 256)) % 256)] from rfl) (Reps.one (show Kd.M (Kd.int .u8) _ _ _ ((Int.tmod a0 256) % 256) [.int .u8 ((Int.tmod a0 256) % 256)] from rfl) (Reps.none _ _)))); intro v103 w2 ho3 hb hg_ hnew_; clear hg_ hnew_; (first | rw [← Ny102.out] at ho3 | (simp only [Int.reduceToNat] at ho3; rw [← Ny102.out] at ho3)); have n0_ := Aside0.mk (Kd.R_lower ho3 (below_size (by repeat (first | (with_reducible first | exact HB.out | apply below_alloc | apply pw_below_drewN | apply below_drew1) | exact HB.out)))); have n1_ := Aside0.mk (below_step (by repeat (first | (with_reducible first | exact HB.out | apply below_alloc | apply pw_below_drewN | apply below_drew1) | exact HB.out)) hb); clear HB; have HO104 := n0_; have HB := n1_; clear n0_ n1_; clear hb ho3))
  go_ret
  exact ⟨_, by first | rfl | (simp [errW_none, errW_some] <;> rfl) | (simp [*, errW_none, errW_some] <;> rfl), by (with_reducible repeat (first | apply Kd.R_alloc | apply Kd.R_drewN | apply Kd.R_drew)); exact HO104.out, by repeat (first | (with_reducible first | exact HB.out | apply below_alloc | apply pw_below_drewN | apply below_drew1) | exact HB.out)⟩

end Go.Proofs.Ytemglmcddaeedaa.PA
