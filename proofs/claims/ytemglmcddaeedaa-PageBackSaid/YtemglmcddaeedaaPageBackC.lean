/- Part of the proof: The law PageBack of the page layer holds for every size, cells and data: what Put put Drop takes away again, and Set with the old data changes nothing. No condition. -/
import Derived.Test.YtemglmcddaeedaaPageBackB
import Derived.ArgAppend
import Derived.Below
import Derived.BigQuiet
import Derived.ChangeOld
import Derived.Deep.AppendLies
import Derived.Deep.CutBlock
import Derived.Deep.DeepCutAuto
import Derived.Deep.Draws
import Derived.Deep.LoopGhost
import Derived.Deep.OwnRows
import Derived.Deep.QuietTactic
import Derived.Deep.RegionHeld3
import Derived.Deep.RegionLaw
import Derived.Deep.SlicePairs
import Derived.Defers
import Derived.DefersIn
import Derived.KernelRfl
import Derived.Laws.BitsLemmas
import Derived.Laws.BytesArg
import Derived.Laws.CopyOwn
import Derived.Laws.IdiomCopy
import Derived.Laws.MakeOwn
import Derived.Laws.OwnMore
import Derived.Laws.Rows
import Derived.Laws.Slices
import Derived.Lib.AppendStr
import Derived.Lib.AppendZerosOnto
import Derived.Lib.BufferWrite
import Derived.Lib.ConvBytes
import Derived.Lib.Hide
import Derived.Lib.Overlaps
import Derived.LoopIn
import Derived.LoopNIn
import Derived.Maps.AppendAt
import Derived.OpenShut
import Derived.OrdersHeld
import Derived.OwnWalk
import Derived.OwnWalkIn
import Derived.ProofKit
import Derived.RangeFuncBound
import Derived.RangeFuncCalls
import Derived.RangeFuncLeaves
import Derived.RangeFuncNested
import Derived.RangeFuncRecord
import Derived.Recover
import Derived.RecoverIn
import Derived.RowKit
import Derived.RowKit3
import Derived.Shelf.Abstract
import Derived.Shelf.RegionOpen
import Derived.ShutString
import Derived.SizedLaws
import Derived.StillTailTactics
import Derived.Tactics
import Derived.TacticsInMore
import Derived.Test.YtemglmcddaeedaaProg
import Derived.Test.YtemglmcddaeedaaRows
import Derived.Test.YtemglmcddaeedaaWApart
import Derived.Test.YtemglmcddaeedaaWArr
import Derived.Test.YtemglmcddaeedaaWAt
import Derived.Test.YtemglmcddaeedaaWEqStruct
import Derived.Test.YtemglmcddaeedaaWFoot
import Derived.Test.YtemglmcddaeedaaWFootNe
import Derived.Test.YtemglmcddaeedaaWFour
import Derived.Test.YtemglmcddaeedaaWGuard
import Derived.Test.YtemglmcddaeedaaWInv
import Derived.Test.YtemglmcddaeedaaWInvWords
import Derived.Test.YtemglmcddaeedaaWKept
import Derived.Test.YtemglmcddaeedaaWLast
import Derived.Test.YtemglmcddaeedaaWMore
import Derived.Test.YtemglmcddaeedaaWN
import Derived.Test.YtemglmcddaeedaaWNEv
import Derived.Test.YtemglmcddaeedaaWQPut
import Derived.Test.YtemglmcddaeedaaWRepsOne
import Derived.Test.YtemglmcddaeedaaWShare
import Derived.Test.YtemglmcddaeedaaWTab
import Derived.Test.YtemglmcddaeedaaWWords
import Derived.Test.YtemglmcddaeedaaWZeros
import Derived.WalkKit
import Derived.WalkLawsBesides
import Derived.WalkSpells
import Derived.WideLaws
namespace Go.Proofs.Ytemglmcddaeedaa.PA
open Go.RowKit Go.Proofs.YtemglmcddaeedaaW.PrintWords Go.Proofs.YtemglmcddaeedaaW.PrintLast Go.Proofs.YtemglmcddaeedaaW.PrintMore
attribute [local go_sem] max2_int min2_int max_two min_two max_three min_three max_four min_four   -- for this text's walks alone
set_option linter.unusedVariables false
set_option linter.unusedSimpArgs false

/-! ### ringworklaw06_PageBack: function 6 -/
mutual
def ringworklaw06_PageBack.j0 : Nat → List (S45) → ByteArray → ByteArray → Bool → Option (Bool)
  | 0, _, _, _, _ => none
  | k + 1, x1, x2, x7, x29 => if x29 = true then ((ringworklaw06_awake.f k).bind fun t265 => (some t265)) else ((page_Put.f k x7 x2).bind fun bt266 => (if bt266.2.2 = 0 then ((page_Drop.f bt266.1 bt266.2.1).bind fun bt269 => (if bt269.2 = 0 then (if bt269.1.toList = x7.toList then (ringworklaw06_PageBack.j1 k x1 x7) else (some false)) else (some false))) else (ringworklaw06_PageBack.j1 k x1 x7)))
def ringworklaw06_PageBack.j1 : Nat → List (S45) → ByteArray → Option (Bool)
  | 0, _, _ => none
  | k + 1, x1, x7 => ringworklaw06_PageBack.l0 k x1 x7 0
def ringworklaw06_PageBack.l0 : Nat → List (S45) → ByteArray → Int → Option (Bool)
  | 0, _, _, _ => none
  | k + 1, x1, x7, x14 => if x14 < (x1.length : Int) then (if 0 ≤ x14 then ((page_Set.f x7 ((rd_T45 x1 x14).f0) ((rd_T45 x1 x14).f1)).bind fun bt273 => (if bt273.2 = 0 then (if bt273.1.toList = x7.toList then (ringworklaw06_PageBack.l0 k x1 x7 (wrap64 (x14 + 1))) else (some false)) else (some false))) else (none)) else ((ringworklaw06_awake.f k).bind fun t275 => (some t275))
end
def ringworklaw06_PageBack.f (k : Nat) (a0 : Int) (l1 : List (S45)) (a2 : ByteArray) : Option (Bool) := (ringworklaw06_Made.f k a0 l1).bind fun bt263 => (if bt263.2 = true then (ringworklaw06_PageBack.j0 k l1 a2 bt263.1 (decide ((a2.size : Int) > 5000))) else (ringworklaw06_PageBack.j0 k l1 a2 bt263.1 true))
theorem ringworklaw06_PageBack.mono_l : ∀ k, (∀ y0 y1 y2 y3, LeO (ringworklaw06_PageBack.j0 k y0 y1 y2 y3) (ringworklaw06_PageBack.j0 (k + 1) y0 y1 y2 y3)) ∧ (∀ y0 y1, LeO (ringworklaw06_PageBack.j1 k y0 y1) (ringworklaw06_PageBack.j1 (k + 1) y0 y1)) ∧ (∀ y0 y1 y2, LeO (ringworklaw06_PageBack.l0 k y0 y1 y2) (ringworklaw06_PageBack.l0 (k + 1) y0 y1 y2))
  | 0 => ⟨fun _ _ _ _ r h => by simp [ringworklaw06_PageBack.j0] at h, fun _ _ r h => by simp [ringworklaw06_PageBack.j1] at h, fun _ _ _ r h => by simp [ringworklaw06_PageBack.l0] at h⟩
  | k + 1 => by
    obtain ⟨ih0, ih1, ih2⟩ := ringworklaw06_PageBack.mono_l k
    refine ⟨?_, ?_, ?_⟩
    · intro y0 y1 y2 y3
      unfold ringworklaw06_PageBack.j0
      repeat' first
      | (with_reducible exact ih0 _ _ _ _)
      | (with_reducible exact ih1 _ _)
      | (with_reducible exact ih2 _ _ _)
      | (with_reducible exact page_Put.mono _ _ _)
      | (with_reducible exact ringworklaw06_Made.mono _ _ _)
      | (with_reducible exact ringworklaw06_awake.mono _)
      | (with_reducible exact LeO.refl _)
      | (with_reducible exact LeO.none _)
      | (with_reducible refine LeO.ite ?_ ?_)
      | (with_reducible refine LeO.bind ?_ (fun _ => ?_))
      | exact ih0 _ _ _ _
      | exact ih1 _ _
      | exact ih2 _ _ _
      | exact page_Put.mono _ _ _
      | exact ringworklaw06_Made.mono _ _ _
      | exact ringworklaw06_awake.mono _
      | exact LeO.none _
      | refine LeO.ite ?_ ?_
      | refine LeO.bind ?_ (fun _ => ?_)
    · intro y0 y1
      unfold ringworklaw06_PageBack.j1
      repeat' first
      | (with_reducible exact ih0 _ _ _ _)
      | (with_reducible exact ih1 _ _)
      | (with_reducible exact ih2 _ _ _)
      | (with_reducible exact page_Put.mono _ _ _)
      | (with_reducible exact ringworklaw06_Made.mono _ _ _)
      | (with_reducible exact ringworklaw06_awake.mono _)
      | (with_reducible exact LeO.refl _)
      | (with_reducible exact LeO.none _)
      | (with_reducible refine LeO.ite ?_ ?_)
      | (with_reducible refine LeO.bind ?_ (fun _ => ?_))
      | exact ih0 _ _ _ _
      | exact ih1 _ _
      | exact ih2 _ _ _
      | exact page_Put.mono _ _ _
      | exact ringworklaw06_Made.mono _ _ _
      | exact ringworklaw06_awake.mono _
      | exact LeO.none _
      | refine LeO.ite ?_ ?_
      | refine LeO.bind ?_ (fun _ => ?_)
    · intro y0 y1 y2
      unfold ringworklaw06_PageBack.l0
      repeat' first
      | (with_reducible exact ih0 _ _ _ _)
      | (with_reducible exact ih1 _ _)
      | (with_reducible exact ih2 _ _ _)
      | (with_reducible exact page_Put.mono _ _ _)
      | (with_reducible exact ringworklaw06_Made.mono _ _ _)
      | (with_reducible exact ringworklaw06_awake.mono _)
      | (with_reducible exact LeO.refl _)
      | (with_reducible exact LeO.none _)
      | (with_reducible refine LeO.ite ?_ ?_)
      | (with_reducible refine LeO.bind ?_ (fun _ => ?_))
      | exact ih0 _ _ _ _
      | exact ih1 _ _
      | exact ih2 _ _ _
      | exact page_Put.mono _ _ _
      | exact ringworklaw06_Made.mono _ _ _
      | exact ringworklaw06_awake.mono _
      | exact LeO.none _
      | refine LeO.ite ?_ ?_
      | refine LeO.bind ?_ (fun _ => ?_)
theorem ringworklaw06_PageBack.mono : ∀ a0 a1 a2 k, LeO (ringworklaw06_PageBack.f k a0 a1 a2) (ringworklaw06_PageBack.f (k + 1) a0 a1 a2) := by
  intro a0 a1 a2 k
  obtain ⟨ih0, ih1, ih2⟩ := ringworklaw06_PageBack.mono_l k
  unfold ringworklaw06_PageBack.f
  repeat' first
      | (with_reducible exact ih0 _ _ _ _)
      | (with_reducible exact ih1 _ _)
      | (with_reducible exact ih2 _ _ _)
      | (with_reducible exact page_Put.mono _ _ _)
      | (with_reducible exact ringworklaw06_Made.mono _ _ _)
      | (with_reducible exact ringworklaw06_awake.mono _)
      | (with_reducible exact LeO.refl _)
      | (with_reducible exact LeO.none _)
      | (with_reducible refine LeO.ite ?_ ?_)
      | (with_reducible refine LeO.bind ?_ (fun _ => ?_))
      | exact ih0 _ _ _ _
      | exact ih1 _ _
      | exact ih2 _ _ _
      | exact page_Put.mono _ _ _
      | exact ringworklaw06_Made.mono _ _ _
      | exact ringworklaw06_awake.mono _
      | exact LeO.none _
      | refine LeO.ite ?_ ?_
      | refine LeO.bind ?_ (fun _ => ?_)
def ringworklaw06_PageBack.T12 : Bool × List (List Nat × List Nat) := (true, [([], []), ([], []), ([], []), ([1, 2], [1, 2]), ([3], [3]), ([4], [4]), ([], []), ([], []), ([6, 7], [6, 7]), ([8], [8]), ([9], [9]), ([0, 5, 10], [0, 5, 10]), ([11], [11]), ([12], [12]), ([12], [12]), ([13, 11, 0, 1, 2, 3, 4, 5, 6, 7, 8, 9, 10, 11, 12, 13], [13]), ([14, 15, 0, 1, 2, 3, 4, 5, 6, 7, 8, 9, 10, 11, 12, 13, 14, 15], [14])])
def ringworklaw06_PageBack.B12 : List Nat := [0, 0, 0, 6, 14, 30, 0, 0, 192, 448, 960, 2047, 4095, 8191, 8191, 16383, 65535]
theorem ringworklaw06_PageBack.tab12 : rtab .any (opsOf Try.f6 12) = ringworklaw06_PageBack.T12 := by kernel_rfl
theorem ringworklaw06_PageBack.bits12 : waitsOk ringworklaw06_PageBack.T12.2 ringworklaw06_PageBack.B12 = true := by kernel_rfl
set_option maxHeartbeats 8000000 in
set_option maxRecDepth 100000 in
theorem ringworklaw06_PageBack.calls (k : Nat) (a0 : Int) (A1 : Option Addr) (c1 : Nat) (l1 : List (S45)) (a2 : ByteArray) (r : Bool) (w : World) (hr1 : Kd.C k45 w A1 l1.length l1) (hc1 : l1.length ≤ c1) (h : ringworklaw06_PageBack.f k a0 l1 a2 = some r) :
    Calls Try.prog 6 #[.int .i64 a0, .slice A1 l1.length c1, .string a2] w fun e w' => e = .returned (.bool r) ∧ Below w.heap.size w w' := by
  have HR1 := Aside0.mk hr1
  have HC1 := Aside0.mk hc1
  clear hr1 hc1
  have HB := Aside0.mk (Below.refl w.heap.size w)
  have H : ((ringworklaw06_Made.f k a0 l1).bind fun bt263 => (if bt263.2 = true then (ringworklaw06_PageBack.j0 k l1 a2 bt263.1 (decide ((a2.size : Int) > 5000))) else (ringworklaw06_PageBack.j0 k l1 a2 bt263.1 true))) = some r := h
  clear h
  replace H := Option.bind_eq_some_iff.mp H
  obtain ⟨⟨t263, t264⟩, A40, H⟩ := H
  replace H : (if t264 = true then (ringworklaw06_PageBack.j0 k l1 a2 t263 (decide ((a2.size : Int) > 5000))) else (ringworklaw06_PageBack.j0 k l1 a2 t263 true)) = some r := H
  have A4 := Aside0.mk A40
  clear A40
  have HC5 := Aside0.mk H
  clear H
  go_enter Try.func6, Try.ntmps6
  go_upto_region 2 with (first | ((with_reducible refine gate_callee (f := 10) rfl ?_); refine goesL_ (some 20) rfl rfl Try.func10 (by kernel_rfl) rfl #[.int .i64 a0, .slice A1 l1.length c1] rfl (by (try simp only [List.map_toArray, List.map_cons, List.map_nil]); first | done | rfl | (simp only [List.length_drop, List.length_take]; rfl)) ?_; (with_reducible refine (ringworklaw06_Made.calls k a0 _ _ l1 t263 t264 _ ?side1 ?side2 A4.out).mono ?_); (case side1 => repeat (first | exact HR1.out | (with_reducible refine Kd.C_alloc ?_ _) | (with_reducible refine Kd.C_drewN ?_ _) | (with_reducible refine Kd.C_drew ?_))); (case side2 => exact HC1.out); rintro e w6 ⟨rfl, hb⟩; refine ⟨_, rfl, ?_⟩; have n0_ := Aside0.mk (below_step (by repeat (first | (with_reducible first | exact HB.out | apply below_alloc | apply pw_below_drewN | apply below_drew1) | exact HB.out)) hb); clear HB; have HB := n0_; clear n0_; (try clear hb); (try clear hb2); (try clear hk); (try clear hi)))
  (try simp only [Act.put, List.setIfInBounds_toArray, List.set_cons_zero, List.set_cons_succ])
  go_cut [29] (fun v29 wc => ∃ (kq : Nat) (x29_4 : Bool), v29 = .bool x29_4 ∧ Aside0 (ringworklaw06_PageBack.j0 kq l1 a2 t263 x29_4 = some r) ∧ Aside0 (kq ≤ k) ∧ Aside0 (Below w.heap.size w wc))
  case first =>
    have H := HC5.out
    clear HC5
    by_cases c7 : t264 = true
    · subst c7
      have H1 : (ringworklaw06_PageBack.j0 k l1 a2 t263 (decide ((a2.size : Int) > 5000))) = some r := by rw [if_pos rfl] at H; exact H
      clear H
      have H := H1
      clear H1
      have H' := Aside0.mk H
      clear H
      go_wp2
      go_meet
      case rel => exact ⟨_, (decide ((a2.size : Int) > 5000)), (by first | rfl | (simp; done) | (simp [*]; done)), H', ⟨by first | omega | exact Nat.le_refl _⟩, ⟨by repeat (first | (with_reducible first | exact HB.out | apply below_alloc | apply pw_below_drewN | apply below_drew1) | exact HB.out)⟩⟩
    · replace c7 := Bool.eq_false_iff.mpr c7
      subst c7
      have H1 : (ringworklaw06_PageBack.j0 k l1 a2 t263 true) = some r := by rw [if_neg (show ¬ (false = true) by decide)] at H; exact H
      clear H
      have H := H1
      clear H1
      have H' := Aside0.mk H
      clear H
      go_wp2
      go_meet
      case rel => exact ⟨_, (true), (by first | rfl | (simp; done) | (simp [*]; done)), H', ⟨by first | omega | exact Nat.le_refl _⟩, ⟨by repeat (first | (with_reducible first | exact HB.out | apply below_alloc | apply pw_below_drewN | apply below_drew1) | exact HB.out)⟩⟩
  case rest =>
    clear HC5
    try clear c1
    try clear p2
    try clear c6
    try clear c7
    obtain ⟨kq, x29_4, rfl, HA, HJ4, HB⟩ := hcut
    cases kq with
    | zero => exact absurd HA.out (by simp [ringworklaw06_PageBack.j0])
    | succ kj4 =>
      have H := HA.out
      clear HA
      simp only [ringworklaw06_PageBack.j0] at H
      by_cases c8 : x29_4 = true
      · subst c8
        have H1 : ((ringworklaw06_awake.f kj4).bind fun t265 => (some t265)) = some r := by rw [if_pos rfl] at H; exact H
        clear H
        have H := H1
        clear H1
        replace H := Option.bind_eq_some_iff.mp H
        obtain ⟨t265, A90, H⟩ := H
        replace H : (some t265) = some r := H
        have A9 := Aside0.mk A90
        clear A90
        obtain rfl := Option.some.inj H
        go_wp2_with (first | ((with_reducible refine gate_callee (f := 11) rfl ?_); refine goesL_ (some 30) rfl rfl Try.func11 (by kernel_rfl) rfl #[] rfl (by (try simp only [List.map_toArray, List.map_cons, List.map_nil]); first | done | rfl | (simp only [List.length_drop, List.length_take]; rfl)) ?_; (with_reducible refine (ringworklaw06_awake.calls kj4  t265 _ A9.out).mono ?_); rintro e w10 ⟨rfl, hb⟩; refine ⟨_, rfl, ?_⟩; have n0_ := Aside0.mk (below_step (by repeat (first | (with_reducible first | exact HB.out | apply below_alloc | apply pw_below_drewN | apply below_drew1) | exact HB.out)) hb); clear HB; have HB := n0_; clear n0_; (try clear hb); (try clear hb2); (try clear hk); (try clear hi)))
        go_ret
        exact ⟨by first | rfl | (simp [errW_none, errW_some] <;> rfl) | (simp [*, errW_none, errW_some] <;> rfl), by repeat (first | (with_reducible first | exact HB.out | apply below_alloc | apply pw_below_drewN | apply below_drew1) | exact HB.out)⟩
      · replace c8 := Bool.eq_false_iff.mpr c8
        subst c8
        have H1 : ((page_Put.f kj4 t263 a2).bind fun bt266 => (if bt266.2.2 = 0 then ((page_Drop.f bt266.1 bt266.2.1).bind fun bt269 => (if bt269.2 = 0 then (if bt269.1.toList = t263.toList then (ringworklaw06_PageBack.j1 kj4 l1 t263) else (some false)) else (some false))) else (ringworklaw06_PageBack.j1 kj4 l1 t263))) = some r := by rw [if_neg (show ¬ (false = true) by decide)] at H; exact H
        clear H
        have H := H1
        clear H1
        replace H := Option.bind_eq_some_iff.mp H
        obtain ⟨⟨t266, t267, t268⟩, A110, H⟩ := H
        replace H : (if t268 = 0 then ((page_Drop.f t266 t267).bind fun bt269 => (if bt269.2 = 0 then (if bt269.1.toList = t263.toList then (ringworklaw06_PageBack.j1 kj4 l1 t263) else (some false)) else (some false))) else (ringworklaw06_PageBack.j1 kj4 l1 t263)) = some r := H
        have A11 := Aside0.mk A110
        clear A110
        have HC12 := Aside0.mk H
        clear H
        go_upto_if 39 with (first | ((with_reducible refine gate_callee (f := 29) rfl ?_); refine goesL_ (some 34) rfl rfl Try.func29 (by kernel_rfl) rfl #[.string t263, .string a2] rfl (by (try simp only [List.map_toArray, List.map_cons, List.map_nil]); first | done | rfl | (simp only [List.length_drop, List.length_take]; rfl)) ?_; (with_reducible refine (page_Put.calls kj4 t263 a2 t266 t267 t268 _ A11.out).mono ?_); rintro e w13 ⟨rfl, hb⟩; refine ⟨_, rfl, ?_⟩; have n0_ := Aside0.mk (below_step (by repeat (first | (with_reducible first | exact HB.out | apply below_alloc | apply pw_below_drewN | apply below_drew1) | exact HB.out)) hb); clear HB; have HB := n0_; clear n0_; (try clear hb); (try clear hb2); (try clear hk); (try clear hi)))
        (try simp only [Act.put, List.setIfInBounds_toArray, List.set_cons_zero, List.set_cons_succ])
        go_cut [] (fun wc => ∃ (kq : Nat), Aside0 (ringworklaw06_PageBack.j1 kq l1 t263 = some r) ∧ Aside0 (kq ≤ kj4) ∧ Aside0 (Below w.heap.size w wc))
        case first =>
          have H := HC12.out
          clear HC12
          by_cases c14 : t268 = 0
          · rw [if_pos c14] at H
            have c14b0 : (t268 == 0) = true := beq_iff_eq.mpr c14
            have c14b1 : (t268 != 0) = false := bne_eq_false_iff_eq.mpr c14
            clear c14
            (first | rw [c14b0] | (simp only [i64_w, i32_w]; rw [c14b0]) | skip)
            replace H := Option.bind_eq_some_iff.mp H
            obtain ⟨⟨t269, t270⟩, A150, H⟩ := H
            replace H : (if t270 = 0 then (if t269.toList = t263.toList then (ringworklaw06_PageBack.j1 kj4 l1 t263) else (some false)) else (some false)) = some r := H
            have A15 := Aside0.mk A150
            clear A150
            by_cases c16 : t270 = 0
            · rw [if_pos c16] at H
              have c16b0 : (t270 == 0) = true := beq_iff_eq.mpr c16
              have c16b1 : (t270 != 0) = false := bne_eq_false_iff_eq.mpr c16
              clear c16
              by_cases c17 : t269.toList = t263.toList
              · rw [if_pos c17] at H
                have c17b0 : (t269.toList == t263.toList) = true := beq_iff_eq.mpr c17
                have c17b1 : (t269.toList != t263.toList) = false := bne_eq_false_iff_eq.mpr c17
                clear c17
                have H' := Aside0.mk H
                clear H
                go_wp2_with (first | ((with_reducible refine gate_callee (f := 30) rfl ?_); refine goesL_ (some 43) rfl rfl Try.func30 (by kernel_rfl) rfl #[.string t266, .int .i64 t267] rfl (by (try simp only [List.map_toArray, List.map_cons, List.map_nil]); first | done | rfl | (simp only [List.length_drop, List.length_take]; rfl)) ?_; (with_reducible refine (page_Drop.calls t266 t267 t269 t270 _ A15.out).mono ?_); rintro e w18 ⟨rfl, hb⟩; refine ⟨_, rfl, ?_⟩; have n0_ := Aside0.mk (below_step (by repeat (first | (with_reducible first | exact HB.out | apply below_alloc | apply pw_below_drewN | apply below_drew1) | exact HB.out)) hb); clear HB; have HB := n0_; clear n0_; (try clear hb); (try clear hb2); (try clear hk); (try clear hi)))
                go_meet
                case rel => exact ⟨_, H', ⟨by have := HJ4.out; first | omega | exact Nat.le_refl _⟩, ⟨by repeat (first | (with_reducible first | exact HB.out | apply below_alloc | apply pw_below_drewN | apply below_drew1) | exact HB.out)⟩⟩
              · rw [if_neg c17] at H
                have c17b0 : (t269.toList == t263.toList) = false := beq_eq_false_iff_ne.mpr c17
                have c17b1 : (t269.toList != t263.toList) = true := bne_iff_ne.mpr c17
                obtain rfl := Option.some.inj H
                go_wp2_with (first | ((with_reducible refine gate_callee (f := 30) rfl ?_); refine goesL_ (some 43) rfl rfl Try.func30 (by kernel_rfl) rfl #[.string t266, .int .i64 t267] rfl (by (try simp only [List.map_toArray, List.map_cons, List.map_nil]); first | done | rfl | (simp only [List.length_drop, List.length_take]; rfl)) ?_; (with_reducible refine (page_Drop.calls t266 t267 t269 t270 _ A15.out).mono ?_); rintro e w19 ⟨rfl, hb⟩; refine ⟨_, rfl, ?_⟩; have n0_ := Aside0.mk (below_step (by repeat (first | (with_reducible first | exact HB.out | apply below_alloc | apply pw_below_drewN | apply below_drew1) | exact HB.out)) hb); clear HB; have HB := n0_; clear n0_; (try clear hb); (try clear hb2); (try clear hk); (try clear hi)))
                go_ret
                exact ⟨by first | rfl | (simp [errW_none, errW_some] <;> rfl) | (simp [*, errW_none, errW_some] <;> rfl), by repeat (first | (with_reducible first | exact HB.out | apply below_alloc | apply pw_below_drewN | apply below_drew1) | exact HB.out)⟩
            · rw [if_neg c16] at H
              have c16b0 : (t270 == 0) = false := beq_eq_false_iff_ne.mpr c16
              have c16b1 : (t270 != 0) = true := bne_iff_ne.mpr c16
              obtain rfl := Option.some.inj H
              go_wp2_with (first | ((with_reducible refine gate_callee (f := 30) rfl ?_); refine goesL_ (some 43) rfl rfl Try.func30 (by kernel_rfl) rfl #[.string t266, .int .i64 t267] rfl (by (try simp only [List.map_toArray, List.map_cons, List.map_nil]); first | done | rfl | (simp only [List.length_drop, List.length_take]; rfl)) ?_; (with_reducible refine (page_Drop.calls t266 t267 t269 t270 _ A15.out).mono ?_); rintro e w20 ⟨rfl, hb⟩; refine ⟨_, rfl, ?_⟩; have n0_ := Aside0.mk (below_step (by repeat (first | (with_reducible first | exact HB.out | apply below_alloc | apply pw_below_drewN | apply below_drew1) | exact HB.out)) hb); clear HB; have HB := n0_; clear n0_; (try clear hb); (try clear hb2); (try clear hk); (try clear hi)))
              go_ret
              exact ⟨by first | rfl | (simp [errW_none, errW_some] <;> rfl) | (simp [*, errW_none, errW_some] <;> rfl), by repeat (first | (with_reducible first | exact HB.out | apply below_alloc | apply pw_below_drewN | apply below_drew1) | exact HB.out)⟩
          · rw [if_neg c14] at H
            have c14b0 : (t268 == 0) = false := beq_eq_false_iff_ne.mpr c14
            have c14b1 : (t268 != 0) = true := bne_iff_ne.mpr c14
            (first | rw [c14b0] | (simp only [i64_w, i32_w]; rw [c14b0]) | skip)
            have H' := Aside0.mk H
            clear H
            go_wp2
            go_meet
            case rel => exact ⟨_, H', ⟨by have := HJ4.out; first | omega | exact Nat.le_refl _⟩, ⟨by repeat (first | (with_reducible first | exact HB.out | apply below_alloc | apply pw_below_drewN | apply below_drew1) | exact HB.out)⟩⟩
        case rest =>
          clear HC12
          try clear c1
          try clear c2
          try clear p2
          try clear c3
          try clear c6
          try clear c7
          try clear c8
          try clear c10
          try clear c11
          try clear c14
          try clear c14b0
          try clear c14b1
          try clear c16
          try clear c16b0
          try clear c16b1
          try clear c17
          try clear c17b0
          try clear c17b1
          try clear p2
          obtain ⟨kq, HA, HJ11, HB⟩ := hcut
          cases kq with
          | zero => exact absurd HA.out (by simp [ringworklaw06_PageBack.j1])
          | succ kj11 =>
            have H := HA.out
            clear HA
            simp only [ringworklaw06_PageBack.j1] at H
            have H' := Aside0.mk H
            clear H
            go_wp2
            go_loopg [14] kj11 (fun kq v14 w' => ∃ (x14_3 : Int), v14 = .int .i64 x14_3 ∧ Aside0 (ringworklaw06_PageBack.l0 kq l1 t263 x14_3 = some r) ∧ Aside0 (kq ≤ kj11) ∧ Aside0 (Below w.heap.size w w'))
            case atStart => exact ⟨(0), (by first | rfl | (simp; done) | (simp [*]; done)), H', ⟨Nat.le_refl _⟩, ⟨by repeat (first | (with_reducible first | exact HB.out | apply below_alloc | apply pw_below_drewN | apply below_drew1) | exact HB.out)⟩⟩
            case round =>
              clear H'
              try clear c1
              try clear c2
              try clear p2
              try clear c3
              try clear c6
              try clear c7
              try clear c8
              try clear c10
              try clear c11
              try clear c14
              try clear c14b0
              try clear c14b1
              try clear c16
              try clear c16b0
              try clear c16b1
              try clear c17
              try clear c17b0
              try clear c17b1
              try clear p2
              obtain ⟨x14_3, rfl, HA, HK3, HB⟩ := hrel
              cases gk with
              | zero => exact absurd HA.out (by simp [ringworklaw06_PageBack.l0])
              | succ k3 =>
                have H := HA.out
                clear HA
                simp only [ringworklaw06_PageBack.l0] at H
                by_cases c21 : x14_3 < (l1.length : Int)
                · rw [if_pos c21] at H
                  have c21b0 : decide (x14_3 < (l1.length : Int)) = true := decide_eq_true c21
                  clear c21
                  by_cases c22 : 0 ≤ x14_3
                  · rw [if_pos c22] at H
                    have c22b0 : decide (0 ≤ x14_3) = true := decide_eq_true c22
                    clear c22
                    replace H := Option.bind_eq_some_iff.mp H
                    obtain ⟨⟨t273, t274⟩, A230, H⟩ := H
                    replace H : (if t274 = 0 then (if t273.toList = t263.toList then (ringworklaw06_PageBack.l0 k3 l1 t263 (wrap64 (x14_3 + 1))) else (some false)) else (some false)) = some r := H
                    have A23 := Aside0.mk A230
                    clear A230
                    by_cases c24 : t274 = 0
                    · rw [if_pos c24] at H
                      have c24b0 : (t274 == 0) = true := beq_iff_eq.mpr c24
                      have c24b1 : (t274 != 0) = false := bne_eq_false_iff_eq.mpr c24
                      clear c24
                      by_cases c25 : t273.toList = t263.toList
                      · rw [if_pos c25] at H
                        have c25b0 : (t273.toList == t263.toList) = true := beq_iff_eq.mpr c25
                        have c25b1 : (t273.toList != t263.toList) = false := bne_eq_false_iff_eq.mpr c25
                        clear c25
                        have H' := Aside0.mk H
                        clear H
                        try go_wp2
                        have n0_ := Aside0.mk (below_drew1 HB.out)
                        clear HB
                        have HB := n0_
                        clear n0_
                        have p271 : 0 ≤ (x14_3 : Int) := of_decide_eq_true (by first | (with_reducible assumption) | assumption)
                        have q271 : x14_3 < (l1.length : Int) := of_decide_eq_true (by first | (with_reducible assumption) | assumption)
                        obtain ⟨ad271, e271, hx271_0, hx271_1⟩ := at_T45 HR1.out x14_3 p271 q271
                        have hw271_1 := hx271_1
                        have hw271_0 := hx271_0
                        cases e271
                        replace hx271_0 := (HB.out.cell (World.block_lt_of_cell? w _ hx271_0)).trans hx271_0
                        replace hx271_1 := (HB.out.cell (World.block_lt_of_cell? w _ hx271_1)).trans hx271_1
                        replace p271 := eq_true p271
                        replace q271 := eq_true q271
                        have p272 : 0 ≤ (x14_3 : Int) := of_decide_eq_true (by first | (with_reducible assumption) | assumption)
                        have q272 : x14_3 < (l1.length : Int) := of_decide_eq_true (by first | (with_reducible assumption) | assumption)
                        obtain ⟨ad272, e272, hx272_0, hx272_1⟩ := at_T45 HR1.out x14_3 p272 q272
                        have hw272_1 := hx272_1
                        have hw272_0 := hx272_0
                        obtain rfl : ad271 = ad272 := (by injection e272)
                        replace hx272_0 := (HB.out.cell (World.block_lt_of_cell? w _ hx272_0)).trans hx272_0
                        replace hx272_1 := (HB.out.cell (World.block_lt_of_cell? w _ hx272_1)).trans hx272_1
                        replace p272 := eq_true p272
                        replace q272 := eq_true q272
                        refine start_ (n := 17) (S := fun w' => w'.cell? (ad271.add ((x14_3).toNat * 2)) = some (.int .i64 ((rd_T45 l1 x14_3).f0)) ∧ w'.cell? ⟨(ad271.add ((x14_3).toNat * 2)).block, (ad271.add ((x14_3).toNat * 2)).off + 1, none⟩ = some (.string ((rd_T45 l1 x14_3).f1)) ∧ w'.cell? (ad271.add ((x14_3).toNat * 2)) = some (.int .i64 ((rd_T45 l1 x14_3).f0)) ∧ w'.cell? ⟨(ad271.add ((x14_3).toNat * 2)).block, (ad271.add ((x14_3).toNat * 2)).off + 1, none⟩ = some (.string ((rd_T45 l1 x14_3).f1))) (ds := []) #[false, false, false, false, false, false, false, false, false, false, false, false, false, false, false, false, false] (by kernel_rfl) rfl rfl ⟨((HB.out.cell (World.block_lt_of_cell? w _ hw271_0)).trans hw271_0), ((HB.out.cell (World.block_lt_of_cell? w _ hw271_1)).trans hw271_1), ((HB.out.cell (World.block_lt_of_cell? w _ hw272_0)).trans hw272_0), ((HB.out.cell (World.block_lt_of_cell? w _ hw272_1)).trans hw272_1)⟩ (fun hHeld => ?_); refine with_tabW ringworklaw06_PageBack.tab12 ringworklaw06_PageBack.bits12 (fun HT_ HW_ => ?_)
                        generalize wr.drew = w26 at HB hx271_0 hx271_1 hx272_0 hx272_1 hHeld ⊢
                        refine pure_ (i := 0) (N := some 60) (v := ?_) (a' := ?_) #[true, false, false, false, false, false, false, false, false, false, false, false, false, false, false, false, false] rfl rfl (any_of HT_.out (by kernel_rfl)) (fun _ _ _ h => h) (Or.inl ⟨by rfl, ?_⟩) ?_ ?_
                        rotate_left
                        · intro w'
                          go_simp
                          with_reducible rfl
                        rotate_left
                        · simp only [Act.put, List.setIfInBounds_toArray, List.set_cons_zero, List.set_cons_succ, i64_w, i32_w]
                          rfl
                        refine pure_ (i := 1) (N := some 61) (v := ?_) (a' := ?_) #[true, true, false, false, false, false, false, false, false, false, false, false, false, false, false, false, false] rfl rfl (any_of HT_.out (by kernel_rfl)) (fun _ _ _ h => h) (Or.inl ⟨by rfl, ?_⟩) ?_ ?_
                        rotate_left
                        · intro w'
                          go_simp
                          with_reducible rfl
                        rotate_left
                        · simp only [Act.put, List.setIfInBounds_toArray, List.set_cons_zero, List.set_cons_succ, i64_w, i32_w]
                          rfl
                        refine pure_ (i := 2) (N := some 62) (v := ?_) (a' := ?_) #[true, true, true, false, false, false, false, false, false, false, false, false, false, false, false, false, false] rfl rfl (any_of HT_.out (by kernel_rfl)) (fun _ _ _ h => h) (Or.inl ⟨by rfl, ?_⟩) ?_ ?_
                        rotate_left
                        · intro w'
                          go_simp
                          with_reducible rfl
                        rotate_left
                        · simp only [Act.put, List.setIfInBounds_toArray, List.set_cons_zero, List.set_cons_succ, i64_w, i32_w]
                          rfl
                        refine pure_ (i := 3) (N := some 63) (v := ?_) (a' := ?_) #[true, true, true, true, false, false, false, false, false, false, false, false, false, false, false, false, false] rfl rfl (any_of HT_.out (by kernel_rfl)) (fun _ _ _ h => h) (Or.inl ⟨by rfl, ?_⟩) ?_ ?_
                        rotate_left
                        · intro w'
                          go_simp
                          with_reducible rfl
                        rotate_left
                        · simp only [Act.put, List.setIfInBounds_toArray, List.set_cons_zero, List.set_cons_succ, i64_w, i32_w]
                          rfl
                        refine pure_ (i := 4) (N := some 64) (v := ?_) (a' := ?_) #[true, true, true, true, true, false, false, false, false, false, false, false, false, false, false, false, false] rfl rfl (any_of HT_.out (by kernel_rfl)) (fun _ _ _ h => h) (Or.inl ⟨by rfl, ?_⟩) ?_ ?_
                        rotate_left
                        · intro w'
                          go_simp
                          with_reducible rfl
                        rotate_left
                        · simp only [Act.put, List.setIfInBounds_toArray, List.set_cons_zero, List.set_cons_succ, i64_w, i32_w]
                          rfl
                        refine pure_ (i := 6) (N := some 66) (v := ?_) (a' := ?_) #[true, true, true, true, true, false, true, false, false, false, false, false, false, false, false, false, false] rfl rfl (any_of HT_.out (by kernel_rfl)) (fun _ _ _ h => h) (Or.inl ⟨by rfl, ?_⟩) ?_ ?_
                        rotate_left
                        · intro w'
                          go_simp
                          with_reducible rfl
                        rotate_left
                        · simp only [Act.put, List.setIfInBounds_toArray, List.set_cons_zero, List.set_cons_succ, i64_w, i32_w]
                          rfl
                        refine pure_ (i := 7) (N := some 67) (v := ?_) (a' := ?_) #[true, true, true, true, true, false, true, true, false, false, false, false, false, false, false, false, false] rfl rfl (any_of HT_.out (by kernel_rfl)) (fun _ _ _ h => h) (Or.inl ⟨by rfl, ?_⟩) ?_ ?_
                        rotate_left
                        · intro w'
                          go_simp
                          with_reducible rfl
                        rotate_left
                        · simp only [Act.put, List.setIfInBounds_toArray, List.set_cons_zero, List.set_cons_succ, i64_w, i32_w]
                          rfl
                        refine pure_ (i := 8) (N := some 68) (v := ?_) (a' := ?_) #[true, true, true, true, true, false, true, true, true, false, false, false, false, false, false, false, false] rfl rfl (any_of HT_.out (by kernel_rfl)) (fun _ _ _ h => h) (Or.inl ⟨by rfl, ?_⟩) ?_ ?_
                        rotate_left
                        · intro w'
                          go_simp
                          with_reducible rfl
                        rotate_left
                        · simp only [Act.put, List.setIfInBounds_toArray, List.set_cons_zero, List.set_cons_succ, i64_w, i32_w]
                          rfl
                        refine pure_ (i := 9) (N := some 69) (v := ?_) (a' := ?_) #[true, true, true, true, true, false, true, true, true, true, false, false, false, false, false, false, false] rfl rfl (any_of HT_.out (by kernel_rfl)) (fun _ _ _ h => h) (Or.inl ⟨by rfl, ?_⟩) ?_ ?_
                        rotate_left
                        · intro w'
                          go_simp
                          with_reducible rfl
                        rotate_left
                        · simp only [Act.put, List.setIfInBounds_toArray, List.set_cons_zero, List.set_cons_succ, i64_w, i32_w]
                          rfl
                        refine take_ (i := 5) (N := some 65) (v := ?_) (a' := ?_) #[true, true, true, true, true, true, true, true, true, true, false, false, false, false, false, false, false] rfl rfl (take_ofW HT_.out HW_.out (by kernel_rfl)) (fun _ _ _ h => h) (Or.inl ⟨by rfl, ?_⟩) hHeld ?_ ?_
                        rotate_left
                        · rintro w' ⟨s0, s1, s2, s3⟩
                          go_simp
                          with_reducible rfl
                        rotate_left
                        · simp only [Act.put, List.setIfInBounds_toArray, List.set_cons_zero, List.set_cons_succ, i64_w, i32_w]
                          rfl
                        refine take_ (i := 10) (N := some 70) (v := ?_) (a' := ?_) #[true, true, true, true, true, true, true, true, true, true, true, false, false, false, false, false, false] rfl rfl (take_ofW HT_.out HW_.out (by kernel_rfl)) (fun _ _ _ h => h) (Or.inl ⟨by rfl, ?_⟩) hHeld ?_ ?_
                        rotate_left
                        · rintro w' ⟨s0, s1, s2, s3⟩
                          go_simp
                          with_reducible rfl
                        rotate_left
                        · simp only [Act.put, List.setIfInBounds_toArray, List.set_cons_zero, List.set_cons_succ, i64_w, i32_w]
                          rfl
                        refine one_ (i := 11) (N := some 71) #[true, true, true, true, true, true, true, true, true, true, true, true, false, false, false, false, false] rfl rfl (one_of HT_.out (by kernel_rfl)) (by decide) (fun K hK => ?_)
                        refine goes_ Try.func31 (by kernel_rfl) rfl #[.string t263, .int .i64 ((rd_T45 l1 x14_3).f0), .string ((rd_T45 l1 x14_3).f1)] (by rfl) rfl rfl (by (try simp only [List.map_toArray, List.map_cons, List.map_nil]); first | done | rfl | (simp only [List.length_drop, List.length_take]; rfl)) ?_
                        with_reducible refine (page_Set.calls t263 ((rd_T45 l1 x14_3).f0) ((rd_T45 l1 x14_3).f1) t273 t274 _ A23.out).mono ?_
                        rintro e w27 ⟨rfl, hb⟩
                        refine ⟨_, rfl, ?_⟩
                        have n0_ := Aside0.mk (below_step (by repeat (first | (with_reducible first | exact HB.out | apply below_alloc | apply pw_below_drewN | apply below_drew1) | exact HB.out)) hb)
                        clear HB
                        have HB := n0_
                        clear n0_
                        (try clear hb)
                        (try clear hb2)
                        (try clear hk)
                        (try clear hi)
                        refine hK.out _ _ ⟨((HB.out.cell (World.block_lt_of_cell? w _ hw271_0)).trans hw271_0), ((HB.out.cell (World.block_lt_of_cell? w _ hw271_1)).trans hw271_1), ((HB.out.cell (World.block_lt_of_cell? w _ hw272_0)).trans hw272_0), ((HB.out.cell (World.block_lt_of_cell? w _ hw272_1)).trans hw272_1)⟩ (fun hHeld => ?_)
                        clear hK K
                        refine norm_ (a' := ?_) ?_ ?_
                        rotate_left
                        · show Act.put _ (some 71) _ = _
                          simp only [Act.put, List.setIfInBounds_toArray, List.set_cons_zero, List.set_cons_succ, i64_w, i32_w]
                          rfl
                        refine pure_ (i := 12) (N := some 59) (v := ?_) (a' := ?_) #[true, true, true, true, true, true, true, true, true, true, true, true, true, false, false, false, false] rfl rfl (any_of HT_.out (by kernel_rfl)) (fun _ _ _ h => h) (Or.inl ⟨by rfl, ?_⟩) ?_ ?_
                        rotate_left
                        · intro w'
                          go_simp
                          with_reducible rfl
                        rotate_left
                        · simp only [Act.put, List.setIfInBounds_toArray, List.set_cons_zero, List.set_cons_succ, i64_w, i32_w]
                          rfl
                        refine pure_ (i := 13) (N := some 72) (v := ?_) (a' := ?_) #[true, true, true, true, true, true, true, true, true, true, true, true, true, true, false, false, false] rfl rfl (any_of HT_.out (by kernel_rfl)) (fun _ _ _ h => h) (Or.inl ⟨by rfl, ?_⟩) ?_ ?_
                        rotate_left
                        · intro w'
                          go_simp
                          with_reducible rfl
                        rotate_left
                        · simp only [Act.put, List.setIfInBounds_toArray, List.set_cons_zero, List.set_cons_succ, i64_w, i32_w]
                          rfl
                        refine pure_ (i := 14) (N := some 73) (v := ?_) (a' := ?_) #[true, true, true, true, true, true, true, true, true, true, true, true, true, true, true, false, false] rfl rfl (any_of HT_.out (by kernel_rfl)) (fun _ _ _ h => h) (Or.inl ⟨by rfl, ?_⟩) ?_ ?_
                        rotate_left
                        · intro w'
                          go_simp
                          with_reducible rfl
                        rotate_left
                        · simp only [Act.put, List.setIfInBounds_toArray, List.set_cons_zero, List.set_cons_succ, i64_w, i32_w]
                          rfl
                        refine pure_ (i := 15) (N := some 15) (v := ?_) (a' := ?_) #[true, true, true, true, true, true, true, true, true, true, true, true, true, true, true, true, false] rfl rfl (any_of HT_.out (by kernel_rfl)) (fun _ _ _ h => h) (Or.inl ⟨by rfl, ?_⟩) ?_ ?_
                        rotate_left
                        · intro w'
                          go_simp
                          with_reducible rfl
                        rotate_left
                        · simp only [Act.put, List.setIfInBounds_toArray, List.set_cons_zero, List.set_cons_succ, i64_w, i32_w]
                          rfl
                        refine pure_ (i := 16) (N := some 16) (v := ?_) (a' := ?_) #[true, true, true, true, true, true, true, true, true, true, true, true, true, true, true, true, true] rfl rfl (any_of HT_.out (by kernel_rfl)) (fun _ _ _ h => h) (Or.inl ⟨by rfl, ?_⟩) ?_ ?_
                        rotate_left
                        · intro w'
                          go_simp
                          with_reducible rfl
                        rotate_left
                        · simp only [Act.put, List.setIfInBounds_toArray, List.set_cons_zero, List.set_cons_succ, i64_w, i32_w]
                          rfl
                        refine done_ (done_of HT_.out (by kernel_rfl)) ?_
                        try go_wp2
                        go_roundg k3
                        case measure => have := HJ4.out; have := HJ11.out; have := HK3.out; omega
                        case rel => exact ⟨(wrap64 (x14_3 + 1)), (by first | rfl | (simp; done) | (simp [*]; done)), H', ⟨by have := HJ4.out; have := HJ11.out; have := HK3.out; omega⟩, ⟨by repeat (first | (with_reducible first | exact HB.out | apply below_alloc | apply pw_below_drewN | apply below_drew1) | exact HB.out)⟩⟩
                      · rw [if_neg c25] at H
                        have c25b0 : (t273.toList == t263.toList) = false := beq_eq_false_iff_ne.mpr c25
                        have c25b1 : (t273.toList != t263.toList) = true := bne_iff_ne.mpr c25
                        obtain rfl := Option.some.inj H
                        try go_wp2
                        have n0_ := Aside0.mk (below_drew1 HB.out)
                        clear HB
                        have HB := n0_
                        clear n0_
                        have p271 : 0 ≤ (x14_3 : Int) := of_decide_eq_true (by first | (with_reducible assumption) | assumption)
                        have q271 : x14_3 < (l1.length : Int) := of_decide_eq_true (by first | (with_reducible assumption) | assumption)
                        obtain ⟨ad271, e271, hx271_0, hx271_1⟩ := at_T45 HR1.out x14_3 p271 q271
                        have hw271_1 := hx271_1
                        have hw271_0 := hx271_0
                        cases e271
                        replace hx271_0 := (HB.out.cell (World.block_lt_of_cell? w _ hx271_0)).trans hx271_0
                        replace hx271_1 := (HB.out.cell (World.block_lt_of_cell? w _ hx271_1)).trans hx271_1
                        replace p271 := eq_true p271
                        replace q271 := eq_true q271
                        have p272 : 0 ≤ (x14_3 : Int) := of_decide_eq_true (by first | (with_reducible assumption) | assumption)
                        have q272 : x14_3 < (l1.length : Int) := of_decide_eq_true (by first | (with_reducible assumption) | assumption)
                        obtain ⟨ad272, e272, hx272_0, hx272_1⟩ := at_T45 HR1.out x14_3 p272 q272
                        have hw272_1 := hx272_1
                        have hw272_0 := hx272_0
                        obtain rfl : ad271 = ad272 := (by injection e272)
                        replace hx272_0 := (HB.out.cell (World.block_lt_of_cell? w _ hx272_0)).trans hx272_0
                        replace hx272_1 := (HB.out.cell (World.block_lt_of_cell? w _ hx272_1)).trans hx272_1
                        replace p272 := eq_true p272
                        replace q272 := eq_true q272
                        refine start_ (n := 17) (S := fun w' => w'.cell? (ad271.add ((x14_3).toNat * 2)) = some (.int .i64 ((rd_T45 l1 x14_3).f0)) ∧ w'.cell? ⟨(ad271.add ((x14_3).toNat * 2)).block, (ad271.add ((x14_3).toNat * 2)).off + 1, none⟩ = some (.string ((rd_T45 l1 x14_3).f1)) ∧ w'.cell? (ad271.add ((x14_3).toNat * 2)) = some (.int .i64 ((rd_T45 l1 x14_3).f0)) ∧ w'.cell? ⟨(ad271.add ((x14_3).toNat * 2)).block, (ad271.add ((x14_3).toNat * 2)).off + 1, none⟩ = some (.string ((rd_T45 l1 x14_3).f1))) (ds := []) #[false, false, false, false, false, false, false, false, false, false, false, false, false, false, false, false, false] (by kernel_rfl) rfl rfl ⟨((HB.out.cell (World.block_lt_of_cell? w _ hw271_0)).trans hw271_0), ((HB.out.cell (World.block_lt_of_cell? w _ hw271_1)).trans hw271_1), ((HB.out.cell (World.block_lt_of_cell? w _ hw272_0)).trans hw272_0), ((HB.out.cell (World.block_lt_of_cell? w _ hw272_1)).trans hw272_1)⟩ (fun hHeld => ?_); refine with_tabW ringworklaw06_PageBack.tab12 ringworklaw06_PageBack.bits12 (fun HT_ HW_ => ?_)
                        generalize wr.drew = w28 at HB hx271_0 hx271_1 hx272_0 hx272_1 hHeld ⊢
                        refine pure_ (i := 0) (N := some 60) (v := ?_) (a' := ?_) #[true, false, false, false, false, false, false, false, false, false, false, false, false, false, false, false, false] rfl rfl (any_of HT_.out (by kernel_rfl)) (fun _ _ _ h => h) (Or.inl ⟨by rfl, ?_⟩) ?_ ?_
                        rotate_left
                        · intro w'
                          go_simp
                          with_reducible rfl
                        rotate_left
                        · simp only [Act.put, List.setIfInBounds_toArray, List.set_cons_zero, List.set_cons_succ, i64_w, i32_w]
                          rfl
                        refine pure_ (i := 1) (N := some 61) (v := ?_) (a' := ?_) #[true, true, false, false, false, false, false, false, false, false, false, false, false, false, false, false, false] rfl rfl (any_of HT_.out (by kernel_rfl)) (fun _ _ _ h => h) (Or.inl ⟨by rfl, ?_⟩) ?_ ?_
                        rotate_left
                        · intro w'
                          go_simp
                          with_reducible rfl
                        rotate_left
                        · simp only [Act.put, List.setIfInBounds_toArray, List.set_cons_zero, List.set_cons_succ, i64_w, i32_w]
                          rfl
                        refine pure_ (i := 2) (N := some 62) (v := ?_) (a' := ?_) #[true, true, true, false, false, false, false, false, false, false, false, false, false, false, false, false, false] rfl rfl (any_of HT_.out (by kernel_rfl)) (fun _ _ _ h => h) (Or.inl ⟨by rfl, ?_⟩) ?_ ?_
                        rotate_left
                        · intro w'
                          go_simp
                          with_reducible rfl
                        rotate_left
                        · simp only [Act.put, List.setIfInBounds_toArray, List.set_cons_zero, List.set_cons_succ, i64_w, i32_w]
                          rfl
                        refine pure_ (i := 3) (N := some 63) (v := ?_) (a' := ?_) #[true, true, true, true, false, false, false, false, false, false, false, false, false, false, false, false, false] rfl rfl (any_of HT_.out (by kernel_rfl)) (fun _ _ _ h => h) (Or.inl ⟨by rfl, ?_⟩) ?_ ?_
                        rotate_left
                        · intro w'
                          go_simp
                          with_reducible rfl
                        rotate_left
                        · simp only [Act.put, List.setIfInBounds_toArray, List.set_cons_zero, List.set_cons_succ, i64_w, i32_w]
                          rfl
                        refine pure_ (i := 4) (N := some 64) (v := ?_) (a' := ?_) #[true, true, true, true, true, false, false, false, false, false, false, false, false, false, false, false, false] rfl rfl (any_of HT_.out (by kernel_rfl)) (fun _ _ _ h => h) (Or.inl ⟨by rfl, ?_⟩) ?_ ?_
                        rotate_left
                        · intro w'
                          go_simp
                          with_reducible rfl
                        rotate_left
                        · simp only [Act.put, List.setIfInBounds_toArray, List.set_cons_zero, List.set_cons_succ, i64_w, i32_w]
                          rfl
                        refine pure_ (i := 6) (N := some 66) (v := ?_) (a' := ?_) #[true, true, true, true, true, false, true, false, false, false, false, false, false, false, false, false, false] rfl rfl (any_of HT_.out (by kernel_rfl)) (fun _ _ _ h => h) (Or.inl ⟨by rfl, ?_⟩) ?_ ?_
                        rotate_left
                        · intro w'
                          go_simp
                          with_reducible rfl
                        rotate_left
                        · simp only [Act.put, List.setIfInBounds_toArray, List.set_cons_zero, List.set_cons_succ, i64_w, i32_w]
                          rfl
                        refine pure_ (i := 7) (N := some 67) (v := ?_) (a' := ?_) #[true, true, true, true, true, false, true, true, false, false, false, false, false, false, false, false, false] rfl rfl (any_of HT_.out (by kernel_rfl)) (fun _ _ _ h => h) (Or.inl ⟨by rfl, ?_⟩) ?_ ?_
                        rotate_left
                        · intro w'
                          go_simp
                          with_reducible rfl
                        rotate_left
                        · simp only [Act.put, List.setIfInBounds_toArray, List.set_cons_zero, List.set_cons_succ, i64_w, i32_w]
                          rfl
                        refine pure_ (i := 8) (N := some 68) (v := ?_) (a' := ?_) #[true, true, true, true, true, false, true, true, true, false, false, false, false, false, false, false, false] rfl rfl (any_of HT_.out (by kernel_rfl)) (fun _ _ _ h => h) (Or.inl ⟨by rfl, ?_⟩) ?_ ?_
                        rotate_left
                        · intro w'
                          go_simp
                          with_reducible rfl
                        rotate_left
                        · simp only [Act.put, List.setIfInBounds_toArray, List.set_cons_zero, List.set_cons_succ, i64_w, i32_w]
                          rfl
                        refine pure_ (i := 9) (N := some 69) (v := ?_) (a' := ?_) #[true, true, true, true, true, false, true, true, true, true, false, false, false, false, false, false, false] rfl rfl (any_of HT_.out (by kernel_rfl)) (fun _ _ _ h => h) (Or.inl ⟨by rfl, ?_⟩) ?_ ?_
                        rotate_left
                        · intro w'
                          go_simp
                          with_reducible rfl
                        rotate_left
                        · simp only [Act.put, List.setIfInBounds_toArray, List.set_cons_zero, List.set_cons_succ, i64_w, i32_w]
                          rfl
                        refine take_ (i := 5) (N := some 65) (v := ?_) (a' := ?_) #[true, true, true, true, true, true, true, true, true, true, false, false, false, false, false, false, false] rfl rfl (take_ofW HT_.out HW_.out (by kernel_rfl)) (fun _ _ _ h => h) (Or.inl ⟨by rfl, ?_⟩) hHeld ?_ ?_
                        rotate_left
                        · rintro w' ⟨s0, s1, s2, s3⟩
                          go_simp
                          with_reducible rfl
                        rotate_left
                        · simp only [Act.put, List.setIfInBounds_toArray, List.set_cons_zero, List.set_cons_succ, i64_w, i32_w]
                          rfl
                        refine take_ (i := 10) (N := some 70) (v := ?_) (a' := ?_) #[true, true, true, true, true, true, true, true, true, true, true, false, false, false, false, false, false] rfl rfl (take_ofW HT_.out HW_.out (by kernel_rfl)) (fun _ _ _ h => h) (Or.inl ⟨by rfl, ?_⟩) hHeld ?_ ?_
                        rotate_left
                        · rintro w' ⟨s0, s1, s2, s3⟩
                          go_simp
                          with_reducible rfl
                        rotate_left
                        · simp only [Act.put, List.setIfInBounds_toArray, List.set_cons_zero, List.set_cons_succ, i64_w, i32_w]
                          rfl
                        refine one_ (i := 11) (N := some 71) #[true, true, true, true, true, true, true, true, true, true, true, true, false, false, false, false, false] rfl rfl (one_of HT_.out (by kernel_rfl)) (by decide) (fun K hK => ?_)
                        refine goes_ Try.func31 (by kernel_rfl) rfl #[.string t263, .int .i64 ((rd_T45 l1 x14_3).f0), .string ((rd_T45 l1 x14_3).f1)] (by rfl) rfl rfl (by (try simp only [List.map_toArray, List.map_cons, List.map_nil]); first | done | rfl | (simp only [List.length_drop, List.length_take]; rfl)) ?_
                        with_reducible refine (page_Set.calls t263 ((rd_T45 l1 x14_3).f0) ((rd_T45 l1 x14_3).f1) t273 t274 _ A23.out).mono ?_
                        rintro e w29 ⟨rfl, hb⟩
                        refine ⟨_, rfl, ?_⟩
                        have n0_ := Aside0.mk (below_step (by repeat (first | (with_reducible first | exact HB.out | apply below_alloc | apply pw_below_drewN | apply below_drew1) | exact HB.out)) hb)
                        clear HB
                        have HB := n0_
                        clear n0_
                        (try clear hb)
                        (try clear hb2)
                        (try clear hk)
                        (try clear hi)
                        refine hK.out _ _ ⟨((HB.out.cell (World.block_lt_of_cell? w _ hw271_0)).trans hw271_0), ((HB.out.cell (World.block_lt_of_cell? w _ hw271_1)).trans hw271_1), ((HB.out.cell (World.block_lt_of_cell? w _ hw272_0)).trans hw272_0), ((HB.out.cell (World.block_lt_of_cell? w _ hw272_1)).trans hw272_1)⟩ (fun hHeld => ?_)
                        clear hK K
                        refine norm_ (a' := ?_) ?_ ?_
                        rotate_left
                        · show Act.put _ (some 71) _ = _
                          simp only [Act.put, List.setIfInBounds_toArray, List.set_cons_zero, List.set_cons_succ, i64_w, i32_w]
                          rfl
                        refine pure_ (i := 12) (N := some 59) (v := ?_) (a' := ?_) #[true, true, true, true, true, true, true, true, true, true, true, true, true, false, false, false, false] rfl rfl (any_of HT_.out (by kernel_rfl)) (fun _ _ _ h => h) (Or.inl ⟨by rfl, ?_⟩) ?_ ?_
                        rotate_left
                        · intro w'
                          go_simp
                          with_reducible rfl
                        rotate_left
                        · simp only [Act.put, List.setIfInBounds_toArray, List.set_cons_zero, List.set_cons_succ, i64_w, i32_w]
                          rfl
                        refine pure_ (i := 13) (N := some 72) (v := ?_) (a' := ?_) #[true, true, true, true, true, true, true, true, true, true, true, true, true, true, false, false, false] rfl rfl (any_of HT_.out (by kernel_rfl)) (fun _ _ _ h => h) (Or.inl ⟨by rfl, ?_⟩) ?_ ?_
                        rotate_left
                        · intro w'
                          go_simp
                          with_reducible rfl
                        rotate_left
                        · simp only [Act.put, List.setIfInBounds_toArray, List.set_cons_zero, List.set_cons_succ, i64_w, i32_w]
                          rfl
                        refine pure_ (i := 14) (N := some 73) (v := ?_) (a' := ?_) #[true, true, true, true, true, true, true, true, true, true, true, true, true, true, true, false, false] rfl rfl (any_of HT_.out (by kernel_rfl)) (fun _ _ _ h => h) (Or.inl ⟨by rfl, ?_⟩) ?_ ?_
                        rotate_left
                        · intro w'
                          go_simp
                          with_reducible rfl
                        rotate_left
                        · simp only [Act.put, List.setIfInBounds_toArray, List.set_cons_zero, List.set_cons_succ, i64_w, i32_w]
                          rfl
                        refine pure_ (i := 15) (N := some 15) (v := ?_) (a' := ?_) #[true, true, true, true, true, true, true, true, true, true, true, true, true, true, true, true, false] rfl rfl (any_of HT_.out (by kernel_rfl)) (fun _ _ _ h => h) (Or.inl ⟨by rfl, ?_⟩) ?_ ?_
                        rotate_left
                        · intro w'
                          go_simp
                          with_reducible rfl
                        rotate_left
                        · simp only [Act.put, List.setIfInBounds_toArray, List.set_cons_zero, List.set_cons_succ, i64_w, i32_w]
                          rfl
                        refine pure_ (i := 16) (N := some 16) (v := ?_) (a' := ?_) #[true, true, true, true, true, true, true, true, true, true, true, true, true, true, true, true, true] rfl rfl (any_of HT_.out (by kernel_rfl)) (fun _ _ _ h => h) (Or.inl ⟨by rfl, ?_⟩) ?_ ?_
                        rotate_left
                        · intro w'
                          go_simp
                          with_reducible rfl
                        rotate_left
                        · simp only [Act.put, List.setIfInBounds_toArray, List.set_cons_zero, List.set_cons_succ, i64_w, i32_w]
                          rfl
                        refine done_ (done_of HT_.out (by kernel_rfl)) ?_
                        try go_wp2
                        go_ret
                        exact ⟨by first | rfl | (simp [errW_none, errW_some] <;> rfl) | (simp [*, errW_none, errW_some] <;> rfl), by repeat (first | (with_reducible first | exact HB.out | apply below_alloc | apply pw_below_drewN | apply below_drew1) | exact HB.out)⟩
                    · rw [if_neg c24] at H
                      have c24b0 : (t274 == 0) = false := beq_eq_false_iff_ne.mpr c24
                      have c24b1 : (t274 != 0) = true := bne_iff_ne.mpr c24
                      obtain rfl := Option.some.inj H
                      try go_wp2
                      have n0_ := Aside0.mk (below_drew1 HB.out)
                      clear HB
                      have HB := n0_
                      clear n0_
                      have p271 : 0 ≤ (x14_3 : Int) := of_decide_eq_true (by first | (with_reducible assumption) | assumption)
                      have q271 : x14_3 < (l1.length : Int) := of_decide_eq_true (by first | (with_reducible assumption) | assumption)
                      obtain ⟨ad271, e271, hx271_0, hx271_1⟩ := at_T45 HR1.out x14_3 p271 q271
                      have hw271_1 := hx271_1
                      have hw271_0 := hx271_0
                      cases e271
                      replace hx271_0 := (HB.out.cell (World.block_lt_of_cell? w _ hx271_0)).trans hx271_0
                      replace hx271_1 := (HB.out.cell (World.block_lt_of_cell? w _ hx271_1)).trans hx271_1
                      replace p271 := eq_true p271
                      replace q271 := eq_true q271
                      have p272 : 0 ≤ (x14_3 : Int) := of_decide_eq_true (by first | (with_reducible assumption) | assumption)
                      have q272 : x14_3 < (l1.length : Int) := of_decide_eq_true (by first | (with_reducible assumption) | assumption)
                      obtain ⟨ad272, e272, hx272_0, hx272_1⟩ := at_T45 HR1.out x14_3 p272 q272
                      have hw272_1 := hx272_1
                      have hw272_0 := hx272_0
                      obtain rfl : ad271 = ad272 := (by injection e272)
                      replace hx272_0 := (HB.out.cell (World.block_lt_of_cell? w _ hx272_0)).trans hx272_0
                      replace hx272_1 := (HB.out.cell (World.block_lt_of_cell? w _ hx272_1)).trans hx272_1
                      replace p272 := eq_true p272
                      replace q272 := eq_true q272
                      refine start_ (n := 17) (S := fun w' => w'.cell? (ad271.add ((x14_3).toNat * 2)) = some (.int .i64 ((rd_T45 l1 x14_3).f0)) ∧ w'.cell? ⟨(ad271.add ((x14_3).toNat * 2)).block, (ad271.add ((x14_3).toNat * 2)).off + 1, none⟩ = some (.string ((rd_T45 l1 x14_3).f1)) ∧ w'.cell? (ad271.add ((x14_3).toNat * 2)) = some (.int .i64 ((rd_T45 l1 x14_3).f0)) ∧ w'.cell? ⟨(ad271.add ((x14_3).toNat * 2)).block, (ad271.add ((x14_3).toNat * 2)).off + 1, none⟩ = some (.string ((rd_T45 l1 x14_3).f1))) (ds := []) #[false, false, false, false, false, false, false, false, false, false, false, false, false, false, false, false, false] (by kernel_rfl) rfl rfl ⟨((HB.out.cell (World.block_lt_of_cell? w _ hw271_0)).trans hw271_0), ((HB.out.cell (World.block_lt_of_cell? w _ hw271_1)).trans hw271_1), ((HB.out.cell (World.block_lt_of_cell? w _ hw272_0)).trans hw272_0), ((HB.out.cell (World.block_lt_of_cell? w _ hw272_1)).trans hw272_1)⟩ (fun hHeld => ?_); refine with_tabW ringworklaw06_PageBack.tab12 ringworklaw06_PageBack.bits12 (fun HT_ HW_ => ?_)
                      generalize wr.drew = w30 at HB hx271_0 hx271_1 hx272_0 hx272_1 hHeld ⊢
                      refine pure_ (i := 0) (N := some 60) (v := ?_) (a' := ?_) #[true, false, false, false, false, false, false, false, false, false, false, false, false, false, false, false, false] rfl rfl (any_of HT_.out (by kernel_rfl)) (fun _ _ _ h => h) (Or.inl ⟨by rfl, ?_⟩) ?_ ?_
                      rotate_left
                      · intro w'
                        go_simp
                        with_reducible rfl
                      rotate_left
                      · simp only [Act.put, List.setIfInBounds_toArray, List.set_cons_zero, List.set_cons_succ, i64_w, i32_w]
                        rfl
                      refine pure_ (i := 1) (N := some 61) (v := ?_) (a' := ?_) #[true, true, false, false, false, false, false, false, false, false, false, false, false, false, false, false, false] rfl rfl (any_of HT_.out (by kernel_rfl)) (fun _ _ _ h => h) (Or.inl ⟨by rfl, ?_⟩) ?_ ?_
                      rotate_left
                      · intro w'
                        go_simp
                        with_reducible rfl
                      rotate_left
                      · simp only [Act.put, List.setIfInBounds_toArray, List.set_cons_zero, List.set_cons_succ, i64_w, i32_w]
                        rfl
                      refine pure_ (i := 2) (N := some 62) (v := ?_) (a' := ?_) #[true, true, true, false, false, false, false, false, false, false, false, false, false, false, false, false, false] rfl rfl (any_of HT_.out (by kernel_rfl)) (fun _ _ _ h => h) (Or.inl ⟨by rfl, ?_⟩) ?_ ?_
                      rotate_left
                      · intro w'
                        go_simp
                        with_reducible rfl
                      rotate_left
                      · simp only [Act.put, List.setIfInBounds_toArray, List.set_cons_zero, List.set_cons_succ, i64_w, i32_w]
                        rfl
                      refine pure_ (i := 3) (N := some 63) (v := ?_) (a' := ?_) #[true, true, true, true, false, false, false, false, false, false, false, false, false, false, false, false, false] rfl rfl (any_of HT_.out (by kernel_rfl)) (fun _ _ _ h => h) (Or.inl ⟨by rfl, ?_⟩) ?_ ?_
                      rotate_left
                      · intro w'
                        go_simp
                        with_reducible rfl
                      rotate_left
                      · simp only [Act.put, List.setIfInBounds_toArray, List.set_cons_zero, List.set_cons_succ, i64_w, i32_w]
                        rfl
                      refine pure_ (i := 4) (N := some 64) (v := ?_) (a' := ?_) #[true, true, true, true, true, false, false, false, false, false, false, false, false, false, false, false, false] rfl rfl (any_of HT_.out (by kernel_rfl)) (fun _ _ _ h => h) (Or.inl ⟨by rfl, ?_⟩) ?_ ?_
                      rotate_left
                      · intro w'
                        go_simp
                        with_reducible rfl
                      rotate_left
                      · simp only [Act.put, List.setIfInBounds_toArray, List.set_cons_zero, List.set_cons_succ, i64_w, i32_w]
                        rfl
                      refine pure_ (i := 6) (N := some 66) (v := ?_) (a' := ?_) #[true, true, true, true, true, false, true, false, false, false, false, false, false, false, false, false, false] rfl rfl (any_of HT_.out (by kernel_rfl)) (fun _ _ _ h => h) (Or.inl ⟨by rfl, ?_⟩) ?_ ?_
                      rotate_left
                      · intro w'
                        go_simp
                        with_reducible rfl
                      rotate_left
                      · simp only [Act.put, List.setIfInBounds_toArray, List.set_cons_zero, List.set_cons_succ, i64_w, i32_w]
                        rfl
                      refine pure_ (i := 7) (N := some 67) (v := ?_) (a' := ?_) #[true, true, true, true, true, false, true, true, false, false, false, false, false, false, false, false, false] rfl rfl (any_of HT_.out (by kernel_rfl)) (fun _ _ _ h => h) (Or.inl ⟨by rfl, ?_⟩) ?_ ?_
                      rotate_left
                      · intro w'
                        go_simp
                        with_reducible rfl
                      rotate_left
                      · simp only [Act.put, List.setIfInBounds_toArray, List.set_cons_zero, List.set_cons_succ, i64_w, i32_w]
                        rfl
                      refine pure_ (i := 8) (N := some 68) (v := ?_) (a' := ?_) #[true, true, true, true, true, false, true, true, true, false, false, false, false, false, false, false, false] rfl rfl (any_of HT_.out (by kernel_rfl)) (fun _ _ _ h => h) (Or.inl ⟨by rfl, ?_⟩) ?_ ?_
                      rotate_left
                      · intro w'
                        go_simp
                        with_reducible rfl
                      rotate_left
                      · simp only [Act.put, List.setIfInBounds_toArray, List.set_cons_zero, List.set_cons_succ, i64_w, i32_w]
                        rfl
                      refine pure_ (i := 9) (N := some 69) (v := ?_) (a' := ?_) #[true, true, true, true, true, false, true, true, true, true, false, false, false, false, false, false, false] rfl rfl (any_of HT_.out (by kernel_rfl)) (fun _ _ _ h => h) (Or.inl ⟨by rfl, ?_⟩) ?_ ?_
                      rotate_left
                      · intro w'
                        go_simp
                        with_reducible rfl
                      rotate_left
                      · simp only [Act.put, List.setIfInBounds_toArray, List.set_cons_zero, List.set_cons_succ, i64_w, i32_w]
                        rfl
                      refine take_ (i := 5) (N := some 65) (v := ?_) (a' := ?_) #[true, true, true, true, true, true, true, true, true, true, false, false, false, false, false, false, false] rfl rfl (take_ofW HT_.out HW_.out (by kernel_rfl)) (fun _ _ _ h => h) (Or.inl ⟨by rfl, ?_⟩) hHeld ?_ ?_
                      rotate_left
                      · rintro w' ⟨s0, s1, s2, s3⟩
                        go_simp
                        with_reducible rfl
                      rotate_left
                      · simp only [Act.put, List.setIfInBounds_toArray, List.set_cons_zero, List.set_cons_succ, i64_w, i32_w]
                        rfl
                      refine take_ (i := 10) (N := some 70) (v := ?_) (a' := ?_) #[true, true, true, true, true, true, true, true, true, true, true, false, false, false, false, false, false] rfl rfl (take_ofW HT_.out HW_.out (by kernel_rfl)) (fun _ _ _ h => h) (Or.inl ⟨by rfl, ?_⟩) hHeld ?_ ?_
                      rotate_left
                      · rintro w' ⟨s0, s1, s2, s3⟩
                        go_simp
                        with_reducible rfl
                      rotate_left
                      · simp only [Act.put, List.setIfInBounds_toArray, List.set_cons_zero, List.set_cons_succ, i64_w, i32_w]
                        rfl
                      refine one_ (i := 11) (N := some 71) #[true, true, true, true, true, true, true, true, true, true, true, true, false, false, false, false, false] rfl rfl (one_of HT_.out (by kernel_rfl)) (by decide) (fun K hK => ?_)
                      refine goes_ Try.func31 (by kernel_rfl) rfl #[.string t263, .int .i64 ((rd_T45 l1 x14_3).f0), .string ((rd_T45 l1 x14_3).f1)] (by rfl) rfl rfl (by (try simp only [List.map_toArray, List.map_cons, List.map_nil]); first | done | rfl | (simp only [List.length_drop, List.length_take]; rfl)) ?_
                      with_reducible refine (page_Set.calls t263 ((rd_T45 l1 x14_3).f0) ((rd_T45 l1 x14_3).f1) t273 t274 _ A23.out).mono ?_
                      rintro e w31 ⟨rfl, hb⟩
                      refine ⟨_, rfl, ?_⟩
                      have n0_ := Aside0.mk (below_step (by repeat (first | (with_reducible first | exact HB.out | apply below_alloc | apply pw_below_drewN | apply below_drew1) | exact HB.out)) hb)
                      clear HB
                      have HB := n0_
                      clear n0_
                      (try clear hb)
                      (try clear hb2)
                      (try clear hk)
                      (try clear hi)
                      refine hK.out _ _ ⟨((HB.out.cell (World.block_lt_of_cell? w _ hw271_0)).trans hw271_0), ((HB.out.cell (World.block_lt_of_cell? w _ hw271_1)).trans hw271_1), ((HB.out.cell (World.block_lt_of_cell? w _ hw272_0)).trans hw272_0), ((HB.out.cell (World.block_lt_of_cell? w _ hw272_1)).trans hw272_1)⟩ (fun hHeld => ?_)
                      clear hK K
                      refine norm_ (a' := ?_) ?_ ?_
                      rotate_left
                      · show Act.put _ (some 71) _ = _
                        simp only [Act.put, List.setIfInBounds_toArray, List.set_cons_zero, List.set_cons_succ, i64_w, i32_w]
                        rfl
                      refine pure_ (i := 12) (N := some 59) (v := ?_) (a' := ?_) #[true, true, true, true, true, true, true, true, true, true, true, true, true, false, false, false, false] rfl rfl (any_of HT_.out (by kernel_rfl)) (fun _ _ _ h => h) (Or.inl ⟨by rfl, ?_⟩) ?_ ?_
                      rotate_left
                      · intro w'
                        go_simp
                        with_reducible rfl
                      rotate_left
                      · simp only [Act.put, List.setIfInBounds_toArray, List.set_cons_zero, List.set_cons_succ, i64_w, i32_w]
                        rfl
                      refine pure_ (i := 13) (N := some 72) (v := ?_) (a' := ?_) #[true, true, true, true, true, true, true, true, true, true, true, true, true, true, false, false, false] rfl rfl (any_of HT_.out (by kernel_rfl)) (fun _ _ _ h => h) (Or.inl ⟨by rfl, ?_⟩) ?_ ?_
                      rotate_left
                      · intro w'
                        go_simp
                        with_reducible rfl
                      rotate_left
                      · simp only [Act.put, List.setIfInBounds_toArray, List.set_cons_zero, List.set_cons_succ, i64_w, i32_w]
                        rfl
                      refine pure_ (i := 14) (N := some 73) (v := ?_) (a' := ?_) #[true, true, true, true, true, true, true, true, true, true, true, true, true, true, true, false, false] rfl rfl (any_of HT_.out (by kernel_rfl)) (fun _ _ _ h => h) (Or.inl ⟨by rfl, ?_⟩) ?_ ?_
                      rotate_left
                      · intro w'
                        go_simp
                        with_reducible rfl
                      rotate_left
                      · simp only [Act.put, List.setIfInBounds_toArray, List.set_cons_zero, List.set_cons_succ, i64_w, i32_w]
                        rfl
                      refine pure_ (i := 15) (N := some 15) (v := ?_) (a' := ?_) #[true, true, true, true, true, true, true, true, true, true, true, true, true, true, true, true, false] rfl rfl (any_of HT_.out (by kernel_rfl)) (fun _ _ _ h => h) (Or.inl ⟨by rfl, ?_⟩) ?_ ?_
                      rotate_left
                      · intro w'
                        go_simp
                        with_reducible rfl
                      rotate_left
                      · simp only [Act.put, List.setIfInBounds_toArray, List.set_cons_zero, List.set_cons_succ, i64_w, i32_w]
                        rfl
                      refine pure_ (i := 16) (N := some 16) (v := ?_) (a' := ?_) #[true, true, true, true, true, true, true, true, true, true, true, true, true, true, true, true, true] rfl rfl (any_of HT_.out (by kernel_rfl)) (fun _ _ _ h => h) (Or.inl ⟨by rfl, ?_⟩) ?_ ?_
                      rotate_left
                      · intro w'
                        go_simp
                        with_reducible rfl
                      rotate_left
                      · simp only [Act.put, List.setIfInBounds_toArray, List.set_cons_zero, List.set_cons_succ, i64_w, i32_w]
                        rfl
                      refine done_ (done_of HT_.out (by kernel_rfl)) ?_
                      try go_wp2
                      go_ret
                      exact ⟨by first | rfl | (simp [errW_none, errW_some] <;> rfl) | (simp [*, errW_none, errW_some] <;> rfl), by repeat (first | (with_reducible first | exact HB.out | apply below_alloc | apply pw_below_drewN | apply below_drew1) | exact HB.out)⟩
                  · rw [if_neg c22] at H
                    exact absurd H (by simp)
                · rw [if_neg c21] at H
                  have c21b0 : decide (x14_3 < (l1.length : Int)) = false := decide_eq_false c21
                  clear c21
                  replace H := Option.bind_eq_some_iff.mp H
                  obtain ⟨t275, A320, H⟩ := H
                  replace H : (some t275) = some r := H
                  have A32 := Aside0.mk A320
                  clear A320
                  obtain rfl := Option.some.inj H
                  go_wp2_with (first | ((with_reducible refine gate_callee (f := 11) rfl ?_); refine goesL_ (some 81) rfl rfl Try.func11 (by kernel_rfl) rfl #[] rfl (by (try simp only [List.map_toArray, List.map_cons, List.map_nil]); first | done | rfl | (simp only [List.length_drop, List.length_take]; rfl)) ?_; (with_reducible refine (ringworklaw06_awake.calls k3  t275 _ A32.out).mono ?_); rintro e w33 ⟨rfl, hb⟩; refine ⟨_, rfl, ?_⟩; have n0_ := Aside0.mk (below_step (by repeat (first | (with_reducible first | exact HB.out | apply below_alloc | apply pw_below_drewN | apply below_drew1) | exact HB.out)) hb); clear HB; have HB := n0_; clear n0_; (try clear hb); (try clear hb2); (try clear hk); (try clear hi)))
                  go_ret
                  exact ⟨by first | rfl | (simp [errW_none, errW_some] <;> rfl) | (simp [*, errW_none, errW_some] <;> rfl), by repeat (first | (with_reducible first | exact HB.out | apply below_alloc | apply pw_below_drewN | apply below_drew1) | exact HB.out)⟩

end Go.Proofs.Ytemglmcddaeedaa.PA

namespace Go.Proofs.Ytemglmcddaeedaa.PA
open Go.RowKit Go.Proofs.YtemglmcddaeedaaW.PrintWords Go.Proofs.YtemglmcddaeedaaW.PrintLast Go.Proofs.YtemglmcddaeedaaW.PrintMore
set_option linter.unusedVariables false
set_option linter.unusedSimpArgs false
/-! #### a []api.Cell argument, opened -/
open Go.ChangeShapes Go.WideShapes Go.ChangeAt Go.Deep
theorem mem_weightsAll {H : Type} {P : Program} {e : TypeId} {n : Nat} : ∀ {ds : List (DataW H)} {d : DataW H}, d ∈ ds → n ∈ d.weights P e → n ∈ DataW.weightsAll P e ds
  | d0 :: r, d, hd, hn => by
    simp only [DataW.weightsAll, List.mem_append]
    rcases List.mem_cons.1 hd with rfl | hd
    · exact .inl hn
    · exact .inr (mem_weightsAll hd hn)
theorem open_cells {H : Type} {enc : TypeId × Value → H} {W : World} {base : Nat} {a : Option Addr} {len cap : Nat} {d : DataW H} {ps : List MemPlace}
    (h : DataW.Trod enc Try.prog W base (fun _ => true) true 22 (.slice a len cap) d ps) (hw : ∀ x ∈ d.weights Try.prog 22, x ≤ reachBytes) :
    ∃ l : List S45, l.length = len ∧ len ≤ cap ∧ Kd.C k45 W a l.length l ∧ len ≤ maxLen ∧ ∀ c ∈ l, c.f1.size ≤ reachBytes := by
  obtain ⟨fuel, hf⟩ := h
  rcases open_slice_pairs Try.underlying22 Try.underlying45 (by kernel_rfl) rfl rfl (by kernel_rfl) (by kernel_rfl) hf with ⟨hcs, _⟩ | ⟨x, n1, n2, m, n, V0, V1, D0, D1, P0, P1, hcs, hb, hl, hm, hmm, hx, hi⟩
  · simp [Value.cells] at hcs
    obtain ⟨rfl, rfl, rfl⟩ := hcs
    exact ⟨[], rfl, Nat.le_refl 0, ⟨rfl, by simp, fun h => by simp at h⟩, by simp, by simp⟩
  · simp [Value.cells] at hcs
    obtain ⟨e1, e2, e3⟩ := hcs
    simp only [if_true] at hmm
    rw [hmm] at hi
    obtain ⟨hd, _⟩ := Prod.mk.inj hx
    rw [hd] at hw
    have hex : ∀ i, ∃ c : S45, i < n2 → V0 i = .int .i64 c.f0 ∧ V1 i = .string c.f1 ∧ D1 i = .lit (.string c.f1.data.toList) := by
      intro i
      by_cases hic : i < n2
      · obtain ⟨_, _, t0, t1⟩ := hi i hic
        obtain ⟨z, hz, _, _⟩ := DataW.trod_int Try.underlying3 t0
        obtain ⟨s, hs, hs2, hsz⟩ := DataW.trod_string Try.underlying9 t1
        simp only [List.cons.injEq, and_true] at hz hs
        exact ⟨⟨z, s⟩, fun _ => ⟨hz, hs, (Prod.mk.inj hs2).1⟩⟩
      · exact ⟨z45, fun h => absurd h hic⟩
    obtain ⟨f, hfc⟩ := Classical.axiomOfChoice hex
    rw [e1, e2, e3]
    refine ⟨(List.range n1).map f, by simp, hl, ⟨rfl, by simp; have := hm; unfold maxLen at this; omega, fun _ => ⟨x, rfl, ?_⟩⟩, Nat.le_trans hl hm, ?_⟩
    · intro j p hj
      have hjl : j < n1 := by
        have := (List.getElem?_eq_some_iff.1 hj).1
        simpa using this
      have hp : p = f j := by
        rw [List.getElem?_map, List.getElem?_range hjl] at hj
        exact (Option.some.inj hj).symm
      obtain ⟨c0, c1, _, _⟩ := hi j (by omega)
      obtain ⟨v0, v1, _⟩ := hfc j (by omega)
      refine ⟨[.int .i64 p.f0, .string p.f1], rfl, k45_mk W p, fun i u hu => ?_⟩
      rw [hp] at hu
      match i with
      | 0 =>
        simp only [List.getElem?_cons_zero, Option.some.injEq] at hu
        subst hu
        exact c0.trans (by rw [v0])
      | 1 =>
        simp only [List.getElem?_cons_succ, List.getElem?_cons_zero, Option.some.injEq] at hu
        subst hu
        exact c1.trans (by rw [v1])
      | i + 2 => simp at hu
    · intro c hc
      obtain ⟨j, hj, rfl⟩ := List.mem_map.1 hc
      have hj' := List.mem_range.1 hj
      have hd1 := (hfc j (by omega)).2.2
      have hlen : (f j).f1.size = (f j).f1.data.toList.length := by rw [Array.length_toList]; rfl
      rw [hlen]
      apply hw
      simp only [DataW.weights, Try.underlying22, List.mem_cons, List.mem_append]
      refine .inr (.inl (mem_weightsAll (d := .agg [D0 j, D1 j]) (List.mem_map.2 ⟨j, hj, rfl⟩) ?_))
      simp only [DataW.weights, Try.underlying45, List.map_cons, List.map_nil, DataW.weightsEach, List.mem_append]
      refine .inr (.inl ?_)
      rw [hd1]
      simp [DataW.weights]
theorem bytes_bound (l : List S45) (B : Nat) (h : ∀ c ∈ l, c.f1.size ≤ B) : bytesL l ≤ l.length * B := by
  induction l with
  | nil => simp [bytesL]
  | cons c r ih =>
    have h1 := h c (by simp)
    have h2 := ih (fun d hd => h d (by simp [hd]))
    rw [bytesL_cons, List.length_cons, Nat.succ_mul]
    omega

end Go.Proofs.Ytemglmcddaeedaa.PA

namespace Go.Proofs.Ytemglmcddaeedaa.PA
open Go.RowKit Go.Proofs.YtemglmcddaeedaaW.PrintWords Go.Proofs.YtemglmcddaeedaaW.PrintLast Go.Proofs.YtemglmcddaeedaaW.PrintMore
attribute [local go_sem] max2_int min2_int max_two min_two max_three min_three max_four min_four   -- for this text's walks alone
set_option linter.unusedVariables false
set_option linter.unusedSimpArgs false

/-! ### b_one: function 0 -/
/-! #### the page of cells is valid and has these cells -/
theorem getD_left (a b : List Int) (j : Nat) (h : j < a.length) : (a ++ b).getD j 0 = a.getD j 0 := by
  simp [List.getD_eq_getElem?_getD, List.getElem?_append_left h]
theorem getD_right (a b : List Int) (j : Nat) (h : a.length ≤ j) : (a ++ b).getD j 0 = b.getD (j - a.length) 0 := by
  simp [List.getD_eq_getElem?_getD, List.getElem?_append_right h]
theorem ext_getD {a b : List Int} (hl : a.length = b.length) (h : ∀ j, j < a.length → a.getD j 0 = b.getD j 0) : a = b := by
  apply List.ext_getElem hl
  intro j h1 h2
  have := h j h1
  rw [List.getD_eq_getElem?_getD, List.getD_eq_getElem?_getD, List.getElem?_eq_getElem h1, List.getElem?_eq_getElem h2] at this
  exact this
theorem getD_zer (n j : Nat) : (zer n).getD j 0 = 0 := by
  rw [List.getD_eq_getElem?_getD, zer, List.getElem?_replicate]; split <;> rfl
theorem bld_gap {N : Nat} {n : Int} {l : List S45} (h : CellsOk l) (hf : needsL l ≤ N) (j : Nat) (h0 : 2 + 4 * lastL l ≤ j) (h1 : j + bytesL l < N) : (bld N n l).getD j 0 = 0 := by
  obtain ⟨e1, e2⟩ := foldB_len (N := N) h
  unfold bld
  rw [getD_right _ _ _ (by simp [twoL]; omega), getD_right _ _ _ (by simp [twoL]; omega), getD_left _ _ _ (by simp [twoL, zer]; omega), getD_zer]
theorem bld_one {N : Nat} {n : Int} {l : List S45} {c : S45} (h : CellsOk (l ++ [c])) (hf : needsL (l ++ [c]) ≤ N) (j : Nat) (hj : (j : Int) < 4 * c.f0 - 2 ∨ N ≤ j + bytesL l) :
    (bld N n (l ++ [c])).getD j 0 = (bld N n l).getD j 0 := by
  obtain ⟨P, r, e1, e2, e3, e4⟩ := bld_step (n := n) h hf
  rw [e3, e4]
  by_cases hp : j < P.length
  · rw [getD_left _ _ _ hp, getD_left _ _ _ hp]
  · have hj' : N ≤ j + bytesL l := by rcases hj with hj | hj <;> omega
    have a1 : P ++ (ent4 ((N : Int) - (bytesL l + c.f1.size : Nat)) c.f1.size ++ (zer r ++ (bytesOf c.f1 ++ (foldB N l).2))) = (P ++ ent4 ((N : Int) - (bytesL l + c.f1.size : Nat)) c.f1.size ++ zer r ++ bytesOf c.f1) ++ (foldB N l).2 := by simp only [List.append_assoc]
    have a2 : P ++ (zer 4 ++ (zer r ++ (zer c.f1.size ++ (foldB N l).2))) = (P ++ zer 4 ++ zer r ++ zer c.f1.size) ++ (foldB N l).2 := by simp only [List.append_assoc]
    have l1 : (P ++ ent4 ((N : Int) - (bytesL l + c.f1.size : Nat)) c.f1.size ++ zer r ++ bytesOf c.f1).length = P.length + 4 + r + c.f1.size := by simp [ent4, zer, bytesOf_length]; omega
    have l2 : (P ++ zer 4 ++ zer r ++ zer c.f1.size).length = P.length + 4 + r + c.f1.size := by simp [zer]; omega
    rw [a1, a2, getD_right _ _ _ (by omega), getD_right _ _ _ (by omega), l1, l2]
theorem bld_ent {N : Nat} {n : Int} {l : List S45} {c : S45} (h : CellsOk (l ++ [c])) (hf : needsL (l ++ [c]) ≤ N) (j : Nat) (hj : j < 4) :
    (bld N n (l ++ [c])).getD ((4 * c.f0 - 2).toNat + j) 0 = (ent4 ((N : Int) - (bytesL l + c.f1.size : Nat)) c.f1.size).getD j 0 := by
  obtain ⟨P, r, e1, e2, e3, e4⟩ := bld_step (n := n) h hf
  rw [e4, getD_right _ _ _ (by omega), getD_left _ _ _ (by simp [ent4]; omega)]
  congr 1
  omega
theorem bld_data {N : Nat} {n : Int} {l : List S45} {c : S45} (h : CellsOk (l ++ [c])) (hf : needsL (l ++ [c]) ≤ N) (j : Nat) (hj : j < c.f1.size) :
    (bld N n (l ++ [c])).getD (N - bytesL l - c.f1.size + j) 0 = (bytesOf c.f1).getD j 0 := by
  obtain ⟨P, r, e1, e2, e3, e4⟩ := bld_step (n := n) h hf
  have a1 : P ++ (ent4 ((N : Int) - (bytesL l + c.f1.size : Nat)) c.f1.size ++ (zer r ++ (bytesOf c.f1 ++ (foldB N l).2))) = (P ++ ent4 ((N : Int) - (bytesL l + c.f1.size : Nat)) c.f1.size ++ zer r) ++ (bytesOf c.f1 ++ (foldB N l).2) := by simp only [List.append_assoc]
  have l1 : (P ++ ent4 ((N : Int) - (bytesL l + c.f1.size : Nat)) c.f1.size ++ zer r).length = P.length + 4 + r := by simp [ent4, zer]; omega
  rw [e4, a1, getD_right _ _ _ (by omega), l1, getD_left _ _ _ (by rw [bytesOf_length]; omega)]
  congr 1
  omega
theorem needs_mono {a b : List S45} (h : CellsOk (a ++ b)) : needsL a ≤ needsL (a ++ b) := by
  unfold needsL
  rw [bytesL_append]
  have : lastL a ≤ lastL (a ++ b) := by
    cases hb : b.getLast? with
    | none =>
      have : b = [] := by simpa using hb
      simp [this]
    | some d =>
      have hd : d ∈ b := List.mem_of_getLast? hb
      have e : lastL (a ++ b) = d.f0 := by simp [lastL, List.getLast?_append, hb]
      rw [e]
      cases ha : a.getLast? with
      | none => simp only [lastL, ha]; have := (h.append.2.1.each d hd).1; omega
      | some x =>
        have hx : x ∈ a := List.mem_of_getLast? ha
        have := h.append.2.2 x hx d hd
        simp only [lastL, ha]; omega
  omega
theorem bld_stable {N : Nat} {n : Int} (b : List S45) : ∀ (a : List S45), CellsOk (a ++ b) → needsL (a ++ b) ≤ N → ∀ j : Nat, ((j : Int) < 2 + 4 * lastL a ∨ N ≤ j + bytesL a) → (bld N n (a ++ b)).getD j 0 = (bld N n a).getD j 0 := by
  induction b with
  | nil => intro a _ _ j _; simp
  | cons c b ih =>
    intro a h hf j hj
    have e : a ++ c :: b = (a ++ [c]) ++ b := by simp
    rw [e] at h hf ⊢
    have h1 := h.append.1
    have hf1 : needsL (a ++ [c]) ≤ N := by have := needs_mono h; omega
    have hl := lastL_lt h1
    rw [ih (a ++ [c]) h hf j (by
      rcases hj with hj | hj
      · left; rw [lastL_snoc]; omega
      · right; rw [bytesL_append]; omega)]
    exact bld_one h1 hf1 j (by
      rcases hj with hj | hj
      · left; omega
      · right; exact hj)
theorem foldB_range {N : Nat} (hN : N ≤ 65535) : ∀ {l : List S45}, CellsOk l → needsL l ≤ N → (∀ x ∈ (foldB N l).1, 0 ≤ x ∧ x ≤ 255) ∧ (∀ x ∈ (foldB N l).2, 0 ≤ x ∧ x ≤ 255) := by
  intro l
  induction hl : l.length generalizing l with
  | zero =>
    intro _ _
    have : l = [] := List.length_eq_zero_iff.1 hl
    subst this
    simp [foldB]
  | succ m ih =>
    intro h hf
    have hne : l ≠ [] := by intro h; rw [h] at hl; cases hl
    obtain ⟨a, c, rfl⟩ : ∃ a c, l = a ++ [c] := ⟨l.dropLast, l.getLast hne, (List.dropLast_concat_getLast hne).symm⟩
    have ha := h.append.1
    have hn := needs_mono h
    obtain ⟨i1, i2⟩ := ih (by simp at hl; exact hl) ha (by omega)
    have hfl := foldB_len (N := N) ha
    unfold needsL at hf
    have h0 := lastL_nonneg h
    rw [bytesL_append] at hf
    have hb1 : bytesL [c] = c.f1.size := by simp [bytesL]
    rw [foldB_snoc]
    simp only [stepB]
    constructor
    · intro x hx
      rcases List.mem_append.1 hx with hx | hx
      · exact i1 x hx
      · rcases List.mem_append.1 hx with hx | hx
        · have := (List.mem_replicate.1 hx).2; omega
        · simp only [ent4, List.mem_cons, List.not_mem_nil, or_false] at hx
          rcases hx with rfl | rfl | rfl | rfl <;> omega
    · intro x hx
      rcases List.mem_append.1 hx with hx | hx
      · exact bytesOf_range _ x hx
      · exact i2 x hx
theorem built_range {N : Nat} (hN : N ≤ 65535) {l : List S45} (h : CellsOk l) (hf : needsL l ≤ N) : ∀ x ∈ builtL N l, 0 ≤ x ∧ x ≤ 255 := by
  intro x hx
  obtain ⟨i1, i2⟩ := foldB_range hN h hf
  have h0 := lastL_nonneg h
  unfold builtL bld at hx
  rcases List.mem_append.1 hx with hx | hx
  · simp only [twoL, List.mem_cons, List.not_mem_nil, or_false] at hx
    rcases hx with rfl | rfl <;> omega
  · rcases List.mem_append.1 hx with hx | hx
    · exact i1 x hx
    · rcases List.mem_append.1 hx with hx | hx
      · have := (List.mem_replicate.1 hx).2; omega
      · exact i2 x hx
theorem built_size {N : Nat} {l : List S45} (h : CellsOk l) (hf : needsL l ≤ N) : (strOfNums (builtL N l)).size = N := by
  have : (strOfNums (builtL N l)).size = (builtL N l).length := by simp [strOfNums, ByteArray.size]
  rw [this, builtL, bld_length h hf]
theorem built_bt {N : Nat} (hN : N ≤ 65535) {l : List S45} (h : CellsOk l) (hf : needsL l ≤ N) (j : Nat) : bt (strOfNums (builtL N l)) (j : Int) = (builtL N l).getD j 0 := by
  rw [← bytesOf_getD, bytesOf_strOfNums _ (built_range hN h hf)]
theorem built_scan {N : Nat} (hN : N ≤ 65535) {l : List S45} (h : CellsOk l) (hf : needsL l ≤ N) (n : Nat) (hn : lastL l = n) : ∀ i, i ≤ n →
    ∃ a b, l = a ++ b ∧ (∀ x ∈ a, x.f0 ≤ i) ∧ (∀ x ∈ b, (i : Int) < x.f0) ∧ scanE (strOfNums (builtL N l)) n i = .ok ((N : Int) - bytesL a, lastL a) ∧ cellsS (strOfNums (builtL N l)) i = a := by
  intro i
  induction i with
  | zero =>
    intro _
    exact ⟨[], l, rfl, by simp, fun x hx => by have := (h.each x hx).1; omega, by simp [scanE, built_size h hf, bytesL, lastL], rfl⟩
  | succ i ih =>
    intro hi
    obtain ⟨a, b, hab, h1, h2, h3, h4⟩ := ih (by omega)
    have hlast : lastL a ≤ i := by
      cases ha : a.getLast? with
      | none => simp only [lastL, ha]; omega
      | some d => simp only [lastL, ha]; exact h1 d (List.mem_of_getLast? ha)
    cases b with
    | nil =>
      rw [List.append_nil] at hab
      rw [← hab] at hlast
      omega
    | cons c b =>
      have e : l = (a ++ [c]) ++ b := by rw [hab]; simp
      have hc := h2 c (by simp)
      have hac : CellsOk (a ++ [c]) := by rw [e] at h; exact h.append.1
      have ha := hac.append.1
      have hfac : needsL (a ++ [c]) ≤ N := by
        have := needs_mono (a := a ++ [c]) (b := b) (by rw [← e]; exact h)
        rw [← e] at this
        omega
      have hcr := h.each c (by rw [hab]; simp)
      have hL : builtL N l = bld N n ((a ++ [c]) ++ b) := by rw [builtL, hn, ← e]
      have hst := fun j hj => bld_stable (N := N) (n := n) b (a ++ [c]) (by rw [← e]; exact h) (by rw [← e]; exact hf) j hj
      rw [← hL] at hst
      have hnf : 2 + 4 * (n : Int) + bytesL l ≤ N := by unfold needsL at hf; omega
      have hbl : bytesL l = bytesL a + c.f1.size + bytesL b := by rw [e, bytesL_append, bytesL_append]; simp [bytesL]
      have hln : lastL (a ++ [c]) = c.f0 := lastL_snoc _ _
      have rd : ∀ t : Nat, (2 + 4 * i + t : Nat) < 2 + 4 * c.f0 → bt (strOfNums (builtL N l)) ((2 + 4 * i + t : Nat) : Int) = (bld N n (a ++ [c])).getD (2 + 4 * i + t) 0 := by
        intro t ht
        rw [built_bt hN h hf, hst _ (by left; rw [hln]; exact ht)]
      by_cases heq : c.f0 = (i : Int) + 1
      · -- the entry of c
        have ent : ∀ t : Nat, t < 4 → bt (strOfNums (builtL N l)) ((2 + 4 * i + t : Nat) : Int) = (ent4 ((N : Int) - (bytesL a + c.f1.size : Nat)) c.f1.size).getD t 0 := by
          intro t ht
          rw [rd t (by omega), ← bld_ent (n := n) hac hfac t ht]
          congr 1
          omega
        have x1 : twoS (strOfNums (builtL N l)) (2 + 4 * (i : Int)) = (N : Int) - (bytesL a + c.f1.size : Nat) := by
          have q0 := ent 0 (by omega)
          have q1 := ent 1 (by omega)
          simp only [ent4, List.getD_cons_zero, List.getD_cons_succ] at q0 q1
          unfold twoS
          rw [show (2 + 4 * (i : Int)) = ((2 + 4 * i + 0 : Nat) : Int) by omega, show ((2 + 4 * i + 0 : Nat) : Int) + 1 = ((2 + 4 * i + 1 : Nat) : Int) by omega, q0, q1]
          omega
        have x2 : twoS (strOfNums (builtL N l)) (4 + 4 * (i : Int)) = c.f1.size := by
          have q0 := ent 2 (by omega)
          have q1 := ent 3 (by omega)
          simp only [ent4, List.getD_cons_zero, List.getD_cons_succ] at q0 q1
          unfold twoS
          rw [show (4 + 4 * (i : Int)) = ((2 + 4 * i + 2 : Nat) : Int) by omega, show ((2 + 4 * i + 2 : Nat) : Int) + 1 = ((2 + 4 * i + 3 : Nat) : Int) by omega, q0, q1]
          omega
        refine ⟨a ++ [c], b, e, ?_, ?_, ?_, ?_⟩
        · intro x hx
          rcases List.mem_append.1 hx with hx | hx
          · have := h1 x hx; omega
          · simp only [List.mem_singleton] at hx; subst hx; omega
        · intro x hx
          have := (by rw [e] at h; exact h.append.2.2 c (by simp) x hx : c.f0 < x.f0)
          omega
        · rw [scanE, h3]
          simp only [x1, x2]
          rw [if_neg (by omega), if_neg (by omega), hln, heq, bytesL_append]
          have hb1 : bytesL [c] = c.f1.size := by simp [bytesL]
          rw [hb1]
        · simp only [cellsS, h4, x1, x2]
          rw [if_pos (by omega)]
          congr 1
          have hex : (strOfNums (builtL N l)).extract ((N : Int) - (bytesL a + c.f1.size : Nat)).toNat ((N : Int) - (bytesL a + c.f1.size : Nat) + (c.f1.size : Int)).toNat = c.f1 := by
            apply bytesOf_inj
            rw [bytesOf_extract _ _ _ (by rw [built_size h hf]; omega), bytesOf_strOfNums _ (built_range hN h hf)]
            have hbl2 : (builtL N l).length = N := by rw [builtL, bld_length h hf]
            apply ext_getD
            · rw [List.length_take, List.length_drop, hbl2, bytesOf_length]; omega
            · intro j hj
              rw [List.length_take, List.length_drop, hbl2] at hj
              have ej : j < c.f1.size := by omega
              have : (List.take (((N : Int) - (bytesL a + c.f1.size : Nat) + (c.f1.size : Int)).toNat - ((N : Int) - (bytesL a + c.f1.size : Nat)).toNat) (List.drop ((N : Int) - (bytesL a + c.f1.size : Nat)).toNat (builtL N l))).getD j 0 = (builtL N l).getD (N - bytesL a - c.f1.size + j) 0 := by
                rw [List.getD_eq_getElem?_getD, List.getElem?_take_of_lt (by omega), List.getElem?_drop, List.getD_eq_getElem?_getD]
                congr 2
                omega
              rw [this, hst _ (by right; rw [bytesL_append]; simp [bytesL]; omega), bld_data hac hfac j ej]
          rw [hex]
          cases c
          simp only at heq
          rw [heq]
      · -- no cell has this line
        have gap : ∀ t : Nat, t < 4 → bt (strOfNums (builtL N l)) ((2 + 4 * i + t : Nat) : Int) = 0 := by
          intro t ht
          rw [rd t (by omega), bld_one hac hfac _ (by left; omega)]
          have := needs_mono hac
          exact bld_gap ha (by omega) _ (by omega) (by omega)
        have x1 : twoS (strOfNums (builtL N l)) (2 + 4 * (i : Int)) = 0 := by
          unfold twoS
          rw [show (2 + 4 * (i : Int)) = ((2 + 4 * i + 0 : Nat) : Int) by omega, show ((2 + 4 * i + 0 : Nat) : Int) + 1 = ((2 + 4 * i + 1 : Nat) : Int) by omega, gap 0 (by omega), gap 1 (by omega)]
          rfl
        have x2 : twoS (strOfNums (builtL N l)) (4 + 4 * (i : Int)) = 0 := by
          unfold twoS
          rw [show (4 + 4 * (i : Int)) = ((2 + 4 * i + 2 : Nat) : Int) by omega, show ((2 + 4 * i + 2 : Nat) : Int) + 1 = ((2 + 4 * i + 3 : Nat) : Int) by omega, gap 2 (by omega), gap 3 (by omega)]
          rfl
        refine ⟨a, c :: b, hab, fun x hx => by have := h1 x hx; omega, ?_, ?_, ?_⟩
        · intro x hx
          rcases List.mem_cons.1 hx with rfl | hx
          · omega
          · have := (by rw [e] at h; exact h.append.2.2 c (by simp) x hx : c.f0 < x.f0)
            omega
        · rw [scanE, h3]
          simp only [x1, x2]
          rw [if_pos (by simp)]
        · simp only [cellsS, h4, x2]
          rw [if_neg (by omega)]
/-- The page of cells is valid and has these cells. -/
theorem built_valid {N : Nat} (h32 : 32 ≤ N) (hN : N ≤ 4096) (h8 : N % 8 = 0) {l : List S45} (h : CellsOk l) (hf : needsL l ≤ N) :
    wrongS (strOfNums (builtL N l)) = ((N : Int), 0) ∧ twoS (strOfNums (builtL N l)) 0 = lastL l ∧ cellsS (strOfNums (builtL N l)) (lastL l).toNat = l := by
  have h0 := lastL_nonneg h
  obtain ⟨n, hn⟩ : ∃ n : Nat, lastL l = n := ⟨(lastL l).toNat, by omega⟩
  have hsz := built_size h hf
  have h2 : twoS (strOfNums (builtL N l)) 0 = n := by
    have q0 : bt (strOfNums (builtL N l)) ((0 : Nat) : Int) = (n : Int) / 256 := by
      rw [built_bt (by omega) h hf 0, ← hn]; rfl
    have q1 : bt (strOfNums (builtL N l)) ((1 : Nat) : Int) = (n : Int) % 256 := by
      rw [built_bt (by omega) h hf 1, ← hn]; rfl
    unfold twoS
    rw [show (0 : Int) = ((0 : Nat) : Int) by rfl, show ((0 : Nat) : Int) + 1 = ((1 : Nat) : Int) by rfl, q0, q1]
    omega
  obtain ⟨a, b, hab, h1, h3, h4, h5⟩ := built_scan (by omega) h hf n hn n (Nat.le_refl n)
  have hb : b = [] := by
    cases hb : b.getLast? with
    | none => simpa using hb
    | some d =>
      have := h3 d (List.mem_of_getLast? hb)
      have e : lastL l = d.f0 := by rw [hab]; simp [lastL, List.getLast?_append, hb]
      omega
  subst hb
  rw [List.append_nil] at hab
  subst hab
  have hnf : 2 + 4 * (n : Int) + bytesL l ≤ N := by unfold needsL at hf; omega
  refine ⟨?_, by rw [h2, hn], by rw [hn, Int.toNat_natCast]; exact h5⟩
  unfold wrongS
  rw [hsz, if_pos ⟨h32, hN, h8⟩, h2, if_neg (by omega), Int.toNat_natCast]
  have he : entriesS (strOfNums (builtL N l)) n = .ok ((N : Int) - bytesL l) := by
    unfold entriesS
    rw [h4, hn]
    simp
  rw [he]
  have hz : ∀ (k j : Nat), N ≤ k + j + bytesL l → 2 + 4 * n ≤ j → firstNZ (strOfNums (builtL N l)) ((N : Int) - bytesL l) j = none := by
    intro k
    induction k with
    | zero => intro j hk hj; rw [firstNZ, if_neg (by omega)]
    | succ k ih =>
      intro j hk hj
      rw [firstNZ]
      split
      · rename_i hlt
        rw [if_neg (by
          rw [built_bt (by omega) h hf, builtL, bld_gap h hf j (by omega) (by omega)]; simp), ih (j + 1) (by omega) (by omega)]
      · rfl
  simp only [hz N (2 + 4 * n) (by omega) (by omega)]

end Go.Proofs.Ytemglmcddaeedaa.PA

namespace Go.Proofs.Ytemglmcddaeedaa.PA
open Go.RowKit Go.Proofs.YtemglmcddaeedaaW.PrintWords Go.Proofs.YtemglmcddaeedaaW.PrintLast Go.Proofs.YtemglmcddaeedaaW.PrintMore
attribute [local go_sem] max2_int min2_int max_two min_two max_three min_three max_four min_four   -- for this text's walks alone
set_option linter.unusedVariables false
set_option linter.unusedSimpArgs false

theorem eqA45 (d : Nat) (w : World) (x0 y0 : Int) (x1 y1 : ByteArray) :
    (Op.equalIn (d + 2) 45 (.agg #[.int .i64 x0, .string x1]) (.agg #[.int .i64 y0, .string y1])).run Try.prog w = .ok (x0 == y0 && (x1.toList == y1.toList)) w := by
  refine eqA_of Try.underlying45 (by kernel_rfl) ?_
  refine eqf_cons (by rfl) (by go_simp; rfl) (by go_simp; rfl) (by go_simp) ?_
  exact eqf_last (by rfl) (by go_simp; rfl) (by go_simp; rfl) (by go_simp)
end Go.Proofs.Ytemglmcddaeedaa.PA

namespace Go.Proofs.Ytemglmcddaeedaa.PA
open Go.RowKit Go.Proofs.YtemglmcddaeedaaW.PrintWords Go.Proofs.YtemglmcddaeedaaW.PrintLast Go.Proofs.YtemglmcddaeedaaW.PrintMore
attribute [local go_sem] max2_int min2_int max_two min_two max_three min_three max_four min_four   -- for this text's walks alone
set_option linter.unusedVariables false
set_option linter.unusedSimpArgs false

attribute [local go_sem high] eqA45
/-! ### ringworklaw06_same: function 13 -/
def ringworklaw06_same.l0 : Nat → List (S45) → List (S45) → Int → Option (Bool)
  | 0, _, _, _ => none
  | k + 1, x0, x1, x5 => if x5 < (x0.length : Int) then (if 0 ≤ x5 then (if x5 < (x1.length : Int) then (if (!(((rd_T45 x0 x5).f0) == ((rd_T45 x1 x5).f0)) || (!((((rd_T45 x0 x5).f1).toList) == (((rd_T45 x1 x5).f1).toList)))) = true then (some false) else (ringworklaw06_same.l0 k x0 x1 (wrap64 (x5 + 1)))) else (none)) else (none)) else (some true)
def ringworklaw06_same.f (k : Nat) (l0 : List (S45)) (l1 : List (S45)) : Option (Bool) := if (l0.length : Int) = (l1.length : Int) then (ringworklaw06_same.l0 k l0 l1 0) else (some false)
theorem ringworklaw06_same.mono_l : ∀ k, (∀ y0 y1 y2, LeO (ringworklaw06_same.l0 k y0 y1 y2) (ringworklaw06_same.l0 (k + 1) y0 y1 y2))
  | 0 => fun _ _ _ r h => by simp [ringworklaw06_same.l0] at h
  | k + 1 => by
    have ih0 := ringworklaw06_same.mono_l k
    · intro y0 y1 y2
      unfold ringworklaw06_same.l0
      repeat' first
      | (with_reducible exact ih0 _ _ _)
      | (with_reducible exact LeO.refl _)
      | (with_reducible exact LeO.none _)
      | (with_reducible refine LeO.ite ?_ ?_)
      | (with_reducible refine LeO.bind ?_ (fun _ => ?_))
      | exact ih0 _ _ _
      | exact LeO.none _
      | refine LeO.ite ?_ ?_
      | refine LeO.bind ?_ (fun _ => ?_)
theorem ringworklaw06_same.mono : ∀ a0 a1 k, LeO (ringworklaw06_same.f k a0 a1) (ringworklaw06_same.f (k + 1) a0 a1) := by
  intro a0 a1 k
  have ih0 := ringworklaw06_same.mono_l k
  unfold ringworklaw06_same.f
  repeat' first
      | (with_reducible exact ih0 _ _ _)
      | (with_reducible exact LeO.refl _)
      | (with_reducible exact LeO.none _)
      | (with_reducible refine LeO.ite ?_ ?_)
      | (with_reducible refine LeO.bind ?_ (fun _ => ?_))
      | exact ih0 _ _ _
      | exact LeO.none _
      | refine LeO.ite ?_ ?_
      | refine LeO.bind ?_ (fun _ => ?_)
set_option maxHeartbeats 8000000 in
set_option maxRecDepth 100000 in
theorem ringworklaw06_same.calls (k : Nat) (A0 : Option Addr) (c0 : Nat) (l0 : List (S45)) (A1 : Option Addr) (c1 : Nat) (l1 : List (S45)) (r : Bool) (w : World) (hr0 : Kd.C k45 w A0 l0.length l0) (hc0 : l0.length ≤ c0) (hr1 : Kd.C k45 w A1 l1.length l1) (hc1 : l1.length ≤ c1) (h : ringworklaw06_same.f k l0 l1 = some r) :
    Calls Try.prog 13 #[.slice A0 l0.length c0, .slice A1 l1.length c1] w fun e w' => e = .returned (.bool r) ∧ Drawn0 w w' := by
  have hu45 := Try.underlying45
  have HR0 := Aside0.mk hr0
  have HC0 := Aside0.mk hc0
  clear hr0 hc0
  have HR1 := Aside0.mk hr1
  have HC1 := Aside0.mk hc1
  clear hr1 hc1
  have H : (if (l0.length : Int) = (l1.length : Int) then (ringworklaw06_same.l0 k l0 l1 0) else (some false)) = some r := h
  clear h
  by_cases c3 : (l0.length : Int) = (l1.length : Int)
  · rw [if_pos c3] at H
    have c3b0 : ((l0.length : Int) == (l1.length : Int)) = true := beq_iff_eq.mpr c3
    have c3b1 : ((l0.length : Int) != (l1.length : Int)) = false := bne_eq_false_iff_eq.mpr c3
    have c3b2 : (l0.length == l1.length) = true := by first | simpa using c3 | (simp at c3 ⊢; omega)
    clear c3
    have H' := Aside0.mk H
    clear H
    go_enter Try.func13, Try.ntmps13
    go_wp2
    repeat (go_quiet (fail); try go_wp2)
    go_loopg [5] k (fun kq v5 w' => ∃ (x5_1 : Int), v5 = .int .i64 x5_1 ∧ Aside0 (ringworklaw06_same.l0 kq l0 l1 x5_1 = some r) ∧ Aside0 (kq ≤ k) ∧ Drawn0 w w')
    case atStart => exact ⟨(0), (by first | rfl | (simp; done) | (simp [*]; done)), H', ⟨Nat.le_refl _⟩, by repeat (first | exact Drawn0.refl _ | apply Drawn0.step)⟩
    case round =>
      clear H'
      try clear c1
      try clear p2
      try clear c3
      try clear c3b0
      try clear c3b1
      try clear c3b2
      obtain ⟨x5_1, rfl, HA, HK1, ⟨m1, rfl⟩⟩ := hrel
      cases gk with
      | zero => exact absurd HA.out (by simp [ringworklaw06_same.l0])
      | succ k1 =>
        have H := HA.out
        clear HA
        simp only [ringworklaw06_same.l0] at H
        by_cases c4 : x5_1 < (l0.length : Int)
        · rw [if_pos c4] at H
          have c4b0 : decide (x5_1 < (l0.length : Int)) = true := decide_eq_true c4
          clear c4
          by_cases c5 : 0 ≤ x5_1
          · rw [if_pos c5] at H
            have c5b0 : decide (0 ≤ x5_1) = true := decide_eq_true c5
            clear c5
            by_cases c6 : x5_1 < (l1.length : Int)
            · rw [if_pos c6] at H
              have c6b0 : decide (x5_1 < (l1.length : Int)) = true := decide_eq_true c6
              clear c6
              by_cases c7 : (!(((rd_T45 l0 x5_1).f0) == ((rd_T45 l1 x5_1).f0)) || (!((((rd_T45 l0 x5_1).f1).toList) == (((rd_T45 l1 x5_1).f1).toList)))) = true
              · rw [if_pos c7] at H
                have c7b0 : (!(((rd_T45 l0 x5_1).f0) == ((rd_T45 l1 x5_1).f0)) || (!((((rd_T45 l0 x5_1).f1).toList) == (((rd_T45 l1 x5_1).f1).toList)))) = true := c7
                clear c7
                obtain rfl := Option.some.inj H
                have p142 : 0 ≤ (x5_1 : Int) := of_decide_eq_true (by first | (with_reducible assumption) | assumption)
                have q142 : x5_1 < (l0.length : Int) := of_decide_eq_true (by first | (with_reducible assumption) | assumption)
                obtain ⟨ad142, e142, hx142_0, hx142_1⟩ := at_T45 HR0.out x5_1 p142 q142
                cases e142
                replace p142 := eq_true p142
                replace q142 := eq_true q142
                have p143 : 0 ≤ (x5_1 : Int) := of_decide_eq_true (by first | (with_reducible assumption) | assumption)
                have q143 : x5_1 < (l1.length : Int) := of_decide_eq_true (by first | (with_reducible assumption) | assumption)
                obtain ⟨ad143, e143, hx143_0, hx143_1⟩ := at_T45 HR1.out x5_1 p143 q143
                cases e143
                replace p143 := eq_true p143
                replace q143 := eq_true q143
                go_wp2
                repeat (go_quiet (fail); try go_wp2)
                go_ret
                exact ⟨by first | rfl | (simp; done) | (simp [*]; done), by repeat (first | exact Drawn0.refl _ | apply Drawn0.step)⟩
              · rw [if_neg c7] at H
                have c7b0 : (!(((rd_T45 l0 x5_1).f0) == ((rd_T45 l1 x5_1).f0)) || (!((((rd_T45 l0 x5_1).f1).toList) == (((rd_T45 l1 x5_1).f1).toList)))) = false := by simpa using c7
                clear c7
                have H' := Aside0.mk H
                clear H
                have p142 : 0 ≤ (x5_1 : Int) := of_decide_eq_true (by first | (with_reducible assumption) | assumption)
                have q142 : x5_1 < (l0.length : Int) := of_decide_eq_true (by first | (with_reducible assumption) | assumption)
                obtain ⟨ad142, e142, hx142_0, hx142_1⟩ := at_T45 HR0.out x5_1 p142 q142
                cases e142
                replace p142 := eq_true p142
                replace q142 := eq_true q142
                have p143 : 0 ≤ (x5_1 : Int) := of_decide_eq_true (by first | (with_reducible assumption) | assumption)
                have q143 : x5_1 < (l1.length : Int) := of_decide_eq_true (by first | (with_reducible assumption) | assumption)
                obtain ⟨ad143, e143, hx143_0, hx143_1⟩ := at_T45 HR1.out x5_1 p143 q143
                cases e143
                replace p143 := eq_true p143
                replace q143 := eq_true q143
                go_wp2
                repeat (go_quiet (fail); try go_wp2)
                go_roundg k1
                case measure => have := HK1.out; omega
                case rel => exact ⟨(wrap64 (x5_1 + 1)), (by first | rfl | (simp; done) | (simp [*]; done)), H', ⟨by have := HK1.out; omega⟩, by repeat (first | exact Drawn0.refl _ | apply Drawn0.step)⟩
            · rw [if_neg c6] at H
              exact absurd H (by simp)
          · rw [if_neg c5] at H
            exact absurd H (by simp)
        · rw [if_neg c4] at H
          have c4b0 : decide (x5_1 < (l0.length : Int)) = false := decide_eq_false c4
          clear c4
          obtain rfl := Option.some.inj H
          go_wp2
          repeat (go_quiet (fail); try go_wp2)
          go_ret
          exact ⟨by first | rfl | (simp; done) | (simp [*]; done), by repeat (first | exact Drawn0.refl _ | apply Drawn0.step)⟩
  · rw [if_neg c3] at H
    have c3b0 : ((l0.length : Int) == (l1.length : Int)) = false := beq_eq_false_iff_ne.mpr c3
    have c3b1 : ((l0.length : Int) != (l1.length : Int)) = true := bne_iff_ne.mpr c3
    have c3b2 : (l0.length == l1.length) = false := by first | simpa using c3 | (simp at c3 ⊢; omega)
    obtain rfl := Option.some.inj H
    go_enter Try.func13, Try.ntmps13
    go_wp2
    repeat (go_quiet (fail); try go_wp2)
    go_ret
    exact ⟨by first | rfl | (simp; done) | (simp [*]; done), by repeat (first | exact Drawn0.refl _ | apply Drawn0.step)⟩

end Go.Proofs.Ytemglmcddaeedaa.PA

namespace Go.Proofs.Ytemglmcddaeedaa.PA
open Go.RowKit Go.Proofs.YtemglmcddaeedaaW.PrintWords Go.Proofs.YtemglmcddaeedaaW.PrintLast Go.Proofs.YtemglmcddaeedaaW.PrintMore
attribute [local go_sem] max2_int min2_int max_two min_two max_three min_three max_four min_four   -- for this text's walks alone
set_option linter.unusedVariables false
set_option linter.unusedSimpArgs false

/-! ### page_New: function 15 -/
def page_New.f (k : Nat) (a0 : Int) : Option (ByteArray × Int) := (page_Fill.f k a0 ([] : List (S45))).bind fun bt157 => (some (bt157.1, bt157.2))
theorem page_New.mono : ∀ a0 k, LeO (page_New.f k a0) (page_New.f (k + 1) a0) := by
  intro a0 k
  unfold page_New.f
  repeat' first
      | (with_reducible exact page_Fill.mono _ _ _)
      | (with_reducible exact LeO.refl _)
      | (with_reducible exact LeO.none _)
      | (with_reducible refine LeO.ite ?_ ?_)
      | (with_reducible refine LeO.bind ?_ (fun _ => ?_))
      | exact page_Fill.mono _ _ _
      | exact LeO.none _
      | refine LeO.ite ?_ ?_
      | refine LeO.bind ?_ (fun _ => ?_)
set_option maxHeartbeats 8000000 in
set_option maxRecDepth 100000 in
theorem page_New.calls (k : Nat) (a0 : Int) (r1 : ByteArray) (r2 : Int) (w : World) (h : page_New.f k a0 = some (r1, r2)) :
    Calls Try.prog 15 #[.int .i64 a0] w fun e w' => e = .returned (.tuple #[.string r1, .int .i64 r2]) ∧ Below w.heap.size w w' := by
  have HB := Aside0.mk (Below.refl w.heap.size w)
  have H : ((page_Fill.f k a0 ([] : List (S45))).bind fun bt157 => (some (bt157.1, bt157.2))) = some (r1, r2) := h
  clear h
  replace H := Option.bind_eq_some_iff.mp H
  obtain ⟨⟨t157, t158⟩, A20, H⟩ := H
  replace H : (some (t157, t158)) = some (r1, r2) := H
  have A2 := Aside0.mk A20
  clear A20
  simp only [Option.some.injEq, Prod.mk.injEq] at H
  obtain ⟨rfl, rfl⟩ := H
  go_enter Try.func15, Try.ntmps15
  go_wp2_with (first | ((with_reducible refine gate_callee (f := 17) rfl ?_); refine goesL_ (some 5) rfl rfl Try.func17 (by kernel_rfl) rfl #[.int .i64 a0, .slice none 0 0] rfl (by (try simp only [List.map_toArray, List.map_cons, List.map_nil]); first | done | rfl | (simp only [List.length_drop, List.length_take]; rfl)) ?_; (refine (page_Fill.calls k a0 _ _ ([] : List (S45)) t157 t158 _ ?side1 ?side2 A2.out).mono ?_); (case side1 => exact Kd.C_nil _ _); (case side2 => exact Nat.le_refl _); rintro e w3 ⟨rfl, hb⟩; refine ⟨_, rfl, ?_⟩; have n0_ := Aside0.mk (below_step (by repeat (first | (with_reducible first | exact HB.out | apply below_alloc | apply pw_below_drewN | apply below_drew1) | exact HB.out)) hb); clear HB; have HB := n0_; clear n0_; (try clear hb); (try clear hb2); (try clear hk); (try clear hi)))
  go_ret2
  exact ⟨by first | rfl | (simp [errW_none, errW_some] <;> rfl) | (simp [*, errW_none, errW_some] <;> rfl), by repeat (first | (with_reducible first | exact HB.out | apply below_alloc | apply pw_below_drewN | apply below_drew1) | exact HB.out)⟩

end Go.Proofs.Ytemglmcddaeedaa.PA

namespace Go.Proofs.Ytemglmcddaeedaa.PA
open Go.RowKit Go.Proofs.YtemglmcddaeedaaW.PrintWords Go.Proofs.YtemglmcddaeedaaW.PrintLast Go.Proofs.YtemglmcddaeedaaW.PrintMore
attribute [local go_sem] max2_int min2_int max_two min_two max_three min_three max_four min_four   -- for this text's walks alone
set_option linter.unusedVariables false
set_option linter.unusedSimpArgs false

/-! ### page_Cells: function 12 -/
def page_Cells.f (a0 : ByteArray) : Option ((List (S45)) × Int) := (page_Valid.f a0).bind fun t138 => (if t138 = true then ((page_cells.f a0).bind fun t139 => (some (t139, 0))) else (some (([] : List (S45)), 1)))
set_option maxHeartbeats 8000000 in
set_option maxRecDepth 100000 in
theorem page_Cells.calls (a0 : ByteArray) (r1 : List (S45)) (r2 : Int) (w : World) (h : page_Cells.f a0 = some (r1, r2)) :
    Calls Try.prog 12 #[.string a0] w fun e w' => ∃ v0_ : Value, e = .returned (.tuple #[v0_, .int .i64 r2]) ∧ Kd.R k45 45 w' w.heap.size (fun _ => True) v0_ r1 ∧ Below w.heap.size w w' := by
  have HB := Aside0.mk (Below.refl w.heap.size w)
  have H : ((page_Valid.f a0).bind fun t138 => (if t138 = true then ((page_cells.f a0).bind fun t139 => (some (t139, 0))) else (some (([] : List (S45)), 1)))) = some (r1, r2) := h
  clear h
  replace H := Option.bind_eq_some_iff.mp H
  obtain ⟨t138, A20, H⟩ := H
  replace H : (if t138 = true then ((page_cells.f a0).bind fun t139 => (some (t139, 0))) else (some (([] : List (S45)), 1))) = some (r1, r2) := H
  have A2 := Aside0.mk A20
  clear A20
  by_cases c3 : t138 = true
  · subst c3
    have H1 : ((page_cells.f a0).bind fun t139 => (some (t139, 0))) = some (r1, r2) := by rw [if_pos rfl] at H; exact H
    clear H
    have H := H1
    clear H1
    replace H := Option.bind_eq_some_iff.mp H
    obtain ⟨t139, A40, H⟩ := H
    replace H : (some (t139, 0)) = some (r1, r2) := H
    have A4 := Aside0.mk A40
    clear A40
    simp only [Option.some.injEq, Prod.mk.injEq] at H
    obtain ⟨rfl, rfl⟩ := H
    go_enter Try.func12, Try.ntmps12
    go_wp2_with (first | ((with_reducible refine gate_callee (f := 21) rfl ?_); refine goesL_ (some 5) rfl rfl Try.func21 (by kernel_rfl) rfl #[.string a0] rfl (by (try simp only [List.map_toArray, List.map_cons, List.map_nil]); first | done | rfl | (simp only [List.length_drop, List.length_take]; rfl)) ?_; (with_reducible refine (page_Valid.calls a0 true _ A2.out).mono ?_); rintro e w5 ⟨rfl, hb⟩; refine ⟨_, rfl, ?_⟩; have n0_ := Aside0.mk (below_step (by repeat (first | (with_reducible first | exact HB.out | apply below_alloc | apply pw_below_drewN | apply below_drew1) | exact HB.out)) hb); clear HB; have HB := n0_; clear n0_; (try clear hb); (try clear hb2); (try clear hk); (try clear hi)) | ((with_reducible refine gate_callee (f := 49) rfl ?_); refine goesL_ (some 8) rfl rfl Try.func49 (by kernel_rfl) rfl #[.string a0] rfl (by (try simp only [List.map_toArray, List.map_cons, List.map_nil]); first | done | rfl | (simp only [List.length_drop, List.length_take]; rfl)) ?_; (with_reducible refine (page_cells.calls a0 t139 _ A4.out).mono ?_); rintro e w6 ⟨v140, rfl, ho0, hb⟩; refine ⟨_, rfl, ?_⟩; have n0_ := Aside0.mk (Kd.R_lower ho0 (below_size (by repeat (first | (with_reducible first | exact HB.out | apply below_alloc | apply pw_below_drewN | apply below_drew1) | exact HB.out)))); have n1_ := Aside0.mk (below_step (by repeat (first | (with_reducible first | exact HB.out | apply below_alloc | apply pw_below_drewN | apply below_drew1) | exact HB.out)) hb); clear HB; have HO141 := n0_; have HB := n1_; clear n0_ n1_; (try clear hb); (try clear hb2); (try clear hk); (try clear hi); (try clear ho0)))
    go_ret2
    exact ⟨_, by first | rfl | (simp [errW_none, errW_some] <;> rfl) | (simp [*, errW_none, errW_some] <;> rfl), by (with_reducible repeat (first | apply Kd.R_alloc | apply Kd.R_drewN | apply Kd.R_drew)); exact HO141.out, by repeat (first | (with_reducible first | exact HB.out | apply below_alloc | apply pw_below_drewN | apply below_drew1) | exact HB.out)⟩
  · replace c3 := Bool.eq_false_iff.mpr c3
    subst c3
    have H1 : (some (([] : List (S45)), 1)) = some (r1, r2) := by rw [if_neg (show ¬ (false = true) by decide)] at H; exact H
    clear H
    have H := H1
    clear H1
    simp only [Option.some.injEq, Prod.mk.injEq] at H
    obtain ⟨rfl, rfl⟩ := H
    go_enter Try.func12, Try.ntmps12
    go_wp2_with (first | ((with_reducible refine gate_callee (f := 21) rfl ?_); refine goesL_ (some 5) rfl rfl Try.func21 (by kernel_rfl) rfl #[.string a0] rfl (by (try simp only [List.map_toArray, List.map_cons, List.map_nil]); first | done | rfl | (simp only [List.length_drop, List.length_take]; rfl)) ?_; (with_reducible refine (page_Valid.calls a0 false _ A2.out).mono ?_); rintro e w7 ⟨rfl, hb⟩; refine ⟨_, rfl, ?_⟩; have n0_ := Aside0.mk (below_step (by repeat (first | (with_reducible first | exact HB.out | apply below_alloc | apply pw_below_drewN | apply below_drew1) | exact HB.out)) hb); clear HB; have HB := n0_; clear n0_; (try clear hb); (try clear hb2); (try clear hk); (try clear hi)))
    go_ret2
    exact ⟨_, by first | rfl | (simp [errW_none, errW_some] <;> rfl) | (simp [*, errW_none, errW_some] <;> rfl), by first | exact Kd.R_nil _ _ _ _ _ | exact Kd.N_nil _ _ _ _ _ | exact Kd.V_nil _ _ _ _ _ | exact Kd.Q_nil _ _ _ _ _ | exact Kd.S_nil _ _ _ _ _, by repeat (first | (with_reducible first | exact HB.out | apply below_alloc | apply pw_below_drewN | apply below_drew1) | exact HB.out)⟩

end Go.Proofs.Ytemglmcddaeedaa.PA

namespace Go.Proofs.Ytemglmcddaeedaa.PA
open Go.RowKit Go.Proofs.YtemglmcddaeedaaW.PrintWords Go.Proofs.YtemglmcddaeedaaW.PrintLast Go.Proofs.YtemglmcddaeedaaW.PrintMore
attribute [local go_sem] max2_int min2_int max_two min_two max_three min_three max_four min_four   -- for this text's walks alone
set_option linter.unusedVariables false
set_option linter.unusedSimpArgs false

/-! ### ringworkref06_New: function 16 -/
def ringworkref06_New.f (a0 : Int) : Option (ByteArray × Int) := (ringworkref06_Size.f a0).bind fun t159 => (if t159 = true then ((ringworkref06_Built.f a0 ([] : List (S45))).bind fun t160 => (some (t160, 0))) else (some ((⟨#[]⟩ : ByteArray), 7)))
set_option maxHeartbeats 8000000 in
set_option maxRecDepth 100000 in
theorem ringworkref06_New.calls (a0 : Int) (r1 : ByteArray) (r2 : Int) (w : World) (h : ringworkref06_New.f a0 = some (r1, r2)) :
    Calls Try.prog 16 #[.int .i64 a0] w fun e w' => e = .returned (.tuple #[.string r1, .int .i64 r2]) ∧ Below w.heap.size w w' := by
  have HB := Aside0.mk (Below.refl w.heap.size w)
  have H : ((ringworkref06_Size.f a0).bind fun t159 => (if t159 = true then ((ringworkref06_Built.f a0 ([] : List (S45))).bind fun t160 => (some (t160, 0))) else (some ((⟨#[]⟩ : ByteArray), 7)))) = some (r1, r2) := h
  clear h
  replace H := Option.bind_eq_some_iff.mp H
  obtain ⟨t159, A20, H⟩ := H
  replace H : (if t159 = true then ((ringworkref06_Built.f a0 ([] : List (S45))).bind fun t160 => (some (t160, 0))) else (some ((⟨#[]⟩ : ByteArray), 7))) = some (r1, r2) := H
  have A2 := Aside0.mk A20
  clear A20
  by_cases c3 : t159 = true
  · subst c3
    have H1 : ((ringworkref06_Built.f a0 ([] : List (S45))).bind fun t160 => (some (t160, 0))) = some (r1, r2) := by rw [if_pos rfl] at H; exact H
    clear H
    have H := H1
    clear H1
    replace H := Option.bind_eq_some_iff.mp H
    obtain ⟨t160, A40, H⟩ := H
    replace H : (some (t160, 0)) = some (r1, r2) := H
    have A4 := Aside0.mk A40
    clear A40
    simp only [Option.some.injEq, Prod.mk.injEq] at H
    obtain ⟨rfl, rfl⟩ := H
    go_enter Try.func16, Try.ntmps16
    go_wp2_with (first | ((with_reducible refine gate_callee (f := 50) rfl ?_); refine goesL_ (some 5) rfl rfl Try.func50 (by kernel_rfl) rfl #[.int .i64 a0] rfl (by (try simp only [List.map_toArray, List.map_cons, List.map_nil]); first | done | rfl | (simp only [List.length_drop, List.length_take]; rfl)) ?_; (with_reducible refine (ringworkref06_Size.calls a0 true _ A2.out).mono ?_); rintro e w' ⟨rfl, ⟨nd, rfl⟩⟩; refine ⟨_, rfl, ?_⟩) | ((with_reducible refine gate_callee (f := 51) rfl ?_); refine goesL_ (some 8) rfl rfl Try.func51 (by kernel_rfl) rfl #[.int .i64 a0, .slice none 0 0] rfl (by (try simp only [List.map_toArray, List.map_cons, List.map_nil]); first | done | rfl | (simp only [List.length_drop, List.length_take]; rfl)) ?_; (refine (ringworkref06_Built.calls a0 _ _ ([] : List (S45)) t160 _ ?side1 ?side2 A4.out).mono ?_); (case side1 => exact Kd.C_nil _ _); (case side2 => exact Nat.le_refl _); rintro e w5 ⟨rfl, hb⟩; refine ⟨_, rfl, ?_⟩; have n0_ := Aside0.mk (below_step (by repeat (first | (with_reducible first | exact HB.out | apply below_alloc | apply pw_below_drewN | apply below_drew1) | exact HB.out)) hb); clear HB; have HB := n0_; clear n0_; (try clear hb); (try clear hb2); (try clear hk); (try clear hi)))
    go_ret2
    exact ⟨by first | rfl | (simp [errW_none, errW_some] <;> rfl) | (simp [*, errW_none, errW_some] <;> rfl), by repeat (first | (with_reducible first | exact HB.out | apply below_alloc | apply pw_below_drewN | apply below_drew1) | exact HB.out)⟩
  · replace c3 := Bool.eq_false_iff.mpr c3
    subst c3
    have H1 : (some ((⟨#[]⟩ : ByteArray), 7)) = some (r1, r2) := by rw [if_neg (show ¬ (false = true) by decide)] at H; exact H
    clear H
    have H := H1
    clear H1
    simp only [Option.some.injEq, Prod.mk.injEq] at H
    obtain ⟨rfl, rfl⟩ := H
    go_enter Try.func16, Try.ntmps16
    go_wp2_with (first | ((with_reducible refine gate_callee (f := 50) rfl ?_); refine goesL_ (some 5) rfl rfl Try.func50 (by kernel_rfl) rfl #[.int .i64 a0] rfl (by (try simp only [List.map_toArray, List.map_cons, List.map_nil]); first | done | rfl | (simp only [List.length_drop, List.length_take]; rfl)) ?_; (with_reducible refine (ringworkref06_Size.calls a0 false _ A2.out).mono ?_); rintro e w' ⟨rfl, ⟨nd, rfl⟩⟩; refine ⟨_, rfl, ?_⟩))
    go_ret2
    exact ⟨by first | rfl | (simp [errW_none, errW_some] <;> rfl) | (simp [*, errW_none, errW_some] <;> rfl), by repeat (first | (with_reducible first | exact HB.out | apply below_alloc | apply pw_below_drewN | apply below_drew1) | exact HB.out)⟩

end Go.Proofs.Ytemglmcddaeedaa.PA

namespace Go.Proofs.Ytemglmcddaeedaa.PA
open Go.RowKit Go.Proofs.YtemglmcddaeedaaW.PrintWords Go.Proofs.YtemglmcddaeedaaW.PrintLast Go.Proofs.YtemglmcddaeedaaW.PrintMore
set_option linter.unusedVariables false
set_option linter.unusedSimpArgs false
/-! #### Fill, New, Cells: what both sides answer -/
def sizeOk (n : Int) : Prop := 32 ≤ n ∧ n ≤ 4096 ∧ n % 8 = 0
instance sizeOk.dec (n : Int) : Decidable (sizeOk n) := by unfold sizeOk; infer_instance
def fillS (n : Int) (l : List S45) : ByteArray × Int :=
  if CellsOk l then (if sizeOk n then (if needsL l > n then (⟨#[]⟩, 13) else (strOfNums (builtL n.toNat l), 0)) else (⟨#[]⟩, 7)) else (⟨#[]⟩, 1)
theorem w64 (x : Int) (h0 : -9223372036854775808 ≤ x) (h1 : x < 9223372036854775808) : wrap64 x = x := by unfold wrap64; omega
theorem size_f (n : Int) : page_size.f n = some (decide (sizeOk n)) := by
  unfold page_size.f
  split
  · split
    · rw [Int.tmod_eq_emod_of_nonneg (by omega)]
      congr 1
      by_cases h : n % 8 = 0
      · rw [decide_eq_true (show sizeOk n from ⟨by omega, by omega, h⟩), h]; rfl
      · rw [decide_eq_false (fun hs : sizeOk n => h hs.2.2)]; simpa using h
    · rw [decide_eq_false (fun hs : sizeOk n => by have := hs.2.1; omega)]
  · rw [decide_eq_false (fun hs : sizeOk n => by have := hs.1; omega)]
theorem refSize_f (n : Int) : ringworkref06_Size.f n = some (decide (sizeOk n)) := by
  rw [← size_f]; rfl
theorem line_f (n : Int) : page_line.f n = some (decide (1 ≤ n ∧ n ≤ 200)) := by
  unfold page_line.f
  split
  · rename_i h; simp; omega
  · rename_i h; simp; omega
theorem CellsOk_take {l : List S45} (h : CellsOk l) (i : Nat) : CellsOk (l.take i) := by
  rw [← List.take_append_drop i l] at h; exact h.append.1
/-- What one more cell asks. -/
theorem ok_next {l : List S45} (i : Nat) (hi : i < l.length) (h : CellsOk (l.take i)) :
    CellsOk (l.take (i + 1)) ↔ (1 ≤ l[i].f0 ∧ l[i].f0 ≤ 200 ∧ 0 < l[i].f1.size ∧ lastL (l.take i) < l[i].f0) := by
  rw [take_snoc l i hi]
  constructor
  · intro hc
    have h1 := hc.each l[i] (List.mem_append.2 (.inr (List.mem_singleton.2 rfl)))
    exact ⟨h1.1, h1.2.1, h1.2.2, lastL_lt hc⟩
  · rintro ⟨h1, h2, h3, h4⟩
    exact h.snoc ⟨h1, h2, h3⟩ h4
theorem lastL_take {l : List S45} (i : Nat) (hi : i ≤ l.length) (hp : 0 < i) : lastL (l.take i) = (l[i - 1]'(by omega)).f0 := by
  have e : l.take i = l.take (i - 1) ++ [l[i - 1]'(by omega)] := by
    have := take_snoc l (i - 1) (by omega)
    rw [show i - 1 + 1 = i by omega] at this
    exact this
  rw [e, lastL_snoc]
theorem lastL_zero {l : List S45} (i : Nat) (hp : ¬ 0 < i) : lastL (l.take i) = 0 := by
  have : i = 0 := by omega
  subst this
  rfl
theorem not_ok {l : List S45} (i : Nat) (h : ¬ CellsOk (l.take i)) : ¬ CellsOk l := fun hl => h (CellsOk_take hl i)
theorem fill_bad {l : List S45} (n : Int) (h : ¬ CellsOk l) : fillS n l = (⟨#[]⟩, 1) := by unfold fillS; rw [if_neg h]
theorem Fill_l0 (n : Int) (l : List S45) (hl : l.length ≤ 9223372036854775807) (hb : bytesL l ≤ 1000000000000) : ∀ (k i : Nat), i ≤ l.length → l.length - i < k → CellsOk (l.take i) →
    page_Fill.l0 k n l l (l.length : Int) (i : Int) = some (fillS n l) := by
  intro k
  induction k with
  | zero => intro i _ h; omega
  | succ k ih =>
    intro i hi hk hok
    rw [page_Fill.l0]
    by_cases hlt : i < l.length
    · have hn := ok_next i hlt hok
      rw [if_pos (by omega), if_pos (by omega), if_pos (by omega), rd_get l i hlt, line_f]
      simp only [Option.bind_some, decide_eq_true_eq]
      by_cases h1 : 1 ≤ l[i].f0 ∧ l[i].f0 ≤ 200
      · rw [if_pos h1]
        by_cases h2 : l[i].f1.toList = ([] : List UInt8)
        · rw [if_pos h2, fill_bad n (not_ok (i + 1) (fun hc => by have := (hn.1 hc).2.2.1; have := (toList_nil _).1 h2; omega))]
        · rw [if_neg h2]
          have h2' : 0 < l[i].f1.size := by
            rcases Nat.eq_zero_or_pos l[i].f1.size with h | h
            · exact absurd ((toList_nil _).2 h) h2
            · exact h
          by_cases h3 : (i : Int) > 0
          · rw [if_pos h3, w64 _ (by omega) (by omega), if_pos (by omega), if_pos (by omega), show (i : Int) - 1 = ((i - 1 : Nat) : Int) by omega, rd_get l (i - 1) (by omega)]
            by_cases h4 : (l[i - 1]'(by omega)).f0 ≥ l[i].f0
            · rw [if_pos h4, fill_bad n (not_ok (i + 1) (fun hc => by have := (hn.1 hc).2.2.2; rw [lastL_take i hi (by omega)] at this; omega))]
            · rw [if_neg h4, w64 _ (by omega) (by omega), show (i : Int) + 1 = ((i + 1 : Nat) : Int) by omega]
              exact ih (i + 1) (by omega) (by omega) (hn.2 ⟨h1.1, h1.2, h2', by rw [lastL_take i hi (by omega)]; omega⟩)
          · rw [if_neg h3, w64 _ (by omega) (by omega), show (i : Int) + 1 = ((i + 1 : Nat) : Int) by omega]
            exact ih (i + 1) (by omega) (by omega) (hn.2 ⟨h1.1, h1.2, h2', by rw [lastL_zero i (by omega)]; omega⟩)
      · rw [if_neg h1, fill_bad n (not_ok (i + 1) (fun hc => h1 ⟨(hn.1 hc).1, (hn.1 hc).2.1⟩))]
    · have hil : i = l.length := by omega
      rw [if_neg (by omega), size_f]
      rw [hil, List.take_length] at hok
      simp only [Option.bind_some, decide_eq_true_eq]
      unfold fillS
      rw [if_pos hok]
      by_cases hs : sizeOk n
      · rw [if_pos hs, if_pos hs]
        obtain ⟨s1, s2, s3⟩ := hs
        unfold page_filled.f
        rw [if_pos ⟨s1, s2, hok, hb⟩]
        split <;> rfl
      · rw [if_neg hs, if_neg hs]
theorem Fill_f (n : Int) (l : List S45) (hl : l.length ≤ 9223372036854775807) (hb : bytesL l ≤ 1000000000000) (k : Nat) (hk : l.length < k) : page_Fill.f k n l = some (fillS n l) :=
  Fill_l0 n l hl hb k 0 (by omega) (by omega) trivial
theorem New_f (n : Int) (k : Nat) (hk : 0 < k) : page_New.f k n = some (fillS n []) := by
  unfold page_New.f
  rw [Fill_f n [] (by simp) (by simp [bytesL]) k (by simpa using hk)]
  rfl
theorem refLast_f (l : List S45) (hl : l.length ≤ 9223372036854775807) : ringworkref06_Last.f l = some (lastL l) := by
  unfold ringworkref06_Last.f
  by_cases h : l.length = 0
  · rw [if_pos (by omega)]
    have : l = [] := List.length_eq_zero_iff.1 h
    subst this; rfl
  · rw [if_neg (by omega), w64 _ (by omega) (by omega), if_pos (by omega), if_pos (by omega), lastL_rd l (by omega)]
theorem refBytes_l0 (l : List S45) (hl : l.length ≤ 9223372036854775807) (hb : bytesL l ≤ 1000000000000) : ∀ (k i : Nat), i ≤ l.length → l.length - i < k →
    ringworkref06_Bytes.l0 k l (bytesL (l.take i) : Int) (i : Int) = some (bytesL l : Int) := by
  intro k
  induction k with
  | zero => intro i _ h; omega
  | succ k ih =>
    intro i hi hk
    rw [ringworkref06_Bytes.l0]
    by_cases hlt : i < l.length
    · have h1 := bytesL_take_succ l i hlt
      have h2 := bytesL_take_le l (i + 1)
      rw [if_pos (by omega), if_pos (by omega), rd_get l i hlt, w64 _ (by omega) (by omega), w64 _ (by omega) (by omega), show (i : Int) + 1 = ((i + 1 : Nat) : Int) by omega, show (bytesL (l.take i) : Int) + (l[i].f1.size : Int) = (bytesL (l.take (i + 1)) : Int) by omega]
      exact ih (i + 1) (by omega) (by omega)
    · rw [if_neg (by omega), List.take_of_length_le (by omega)]
theorem refBytes_f (l : List S45) (hl : l.length ≤ 9223372036854775807) (hb : bytesL l ≤ 1000000000000) (k : Nat) (hk : l.length < k) : ringworkref06_Bytes.f k l = some (bytesL l : Int) := by
  have := refBytes_l0 l hl hb k 0 (by omega) (by omega)
  exact this
theorem refRoom_f (n : Int) (l : List S45) (hn : -1000000000000 ≤ n ∧ n ≤ 1000000000000) (hl : l.length ≤ 9223372036854775807) (hb : bytesL l ≤ 1000000000000) (hok : CellsOk l) (k : Nat) (hk : l.length < k) :
    ringworkref06_Room.f k n l = some (n - needsL l) := by
  have h := lastL_nonneg hok
  unfold ringworkref06_Room.f
  rw [refLast_f l hl, Option.bind_some, refBytes_f l hl hb k hk, Option.bind_some, w64 (n - 2) (by omega) (by omega), w64 (4 * lastL l) (by omega) (by omega), w64 (n - 2 - 4 * lastL l) (by omega) (by omega), w64 _ (by omega) (by omega)]
  congr 1
  unfold needsL
  omega
theorem refFill_l0 (n : Int) (l : List S45) (hl : l.length ≤ 9223372036854775807) (hb : bytesL l ≤ 1000000000000) : ∀ (k i : Nat), i ≤ l.length → l.length - i + l.length + 1 < k → CellsOk (l.take i) →
    ringworkref06_Fill.l0 k n l (i : Int) = some (fillS n l) := by
  intro k
  induction k with
  | zero => intro i _ h; omega
  | succ k ih =>
    intro i hi hk hok
    rw [ringworkref06_Fill.l0]
    by_cases hlt : i < l.length
    · have hn := ok_next i hlt hok
      rw [if_pos (by omega), if_pos (by omega), rd_get l i hlt]
      by_cases h1 : l[i].f0 < 1
      · rw [if_pos h1, fill_bad n (not_ok (i + 1) (fun hc => by have := (hn.1 hc).1; omega))]
      · rw [if_neg h1]
        by_cases h1' : l[i].f0 > 200
        · rw [if_pos h1', fill_bad n (not_ok (i + 1) (fun hc => by have := (hn.1 hc).2.1; omega))]
        · rw [if_neg h1']
          have hz : l[i].f1.toList = ([] : List UInt8) → fillS n l = (⟨#[]⟩, 1) := fun h2 => fill_bad n (not_ok (i + 1) (fun hc => by have := (hn.1 hc).2.2.1; have := (toList_nil _).1 h2; omega))
          have hpos : ¬ l[i].f1.toList = ([] : List UInt8) → 0 < l[i].f1.size := fun h2 => by
            rcases Nat.eq_zero_or_pos l[i].f1.size with h | h
            · exact absurd ((toList_nil _).2 h) h2
            · exact h
          by_cases h3 : (i : Int) > 0
          · rw [if_pos h3, w64 ((i : Int) - 1) (by omega) (by omega), if_pos (by omega), if_pos (by omega), show (i : Int) - 1 = ((i - 1 : Nat) : Int) by omega, rd_get l (i - 1) (by omega)]
            by_cases h4 : l[i].f0 ≤ (l[i - 1]'(by omega)).f0
            · rw [if_pos h4, fill_bad n (not_ok (i + 1) (fun hc => by have := (hn.1 hc).2.2.2; rw [lastL_take i hi (by omega)] at this; omega))]
            · rw [if_neg h4]
              by_cases h2 : l[i].f1.toList = ([] : List UInt8)
              · rw [if_pos h2, hz h2]
              · rw [if_neg h2, w64 _ (by omega) (by omega), show (i : Int) + 1 = ((i + 1 : Nat) : Int) by omega]
                exact ih (i + 1) (by omega) (by omega) (hn.2 ⟨by omega, by omega, hpos h2, by rw [lastL_take i hi (by omega)]; omega⟩)
          · rw [if_neg h3]
            by_cases h2 : l[i].f1.toList = ([] : List UInt8)
            · rw [if_pos h2, hz h2]
            · rw [if_neg h2, w64 _ (by omega) (by omega), show (i : Int) + 1 = ((i + 1 : Nat) : Int) by omega]
              exact ih (i + 1) (by omega) (by omega) (hn.2 ⟨by omega, by omega, hpos h2, by rw [lastL_zero i (by omega)]; omega⟩)
    · have hil : i = l.length := by omega
      rw [if_neg (by omega), refSize_f]
      rw [hil, List.take_length] at hok
      simp only [Option.bind_some, decide_eq_true_eq]
      unfold fillS
      rw [if_pos hok]
      by_cases hs : sizeOk n
      · rw [if_pos hs, if_pos hs]
        obtain ⟨s1, s2, s3⟩ := hs
        rw [refRoom_f n l (by omega) hl hb hok k (by omega), Option.bind_some]
        by_cases hnd : needsL l > n
        · rw [if_pos (by omega), if_pos hnd]
        · rw [if_neg (by omega), if_neg hnd]
          unfold ringworkref06_Built.f
          rw [if_pos ⟨s1, s2, hok, hb, by omega⟩]
          rfl
      · rw [if_neg hs, if_neg hs]
theorem refFill_f (n : Int) (l : List S45) (hl : l.length ≤ 9223372036854775807) (hb : bytesL l ≤ 1000000000000) (k : Nat) (hk : 2 * l.length + 1 < k) : ringworkref06_Fill.f k n l = some (fillS n l) :=
  refFill_l0 n l hl hb k 0 (by omega) (by omega) trivial
theorem refNew_f (n : Int) : ringworkref06_New.f n = some (fillS n []) := by
  unfold ringworkref06_New.f fillS
  rw [refSize_f, Option.bind_some, if_pos (show CellsOk [] from trivial)]
  by_cases hs : sizeOk n
  · rw [if_pos (decide_eq_true hs), if_pos hs]
    obtain ⟨s1, s2, s3⟩ := hs
    have h0 : needsL ([] : List S45) = 2 := rfl
    rw [if_neg (show ¬ needsL ([] : List S45) > n by omega)]
    unfold ringworkref06_Built.f
    rw [if_pos ⟨s1, s2, trivial, by simp [bytesL], by omega⟩]
    rfl
  · rw [if_neg (by simpa using hs), if_neg hs]
theorem Wrong_f (p : ByteArray) (h : p.size ≤ 100000) : page_Wrong.f p = some (wrongS p) := by unfold page_Wrong.f; rw [if_pos h]
theorem Valid_f (p : ByteArray) (h : p.size ≤ 100000) : page_Valid.f p = some (decide (validS p)) := by
  unfold page_Valid.f validS
  rw [Wrong_f p h, Option.bind_some]
  congr 1
theorem Cells_f (p : ByteArray) (h : p.size ≤ 100000) : page_Cells.f p = some (if validS p then (cellsS p (twoS p 0).toNat, 0) else ([], 1)) := by
  unfold page_Cells.f
  rw [Valid_f p h, Option.bind_some]
  by_cases hv : validS p
  · rw [if_pos (decide_eq_true hv), if_pos hv]
    unfold page_cells.f
    rw [if_pos hv]
    rfl
  · rw [if_neg (by simpa using hv), if_neg hv]
/-- The page of cells that are right and fit is valid, with these cells. -/
theorem fill_good (n : Int) (l : List S45) (h : (fillS n l).2 = 0) : CellsOk l ∧ sizeOk n ∧ needsL l ≤ n ∧ (fillS n l).1 = strOfNums (builtL n.toNat l) := by
  unfold fillS at h ⊢
  split at h
  · rename_i h1
    split at h
    · rename_i h2
      split at h
      · cases h
      · rename_i h3
        refine ⟨h1, h2, by omega, ?_⟩
        rw [if_pos h1, if_pos h2, if_neg h3]
    · cases h
  · cases h
theorem built_cells (n : Int) (l : List S45) (h1 : CellsOk l) (h2 : sizeOk n) (h3 : needsL l ≤ n) :
    validS (strOfNums (builtL n.toNat l)) ∧ cellsS (strOfNums (builtL n.toNat l)) (twoS (strOfNums (builtL n.toNat l)) 0).toNat = l ∧ (strOfNums (builtL n.toNat l)).size = n.toNat := by
  obtain ⟨s1, s2, s3⟩ := h2
  obtain ⟨e1, e2, e3⟩ := built_valid (N := n.toNat) (by omega) (by omega) (by omega) h1 (by omega)
  exact ⟨by unfold validS; rw [e1], by rw [e2]; exact e3, built_size h1 (by omega)⟩

end Go.Proofs.Ytemglmcddaeedaa.PA

namespace Go.Proofs.Ytemglmcddaeedaa.PA
open Go.RowKit Go.Proofs.YtemglmcddaeedaaW.PrintWords Go.Proofs.YtemglmcddaeedaaW.PrintLast Go.Proofs.YtemglmcddaeedaaW.PrintMore
set_option linter.unusedVariables false
set_option linter.unusedSimpArgs false
theorem wrap_add (a b : Int) : wrap64 (wrap64 a + b) = wrap64 (a + b) := by unfold wrap64; omega
theorem lawCells_l0 (l : List S45) (hl : l.length ≤ 9223372036854775807) (hb : l.length ≤ 60 → bytesL l ≤ 9000000000000000) : ∀ (k i : Nat), i ≤ l.length → l.length - i < k →
    ringworklaw06_Cells.l0 k l (wrap64 (bytesL (l.take i) : Int)) (i : Int) = some (decide (l.length ≤ 60 ∧ bytesL l ≤ 6000)) := by
  intro k
  induction k with
  | zero => intro i _ h; omega
  | succ k ih =>
    intro i hi hk
    rw [ringworklaw06_Cells.l0]
    by_cases hlt : i < l.length
    · have h1 := bytesL_take_succ l i hlt
      rw [if_pos (by omega), if_pos (by omega), rd_get l i hlt, w64 ((i : Int) + 1) (by omega) (by omega), show (i : Int) + 1 = ((i + 1 : Nat) : Int) by omega, wrap_add, show (bytesL (l.take i) : Int) + (l[i].f1.size : Int) = (bytesL (l.take (i + 1)) : Int) by omega]
      exact ih (i + 1) (by omega) (by omega)
    · rw [if_neg (by omega), List.take_of_length_le (by omega)]
      by_cases h6 : l.length ≤ 60
      · have := hb h6
        rw [if_pos (by omega), w64 _ (by omega) (by omega)]
        congr 1
        by_cases h7 : bytesL l ≤ 6000
        · rw [decide_eq_true (show (bytesL l : Int) ≤ 6000 by omega), decide_eq_true ⟨h6, h7⟩]
        · rw [decide_eq_false (show ¬ (bytesL l : Int) ≤ 6000 by omega), decide_eq_false (fun h => h7 h.2)]
      · rw [if_neg (by omega), decide_eq_false (fun h => h6 h.1)]
theorem lawCells_f (l : List S45) (hl : l.length ≤ 9223372036854775807) (hb : l.length ≤ 60 → bytesL l ≤ 9000000000000000) (k : Nat) (hk : l.length < k) :
    ringworklaw06_Cells.f k l = some (decide (l.length ≤ 60 ∧ bytesL l ≤ 6000)) := by
  have := lawCells_l0 l hl hb k 0 (by omega) (by omega)
  rw [show wrap64 (bytesL (l.take 0) : Int) = 0 by simp [bytesL, wrap64]] at this
  exact this
theorem same_l0 (l : List S45) (hl : l.length ≤ 9223372036854775807) : ∀ (k i : Nat), i ≤ l.length → l.length - i < k → ringworklaw06_same.l0 k l l (i : Int) = some true := by
  intro k
  induction k with
  | zero => intro i _ h; omega
  | succ k ih =>
    intro i hi hk
    rw [ringworklaw06_same.l0]
    by_cases hlt : i < l.length
    · rw [if_pos (by omega), if_pos (by omega), if_pos (by omega), if_neg (by simp), w64 _ (by omega) (by omega), show (i : Int) + 1 = ((i + 1 : Nat) : Int) by omega]
      exact ih (i + 1) (by omega) (by omega)
    · rw [if_neg (by omega)]
theorem same_f (l : List S45) (hl : l.length ≤ 9223372036854775807) (k : Nat) (hk : l.length < k) : ringworklaw06_same.f k l l = some true := by
  unfold ringworklaw06_same.f
  rw [if_pos rfl]
  exact same_l0 l hl k 0 (by omega) (by omega)
theorem awake_f (k : Nat) (hk : 1 < k) : ringworklaw06_awake.f k = some true := by
  unfold ringworklaw06_awake.f
  rw [Fill_f 32 _ (by simp) (by decide +kernel) k (by simpa using hk)]
  have e : fillS 32 [(⟨1, (⟨#[97, 98]⟩ : ByteArray)⟩ : S45)] = (⟨#[0, 1, 0, 30, 0, 2, 0, 0, 0, 0, 0, 0, 0, 0, 0, 0, 0, 0, 0, 0, 0, 0, 0, 0, 0, 0, 0, 0, 0, 0, 97, 98]⟩, 0) := by decide +kernel
  rw [e]
  simp only [Option.bind_some, toList_data]
  decide +kernel
theorem bound60 (l : List S45) (h : ∀ c ∈ l, c.f1.size ≤ reachBytes) (h6 : l.length ≤ 60) : bytesL l ≤ 9000000000000000 := by
  have h1 := bytes_bound l reachBytes h
  have h2 : l.length * reachBytes ≤ 60 * reachBytes := Nat.mul_le_mul_right _ h6
  have h3 : 60 * reachBytes ≤ 9000000000000000 := by decide
  omega
theorem Made_f (n : Int) (l : List S45) (hl : l.length ≤ 9223372036854775807) (hb : l.length ≤ 60 → bytesL l ≤ 9000000000000000) (k : Nat) (hk : 2 * l.length + 1 < k) :
    ringworklaw06_Made.f k n l = some (if l.length ≤ 60 ∧ bytesL l ≤ 6000 then ((fillS n l).1, (fillS n l).2 == 0) else (⟨#[]⟩, false)) := by
  unfold ringworklaw06_Made.f
  rw [lawCells_f l hl hb k (by omega), Option.bind_some]
  by_cases hc : l.length ≤ 60 ∧ bytesL l ≤ 6000
  · rw [if_pos (decide_eq_true hc), if_pos hc, refFill_f n l hl (by omega) k hk]
    rfl
  · rw [if_neg (by simpa using hc), if_neg hc]

end Go.Proofs.Ytemglmcddaeedaa.PA

namespace Go.Proofs.Ytemglmcddaeedaa.PA
open Go.RowKit Go.Proofs.YtemglmcddaeedaaW.PrintWords Go.Proofs.YtemglmcddaeedaaW.PrintLast Go.Proofs.YtemglmcddaeedaaW.PrintMore
set_option linter.unusedVariables false
set_option linter.unusedSimpArgs false
def atS (l : List S45) (n : Int) : ByteArray := match l.find? (fun c => c.f0 == n) with | some c => c.f1 | none => ⟨#[]⟩
theorem atS_pos {l : List S45} (h : CellsOk l) (n : Int) : 0 < (atS l n).size ↔ ∃ c ∈ l, c.f0 = n := by
  unfold atS
  cases hf : l.find? (fun c => c.f0 == n) with
  | none =>
    constructor
    · intro h0
      exact absurd h0 (by decide)
    · rintro ⟨c, hc, hn⟩
      have := List.find?_eq_none.1 hf c hc
      simp [hn] at this
  | some c =>
    have h1 := List.mem_of_find?_eq_some hf
    have h2 := List.find?_some hf
    exact ⟨fun _ => ⟨c, h1, by simpa using h2⟩, fun _ => (h.each c h1).2.2⟩
theorem leastL_spec : ∀ (l : List S45), CellsOk l → 1 ≤ leastL l ∧ leastL l ≤ 201 ∧ (∀ j, 1 ≤ j → j < leastL l → ∃ c ∈ l, c.f0 = j) ∧ (∀ c ∈ l, c.f0 ≠ leastL l) := by
  intro l
  induction hl : l.length generalizing l with
  | zero =>
    intro _
    have : l = [] := List.length_eq_zero_iff.1 hl
    subst this
    refine ⟨by decide, by decide, fun j h1 h2 => ?_, by simp⟩
    have : leastL ([] : List S45) = 1 := rfl
    omega
  | succ m ih =>
    intro h
    have hne : l ≠ [] := by intro h; rw [h] at hl; cases hl
    obtain ⟨a, c, rfl⟩ : ∃ a c, l = a ++ [c] := ⟨l.dropLast, l.getLast hne, (List.dropLast_concat_getLast hne).symm⟩
    obtain ⟨i1, i2, i3, i4⟩ := ih a (by simp at hl; exact hl) h.append.1
    have hc := h.append.2.1.head
    have hlt := fun x hx => h.append.2.2 x hx c (by simp)
    rw [leastL_snoc]
    split
    · rename_i he
      refine ⟨by omega, by omega, fun j h1 h2 => ?_, fun x hx => ?_⟩
      · by_cases hj : j < leastL a
        · obtain ⟨d, hd, hdj⟩ := i3 j h1 hj
          exact ⟨d, by simp [hd], hdj⟩
        · exact ⟨c, by simp, by omega⟩
      · rcases List.mem_append.1 hx with hx | hx
        · have := hlt x hx; omega
        · simp only [List.mem_singleton] at hx; subst hx; omega
    · rename_i he
      refine ⟨i1, i2, fun j h1 h2 => ?_, fun x hx => ?_⟩
      · obtain ⟨d, hd, hdj⟩ := i3 j h1 h2
        exact ⟨d, by simp [hd], hdj⟩
      · rcases List.mem_append.1 hx with hx | hx
        · exact i4 x hx
        · simp only [List.mem_singleton] at hx; subst hx; exact he

end Go.Proofs.Ytemglmcddaeedaa.PA

namespace Go.Proofs.Ytemglmcddaeedaa.PA
open Go.RowKit Go.Proofs.YtemglmcddaeedaaW.PrintWords Go.Proofs.YtemglmcddaeedaaW.PrintLast Go.Proofs.YtemglmcddaeedaaW.PrintMore
set_option linter.unusedVariables false
set_option linter.unusedSimpArgs false
theorem dropIdx {l : List S45} (h : CellsOk l) {n : Int} (hf : foundS l n = true) : ∃ c, l.drop (idxS l n) = c :: l.drop (idxS l n + 1) ∧ c.f0 = n ∧ rd_T45 l (idxS l n) = c ∧ c ∈ l := by
  obtain ⟨c, hc, hcn⟩ := (idx_split h n).2.2.1 hf
  obtain ⟨hlt, he⟩ := List.getElem?_eq_some_iff.1 hc
  exact ⟨c, by rw [List.drop_eq_getElem_cons hlt, he], hcn, by rw [rd_get l _ hlt, he], by rw [← he]; exact List.getElem_mem _⟩
theorem find_lt {a : List S45} {n : Int} (h : ∀ x ∈ a, x.f0 ≠ n) : a.find? (fun c => c.f0 == n) = none := by
  rw [List.find?_eq_none]; intro x hx; simpa using h x hx
theorem atS_app {a b : List S45} {n : Int} (h : ∀ x ∈ a, x.f0 ≠ n) : atS (a ++ b) n = atS b n := by
  unfold atS; rw [List.find?_append, find_lt h]; rfl
theorem atS_cons {c : S45} {b : List S45} {n : Int} : atS (c :: b) n = if c.f0 = n then c.f1 else atS b n := by
  unfold atS
  rw [List.find?_cons]
  by_cases h : c.f0 = n
  · rw [if_pos h]; simp [h]
  · rw [if_neg h]
    have : (c.f0 == n) = false := by simpa using h
    rw [this]
theorem atS_none {b : List S45} {n : Int} (h : ∀ x ∈ b, x.f0 ≠ n) : atS b n = ⟨#[]⟩ := by unfold atS; rw [find_lt h]
theorem atS_skip {a b : List S45} {n : Int} : atS (a ++ b) n = if 0 < (atS a n).size ∨ (∃ c ∈ a, c.f0 = n) then atS a n else atS b n := by
  induction a with
  | nil => rw [if_neg]; · rfl
           · rintro (h | ⟨c, hc, _⟩)
             · exact absurd h (Nat.lt_irrefl 0)
             · cases hc
  | cons c a ih =>
    rw [List.cons_append, atS_cons, atS_cons]
    by_cases h : c.f0 = n
    · rw [if_pos h, if_pos h, if_pos (.inr ⟨c, by simp, h⟩)]
    · rw [if_neg h, if_neg h, ih]
      congr 1
      apply propext
      constructor
      · rintro (h1 | ⟨x, hx, hn⟩)
        · exact .inl h1
        · exact .inr ⟨x, by simp [hx], hn⟩
      · rintro (h1 | ⟨x, hx, hn⟩)
        · exact .inl h1
        · rcases List.mem_cons.1 hx with rfl | hx
          · exact absurd hn h
          · exact .inr ⟨x, hx, hn⟩
theorem atS_found {l : List S45} (h : CellsOk l) (n : Int) : (foundS l n = true → atS l n = (rd_T45 l (idxS l n)).f1 ∧ 0 < (atS l n).size) ∧ (foundS l n = false → atS l n = ⟨#[]⟩) := by
  have hs := idx_split h n
  have ha : ∀ x ∈ l.take (idxS l n), x.f0 ≠ n := fun x hx => by have := hs.1 x hx; omega
  have e : atS l n = atS (l.drop (idxS l n)) n := by
    have := atS_app (b := l.drop (idxS l n)) ha
    rwa [List.take_append_drop] at this
  constructor
  · intro hf
    obtain ⟨c, h1, h2, h3, h4⟩ := dropIdx h hf
    rw [e, h1, atS_cons, if_pos h2, h3]
    exact ⟨rfl, (h.each c h4).2.2⟩
  · intro hf
    rw [e]
    exact atS_none (fun x hx => by have := hs.2.2.2 hf x hx; omega)
theorem found_iff {l : List S45} (h : CellsOk l) (n : Int) : foundS l n = true ↔ ∃ c ∈ l, c.f0 = n := by
  rw [← atS_pos h n]
  constructor
  · intro hf; exact ((atS_found h n).1 hf).2
  · intro h0
    cases hf : foundS l n with
    | true => rfl
    | false => rw [(atS_found h n).2 hf] at h0; exact absurd h0 (by decide)
theorem atS_size {l : List S45} (h : CellsOk l) (n : Int) : ((atS l n).toList = ([] : List UInt8)) ↔ foundS l n = false := by
  rw [toList_nil]
  cases hf : foundS l n with
  | true => have := ((atS_found h n).1 hf).2; constructor <;> intro h <;> first | omega | cases h
  | false => rw [(atS_found h n).2 hf]; simp; rfl
theorem emptyB (d : ByteArray) : (d.toList == ([] : List UInt8)) = decide (d.size = 0) := by
  rw [Bool.eq_iff_iff]; simp only [beq_iff_eq, decide_eq_true_eq]; exact toList_nil d
theorem least_free {l : List S45} (h : CellsOk l) : foundS l (leastL l) = false := by
  cases hf : foundS l (leastL l) with
  | false => rfl
  | true =>
    obtain ⟨c, hc, hn⟩ := (found_iff h _).1 hf
    exact absurd hn ((leastL_spec l h).2.2.2 c hc)
theorem lastL_append (a b : List S45) (hb : b ≠ []) : lastL (a ++ b) = lastL b := by
  unfold lastL
  cases b with
  | nil => exact absurd rfl hb
  | cons c r => rw [List.getLast?_append]; cases h : (c :: r).getLast? with
    | none => simp at h
    | some x => rfl
theorem lastL_mem {l : List S45} (h : l ≠ []) : ∃ c ∈ l, lastL l = c.f0 := by
  unfold lastL
  cases hl : l.getLast? with
  | none => simp at hl; exact absurd hl h
  | some c => exact ⟨c, List.mem_of_getLast? hl, rfl⟩
theorem lastL_ins {l : List S45} (h : CellsOk l) (n : Int) (hn : 0 ≤ n) (d : ByteArray) (hf : foundS l n = false) : lastL (insS l n d) = if n ≤ lastL l then lastL l else n := by
  have hs := idx_split h n
  have e : l = l.take (idxS l n) ++ l.drop (idxS l n) := (List.take_append_drop _ _).symm
  unfold insS
  rw [lastL_append _ _ (by simp)]
  by_cases hb : l.drop (idxS l n) = []
  · rw [hb]
    have h1 : lastL l < n ∨ l = [] := by
      by_cases hl : l = []
      · exact .inr hl
      · left
        obtain ⟨c, hc, hce⟩ := lastL_mem hl
        rw [hb, List.append_nil] at e
        rw [e] at hc
        have := hs.1 c hc
        omega
    have h2 : lastL [(⟨n, d⟩ : S45)] = n := by simp [lastL]
    rw [h2]
    rcases h1 with h1 | h1
    · rw [if_neg (by omega)]
    · subst h1
      have : lastL ([] : List S45) = 0 := rfl
      rw [this]
      split <;> omega
  · have h1 : lastL l = lastL (l.drop (idxS l n)) := by
      have := lastL_append (l.take (idxS l n)) _ hb
      rwa [List.take_append_drop] at this
    obtain ⟨c, hc, hce⟩ := lastL_mem hb
    have h2 := hs.2.2.2 hf c hc
    rw [show (⟨n, d⟩ : S45) :: l.drop (idxS l n) = [⟨n, d⟩] ++ l.drop (idxS l n) from rfl, lastL_append _ _ hb, if_pos (by omega), h1]
/-- What page.Put answers. -/
def putS (p : ByteArray) (d : ByteArray) : ByteArray × Int × Int :=
  if validS p ∧ d.size ≠ 0 then
    (if leastL (cellsP p) > 200 then (⟨#[]⟩, 0, 13) else if needsL (insS (cellsP p) (leastL (cellsP p)) d) > p.size then (⟨#[]⟩, 0, 13) else (strOfNums (builtL p.size (insS (cellsP p) (leastL (cellsP p)) d)), leastL (cellsP p), 0))
  else (⟨#[]⟩, 0, 1)
theorem Put_f (p : ByteArray) (hs : p.size ≤ 100000) (d : ByteArray) (hd : d.size ≤ 100000) (k : Nat) (hk : 0 < k) : page_Put.f k p d = some (putS p d) := by
  obtain ⟨k, rfl⟩ : ∃ k', k = k' + 1 := ⟨k - 1, by omega⟩
  unfold page_Put.f putS
  rw [Valid_f p hs, Option.bind_some]
  by_cases hv : validS p
  · rw [if_pos (decide_eq_true hv), page_Put.j0, emptyB]
    by_cases h0 : d.size = 0
    · rw [if_pos (decide_eq_true h0), if_neg (by simp [h0])]
    · rw [if_neg (by simpa using h0), if_pos ⟨hv, h0⟩]
      obtain ⟨hok, k2, k3, k4, k5⟩ := cellsP_ok hv
      have hl := leastL_spec _ hok
      by_cases hb : leastL (cellsP p) > 200
      · have hN : page_Next.f p = some (0, 13) := by unfold page_Next.f; rw [if_pos hs, if_pos hv, if_pos (show leastL (cellsS p (twoS p 0).toNat) > 200 from hb)]
        rw [hN, Option.bind_some, if_pos hb]; rfl
      · have hN : page_Next.f p = some (leastL (cellsP p), 0) := by unfold page_Next.f; rw [if_pos hs, if_pos hv, if_neg (show ¬ leastL (cellsS p (twoS p 0).toNat) > 200 from hb)]; rfl
        rw [hN, Option.bind_some, if_neg hb]
        simp only
        have hP : page_PutAt.f p (leastL (cellsP p)) d = some (if needsL (insS (cellsP p) (leastL (cellsP p)) d) > (p.size : Int) then (⟨#[]⟩, 13) else (strOfNums (builtL p.size (insS (cellsP p) (leastL (cellsP p)) d)), 0)) := by
          unfold page_PutAt.f
          rw [if_pos ⟨hs, hd⟩]
          unfold putAtS filledS
          rw [if_neg h0, if_pos hv, if_pos (show 1 ≤ leastL (cellsP p) ∧ leastL (cellsP p) ≤ 200 from ⟨by omega, by omega⟩), if_neg (by simp [least_free hok]), Int.toNat_natCast]
        rw [if_pos trivial, hP, Option.bind_some]
        by_cases hf : needsL (insS (cellsP p) (leastL (cellsP p)) d) > (p.size : Int)
        · rw [if_pos hf, if_pos hf]; rfl
        · rw [if_neg hf, if_neg hf]; rfl
  · rw [if_neg (by simpa using hv), page_Put.j0, if_pos rfl, if_neg (by simp [hv])]
/-! #### the other lines -/
theorem atS_mid (a b : List S45) (c : S45) (i : Int) (h : c.f0 ≠ i) : atS (a ++ c :: b) i = atS (a ++ b) i := by
  unfold atS
  rw [List.find?_append, List.find?_append, List.find?_cons]
  have : (c.f0 == i) = false := by simpa using h
  rw [this]
theorem atS_ins (l : List S45) (n i : Int) (d : ByteArray) (h : i ≠ n) : atS (insS l n d) i = atS l i := by
  unfold insS
  rw [atS_mid _ _ _ _ (fun e => h e.symm), List.take_append_drop]
theorem atS_del {l : List S45} (hok : CellsOk l) (n i : Int) (hf : foundS l n = true) (h : i ≠ n) : atS (delS l n) i = atS l i := by
  obtain ⟨c, h1, h2, h3, h4⟩ := dropIdx hok hf
  have e : l = l.take (idxS l n) ++ c :: l.drop (idxS l n + 1) := by rw [← h1, List.take_append_drop]
  have := atS_mid (l.take (idxS l n)) (l.drop (idxS l n + 1)) c i (by omega)
  rw [← e] at this
  rw [this]; rfl
theorem atS_rep {l : List S45} (hok : CellsOk l) (n i : Int) (d : ByteArray) (hf : foundS l n = true) (h : i ≠ n) : atS (repS l n d) i = atS l i := by
  rw [← atS_del hok n i hf h]
  exact atS_mid _ _ _ _ (fun e => h e.symm)
theorem getS_at {p : ByteArray} (hv : validS p) {i : Int} (hi : 1 ≤ i ∧ i ≤ 200) : getS p i = if 0 < (atS (cellsP p) i).size then (atS (cellsP p) i, 0) else (⟨#[]⟩, 8) := by
  have hok := (cellsP_ok hv).1
  unfold getS
  rw [if_pos hv, if_pos hi]
  cases hf : foundS (cellsP p) i with
  | true => rw [if_pos rfl, if_pos ((atS_found hok i).1 hf).2, ((atS_found hok i).1 hf).1]
  | false => rw [if_neg (by simp), (atS_found hok i).2 hf, if_neg (by decide)]
/-- A page that was filled. -/
theorem filled_page {p : ByteArray} (hv : validS p) {m : List S45} (hm : CellsOk m) (h0 : (filledS p.size m).2 = 0) :
    validS (filledS p.size m).1 ∧ cellsP (filledS p.size m).1 = m ∧ (filledS p.size m).1.size = p.size ∧ (filledS p.size m).1 = strOfNums (builtL p.size m) := by
  obtain ⟨q1, q2, q3, _⟩ := validS_spec p hv
  unfold filledS at h0 ⊢
  by_cases hf : needsL m > (p.size : Int)
  · rw [if_pos hf] at h0; cases h0
  · rw [if_neg hf]
    obtain ⟨v1, v2, v3⟩ := built_cells (p.size : Int) m hm ⟨by omega, by omega, by omega⟩ (by omega)
    exact ⟨v1, v2, by rw [v3]; rfl, rfl⟩
theorem page_self {p : ByteArray} (hv : validS p) : filledS p.size (cellsP p) = (p, 0) := by
  obtain ⟨g1, g2, g3, g4⟩ := valid_reads p hv
  unfold filledS
  rw [if_neg (show ¬ needsL (cellsP p) > (p.size : Int) by unfold cellsP; omega), Int.toNat_natCast]
  exact Prod.ext (valid_built p hv) rfl
theorem idxS_mid (a b : List S45) (c : S45) (n : Int) (ha : ∀ x ∈ a, x.f0 < n) (hc : ¬ c.f0 < n) : idxS (a ++ c :: b) n = a.length := by
  unfold idxS
  rw [List.takeWhile_append_of_pos (by intro x hx; exact decide_eq_true (ha x hx)), List.takeWhile_cons, if_neg (by simpa using hc), List.append_nil]
theorem del_ins {l : List S45} (h : CellsOk l) (n : Int) (d : ByteArray) : idxS (insS l n d) n = idxS l n ∧ foundS (insS l n d) n = true ∧ delS (insS l n d) n = l := by
  have hs := idx_split h n
  have hl : (l.take (idxS l n)).length = idxS l n := by rw [List.length_take, Nat.min_eq_left (idxS_le l n)]
  have e : idxS (insS l n d) n = idxS l n := by
    have := idxS_mid (l.take (idxS l n)) (l.drop (idxS l n)) ⟨n, d⟩ n hs.1 (by show ¬ n < n; omega)
    rw [hl] at this
    exact this
  have e2 : (insS l n d)[idxS l n]? = some ⟨n, d⟩ := by
    unfold insS
    rw [List.getElem?_append_right (by omega), hl, Nat.sub_self]; rfl
  refine ⟨e, ?_, ?_⟩
  · unfold foundS; rw [e, e2]; exact decide_eq_true rfl
  · unfold delS
    rw [e]
    unfold insS
    rw [List.take_left' hl, show idxS l n + 1 = (l.take (idxS l n)).length + 1 by rw [hl], List.drop_append, List.drop_of_length_le (by omega)]
    simp
theorem rep_self {l : List S45} (h : CellsOk l) (i : Nat) (hi : i < l.length) : foundS l l[i].f0 = true ∧ repS l l[i].f0 l[i].f1 = l := by
  have hp := List.pairwise_iff_getElem.1 (CellsOk_iff.1 h).2
  have e0 : l = l.take i ++ l[i] :: l.drop (i + 1) := by rw [← List.drop_eq_getElem_cons hi, List.take_append_drop]
  have e : idxS l l[i].f0 = i := by
    have := idxS_mid (l.take i) (l.drop (i + 1)) l[i] l[i].f0 (by
      intro x hx
      obtain ⟨j, hj, rfl⟩ := List.getElem_of_mem hx
      rw [List.length_take] at hj
      rw [List.getElem_take]
      exact hp j i (by omega) hi (by omega)) (by omega)
    rw [← e0, List.length_take, Nat.min_eq_left (by omega)] at this
    exact this
  constructor
  · unfold foundS; rw [e, List.getElem?_eq_getElem hi]; exact decide_eq_true rfl
  · unfold repS; rw [e]; exact e0.symm
theorem Drop_f (p : ByteArray) (hs : p.size ≤ 100000) (n : Int) : page_Drop.f p n = some (dropS p n) := by unfold page_Drop.f; rw [if_pos hs]
theorem Set_f (p : ByteArray) (hs : p.size ≤ 100000) (n : Int) (d : ByteArray) (hd : d.size ≤ 100000) : page_Set.f p n d = some (setS p n d) := by unfold page_Set.f; rw [if_pos ⟨hs, hd⟩]
theorem PutAt_f (p : ByteArray) (hs : p.size ≤ 100000) (n : Int) (d : ByteArray) (hd : d.size ≤ 100000) : page_PutAt.f p n d = some (putAtS p n d) := by unfold page_PutAt.f; rw [if_pos ⟨hs, hd⟩]
theorem Get_f (p : ByteArray) (hs : p.size ≤ 100000) (n : Int) : page_Get.f p n = some (getS p n) := by unfold page_Get.f; rw [if_pos hs]

end Go.Proofs.Ytemglmcddaeedaa.PA

namespace Go.Proofs.Ytemglmcddaeedaa.PA
open Go.RowKit Go.Proofs.YtemglmcddaeedaaW.PrintWords Go.Proofs.YtemglmcddaeedaaW.PrintLast Go.Proofs.YtemglmcddaeedaaW.PrintMore
set_option linter.unusedVariables false
set_option linter.unusedSimpArgs false
theorem set_self {p : ByteArray} (hv : validS p) (i : Nat) (hi : i < (cellsP p).length) : setS p (cellsP p)[i].f0 (cellsP p)[i].f1 = (p, 0) := by
  have hok := (cellsP_ok hv).1
  have hc := hok.each (cellsP p)[i] (List.getElem_mem _)
  obtain ⟨h1, h2⟩ := rep_self hok i hi
  unfold setS
  rw [if_neg (by omega), if_pos hv, if_pos ⟨hc.1, hc.2.1⟩, if_pos h1, h2, page_self hv]
theorem drop_put {p : ByteArray} (hv : validS p) {d : ByteArray} (h : (putS p d).2.2 = 0) : (putS p d).1.size = p.size ∧ dropS (putS p d).1 (putS p d).2.1 = (p, 0) := by
  obtain ⟨hok, k2, k3, k4, k5⟩ := cellsP_ok hv
  obtain ⟨q1, q2, q3, _⟩ := validS_spec p hv
  have hl := leastL_spec _ hok
  unfold putS at h ⊢
  by_cases hd : d.size = 0
  · rw [if_neg (by simp [hd])] at h; cases h
  · rw [if_pos ⟨hv, hd⟩] at h ⊢
    by_cases hb : leastL (cellsP p) > 200
    · rw [if_pos hb] at h; cases h
    · rw [if_neg hb] at h ⊢
      by_cases hf : needsL (insS (cellsP p) (leastL (cellsP p)) d) > (p.size : Int)
      · rw [if_pos hf] at h; cases h
      · rw [if_neg hf]
        simp only
        have hm := insS_ok hok (n := leastL (cellsP p)) (d := d) ⟨by omega, by omega⟩ (by omega) (least_free hok)
        have e : filledS p.size (insS (cellsP p) (leastL (cellsP p)) d) = (strOfNums (builtL p.size (insS (cellsP p) (leastL (cellsP p)) d)), 0) := by
          unfold filledS; rw [if_neg hf, Int.toNat_natCast]
        obtain ⟨f1, f2, f3, f4⟩ := filled_page hv hm (by rw [e])
        rw [e] at f1 f2 f3
        simp only at f1 f2 f3
        refine ⟨f3, ?_⟩
        obtain ⟨_, d2, d3⟩ := del_ins hok (leastL (cellsP p)) d
        unfold dropS
        rw [if_pos f1, if_pos ⟨by omega, by omega⟩, f2, if_pos d2, d3, f3, page_self hv]
theorem back_l0 {p : ByteArray} (hv : validS p) (l : List S45) (hl : cellsP p = l) : ∀ (k i : Nat), i ≤ l.length → l.length - i + 2 < k → ringworklaw06_PageBack.l0 k l p (i : Int) = some true := by
  obtain ⟨hok, k2, k3, k4, k5⟩ := cellsP_ok hv
  intro k
  induction k with
  | zero => intro i _ h; omega
  | succ k ih =>
    intro i hi hk
    rw [ringworklaw06_PageBack.l0]
    by_cases hlt : i < l.length
    · have hs : setS p l[i].f0 l[i].f1 = (p, 0) := by
        have := set_self hv i (by rw [hl]; exact hlt)
        simpa only [hl] using this
      have hb : l[i].f1.size ≤ 100000 := by
        have h1 := bytesL_take_succ l i hlt
        have h2 := bytesL_take_le l (i + 1)
        rw [hl] at k3
        omega
      rw [if_pos (by omega), if_pos (by omega), rd_get l i hlt, Set_f p (by omega) _ _ hb, Option.bind_some, hs, if_pos rfl, if_pos rfl, w64 _ (by rw [hl] at k2; omega) (by rw [hl] at k2; omega), show (i : Int) + 1 = ((i + 1 : Nat) : Int) by omega]
      exact ih (i + 1) (by omega) (by omega)
    · rw [if_neg (by omega), awake_f k (by omega)]; rfl
theorem PageBack_pure (n : Int) (l : List S45) (hl : l.length ≤ 9223372036854775807) (hb : l.length ≤ 60 → bytesL l ≤ 9000000000000000) (d : ByteArray) : ∃ k, ringworklaw06_PageBack.f k n l d = some true := by
  refine ⟨2 * l.length + 10, ?_⟩
  unfold ringworklaw06_PageBack.f
  rw [Made_f n l hl hb _ (by omega), Option.bind_some]
  have haw : ∀ (x1 x2), ringworklaw06_PageBack.j0 (2 * l.length + 10) l x1 x2 true = some true := fun x1 x2 => by
    rw [show 2 * l.length + 10 = (2 * l.length + 9) + 1 by omega, ringworklaw06_PageBack.j0, if_pos rfl, awake_f _ (by omega)]; rfl
  by_cases hc : l.length ≤ 60 ∧ bytesL l ≤ 6000
  · rw [if_pos hc]
    by_cases hf : (fillS n l).2 = 0
    · obtain ⟨g1, g2, g3, g4⟩ := fill_good n l hf
      obtain ⟨v1, v2, v3⟩ := built_cells n l g1 g2 g3
      obtain ⟨s1, s2, s3⟩ := g2
      rw [if_pos (by simpa using hf)]
      simp only
      rw [g4]
      generalize hp : strOfNums (builtL n.toNat l) = p at *
      by_cases hd : (d.size : Int) > 5000
      · rw [decide_eq_true hd, haw]
      · have hj1 : ∀ k, l.length + 4 < k → ringworklaw06_PageBack.j1 k l p = some true := by
          intro k hk
          obtain ⟨k, rfl⟩ : ∃ k', k = k' + 1 := ⟨k - 1, by omega⟩
          rw [ringworklaw06_PageBack.j1]
          exact back_l0 v1 l v2 k 0 (by omega) (by omega)
        rw [decide_eq_false hd, show 2 * l.length + 10 = (2 * l.length + 9) + 1 by omega, ringworklaw06_PageBack.j0, if_neg (by simp), Put_f p (by omega) d (by omega) _ (by omega), Option.bind_some]
        by_cases h0 : (putS p d).2.2 = 0
        · obtain ⟨h1, h2⟩ := drop_put v1 h0
          rw [if_pos h0, Drop_f _ (by omega), Option.bind_some, h2, if_pos rfl, if_pos rfl]
          exact hj1 _ (by omega)
        · rw [if_neg h0]
          exact hj1 _ (by omega)
    · rw [if_neg (by simpa using hf), haw]
  · rw [if_neg hc, if_neg (by simp), haw]
theorem PageBack_law (n : Int) (hn : (Lit.int .i64 n).wf = true) (l : List S45) (hm : l.length ≤ maxLen) (hb : ∀ c ∈ l, c.f1.size ≤ reachBytes) (d : ByteArray) (hd : d.size ≤ 140737488351232) : ∃ k, ringworklaw06_PageBack.f k n l d = some true :=
  PageBack_pure n l (by unfold maxLen at hm; omega) (bound60 l hb) d

end Go.Proofs.Ytemglmcddaeedaa.PA
