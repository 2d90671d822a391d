/- Part of the proof: The law PageChanges of the page layer holds for every size, cells, line, other size and data: Get, Put, PutAt, Set, Drop and Resize are the reference's, and no other line changes. No condition. -/
import Derived.ArgAppend
import Derived.Below
import Derived.BigQuiet
import Derived.ChangeOld
import Derived.Deep.AppendLies
import Derived.Deep.CutBlock
import Derived.Deep.DeepCutAuto
import Derived.Deep.Draws
import Derived.Deep.LoopGhost
import Derived.Deep.OwnRows
import Derived.Deep.QuietTactic
import Derived.Deep.RegionHeld3
import Derived.Deep.RegionLaw
import Derived.Deep.SlicePairs
import Derived.Defers
import Derived.DefersIn
import Derived.KernelRfl
import Derived.Laws.BitsLemmas
import Derived.Laws.BytesArg
import Derived.Laws.CopyOwn
import Derived.Laws.IdiomCopy
import Derived.Laws.MakeOwn
import Derived.Laws.OwnMore
import Derived.Laws.Rows
import Derived.Laws.Slices
import Derived.Lib.AppendStr
import Derived.Lib.AppendZerosOnto
import Derived.Lib.BufferWrite
import Derived.Lib.ConvBytes
import Derived.Lib.Hide
import Derived.Lib.Overlaps
import Derived.LoopIn
import Derived.LoopNIn
import Derived.Maps.AppendAt
import Derived.OpenShut
import Derived.OrdersHeld
import Derived.OwnWalk
import Derived.OwnWalkIn
import Derived.ProofKit
import Derived.RangeFuncBound
import Derived.RangeFuncCalls
import Derived.RangeFuncLeaves
import Derived.RangeFuncNested
import Derived.RangeFuncRecord
import Derived.Recover
import Derived.RecoverIn
import Derived.RowKit
import Derived.RowKit3
import Derived.Shelf.Abstract
import Derived.Shelf.RegionOpen
import Derived.ShutString
import Derived.SizedLaws
import Derived.StillTailTactics
import Derived.Tactics
import Derived.TacticsInMore
import Derived.Test.YtemglmcddaeedaaProg
import Derived.Test.YtemglmcddaeedaaRows
import Derived.Test.YtemglmcddaeedaaWApart
import Derived.Test.YtemglmcddaeedaaWArr
import Derived.Test.YtemglmcddaeedaaWAt
import Derived.Test.YtemglmcddaeedaaWEqStruct
import Derived.Test.YtemglmcddaeedaaWFoot
import Derived.Test.YtemglmcddaeedaaWFootNe
import Derived.Test.YtemglmcddaeedaaWFour
import Derived.Test.YtemglmcddaeedaaWGuard
import Derived.Test.YtemglmcddaeedaaWInv
import Derived.Test.YtemglmcddaeedaaWInvWords
import Derived.Test.YtemglmcddaeedaaWKept
import Derived.Test.YtemglmcddaeedaaWLast
import Derived.Test.YtemglmcddaeedaaWMore
import Derived.Test.YtemglmcddaeedaaWN
import Derived.Test.YtemglmcddaeedaaWNEv
import Derived.Test.YtemglmcddaeedaaWQPut
import Derived.Test.YtemglmcddaeedaaWRepsOne
import Derived.Test.YtemglmcddaeedaaWShare
import Derived.Test.YtemglmcddaeedaaWTab
import Derived.Test.YtemglmcddaeedaaWWords
import Derived.Test.YtemglmcddaeedaaWZeros
import Derived.WalkKit
import Derived.WalkLawsBesides
import Derived.WalkSpells
import Derived.WideLaws
namespace Go.Proofs.Ytemglmcddaeedaa.PA
open Go.RowKit Go.Proofs.YtemglmcddaeedaaW.PrintWords Go.Proofs.YtemglmcddaeedaaW.PrintLast Go.Proofs.YtemglmcddaeedaaW.PrintMore
attribute [local go_sem] max2_int min2_int max_two min_two max_three min_three max_four min_four   -- for this text's walks alone
set_option linter.unusedVariables false
set_option linter.unusedSimpArgs false



def errW : Option Int → Value
  | none => .nilIface
  | some c => .iface 0 (.int .i64 c)
theorem errW_none : errW none = .nilIface := rfl
theorem errW_some (c : Int) : errW (some c) = .iface 0 (.int .i64 c) := rfl

theorem info3 : (Try.prog.info? 3).map (fun i => (i.zero, i.size, i.bytes)) = some (some (.int .i64 0), 1, 8) := by kernel_rfl
theorem info5 : (Try.prog.info? 5).map (fun i => (i.zero, i.size, i.bytes)) = some (some (.int .u8 0), 1, 1) := by kernel_rfl
theorem info9 : (Try.prog.info? 9).map (fun i => (i.zero, i.size, i.bytes)) = some (some (.string ⟨#[]⟩), 1, 16) := by kernel_rfl
theorem info45 : (Try.prog.info? 45).map (fun i => (i.zero, i.size, i.bytes)) = some (some (.agg #[(.int .i64 0), (.string ⟨#[]⟩)]), 2, 24) := by kernel_rfl
-- the values' own types
/-! #### struct type 45 -/
structure S45 where
  f0 : Int
  f1 : ByteArray
def z45 : S45 := ⟨(0 : Int), (⟨#[]⟩ : ByteArray)⟩
def k45 : Kd S45 := Kd.iso (Kd.pair (Kd.int .i64) Kd.string) (fun x : S45 => (x.f0, x.f1))
theorem k45_open {w : World} {x : S45} {cs : List Value} (h : k45.K w x cs) : cs = [.int .i64 x.f0, .string x.f1] := by
  obtain ⟨_, _, rfl, rfl, rfl⟩ := h
  exact rfl
theorem k45_openM {w : World} {base : Nat} {ok : Nat → Prop} {x : S45} {cs : List Value} (h : k45.M w base ok x cs) : cs = [.int .i64 x.f0, .string x.f1] := by
  obtain ⟨_, _, rfl, rfl, rfl⟩ := h
  exact rfl
theorem k45_mk (w : World) (x : S45)  : k45.K w x [.int .i64 x.f0, .string x.f1] := ⟨[.int .i64 x.f0], [.string x.f1], rfl, rfl, rfl⟩
theorem k45_mkM (w : World) (base : Nat) (ok : Nat → Prop) (x : S45)  : k45.M w base ok x [.int .i64 x.f0, .string x.f1] := ⟨[.int .i64 x.f0], [.string x.f1], rfl, rfl, rfl⟩
def rd_T45 (xs : List S45) (i : Int) : S45 := xs.getD i.toNat z45
theorem at_T45 {w : World} {A : Option Addr} {n : Nat} {xs : List S45} (h : Kd.C k45 w A n xs) (i : Int) (h0 : 0 ≤ i) (h1 : i < n) : ∃ ad , A = some ad ∧ w.cell? (ad.add (i.toNat * 2)) = some (.int .i64 (rd_T45 xs i).f0) ∧ w.cell? ⟨(ad.add (i.toNat * 2)).block, (ad.add (i.toNat * 2)).off + 1, none⟩ = some (.string (rd_T45 xs i).f1) := by
  obtain ⟨ad, c, e, _, hK, hc0⟩ := Kd.C_get h z45 i h0 h1
  have hc : ∀ j u, c[j]? = some u → w.cell? (ad.add (i.toNat * 2 + j)) = some u := hc0
  obtain rfl := k45_open hK
  exact ⟨ad, e, hc 0 _ rfl, by rw [← add_field _ _ 1 (by omega)]; exact hc 1 _ rfl⟩

def rd_L4 (xs : List (List S45)) (i : Int) : (List S45) := xs.getD i.toNat ([] : List S45)
theorem at_L4 {w : World} {A : Option Addr} {n : Nat} {xs : List (List S45)} (h : Kd.C (Kd.slice 45 k45) w A n xs) (i : Int) (h0 : 0 ≤ i) (h1 : i < n) : ∃ ad A0 c0, A = some ad ∧ w.cell? (ad.add i.toNat) = some (.slice A0 (rd_L4 xs i).length c0) ∧ (rd_L4 xs i).length ≤ c0 ∧ k45.C w A0 (rd_L4 xs i).length (rd_L4 xs i) := by
  obtain ⟨ad, c, e, _, hK, hc0⟩ := Kd.C_get h ([] : List S45) i h0 h1
  have hc : ∀ j u, c[j]? = some u → w.cell? (ad.add (i.toNat * 1 + j)) = some u := hc0
  obtain ⟨A0, c0, rfl, l0, g0⟩ := hK
  exact ⟨ad, A0, c0, e, by have hq := hc 0 _ rfl; rwa [Nat.mul_one, Nat.add_zero] at hq, l0, g0⟩

def rd_L5 (xs : List (List Int)) (i : Int) : (List Int) := xs.getD i.toNat ([] : List Int)
theorem at_L5 {w : World} {A : Option Addr} {n : Nat} {xs : List (List Int)} (h : Kd.C (Kd.slice 3 (Kd.int .i64)) w A n xs) (i : Int) (h0 : 0 ≤ i) (h1 : i < n) : ∃ ad A0 c0, A = some ad ∧ w.cell? (ad.add i.toNat) = some (.slice A0 (rd_L5 xs i).length c0) ∧ (rd_L5 xs i).length ≤ c0 ∧ (Kd.int .i64).C w A0 (rd_L5 xs i).length (rd_L5 xs i) := by
  obtain ⟨ad, c, e, _, hK, hc0⟩ := Kd.C_get h ([] : List Int) i h0 h1
  have hc : ∀ j u, c[j]? = some u → w.cell? (ad.add (i.toNat * 1 + j)) = some u := hc0
  obtain ⟨A0, c0, rfl, l0, g0⟩ := hK
  exact ⟨ad, A0, c0, e, by have hq := hc 0 _ rfl; rwa [Nat.mul_one, Nat.add_zero] at hq, l0, g0⟩

end Go.Proofs.Ytemglmcddaeedaa.PA

namespace Go.Proofs.Ytemglmcddaeedaa.PA
open Go.RowKit Go.Proofs.YtemglmcddaeedaaW.PrintWords Go.Proofs.YtemglmcddaeedaaW.PrintLast Go.Proofs.YtemglmcddaeedaaW.PrintMore
attribute [local go_sem] max2_int min2_int max_two min_two max_three min_three max_four min_four   -- for this text's walks alone
set_option linter.unusedVariables false
set_option linter.unusedSimpArgs false

/-! ### ringworklaw06_Cells: function 14 -/
def ringworklaw06_Cells.l0 : Nat → List (S45) → Int → Int → Option (Bool)
  | 0, _, _, _ => none
  | k + 1, x0, x3, x4 => if x4 < (x0.length : Int) then (if 0 ≤ x4 then (ringworklaw06_Cells.l0 k x0 (wrap64 (x3 + (((rd_T45 x0 x4).f1).size : Int))) (wrap64 (x4 + 1))) else (none)) else (if (x0.length : Int) ≤ 60 then (some (decide (x3 ≤ 6000))) else (some false))
def ringworklaw06_Cells.f (k : Nat) (l0 : List (S45)) : Option (Bool) := ringworklaw06_Cells.l0 k l0 0 0
theorem ringworklaw06_Cells.mono_l : ∀ k, (∀ y0 y1 y2, LeO (ringworklaw06_Cells.l0 k y0 y1 y2) (ringworklaw06_Cells.l0 (k + 1) y0 y1 y2))
  | 0 => fun _ _ _ r h => by simp [ringworklaw06_Cells.l0] at h
  | k + 1 => by
    have ih0 := ringworklaw06_Cells.mono_l k
    · intro y0 y1 y2
      unfold ringworklaw06_Cells.l0
      repeat' first
      | (with_reducible exact ih0 _ _ _)
      | (with_reducible exact LeO.refl _)
      | (with_reducible exact LeO.none _)
      | (with_reducible refine LeO.ite ?_ ?_)
      | (with_reducible refine LeO.bind ?_ (fun _ => ?_))
      | exact ih0 _ _ _
      | exact LeO.none _
      | refine LeO.ite ?_ ?_
      | refine LeO.bind ?_ (fun _ => ?_)
theorem ringworklaw06_Cells.mono : ∀ a0 k, LeO (ringworklaw06_Cells.f k a0) (ringworklaw06_Cells.f (k + 1) a0) := by
  intro a0 k
  have ih0 := ringworklaw06_Cells.mono_l k
  unfold ringworklaw06_Cells.f
  repeat' first
      | (with_reducible exact ih0 _ _ _)
      | (with_reducible exact LeO.refl _)
      | (with_reducible exact LeO.none _)
      | (with_reducible refine LeO.ite ?_ ?_)
      | (with_reducible refine LeO.bind ?_ (fun _ => ?_))
      | exact ih0 _ _ _
      | exact LeO.none _
      | refine LeO.ite ?_ ?_
      | refine LeO.bind ?_ (fun _ => ?_)
set_option maxHeartbeats 8000000 in
set_option maxRecDepth 100000 in
theorem ringworklaw06_Cells.calls (k : Nat) (A0 : Option Addr) (c0 : Nat) (l0 : List (S45)) (r : Bool) (w : World) (hr0 : Kd.C k45 w A0 l0.length l0) (hc0 : l0.length ≤ c0) (h : ringworklaw06_Cells.f k l0 = some r) :
    Calls Try.prog 14 #[.slice A0 l0.length c0] w fun e w' => e = .returned (.bool r) ∧ Drawn0 w w' := by
  have HR0 := Aside0.mk hr0
  have HC0 := Aside0.mk hc0
  clear hr0 hc0
  have H : (ringworklaw06_Cells.l0 k l0 0 0) = some r := h
  clear h
  have H' := Aside0.mk H
  clear H
  go_enter Try.func14, Try.ntmps14
  go_wp2
  go_loopg [3, 4] k (fun kq v3 v4 w' => ∃ (x3_1 : Int) (x4_1 : Int), v3 = .int .i64 x3_1 ∧ v4 = .int .i64 x4_1 ∧ Aside0 (ringworklaw06_Cells.l0 kq l0 x3_1 x4_1 = some r) ∧ Aside0 (kq ≤ k) ∧ Drawn0 w w')
  case atStart => exact ⟨(0), (0), (by first | rfl | (simp; done) | (simp [*]; done)), (by first | rfl | (simp; done) | (simp [*]; done)), H', ⟨Nat.le_refl _⟩, by repeat (first | exact Drawn0.refl _ | apply Drawn0.step)⟩
  case round =>
    clear H'
    try clear c1
    obtain ⟨x3_1, x4_1, rfl, rfl, HA, HK1, ⟨m1, rfl⟩⟩ := hrel
    cases gk with
    | zero => exact absurd HA.out (by simp [ringworklaw06_Cells.l0])
    | succ k1 =>
      have H := HA.out
      clear HA
      simp only [ringworklaw06_Cells.l0] at H
      by_cases c2 : x4_1 < (l0.length : Int)
      · rw [if_pos c2] at H
        have c2b0 : decide (x4_1 < (l0.length : Int)) = true := decide_eq_true c2
        clear c2
        by_cases c3 : 0 ≤ x4_1
        · rw [if_pos c3] at H
          have c3b0 : decide (0 ≤ x4_1) = true := decide_eq_true c3
          clear c3
          have H' := Aside0.mk H
          clear H
          have p101 : 0 ≤ (x4_1 : Int) := of_decide_eq_true (by first | (with_reducible assumption) | assumption)
          have q101 : x4_1 < (l0.length : Int) := of_decide_eq_true (by first | (with_reducible assumption) | assumption)
          obtain ⟨ad101, e101, hx101_0, hx101_1⟩ := at_T45 HR0.out x4_1 p101 q101
          cases e101
          replace p101 := eq_true p101
          replace q101 := eq_true q101
          go_wp2
          go_roundg k1
          case measure => have := HK1.out; omega
          case rel => exact ⟨(wrap64 (x3_1 + (((rd_T45 l0 x4_1).f1).size : Int))), (wrap64 (x4_1 + 1)), (by first | rfl | (simp; done) | (simp [*]; done)), (by first | rfl | (simp; done) | (simp [*]; done)), H', ⟨by have := HK1.out; omega⟩, by repeat (first | exact Drawn0.refl _ | apply Drawn0.step)⟩
        · rw [if_neg c3] at H
          exact absurd H (by simp)
      · rw [if_neg c2] at H
        have c2b0 : decide (x4_1 < (l0.length : Int)) = false := decide_eq_false c2
        clear c2
        by_cases c4 : (l0.length : Int) ≤ 60
        · rw [if_pos c4] at H
          have c4b0 : decide ((l0.length : Int) ≤ 60) = true := decide_eq_true c4
          have c4b1 : decide (l0.length ≤ 60) = true := decide_eq_true (by omega)
          clear c4
          obtain rfl := Option.some.inj H
          go_wp2
          go_ret
          exact ⟨by first | rfl | (simp; done) | (simp [*]; done), by repeat (first | exact Drawn0.refl _ | apply Drawn0.step)⟩
        · rw [if_neg c4] at H
          have c4b0 : decide ((l0.length : Int) ≤ 60) = false := decide_eq_false c4
          have c4b1 : decide (l0.length ≤ 60) = false := decide_eq_false (by omega)
          clear c4
          obtain rfl := Option.some.inj H
          go_wp2
          go_ret
          exact ⟨by first | rfl | (simp; done) | (simp [*]; done), by repeat (first | exact Drawn0.refl _ | apply Drawn0.step)⟩

end Go.Proofs.Ytemglmcddaeedaa.PA

namespace Go.Proofs.Ytemglmcddaeedaa.PA
open Go.RowKit Go.Proofs.YtemglmcddaeedaaW.PrintWords Go.Proofs.YtemglmcddaeedaaW.PrintLast Go.Proofs.YtemglmcddaeedaaW.PrintMore
attribute [local go_sem] max2_int min2_int max_two min_two max_three min_three max_four min_four   -- for this text's walks alone
set_option linter.unusedVariables false
set_option linter.unusedSimpArgs false

/-! ### ringworkref06_Size: function 50 -/
def ringworkref06_Size.f (a0 : Int) : Option (Bool) := if a0 ≥ 32 then (if a0 ≤ 4096 then (some ((Int.tmod a0 8) == 0)) else (some false)) else (some false)
set_option maxHeartbeats 8000000 in
set_option maxRecDepth 100000 in
theorem ringworkref06_Size.calls (a0 : Int) (r : Bool) (w : World) (h : ringworkref06_Size.f a0 = some r) :
    Calls Try.prog 50 #[.int .i64 a0] w fun e w' => e = .returned (.bool r) ∧ Drawn0 w w' := by
  have H : (if a0 ≥ 32 then (if a0 ≤ 4096 then (some ((Int.tmod a0 8) == 0)) else (some false)) else (some false)) = some r := h
  clear h
  by_cases c2 : a0 ≥ 32
  · rw [if_pos c2] at H
    have c2b0 : decide (32 ≤ a0) = true := decide_eq_true c2
    clear c2
    by_cases c3 : a0 ≤ 4096
    · rw [if_pos c3] at H
      have c3b0 : decide (a0 ≤ 4096) = true := decide_eq_true c3
      clear c3
      obtain rfl := Option.some.inj H
      go_enter Try.func50, Try.ntmps50
      go_wp2
      go_ret
      exact ⟨by first | rfl | (simp; done) | (simp [*]; done), by repeat (first | exact Drawn0.refl _ | apply Drawn0.step)⟩
    · rw [if_neg c3] at H
      have c3b0 : decide (a0 ≤ 4096) = false := decide_eq_false c3
      clear c3
      obtain rfl := Option.some.inj H
      go_enter Try.func50, Try.ntmps50
      go_wp2
      go_ret
      exact ⟨by first | rfl | (simp; done) | (simp [*]; done), by repeat (first | exact Drawn0.refl _ | apply Drawn0.step)⟩
  · rw [if_neg c2] at H
    have c2b0 : decide (32 ≤ a0) = false := decide_eq_false c2
    clear c2
    obtain rfl := Option.some.inj H
    go_enter Try.func50, Try.ntmps50
    go_wp2
    go_ret
    exact ⟨by first | rfl | (simp; done) | (simp [*]; done), by repeat (first | exact Drawn0.refl _ | apply Drawn0.step)⟩

end Go.Proofs.Ytemglmcddaeedaa.PA

namespace Go.Proofs.Ytemglmcddaeedaa.PA
open Go.RowKit Go.Proofs.YtemglmcddaeedaaW.PrintWords Go.Proofs.YtemglmcddaeedaaW.PrintLast Go.Proofs.YtemglmcddaeedaaW.PrintMore
attribute [local go_sem] max2_int min2_int max_two min_two max_three min_three max_four min_four   -- for this text's walks alone
set_option linter.unusedVariables false
set_option linter.unusedSimpArgs false

/-! ### sp_page: function 0 -/
theorem ret_int {k : IntKind} {a b : Int} (h : a = b) : Ending.returned (.int k a) = .returned (.int k b) := by rw [h]
/-- The lengths of all data of cells. -/
def bytesL (l : List S45) : Nat := (l.map fun c => c.f1.size).sum
/-- The line of the last cell. -/
def lastL (l : List S45) : Int := match l.getLast? with | some c => c.f0 | none => 0
def needsL (l : List S45) : Int := 2 + 4 * lastL l + (bytesL l : Int)
theorem bytesL_nil : bytesL [] = 0 := rfl
theorem bytesL_append (a b : List S45) : bytesL (a ++ b) = bytesL a + bytesL b := by simp [bytesL]
theorem bytesL_cons (c : S45) (b : List S45) : bytesL (c :: b) = c.f1.size + bytesL b := by simp [bytesL]
theorem bytesL_take_succ (l : List S45) (i : Nat) (h : i < l.length) : bytesL (l.take (i + 1)) = bytesL (l.take i) + l[i].f1.size := by
  rw [List.take_succ_eq_append_getElem h, bytesL_append]; simp [bytesL]
theorem bytesL_take_le (l : List S45) (i : Nat) : bytesL (l.take i) ≤ bytesL l := by
  have := bytesL_append (l.take i) (l.drop i); rw [List.take_append_drop] at this; omega
theorem rd_get (l : List S45) (i : Nat) (h : i < l.length) : rd_T45 l (i : Int) = l[i] := by
  unfold rd_T45; simp [List.getD_eq_getElem?_getD, h]
theorem lastL_rd (l : List S45) (h : 0 < l.length) : lastL l = (rd_T45 l ((l.length : Int) - 1)).f0 := by
  have e : ((l.length : Int) - 1) = ((l.length - 1 : Nat) : Int) := by omega
  rw [e, rd_get l _ (by omega)]
  unfold lastL
  rw [List.getLast?_eq_getElem?, List.getElem?_eq_getElem (show l.length - 1 < l.length by omega)]

end Go.Proofs.Ytemglmcddaeedaa.PA

namespace Go.Proofs.Ytemglmcddaeedaa.PA
open Go.RowKit Go.Proofs.YtemglmcddaeedaaW.PrintWords Go.Proofs.YtemglmcddaeedaaW.PrintLast Go.Proofs.YtemglmcddaeedaaW.PrintMore
attribute [local go_sem] max2_int min2_int max_two min_two max_three min_three max_four min_four   -- for this text's walks alone
set_option linter.unusedVariables false
set_option linter.unusedSimpArgs false

/-! ### sp_built: function 0 -/
/-! #### the page of cells, as a list of bytes -/
def twoL (n : Int) : List Int := [n / 256, n % 256]
def ent4 (o n : Int) : List Int := [o / 256, o % 256, n / 256, n % 256]
def zer (n : Nat) : List Int := List.replicate n 0
/-- One cell more: its entry behind the entries so far, its data ahead of the data so far. -/
def stepB (N : Nat) (s : List Int × List Int) (c : S45) : List Int × List Int :=
  (s.1 ++ (zer (4 * (c.f0.toNat - 1) - s.1.length) ++ ent4 ((N : Int) - (s.2.length + c.f1.size : Nat)) c.f1.size), bytesOf c.f1 ++ s.2)
def foldB (N : Nat) (l : List S45) : List Int × List Int := l.foldl (stepB N) ([], [])
/-- The bytes with the head n and the cells l. -/
def bld (N : Nat) (n : Int) (l : List S45) : List Int :=
  twoL n ++ ((foldB N l).1 ++ (zer (N - 2 - (foldB N l).1.length - (foldB N l).2.length) ++ (foldB N l).2))
def builtL (N : Nat) (l : List S45) : List Int := bld N (lastL l) l
theorem foldB_snoc (N : Nat) (l : List S45) (c : S45) : foldB N (l ++ [c]) = stepB N (foldB N l) c := by simp [foldB]
/-- Cells in order: lines from 1 to 200, ascending; data not empty. -/
def CellsOk : List S45 → Prop
  | [] => True
  | [c] => 1 ≤ c.f0 ∧ c.f0 ≤ 200 ∧ 0 < c.f1.size
  | c :: d :: r => (1 ≤ c.f0 ∧ c.f0 ≤ 200 ∧ 0 < c.f1.size) ∧ c.f0 < d.f0 ∧ CellsOk (d :: r)
instance decCellsOk : (l : List S45) → Decidable (CellsOk l)
  | [] => isTrue trivial
  | [c] => by unfold CellsOk; infer_instance
  | c :: d :: r => by unfold CellsOk; have := decCellsOk (d :: r); infer_instance
theorem CellsOk.head {c : S45} {r : List S45} (h : CellsOk (c :: r)) : 1 ≤ c.f0 ∧ c.f0 ≤ 200 ∧ 0 < c.f1.size := by
  cases r with
  | nil => exact h
  | cons d r => exact h.1
theorem CellsOk.tail {c : S45} {r : List S45} (h : CellsOk (c :: r)) : CellsOk r := by
  cases r with
  | nil => trivial
  | cons d r => exact h.2.2
theorem CellsOk.lt {c : S45} {r : List S45} (h : CellsOk (c :: r)) : ∀ d ∈ r, c.f0 < d.f0 := by
  induction r generalizing c with
  | nil => simp
  | cons e r ih =>
    intro d hd
    rcases List.mem_cons.1 hd with rfl | hd
    · exact h.2.1
    · have := ih h.2.2 d hd; have := h.2.1; omega
theorem CellsOk.mk {c : S45} {r : List S45} (h : 1 ≤ c.f0 ∧ c.f0 ≤ 200 ∧ 0 < c.f1.size) (hl : ∀ d ∈ r, c.f0 < d.f0) (hr : CellsOk r) : CellsOk (c :: r) := by
  cases r with
  | nil => exact h
  | cons d r => exact ⟨h, hl d (by simp), hr⟩
theorem CellsOk.each {l : List S45} (h : CellsOk l) : ∀ c ∈ l, 1 ≤ c.f0 ∧ c.f0 ≤ 200 ∧ 0 < c.f1.size := by
  induction l with
  | nil => simp
  | cons e r ih =>
    intro c hc
    rcases List.mem_cons.1 hc with rfl | hc
    · exact h.head
    · exact ih h.tail c hc
theorem CellsOk.append {a b : List S45} (h : CellsOk (a ++ b)) : CellsOk a ∧ CellsOk b ∧ ∀ x ∈ a, ∀ y ∈ b, x.f0 < y.f0 := by
  induction a with
  | nil => exact ⟨trivial, h, by simp⟩
  | cons c a ih =>
    obtain ⟨h1, h2, h3⟩ := ih h.tail
    refine ⟨CellsOk.mk h.head (fun d hd => h.lt d (by simp [hd])) h1, h2, fun x hx y hy => ?_⟩
    rcases List.mem_cons.1 hx with rfl | hx
    · exact h.lt y (by simp [hy])
    · exact h3 x hx y hy
theorem lastL_snoc (l : List S45) (c : S45) : lastL (l ++ [c]) = c.f0 := by simp [lastL]
theorem lastL_lt {a : List S45} {c : S45} {b : List S45} (h : CellsOk (a ++ c :: b)) : lastL a < c.f0 := by
  obtain ⟨_, h2, h3⟩ := h.append
  rcases List.eq_nil_or_concat a with rfl | ⟨a', d, rfl⟩
  · have := h2.head; simp [lastL]; omega
  · rw [List.concat_eq_append, lastL_snoc]; exact h3 d (by simp) c (by simp)
theorem lastL_nonneg {a : List S45} (h : CellsOk a) : 0 ≤ lastL a ∧ lastL a ≤ 200 := by
  rcases List.eq_nil_or_concat a with rfl | ⟨a', d, rfl⟩
  · simp [lastL]
  · rw [List.concat_eq_append, lastL_snoc]; have := h.each d (by simp); omega
theorem foldB_len {N : Nat} : ∀ {l : List S45}, CellsOk l → ((foldB N l).1.length : Int) = 4 * lastL l ∧ (foldB N l).2.length = bytesL l := by
  intro l
  induction hn : l.length generalizing l with
  | zero =>
    intro _
    obtain rfl := List.eq_nil_of_length_eq_zero hn
    simp [foldB, lastL, bytesL]
  | succ n ih =>
    intro h
    rcases List.eq_nil_or_concat l with rfl | ⟨a, c, rfl⟩
    · simp at hn
    · rw [List.concat_eq_append] at h hn ⊢
      obtain ⟨ha, hc, _⟩ := h.append
      obtain ⟨i1, i2⟩ := ih (l := a) (by simpa using hn) ha
      have hlt := lastL_lt h
      have h0 := (lastL_nonneg ha).1
      have hc' := hc.head
      rw [foldB_snoc, lastL_snoc, bytesL_append]
      simp only [stepB, List.length_append, zer, List.length_replicate, ent4, List.length_cons, List.length_nil, bytesOf_length, i2]
      refine ⟨?_, by simp [bytesL]; omega⟩
      omega
theorem bld_length {N : Nat} {n : Int} {l : List S45} (h : CellsOk l) (hf : needsL l ≤ N) : (bld N n l).length = N := by
  obtain ⟨h1, h2⟩ := foldB_len (N := N) h
  have h0 := (lastL_nonneg h).1
  unfold needsL at hf
  simp only [bld, twoL, List.length_append, List.length_cons, List.length_nil, zer, List.length_replicate]
  omega
theorem zer_add (a b : Nat) : zer (a + b) = zer a ++ zer b := by simp [zer, List.replicate_append_replicate]
/-- What one round of filling does. -/
theorem bld_step {N : Nat} {n : Int} {l : List S45} {c : S45} (h : CellsOk (l ++ [c])) (hf : needsL (l ++ [c]) ≤ N) :
    ∃ (P : List Int) (r : Nat), P.length = (4 * c.f0 - 2).toNat ∧ P.length + 4 + r + c.f1.size + bytesL l = N ∧
      bld N n l = P ++ (zer 4 ++ (zer r ++ (zer c.f1.size ++ (foldB N l).2))) ∧
      bld N n (l ++ [c]) = P ++ (ent4 ((N : Int) - (bytesL l + c.f1.size : Nat)) c.f1.size ++ (zer r ++ (bytesOf c.f1 ++ (foldB N l).2))) := by
  obtain ⟨ha, hc, _⟩ := h.append
  obtain ⟨h1, h2⟩ := foldB_len (N := N) ha
  have hlt := lastL_lt h
  have h0 := (lastL_nonneg ha).1
  have hc' := hc.head
  unfold needsL at hf
  rw [lastL_snoc, bytesL_append] at hf
  have hb1 : bytesL [c] = c.f1.size := by simp [bytesL]
  rw [hb1] at hf
  refine ⟨twoL n ++ ((foldB N l).1 ++ zer (4 * (c.f0.toNat - 1) - (foldB N l).1.length)), N - (4 * c.f0 - 2).toNat - 4 - c.f1.size - bytesL l, ?_, ?_, ?_, ?_⟩
  · simp only [twoL, List.length_append, List.length_cons, List.length_nil, zer, List.length_replicate]; omega
  · simp only [twoL, List.length_append, List.length_cons, List.length_nil, zer, List.length_replicate]; omega
  · unfold bld
    have e : N - 2 - (foldB N l).1.length - (foldB N l).2.length = (4 * (c.f0.toNat - 1) - (foldB N l).1.length) + (4 + ((N - (4 * c.f0 - 2).toNat - 4 - c.f1.size - bytesL l) + c.f1.size)) := by omega
    rw [e, zer_add, zer_add, zer_add]
    simp only [List.append_assoc]
  · unfold bld
    rw [foldB_snoc]
    simp only [stepB]
    have e : N - 2 - ((foldB N l).1 ++ (zer (4 * (c.f0.toNat - 1) - (foldB N l).1.length) ++ ent4 ((N : Int) - ((foldB N l).2.length + c.f1.size : Nat)) c.f1.size)).length - (bytesOf c.f1 ++ (foldB N l).2).length = N - (4 * c.f0 - 2).toNat - 4 - c.f1.size - bytesL l := by
      simp only [List.length_append, zer, List.length_replicate, ent4, List.length_cons, List.length_nil, bytesOf_length, h2]; omega
    rw [e, h2]
    simp only [List.append_assoc]
theorem splice_at {α : Type} (P Q R X : List α) (h : X.length = Q.length) : splice (P ++ (Q ++ R)) P.length X = P ++ (X ++ R) := by
  unfold splice
  rw [List.take_left]
  congr 2
  rw [← List.append_assoc, List.drop_append_of_le_length (by simp; omega), List.drop_eq_nil_of_le (by simp; omega)]
  simp
theorem set_at {α : Type} (P R : List α) (x y : α) : (P ++ (x :: R)).set P.length y = P ++ (y :: R) := by
  rw [List.set_append_right _ _ (by omega)]; simp
theorem bld_nil (N : Nat) (n : Int) (h : 2 ≤ N) : bld N n [] = twoL n ++ zer (N - 2) := by simp [bld, foldB]
theorem take_split (l : List S45) (i : Nat) (h : i < l.length) : l = l.take i ++ l[i] :: l.drop (i + 1) := by
  conv => lhs; rw [← List.take_append_drop i l, List.drop_eq_getElem_cons h]
theorem take_snoc (l : List S45) (i : Nat) (h : i < l.length) : l.take (i + 1) = l.take i ++ [l[i]] := List.take_succ_eq_append_getElem h
theorem needs_take {l : List S45} (h : CellsOk l) (i : Nat) (hi : i < l.length) : needsL (l.take i ++ [l[i]]) ≤ needsL l ∧ CellsOk (l.take i ++ [l[i]]) := by
  have e := take_split l i hi
  have hb : bytesL l = bytesL (l.take i ++ [l[i]]) + bytesL (l.drop (i + 1)) := by
    rw [← bytesL_append, List.append_assoc]
    exact congrArg bytesL e
  have hl : lastL (l.take i ++ [l[i]]) ≤ lastL l := by
    rw [lastL_snoc]
    rcases List.eq_nil_or_concat (l.drop (i + 1)) with hd | ⟨a, d, hd⟩
    · conv => rhs; rw [e, hd, lastL_snoc]
      exact Int.le_refl _
    · rw [List.concat_eq_append] at hd
      have e2 : l = (l.take i ++ l[i] :: a) ++ [d] := by conv => lhs; rw [e, hd]
                                                         simp
      conv => rhs; rw [e2, lastL_snoc]
      have h2 := h
      rw [e2] at h2
      have := h2.append.2.2 l[i] (by simp) d (by simp)
      omega
  refine ⟨by unfold needsL; omega, ?_⟩
  have h2 := h
  rw [e, show l.take i ++ l[i] :: l.drop (i + 1) = (l.take i ++ [l[i]]) ++ l.drop (i + 1) by simp] at h2
  exact h2.append.1
theorem set2_at (P R : List Int) (x0 x1 y0 y1 : Int) (k : Nat) (hk : k = P.length) : ((P ++ (x0 :: x1 :: R)).set k y0).set (k + 1) y1 = P ++ (y0 :: y1 :: R) := by
  subst hk
  rw [set_at, show P ++ y0 :: x1 :: R = (P ++ [y0]) ++ x1 :: R by simp, show P.length + 1 = (P ++ [y0]).length by simp, set_at]
  simp
theorem splice_at' {α : Type} (P Q R X : List α) (k : Nat) (hk : P.length = k) (h : X.length = Q.length) : splice (P ++ (Q ++ R)) k X = P ++ (X ++ R) := by
  subst hk; exact splice_at P Q R X h

end Go.Proofs.Ytemglmcddaeedaa.PA

namespace Go.Proofs.Ytemglmcddaeedaa.PA
open Go.RowKit Go.Proofs.YtemglmcddaeedaaW.PrintWords Go.Proofs.YtemglmcddaeedaaW.PrintLast Go.Proofs.YtemglmcddaeedaaW.PrintMore
attribute [local go_sem] max2_int min2_int max_two min_two max_three min_three max_four min_four   -- for this text's walks alone
set_option linter.unusedVariables false
set_option linter.unusedSimpArgs false

/-! ### laws: function 0 -/
section
variable {P : Program} {ops : Array Oper} {rest : List Oper} {o : Oper} {a : Act} {Q : Exit → Act → World → Prop}
theorem grown_setRow (w : World) (g : Nat) (cs : Array Value) : w.grownBy (w.setRow g cs) (some g) :=
  ⟨rfl, rfl, rfl, by simp [World.setRow], fun k _ hne => setRow_other w g k cs (fun e => hne (by rw [e]))⟩
theorem byteCells_nums (s : ByteArray) : Lib.byteCells s.data.toList = nums .u8 (bytesOf s) := by
  simp [Lib.byteCells, nums, bytesOf]
theorem nums_splice (bs cs : List Int) (off : Nat) : nums .u8 (splice bs off cs) = (nums .u8 bs).take off ++ nums .u8 cs ++ (nums .u8 bs).drop (off + cs.length) := by
  simp [splice, nums, List.map_take, List.map_drop]
/-- copy(row[off:], s), s a string, the row known whole. -/
theorem wpList_copy_str {w : World} (hgd : o.guard = none) (d s : Operand) (dT sT : TypeId)
    (ho : o.op = .call { callee := .builtin .copy, args := #[d, s], argTypes := #[dT, sT] }) (elem : TypeId) (hu : P.underlying dT = some (.slice elem)) (hsz : (P.info? elem).map (·.size) = some 1)
    (g off dLen dCap : Nat) (hd : a.eval d = .slice (some ⟨g, off, none⟩) dLen dCap) (str : ByteArray) (hs : a.eval s = .string str) (bs : List Int) (t : TypeId)
    (hg : w.heap[g]? = some (.cells (nums .u8 bs).toArray t (0, 0))) (hle : str.size ≤ dLen) (hfit : off + str.size ≤ bs.length)
    (h : ∀ w', Aside0 (w'.heap[g]? = some (.cells (nums .u8 (splice bs off (bytesOf str))).toArray t (0, 0))) → Aside0 (w.grownBy w' (some g)) → wpList P ops Q rest (a.put o.dst (goInt str.size)) w') :
    wpList P ops Q (o :: rest) a w := by
  have hrun := Lib.run_copy_row_string (P := P) w dT sT o.type elem g off dLen dCap str (nums .u8 bs).toArray t hu hsz hg hle (by simpa [nums] using hfit)
  refine wpList_plain hgd fun K hK => ?_
  unfold Oper.wp execOp
  simp only [ho, resolve, invoke, builtin, Sem.run_bind, Sem.run_pure, Result.andThen_ok, List.map_toArray, List.map_cons, List.map_nil, hd, hs, hrun]
  refine hK _ _ (h _ ⟨?_⟩ ⟨grown_setRow _ _ _⟩)
  rw [setRow_heap w g _ _ t _ hg, nums_splice, byteCells_nums, bytesOf_length]
theorem made_zer (m : Nat) : madeCells #[Value.int .u8 0] m = (nums .u8 (List.replicate m 0)).toArray := by
  apply Array.ext'
  apply List.ext_getElem
  · simp [nums, madeCells]
  · intro i h1 h2
    simp [nums, madeCells, Nat.mod_one]
end
/-- row[k:] of a row of one's own, ahead of its end. -/
theorem cut_own {P : Program} (t e : TypeId) (ht : P.underlying t = some (.slice e)) (hi : (P.info? e).map (·.size) = some 1) (g m T : Nat) (hT : T < m) :
    ∀ W : World, (Instr.slice t (.slice (some ⟨g, 0, none⟩) m m) (some (.int .i64 (T : Int))) none none).run P W = .ok (.slice (some ⟨g, T, none⟩) (m - T) (m - T)) W := by
  intro W
  obtain ⟨i, h1, h2⟩ := Option.map_eq_some_iff.1 hi
  rw [cut_from t e .i64 ht h1 1 h2 (some ⟨g, 0, none⟩) m m (T : Int) (by omega) (by omega) W, Int.toNat_natCast, if_neg (by omega)]
  simp only [Option.map_some, Nat.mul_one, add_plain]
theorem conv_row {P : Program} (src dst e : TypeId) (hs : P.underlying src = some (.slice e)) (he : P.underlying e = some (.int .u8)) (hd : P.underlying dst = some .string) (g n c : Nat) (bs : List Int) (t : TypeId) (w : World)
    (hg : w.heap[g]? = some (.cells (nums .u8 bs).toArray t (0, 0))) (hl : bs.length = n) : (convert src dst (.slice (some ⟨g, 0, none⟩) n c)).run P w = .ok (.string (strOfNums bs)) w := by
  refine run_convert_bytes_arg w src e hs he g 0 n c bs hl (fun i hi => ?_) dst hd
  rw [blk_cell hg]
  have : i < bs.length := by omega
  simp [nums, List.getD_eq_getElem?_getD, this]
/-- copy(row[off:], ys), ys a slice of bytes that is read. -/
theorem run_copy_nums {P : Program} {w : World} (dT sT ty elem : TypeId) (hu : P.underlying dT = some (.slice elem)) (hsz : (P.info? elem).map (·.size) = some 1)
    (g off dLen dCap : Nat) (A : Option Addr) (k c : Nat) (bs ys : List Int) (t : TypeId) (hg : w.heap[g]? = some (.cells (nums .u8 bs).toArray t (0, 0)))
    (hr : Kd.C (Kd.int .u8) w A k ys) (hle : k ≤ dLen) (hfit : off + k ≤ bs.length) :
    ∃ w', (Builtin.copy_ #[dT, sT] ty #[.slice (some ⟨g, off, none⟩) dLen dCap, .slice A k c]).run P w = .ok (goInt k) w' ∧
      w'.heap[g]? = some (.cells (nums .u8 (splice bs off ys)).toArray t (0, 0)) ∧ w.grownBy w' (some g) := by
  obtain ⟨h1, _, h3⟩ := Kd.reads_of_C (enc := Value.int .u8) (d := (0 : Int)) (h1 := fun _ => rfl) hr
  rcases Nat.eq_zero_or_pos k with h0 | hp
  · subst h0
    obtain rfl : ys = [] := List.eq_nil_of_length_eq_zero h1
    refine ⟨w, run_copy_none w dT sT ty elem _ A dLen dCap 0 c hu hsz (by simp), by simpa [splice] using hg, World.grownBy.refl w _⟩
  · obtain ⟨ad, rfl, hc⟩ := h3 hp
    have hrun := run_copy_row (P := P) w dT sT ty elem g off dLen dCap ad k c (nums .u8 bs).toArray t (nums .u8 ys) hu hsz hg (by rw [nums_length, h1]; exact (Nat.min_eq_left hle).symm)
      (fun j v hj => by
        have hjl : j < ys.length := by
          rcases Nat.lt_or_ge j ys.length with h | h
          · exact h
          · rw [List.getElem?_eq_none (by rw [nums_length]; exact h)] at hj; cases hj
        rw [hc j (by omega), ← hj]
        simp [nums, List.getD_eq_getElem?_getD, hjl])
      (by simp [nums]; omega) (by intro v hv; simp only [nums, List.mem_map] at hv; obtain ⟨q, _, rfl⟩ := hv; rfl)
    rw [nums_length, h1] at hrun
    refine ⟨_, hrun, ?_, grown_setRow _ _ _⟩
    rw [setRow_heap w g _ _ t _ hg, nums_splice, h1]
theorem step_copy_nums {P : Program} {ops : Array Oper} {o : Oper} {a : Act} {w : World} {K : Act → World → Prop} {Q : Exit → Act → World → Prop} {E : Prop} (hgd : o.guard = none) (d s : Operand) (dT sT : TypeId)
    (ho : o.op = .call { callee := .builtin .copy, args := #[d, s], argTypes := #[dT, sT] }) (elem : TypeId) (hu : P.underlying dT = some (.slice elem)) (hsz : (P.info? elem).map (·.size) = some 1)
    (g off dLen dCap : Nat) (hd : a.eval d = .slice (some ⟨g, off, none⟩) dLen dCap) (A : Option Addr) (k c : Nat) (hs : a.eval s = .slice A k c) (bs ys : List Int) (t : TypeId)
    (hg : w.heap[g]? = some (.cells (nums .u8 bs).toArray t (0, 0))) (hr : Kd.C (Kd.int .u8) w A k ys) (hle : k ≤ dLen) (hfit : off + k ≤ bs.length)
    (h : ∀ w', Aside0 (w'.heap[g]? = some (.cells (nums .u8 (splice bs off ys)).toArray t (0, 0))) → Aside0 (w.grownBy w' (some g)) → K (a.put o.dst (goInt k)) w') :
    if Region.wanted o (yielded ops a.tmps) = true then Oper.wp P o a w K Q else E := by
  obtain ⟨w', hrun, h1, h2⟩ := run_copy_nums (P := P) dT sT o.type elem hu hsz g off dLen dCap A k c bs ys t hg hr hle hfit
  have hw : Region.wanted o (yielded ops a.tmps) = true := by simp [Region.wanted, hgd]
  rw [if_pos hw]
  unfold Oper.wp execOp
  simp only [ho, resolve, invoke, builtin, Sem.run_bind, Sem.run_pure, Result.andThen_ok, List.map_toArray, List.map_cons, List.map_nil, hd, hs, hrun]
  exact h _ ⟨h1⟩ ⟨h2⟩
theorem wpList_copy_nums {P : Program} {ops : Array Oper} {rest : List Oper} {o : Oper} {a : Act} {w : World} {Q : Exit → Act → World → Prop} (hgd : o.guard = none) (d s : Operand) (dT sT : TypeId)
    (ho : o.op = .call { callee := .builtin .copy, args := #[d, s], argTypes := #[dT, sT] }) (elem : TypeId) (hu : P.underlying dT = some (.slice elem)) (hsz : (P.info? elem).map (·.size) = some 1)
    (g off dLen dCap : Nat) (hd : a.eval d = .slice (some ⟨g, off, none⟩) dLen dCap) (A : Option Addr) (k c : Nat) (hs : a.eval s = .slice A k c) (bs ys : List Int) (t : TypeId)
    (hg : w.heap[g]? = some (.cells (nums .u8 bs).toArray t (0, 0))) (hr : Kd.C (Kd.int .u8) w A k ys) (hle : k ≤ dLen) (hfit : off + k ≤ bs.length)
    (h : ∀ w', Aside0 (w'.heap[g]? = some (.cells (nums .u8 (splice bs off ys)).toArray t (0, 0))) → Aside0 (w.grownBy w' (some g)) → wpList P ops Q rest (a.put o.dst (goInt k)) w') :
    wpList P ops Q (o :: rest) a w :=
  wpList_step fun K hK => step_copy_nums hgd d s dT sT ho elem hu hsz g off dLen dCap hd A k c hs bs ys t hg hr hle hfit (fun w' h1 h2 => hK _ _ (h w' h1 h2))
theorem step_copy_str {P : Program} {ops : Array Oper} {o : Oper} {a : Act} {w : World} {K : Act → World → Prop} {Q : Exit → Act → World → Prop} {E : Prop} (hgd : o.guard = none) (d s : Operand) (dT sT : TypeId)
    (ho : o.op = .call { callee := .builtin .copy, args := #[d, s], argTypes := #[dT, sT] }) (elem : TypeId) (hu : P.underlying dT = some (.slice elem)) (hsz : (P.info? elem).map (·.size) = some 1)
    (g off dLen dCap : Nat) (hd : a.eval d = .slice (some ⟨g, off, none⟩) dLen dCap) (str : ByteArray) (hs : a.eval s = .string str) (bs : List Int) (t : TypeId)
    (hg : w.heap[g]? = some (.cells (nums .u8 bs).toArray t (0, 0))) (hle : str.size ≤ dLen) (hfit : off + str.size ≤ bs.length)
    (h : ∀ w', Aside0 (w'.heap[g]? = some (.cells (nums .u8 (splice bs off (bytesOf str))).toArray t (0, 0))) → Aside0 (w.grownBy w' (some g)) → K (a.put o.dst (goInt str.size)) w') :
    if Region.wanted o (yielded ops a.tmps) = true then Oper.wp P o a w K Q else E := by
  have hrun := Lib.run_copy_row_string (P := P) w dT sT o.type elem g off dLen dCap str (nums .u8 bs).toArray t hu hsz hg hle (by simpa [nums] using hfit)
  have hw : Region.wanted o (yielded ops a.tmps) = true := by simp [Region.wanted, hgd]
  rw [if_pos hw]
  unfold Oper.wp execOp
  simp only [ho, resolve, invoke, builtin, Sem.run_bind, Sem.run_pure, Result.andThen_ok, List.map_toArray, List.map_cons, List.map_nil, hd, hs, hrun]
  refine h _ ⟨?_⟩ ⟨grown_setRow _ _ _⟩
  rw [setRow_heap w g _ _ t _ hg, nums_splice, byteCells_nums, bytesOf_length]

end Go.Proofs.Ytemglmcddaeedaa.PA

namespace Go.Proofs.Ytemglmcddaeedaa.PA
open Go.RowKit Go.Proofs.YtemglmcddaeedaaW.PrintWords Go.Proofs.YtemglmcddaeedaaW.PrintLast Go.Proofs.YtemglmcddaeedaaW.PrintMore
attribute [local go_sem] max2_int min2_int max_two min_two max_three min_three max_four min_four   -- for this text's walks alone
set_option linter.unusedVariables false
set_option linter.unusedSimpArgs false

/-! ### ringworkref06_two: function 100 -/
def ringworkref06_two.f (a0 : Int) : Option (List Int) := some (([(wrap64 (Int.tdiv a0 256)) % 256, (Int.tmod a0 256) % 256] : List Int))
set_option maxHeartbeats 8000000 in
set_option maxRecDepth 100000 in
theorem ringworkref06_two.calls (a0 : Int) (r : List Int) (w : World) (h : ringworkref06_two.f a0 = some r) :
    Calls Try.prog 100 #[.int .i64 a0] w fun e w' => ∃ v0_ : Value, e = .returned (v0_) ∧ Kd.R (Kd.int .u8) 5 w' w.heap.size (fun _ => True) v0_ r ∧ Below w.heap.size w w' := by
  have HB := Aside0.mk (Below.refl w.heap.size w)
  have H : (some (([(wrap64 (Int.tdiv a0 256)) % 256, (Int.tmod a0 256) % 256] : List Int))) = some r := h
  clear h
  obtain ⟨y102, hy102⟩ : ∃ y_ : List Int, y_ = (([(wrap64 (Int.tdiv a0 256)) % 256, (Int.tmod a0 256) % 256] : List Int)) := ⟨_, rfl⟩
  replace H : (some y102) = some r := by first | (rw [hy102]; with_reducible exact H) | (have H2_ := (Option.bind_some _ _).symm.trans H; rw [hy102]; with_reducible exact H2_) | (have H2_ := (Option.bind_some _ _).symm.trans H; with_reducible exact H2_) | with_reducible exact H | (rw [hy102]; exact H) | exact H
  have Ny102 := Aside0.mk hy102
  clear hy102
  obtain rfl := Option.some.inj H
  go_enter Try.func100, Try.ntmps100
  go_wp2_with (first | ((with_reducible refine gate_dst (N := 9) rfl ?_); refine Kd.R_lit (Kd.int .u8) _ 5 ?hg (N := 9) ?hd (xs := ([(wrap64 (Int.tdiv a0 256)) % 256, (Int.tmod a0 256) % 256] : List Int)) (inner := [.int .u8 ((wrap64 (Int.tdiv a0 256)) % 256), .int .u8 ((Int.tmod a0 256) % 256)]) (ok := fun _ => True) (okp := fun _ => True) ?hr ?hp (fun _ hk => hk) trivial (Below.refl _ _) (Nat.le_refl _) (by simp) ?_; (case hd => rfl); (case hg => rfl); (case hr => first | (go_simp; done) | (go_simp; rfl)); (case hp => exact (Reps.one (show Kd.M (Kd.int .u8) _ _ _ ((wrap64 (Int.tdiv a0 256)) % 256) [.int .u8 ((wrap64 (Int.tdiv a0 256)) % 256)] from rfl) (Reps.one (show Kd.M (Kd.int .u8) _ _ _ ((Int.tmod a0 256) % 256) [.int .u8 ((Int.tmod a0 256) % 256)] from rfl) (Reps.none _ _)))); intro v103 w2 ho3 hb hg_ hnew_; clear hg_ hnew_; (first | rw [← Ny102.out] at ho3 | (simp only [Int.reduceToNat] at ho3; rw [← Ny102.out] at ho3)); have n0_ := Aside0.mk (Kd.R_lower ho3 (below_size (by repeat (first | (with_reducible first | exact HB.out | apply below_alloc | apply pw_below_drewN | apply below_drew1) | exact HB.out)))); have n1_ := Aside0.mk (below_step (by repeat (first | (with_reducible first | exact HB.out | apply below_alloc | apply pw_below_drewN | apply below_drew1) | exact HB.out)) hb); clear HB; have HO104 := n0_; have HB := n1_; clear n0_ n1_; clear hb ho3))
  go_ret
  exact ⟨_, by first | rfl | (simp [errW_none, errW_some] <;> rfl) | (simp [*, errW_none, errW_some] <;> rfl), by (with_reducible repeat (first | apply Kd.R_alloc | apply Kd.R_drewN | apply Kd.R_drew)); exact HO104.out, by repeat (first | (with_reducible first | exact HB.out | apply below_alloc | apply pw_below_drewN | apply below_drew1) | exact HB.out)⟩

end Go.Proofs.Ytemglmcddaeedaa.PA

namespace Go.Proofs.Ytemglmcddaeedaa.PA
open Go.RowKit Go.Proofs.YtemglmcddaeedaaW.PrintWords Go.Proofs.YtemglmcddaeedaaW.PrintLast Go.Proofs.YtemglmcddaeedaaW.PrintMore
attribute [local go_sem] max2_int min2_int max_two min_two max_three min_three max_four min_four   -- for this text's walks alone
set_option linter.unusedVariables false
set_option linter.unusedSimpArgs false

/-! ### ringworkref06_Last: function 101 -/
def ringworkref06_Last.f (l0 : List (S45)) : Option (Int) := if (l0.length : Int) = 0 then (some 0) else (if 0 ≤ (wrap64 ((l0.length : Int) - 1)) then (if (wrap64 ((l0.length : Int) - 1)) < (l0.length : Int) then (some ((rd_T45 l0 (wrap64 ((l0.length : Int) - 1))).f0)) else (none)) else (none))
set_option maxHeartbeats 8000000 in
set_option maxRecDepth 100000 in
theorem ringworkref06_Last.calls (A0 : Option Addr) (c0 : Nat) (l0 : List (S45)) (r : Int) (w : World) (hr0 : Kd.C k45 w A0 l0.length l0) (hc0 : l0.length ≤ c0) (h : ringworkref06_Last.f l0 = some r) :
    Calls Try.prog 101 #[.slice A0 l0.length c0] w fun e w' => e = .returned (.int .i64 r) ∧ Drawn0 w w' := by
  have HR0 := Aside0.mk hr0
  have HC0 := Aside0.mk hc0
  clear hr0 hc0
  have H : (if (l0.length : Int) = 0 then (some 0) else (if 0 ≤ (wrap64 ((l0.length : Int) - 1)) then (if (wrap64 ((l0.length : Int) - 1)) < (l0.length : Int) then (some ((rd_T45 l0 (wrap64 ((l0.length : Int) - 1))).f0)) else (none)) else (none))) = some r := h
  clear h
  by_cases c2 : (l0.length : Int) = 0
  · rw [if_pos c2] at H
    have c2b0 : ((l0.length : Int) == 0) = true := beq_iff_eq.mpr c2
    have c2b1 : ((l0.length : Int) != 0) = false := bne_eq_false_iff_eq.mpr c2
    clear c2
    obtain rfl := Option.some.inj H
    go_enter Try.func101, Try.ntmps101
    go_wp2
    go_ret
    exact ⟨by first | rfl | (simp; done) | (simp [*]; done), by repeat (first | exact Drawn0.refl _ | apply Drawn0.step)⟩
  · rw [if_neg c2] at H
    have c2b0 : ((l0.length : Int) == 0) = false := beq_eq_false_iff_ne.mpr c2
    have c2b1 : ((l0.length : Int) != 0) = true := bne_iff_ne.mpr c2
    have c2b2 : ¬ (l0 = []) := fun h_ => c2 (by rw [h_]; rfl)
    obtain ⟨ji3, hji3⟩ : ∃ j_ : Int, (wrap64 ((l0.length : Int) - 1)) = j_ := ⟨_, rfl⟩
    replace H : (if 0 ≤ (ji3) then (if (ji3) < (l0.length : Int) then (some ((rd_T45 l0 (ji3)).f0)) else (none)) else (none)) = some r := by first | (rw [hji3] at H; exact H) | (simp only [hji3] at H ⊢; exact H)
    have hji3w : (IntKind.i64.wrap ((l0.length : Int) - 1)) = ji3 := (i64_w _).trans hji3
    by_cases c4 : 0 ≤ (ji3)
    · rw [if_pos c4] at H
      have c4b0 : decide (0 ≤ (ji3)) = true := decide_eq_true c4
      clear c4
      by_cases c5 : (ji3) < (l0.length : Int)
      · rw [if_pos c5] at H
        have c5b0 : decide ((ji3) < (l0.length : Int)) = true := decide_eq_true c5
        clear c5
        obtain rfl := Option.some.inj H
        have p105 : 0 ≤ ((ji3) : Int) := of_decide_eq_true (by first | (with_reducible assumption) | assumption)
        have q105 : (ji3) < (l0.length : Int) := of_decide_eq_true (by first | (with_reducible assumption) | assumption)
        obtain ⟨ad105, e105, hx105_0, hx105_1⟩ := at_T45 HR0.out (ji3) p105 q105
        cases e105
        replace p105 := eq_true p105
        replace q105 := eq_true q105
        go_enter Try.func101, Try.ntmps101
        go_wp2
        go_ret
        exact ⟨by first | rfl | (simp; done) | (simp only [← hji3] <;> (first | rfl | simp)) | (simp [*]; done), by repeat (first | exact Drawn0.refl _ | apply Drawn0.step)⟩
      · rw [if_neg c5] at H
        exact absurd H (by simp)
    · rw [if_neg c4] at H
      exact absurd H (by simp)

end Go.Proofs.Ytemglmcddaeedaa.PA

namespace Go.Proofs.Ytemglmcddaeedaa.PA
open Go.RowKit Go.Proofs.YtemglmcddaeedaaW.PrintWords Go.Proofs.YtemglmcddaeedaaW.PrintLast Go.Proofs.YtemglmcddaeedaaW.PrintMore
attribute [local go_sem] max2_int min2_int max_two min_two max_three min_three max_four min_four   -- for this text's walks alone
set_option linter.unusedVariables false
set_option linter.unusedSimpArgs false

/-! ### ringworkref06_Built: function 51 -/
def ringworkref06_Built.ok (n : Int) (l : List S45) : Prop := 32 ≤ n ∧ n ≤ 4096 ∧ CellsOk l ∧ bytesL l ≤ 1000000000000 ∧ needsL l ≤ n
instance ringworkref06_Built.okDec (n : Int) (l : List S45) : Decidable (ringworkref06_Built.ok n l) := by unfold ringworkref06_Built.ok; infer_instance
def ringworkref06_Built.f (a0 : Int) (l1 : List S45) : Option ByteArray := if ringworkref06_Built.ok a0 l1 then some (strOfNums (builtL a0.toNat l1)) else none
theorem two_row (v : Int) (w : World) (h0 : 0 ≤ v) (h1 : v ≤ 65535) :
    Calls Try.prog 100 #[.int .i64 v] w fun e w' => ∃ A c, e = .returned (.slice A 2 c) ∧ Aside0 (Kd.C (Kd.int .u8) w' A 2 (twoL v)) ∧ Below w.heap.size w w' := by
  have e : ringworkref06_two.f v = some (twoL v) := by
    unfold ringworkref06_two.f twoL wrap64
    have e1 : Int.tdiv v 256 = v / 256 := Int.tdiv_eq_ediv_of_nonneg h0
    have e2 : Int.tmod v 256 = v % 256 := Int.tmod_eq_emod_of_nonneg h0
    rw [e1, e2]
    congr 2
    · omega
    · congr 1
      omega
  refine (ringworkref06_two.calls v _ w e).mono ?_
  rintro e w' ⟨v0, rfl, hr, hb⟩
  obtain ⟨A, c, rfl, _, hc⟩ := Kd.R_reads hr
  exact ⟨A, c, rfl, ⟨hc⟩, hb⟩
theorem last_f {l : List S45} (hl : l.length ≤ 9223372036854775807) : ringworkref06_Last.f l = some (lastL l) := by
  unfold ringworkref06_Last.f
  by_cases h : l.length = 0
  · obtain rfl := List.eq_nil_of_length_eq_zero h
    rfl
  · rw [if_neg (by omega)]
    have e : wrap64 ((l.length : Int) - 1) = (l.length : Int) - 1 := by unfold wrap64; omega
    rw [e, if_pos (by omega), if_pos (by omega), lastL_rd l (by omega)]
set_option maxHeartbeats 8000000 in
set_option maxRecDepth 100000 in
theorem ringworkref06_Built.calls (a0 : Int) (A1 : Option Addr) (c1 : Nat) (l1 : List S45) (r : ByteArray) (w : World) (hr1 : Kd.C k45 w A1 l1.length l1) (hc1 : l1.length ≤ c1) (h : ringworkref06_Built.f a0 l1 = some r) :
    Calls Try.prog 51 #[.int .i64 a0, .slice A1 l1.length c1] w fun e w' => e = .returned (.string r) ∧ Below w.heap.size w w' := by
  have hu45 := Try.underlying45
  unfold ringworkref06_Built.f at h
  split at h
  rotate_left
  · cases h
  rename_i hok
  obtain ⟨hn0, hn1, hcl, hb, hnd⟩ := hok
  obtain rfl := Option.some.inj h
  have HCL := Aside0.mk hcl
  have HR := Aside0.mk hr1
  have HC := Aside0.mk hc1
  have HND := Aside0.mk hnd
  have hlen : l1.length ≤ 9223372036854775807 := Kd.C_max hr1
  have HLF := Aside0.mk (last_f hlen)
  have hl1 := lastL_nonneg hcl
  obtain ⟨L, hL⟩ : ∃ L, lastL l1 = L := ⟨_, rfl⟩
  rw [hL] at hl1 HLF
  have HL2 := Aside0.mk hL
  clear hr1 hc1 hcl hnd hL
  obtain ⟨m, rfl⟩ := Int.eq_ofNat_of_zero_le (show 0 ≤ a0 by omega)
  obtain ⟨Z, hZ⟩ : ∃ Z, (nums .u8 (zer m)).toArray = Z := ⟨_, rfl⟩
  have hmk : ∀ W : World, (Instr.makeSlice 27 (.int .i64 (m : Int)) (.int .i64 (m : Int))).run Try.prog W = .ok (.slice (some ⟨W.heap.size, 0, none⟩) m m) (W.alloc (.cells Z 5)) := by
    intro W
    rw [← hZ, zer, ← made_zer]
    exact print_make (P := Try.prog) 27 5 .u8 1 Try.underlying27 (by kernel_rfl) (by decide) m (by omega) W
  have HZ := Aside0.mk hZ
  clear hZ
  go_enter Try.func51, Try.ntmps51
  go_wp2_with fail
  refine (ringworkref06_Last.calls A1 c1 l1 L _ (Kd.C_alloc HR.out _) HC.out HLF.out).mono ?_
  rintro e w' ⟨rfl, ⟨nd, rfl⟩⟩
  go_wp2_with fail
  refine (two_row L _ (by omega) (by omega)).mono ?_
  rintro e w2 ⟨A, c, rfl, HT, hb2⟩
  have hg0 : (w.alloc (.cells Z 5)).heap[w.heap.size]? = some (.cells (nums .u8 (zer m)).toArray 5 (0, 0)) := by rw [HZ.out]; exact blk_new _ _
  have HG2 := Aside0.mk (blk_below (blk_drewN hg0 nd) hb2)
  have HB2 := Aside0.mk (below_then (pw_below_drewN (below_alloc (Below.refl w.heap.size w) (.cells Z 5)) nd) (by simp [World.drewN]) hb2)
  clear hg0 hb2 hmk
  dsimp only
  go_step
  refine wpList_copy_nums rfl (.tmp 11) (.tmp 14) 27 27 rfl 5 Try.underlying27 (by kernel_rfl) w.heap.size 0 m m rfl A 2 c rfl (zer m) (twoL L) 5 HG2.out HT.out (by omega) (by simp [zer]; omega) ?_
  intro w3 HG3 hgb3
  have HB3 := Aside0.mk (HB2.out.grown hgb3.out HB2.out.size (by intro k hk; cases hk; exact Nat.le_refl _))
  have hs0 : splice (zer m) 0 (twoL L) = bld m L [] := by
    have h1 := splice_at ([] : List Int) (zer 2) (zer (m - 2)) (twoL L) (by simp [twoL, zer])
    rw [bld_nil _ _ (by omega), show zer m = zer 2 ++ zer (m - 2) by rw [← zer_add]; congr 1; omega]
    simpa using h1
  have hG3 := HG3.out
  rw [hs0] at hG3
  have HG4 := Aside0.mk hG3
  obtain ⟨g, hgg⟩ : ∃ g, w.heap.size = g := ⟨_, rfl⟩
  rw [hgg] at HG4
  have hgl : w.heap.size ≤ g := by omega
  simp only [hgg]
  clear hs0 hG3 HG3 hgb3 HG2 HB2 HT hgg
  go_wp2_with fail
  go_loopw [6, 7] (fun v6 v7 wr => ∃ i : Nat, i ≤ l1.length ∧ v6 = .int .i64 ((m : Int) - (bytesL (l1.take i) : Int)) ∧ v7 = .int .i64 (i : Int) ∧
      Aside0 (wr.heap[g]? = some (.cells (nums .u8 (bld m L (l1.take i))).toArray 5 (0, 0))) ∧ Aside0 (Below w.heap.size w wr))
    (fun _ v7 _ => l1.length - (intOf v7).toNat)
  case atStart => exact ⟨0, by omega, by simp [bytesL], by simp, by simpa using HG4, HB3⟩
  case round =>
    clear HG4 HB3
    obtain ⟨i, hi, rfl, rfl, HG, HB⟩ := hrel
    by_cases hlt : i < l1.length
    · obtain ⟨hnt, hct⟩ := needs_take HCL.out i hlt
      obtain ⟨P, q, hP1, hP2, hP3, hP4⟩ := bld_step (N := m) (n := L) hct (by have h1 := HND.out; omega)
      have hci := hct.append.2.1.head
      obtain ⟨ad, e2, hy0, hy1⟩ := at_T45 HR.out (i : Int) (by omega) (by omega)
      cases e2
      rw [rd_get l1 i hlt] at hy0 hy1
      simp only [Int.toNat_natCast] at hy0 hy1
      have HY0 := Aside0.mk hy0
      have HY1 := Aside0.mk hy1
      replace hy0 := (HB.out.cell (World.block_lt_of_cell? w _ hy0)).trans hy0
      replace hy1 := (HB.out.cell (World.block_lt_of_cell? w _ hy1)).trans hy1
      have hbt := bytesL_take_succ l1 i hlt
      have HBT := Aside0.mk hbt
      have HT := Aside0.mk (take_snoc l1 i hlt)
      obtain ⟨X, hX⟩ : ∃ X, l1[i] = X := ⟨_, rfl⟩
      rw [hX] at hP1 hP2 hP3 hP4 hci hy0 hy1 HBT HT HY0 HY1
      obtain ⟨B, hB⟩ : ∃ B, bytesL (l1.take i) = B := ⟨_, rfl⟩
      rw [hB] at hP2 hP4 HBT
      simp only [hB]
      rw [hP3, show zer 4 = zer 2 ++ zer 2 from rfl, List.append_assoc] at HG
      have HBB0 := Aside0.mk hB
      have HP1 := Aside0.mk hP1
      have HP4 := Aside0.mk hP4
      have HQ := Aside0.mk (show (P.length : Int) + 4 + q + X.f1.size + B = m by omega)
      have hb1 : 4 * X.f0 + 2 + X.f1.size + B ≤ m := by omega
      have hb2 : (0 : Int) < X.f1.size := by omega
      have hB0 : (0 : Int) ≤ B := by omega
      obtain ⟨hx1, hx2, hx3⟩ := hci
      have hbs : (P ++ (zer 2 ++ (zer 2 ++ (zer q ++ (zer X.f1.size ++ (foldB m (l1.take i)).2))))).length = m := by
        have h3 := (foldB_len (N := m) (show CellsOk (l1.take i) from (by have h4 := HCL.out; rw [← List.take_append_drop i l1] at h4; exact h4.append.1))).2
        simp only [List.length_append, zer, List.length_replicate]
        omega
      have HBS := Aside0.mk hbs
      clear hbt hnt hct hP1 hP2 hP3 hP4 hX hB hbs
      go_upto_region 9 with (fail)
      obtain ⟨T, hT⟩ : ∃ T : Nat, (m : Int) - B - X.f1.size = T := ⟨((m : Int) - B - X.f1.size).toNat, by omega⟩
      rw [hT]
      have HT2 := Aside0.mk hT
      have hTm : (T : Int) + X.f1.size ≤ m := by omega
      have hT0 : 4 * X.f0 + 2 ≤ (T : Int) := by omega
      obtain ⟨k, hk⟩ : ∃ k : Nat, 4 * X.f0 - 2 = k := ⟨(4 * X.f0 - 2).toNat, by omega⟩
      rw [hk]
      have HK := Aside0.mk hk
      have hkP : P.length = k := by have h1 := HP1.out; omega
      have HKP := Aside0.mk hkP
      have hkT : k + 4 ≤ T := by omega
      clear hT hk hb1 hkP
      have hsl1 := cut_own (P := Try.prog) 27 5 Try.underlying27 (by kernel_rfl) g m k (by omega)
      go_cut [8] (fun v8 wc => v8 = .int .i64 (k : Int) ∧ Aside0 (wc.heap[g]? = some (.cells (nums .u8 (P ++ (twoL T ++ (zer 2 ++ (zer q ++ (zer X.f1.size ++ (foldB m (l1.take i)).2)))))).toArray 5 (0, 0))) ∧ Aside0 (Below w.heap.size w wc))
      case first =>
        go_region_law (first
          | (go_simp; go_at_call 100; refine (two_row (T : Int) _ (by omega) (by omega)).mono ?_; rintro e w4 ⟨A4, c4, rfl, HT4, hb4⟩)
          | (refine step_copy_nums rfl (.tmp 40) (.tmp 42) 27 27 rfl 5 Try.underlying27 (by kernel_rfl) g k (m - k) (m - k) rfl A4 2 c4 rfl _ (twoL T) 5 (blk_below (blk_drew HG.out) hb4) HT4.out (by omega) (by rw [HBS.out]; omega) ?_; intro w5 HG5 hgb5))
        all_goals
          have hG5 := HG5.out
          rw [splice_at' P (zer 2) _ (twoL T) k HKP.out (by simp [twoL, zer])] at hG5
          have hb5 := below_step (below_drew HB.out) hb4
          have HB5 := Aside0.mk (hb5.grown hgb5.out hb5.size (by intro j hj; cases hj; exact hgl))
          have HG6 := Aside0.mk hG5
          clear hG5
          go_wp2_with fail
          go_meet
          case rel => exact ⟨rfl, HG6, HB5⟩
      case rest =>
        clear HG HB hy0 hy1 hsl1
        obtain ⟨rfl, HG, HB⟩ := hcut
        have hy0 := (HB.out.cell (World.block_lt_of_cell? w _ HY0.out)).trans HY0.out
        have hy1 := (HB.out.cell (World.block_lt_of_cell? w _ HY1.out)).trans HY1.out
        have hsl1 := cut_own (P := Try.prog) 27 5 Try.underlying27 (by kernel_rfl) g m (k + 2) (by omega)
        have ek : ((k + 2 : Nat) : Int) = (k : Int) + 2 := by omega
        rw [ek] at hsl1
        clear ek
        go_upto_region 10 with (fail)
        go_cut [8] (fun v8 wc => v8 = .int .i64 (k : Int) ∧ Aside0 (wc.heap[g]? = some (.cells (nums .u8 (P ++ (twoL T ++ (twoL X.f1.size ++ (zer q ++ (zer X.f1.size ++ (foldB m (l1.take i)).2)))))).toArray 5 (0, 0))) ∧ Aside0 (Below w.heap.size w wc))
        case first =>
          have hbs2 : (P ++ (twoL T ++ (zer 2 ++ (zer q ++ (zer X.f1.size ++ (foldB m (l1.take i)).2))))).length = m := by
            have h1 := HBS.out
            simp only [List.length_append, zer, List.length_replicate, twoL, List.length_cons, List.length_nil] at h1 ⊢
            omega
          have HBS2 := Aside0.mk hbs2
          clear hbs2
          have hwr : IntKind.i64.wrap ((k : Int) + 2) = (k : Int) + 2 := IntWalk.i64_in _ (by omega)
          go_region_law (first
            | (go_simp; go_at_call 100; refine (two_row (X.f1.size : Int) _ (by omega) (by omega)).mono ?_; rintro e w4 ⟨A4, c4, rfl, HT4, hb4⟩)
            | (refine step_copy_nums rfl (.tmp 47) (.tmp 54) 27 27 rfl 5 Try.underlying27 (by kernel_rfl) g (k + 2) (m - (k + 2)) (m - (k + 2)) rfl A4 2 c4 rfl _ (twoL X.f1.size) 5 (blk_below (blk_drew HG.out) hb4) HT4.out (by omega) (by rw [HBS2.out]; omega) ?_; intro w5 HG5 hgb5))
          all_goals
            have hG5 := HG5.out
            rw [← List.append_assoc P (twoL T), splice_at' (P ++ twoL T) (zer 2) _ (twoL X.f1.size) (k + 2) (by simp [HKP.out, twoL]) (by simp [twoL, zer]), List.append_assoc] at hG5
            have hb5 := below_step (below_drew HB.out) hb4
            have HB5 := Aside0.mk (hb5.grown hgb5.out hb5.size (by intro j hj; cases hj; exact hgl))
            have HG6 := Aside0.mk hG5
            clear hG5
            go_wp2_with fail
            go_meet
            case rel => exact ⟨rfl, HG6, HB5⟩
        case rest =>
          clear HG HB hy0 hy1 hsl1
          obtain ⟨rfl, HG, HB⟩ := hcut
          have hy0 := (HB.out.cell (World.block_lt_of_cell? w _ HY0.out)).trans HY0.out
          have hy1 := (HB.out.cell (World.block_lt_of_cell? w _ HY1.out)).trans HY1.out
          have hsl := cut_own (P := Try.prog) 27 5 Try.underlying27 (by kernel_rfl) g m T (by omega)
          go_upto_region 11 with (fail)
          go_still_tail 8, (by kernel_rfl)
          clear hsl hy0 hy1
          have hbs3 : (P ++ (twoL T ++ (twoL X.f1.size ++ (zer q ++ (zer X.f1.size ++ (foldB m (l1.take i)).2))))).length = m := by
            have h1 := HBS.out
            simp only [List.length_append, zer, List.length_replicate, twoL, List.length_cons, List.length_nil] at h1 ⊢
            omega
          refine wpList_copy_str rfl (.tmp 58) (.tmp 63) 27 9 rfl 5 Try.underlying27 (by kernel_rfl) g T (m - T) (m - T) rfl X.f1 rfl _ 5 HG.out (by omega) (by rw [hbs3]; omega) ?_
          intro w3 HG3 hgb3
          have HB3 := Aside0.mk ((show Below w.heap.size w _ from HB.out.drew).grown hgb3.out HB.out.size (by intro k hk; cases hk; exact hgl))
          have hs1 : splice (P ++ (twoL T ++ (twoL X.f1.size ++ (zer q ++ (zer X.f1.size ++ (foldB m (l1.take i)).2))))) T (bytesOf X.f1) = bld m L (l1.take (i + 1)) := by
            have h1 : (P ++ (twoL T ++ (twoL X.f1.size ++ zer q))).length = T := by
              have h1 := HP1.out
              have h2 := HQ.out
              have h5 := HT2.out
              simp only [List.length_append, zer, List.length_replicate, twoL, List.length_cons, List.length_nil]
              omega
            have h2 := splice_at' (P ++ (twoL T ++ (twoL X.f1.size ++ zer q))) (zer X.f1.size) (foldB m (l1.take i)).2 (bytesOf X.f1) T h1 (by rw [bytesOf_length, zer, List.length_replicate])
            have h3 := HT2.out
            rw [HT.out, HP4.out, show (m : Int) - ((B + X.f1.size : Nat) : Int) = T by omega]
            simpa [List.append_assoc, ent4, twoL] using h2
          have hG3 := HG3.out
          rw [hs1] at hG3
          have HG4 := Aside0.mk hG3
          have hbn : ((m : Int) - (bytesL (l1.take (i + 1)) : Int)) = T := by rw [HBT.out]; have h1 := HT2.out; omega
          have HBN := Aside0.mk hbn
          clear hbn hG3 hs1 hbs3 hgb3 HG3
          go_wp2
          go_roundw
          case rel => exact ⟨i + 1, by omega, by rw [HBN.out], by go_num, HG4, HB3⟩
          case measure => simp [intOf]; omega
    · have hil : l1.take i = l1 := List.take_of_length_le (by omega)
      have hG := HG.out
      rw [hil] at hG
      have hcv := conv_row (P := Try.prog) 27 9 5 Try.underlying27 Try.underlying5 Try.underlying9 g m m (bld m L l1) 5 wr hG (bld_length HCL.out HND.out)
      clear hil hG
      go_wp2
      go_ret
      exact ⟨by rw [builtL, HL2.out, Int.toNat_natCast]; rfl, HB.out⟩

end Go.Proofs.Ytemglmcddaeedaa.PA

namespace Go.Proofs.Ytemglmcddaeedaa.PA
open Go.RowKit Go.Proofs.YtemglmcddaeedaaW.PrintWords Go.Proofs.YtemglmcddaeedaaW.PrintLast Go.Proofs.YtemglmcddaeedaaW.PrintMore
attribute [local go_sem] max2_int min2_int max_two min_two max_three min_three max_four min_four   -- for this text's walks alone
set_option linter.unusedVariables false
set_option linter.unusedSimpArgs false

/-! ### ringworkref06_Bytes: function 104 -/
def ringworkref06_Bytes.l0 : Nat → List (S45) → Int → Int → Option (Int)
  | 0, _, _, _ => none
  | k + 1, x0, x3, x4 => if x4 < (x0.length : Int) then (if 0 ≤ x4 then (ringworkref06_Bytes.l0 k x0 (wrap64 (x3 + (((rd_T45 x0 x4).f1).size : Int))) (wrap64 (x4 + 1))) else (none)) else (some x3)
def ringworkref06_Bytes.f (k : Nat) (l0 : List (S45)) : Option (Int) := ringworkref06_Bytes.l0 k l0 0 0
theorem ringworkref06_Bytes.mono_l : ∀ k, (∀ y0 y1 y2, LeO (ringworkref06_Bytes.l0 k y0 y1 y2) (ringworkref06_Bytes.l0 (k + 1) y0 y1 y2))
  | 0 => fun _ _ _ r h => by simp [ringworkref06_Bytes.l0] at h
  | k + 1 => by
    have ih0 := ringworkref06_Bytes.mono_l k
    · intro y0 y1 y2
      unfold ringworkref06_Bytes.l0
      repeat' first
      | (with_reducible exact ih0 _ _ _)
      | (with_reducible exact LeO.refl _)
      | (with_reducible exact LeO.none _)
      | (with_reducible refine LeO.ite ?_ ?_)
      | (with_reducible refine LeO.bind ?_ (fun _ => ?_))
      | exact ih0 _ _ _
      | exact LeO.none _
      | refine LeO.ite ?_ ?_
      | refine LeO.bind ?_ (fun _ => ?_)
theorem ringworkref06_Bytes.mono : ∀ a0 k, LeO (ringworkref06_Bytes.f k a0) (ringworkref06_Bytes.f (k + 1) a0) := by
  intro a0 k
  have ih0 := ringworkref06_Bytes.mono_l k
  unfold ringworkref06_Bytes.f
  repeat' first
      | (with_reducible exact ih0 _ _ _)
      | (with_reducible exact LeO.refl _)
      | (with_reducible exact LeO.none _)
      | (with_reducible refine LeO.ite ?_ ?_)
      | (with_reducible refine LeO.bind ?_ (fun _ => ?_))
      | exact ih0 _ _ _
      | exact LeO.none _
      | refine LeO.ite ?_ ?_
      | refine LeO.bind ?_ (fun _ => ?_)
set_option maxHeartbeats 8000000 in
set_option maxRecDepth 100000 in
theorem ringworkref06_Bytes.calls (k : Nat) (A0 : Option Addr) (c0 : Nat) (l0 : List (S45)) (r : Int) (w : World) (hr0 : Kd.C k45 w A0 l0.length l0) (hc0 : l0.length ≤ c0) (h : ringworkref06_Bytes.f k l0 = some r) :
    Calls Try.prog 104 #[.slice A0 l0.length c0] w fun e w' => e = .returned (.int .i64 r) ∧ Drawn0 w w' := by
  have HR0 := Aside0.mk hr0
  have HC0 := Aside0.mk hc0
  clear hr0 hc0
  have H : (ringworkref06_Bytes.l0 k l0 0 0) = some r := h
  clear h
  have H' := Aside0.mk H
  clear H
  go_enter Try.func104, Try.ntmps104
  go_wp2
  go_loopg [3, 4] k (fun kq v3 v4 w' => ∃ (x3_1 : Int) (x4_1 : Int), v3 = .int .i64 x3_1 ∧ v4 = .int .i64 x4_1 ∧ Aside0 (ringworkref06_Bytes.l0 kq l0 x3_1 x4_1 = some r) ∧ Aside0 (kq ≤ k) ∧ Drawn0 w w')
  case atStart => exact ⟨(0), (0), (by first | rfl | (simp; done) | (simp [*]; done)), (by first | rfl | (simp; done) | (simp [*]; done)), H', ⟨Nat.le_refl _⟩, by repeat (first | exact Drawn0.refl _ | apply Drawn0.step)⟩
  case round =>
    clear H'
    try clear c1
    obtain ⟨x3_1, x4_1, rfl, rfl, HA, HK1, ⟨m1, rfl⟩⟩ := hrel
    cases gk with
    | zero => exact absurd HA.out (by simp [ringworkref06_Bytes.l0])
    | succ k1 =>
      have H := HA.out
      clear HA
      simp only [ringworkref06_Bytes.l0] at H
      by_cases c2 : x4_1 < (l0.length : Int)
      · rw [if_pos c2] at H
        have c2b0 : decide (x4_1 < (l0.length : Int)) = true := decide_eq_true c2
        clear c2
        by_cases c3 : 0 ≤ x4_1
        · rw [if_pos c3] at H
          have c3b0 : decide (0 ≤ x4_1) = true := decide_eq_true c3
          clear c3
          have H' := Aside0.mk H
          clear H
          have p106 : 0 ≤ (x4_1 : Int) := of_decide_eq_true (by first | (with_reducible assumption) | assumption)
          have q106 : x4_1 < (l0.length : Int) := of_decide_eq_true (by first | (with_reducible assumption) | assumption)
          obtain ⟨ad106, e106, hx106_0, hx106_1⟩ := at_T45 HR0.out x4_1 p106 q106
          cases e106
          replace p106 := eq_true p106
          replace q106 := eq_true q106
          go_wp2
          go_roundg k1
          case measure => have := HK1.out; omega
          case rel => exact ⟨(wrap64 (x3_1 + (((rd_T45 l0 x4_1).f1).size : Int))), (wrap64 (x4_1 + 1)), (by first | rfl | (simp; done) | (simp [*]; done)), (by first | rfl | (simp; done) | (simp [*]; done)), H', ⟨by have := HK1.out; omega⟩, by repeat (first | exact Drawn0.refl _ | apply Drawn0.step)⟩
        · rw [if_neg c3] at H
          exact absurd H (by simp)
      · rw [if_neg c2] at H
        have c2b0 : decide (x4_1 < (l0.length : Int)) = false := decide_eq_false c2
        clear c2
        obtain rfl := Option.some.inj H
        go_wp2
        go_ret
        exact ⟨by first | rfl | (simp; done) | (simp [*]; done), by repeat (first | exact Drawn0.refl _ | apply Drawn0.step)⟩

end Go.Proofs.Ytemglmcddaeedaa.PA

namespace Go.Proofs.Ytemglmcddaeedaa.PA
open Go.RowKit Go.Proofs.YtemglmcddaeedaaW.PrintWords Go.Proofs.YtemglmcddaeedaaW.PrintLast Go.Proofs.YtemglmcddaeedaaW.PrintMore
attribute [local go_sem] max2_int min2_int max_two min_two max_three min_three max_four min_four   -- for this text's walks alone
set_option linter.unusedVariables false
set_option linter.unusedSimpArgs false

/-! ### ringworkref06_Room: function 55 -/
def ringworkref06_Room.f (k : Nat) (a0 : Int) (l1 : List (S45)) : Option (Int) := (ringworkref06_Last.f l1).bind fun t107 => ((ringworkref06_Bytes.f k l1).bind fun t108 => (some (wrap64 ((wrap64 ((wrap64 (a0 - 2)) - (wrap64 (4 * t107)))) - t108))))
theorem ringworkref06_Room.mono : ∀ a0 a1 k, LeO (ringworkref06_Room.f k a0 a1) (ringworkref06_Room.f (k + 1) a0 a1) := by
  intro a0 a1 k
  unfold ringworkref06_Room.f
  repeat' first
      | (with_reducible exact ringworkref06_Bytes.mono _ _)
      | (with_reducible exact LeO.refl _)
      | (with_reducible exact LeO.none _)
      | (with_reducible refine LeO.ite ?_ ?_)
      | (with_reducible refine LeO.bind ?_ (fun _ => ?_))
      | exact ringworkref06_Bytes.mono _ _
      | exact LeO.none _
      | refine LeO.ite ?_ ?_
      | refine LeO.bind ?_ (fun _ => ?_)
set_option maxHeartbeats 8000000 in
set_option maxRecDepth 100000 in
theorem ringworkref06_Room.calls (k : Nat) (a0 : Int) (A1 : Option Addr) (c1 : Nat) (l1 : List (S45)) (r : Int) (w : World) (hr1 : Kd.C k45 w A1 l1.length l1) (hc1 : l1.length ≤ c1) (h : ringworkref06_Room.f k a0 l1 = some r) :
    Calls Try.prog 55 #[.int .i64 a0, .slice A1 l1.length c1] w fun e w' => e = .returned (.int .i64 r) ∧ Drawn0 w w' := by
  have HR1 := Aside0.mk hr1
  have HC1 := Aside0.mk hc1
  clear hr1 hc1
  have H : ((ringworkref06_Last.f l1).bind fun t107 => ((ringworkref06_Bytes.f k l1).bind fun t108 => (some (wrap64 ((wrap64 ((wrap64 (a0 - 2)) - (wrap64 (4 * t107)))) - t108))))) = some r := h
  clear h
  replace H := Option.bind_eq_some_iff.mp H
  obtain ⟨t107, A30, H⟩ := H
  replace H : ((ringworkref06_Bytes.f k l1).bind fun t108 => (some (wrap64 ((wrap64 ((wrap64 (a0 - 2)) - (wrap64 (4 * t107)))) - t108)))) = some r := H
  have A3 := Aside0.mk A30
  clear A30
  replace H := Option.bind_eq_some_iff.mp H
  obtain ⟨t108, A40, H⟩ := H
  replace H : (some (wrap64 ((wrap64 ((wrap64 (a0 - 2)) - (wrap64 (4 * t107)))) - t108))) = some r := H
  have A4 := Aside0.mk A40
  clear A40
  obtain rfl := Option.some.inj H
  go_enter Try.func55, Try.ntmps55
  go_wp2_with (first | ((with_reducible refine gate_callee (f := 101) rfl ?_); refine goesL_ (some 8) rfl rfl Try.func101 (by kernel_rfl) rfl #[.slice A1 l1.length c1] rfl (by (try simp only [List.map_toArray, List.map_cons, List.map_nil]); first | done | rfl | (simp only [List.length_drop, List.length_take]; rfl)) ?_; (with_reducible refine (ringworkref06_Last.calls _ _ l1 t107 _ ?side1 ?side2 A3.out).mono ?_); (case side1 => repeat (first | exact HR1.out | (with_reducible refine Kd.C_alloc ?_ _) | (with_reducible refine Kd.C_drewN ?_ _) | (with_reducible refine Kd.C_drew ?_))); (case side2 => exact HC1.out); rintro e w' ⟨rfl, ⟨nd, rfl⟩⟩; refine ⟨_, rfl, ?_⟩) | ((with_reducible refine gate_callee (f := 104) rfl ?_); refine goesL_ (some 12) rfl rfl Try.func104 (by kernel_rfl) rfl #[.slice A1 l1.length c1] rfl (by (try simp only [List.map_toArray, List.map_cons, List.map_nil]); first | done | rfl | (simp only [List.length_drop, List.length_take]; rfl)) ?_; (with_reducible refine (ringworkref06_Bytes.calls k _ _ l1 t108 _ ?side1 ?side2 A4.out).mono ?_); (case side1 => repeat (first | exact HR1.out | (with_reducible refine Kd.C_alloc ?_ _) | (with_reducible refine Kd.C_drewN ?_ _) | (with_reducible refine Kd.C_drew ?_))); (case side2 => exact HC1.out); rintro e w' ⟨rfl, ⟨nd, rfl⟩⟩; refine ⟨_, rfl, ?_⟩))
  go_ret
  exact ⟨by first | rfl | (simp; done) | (simp [*]; done), by repeat (first | exact Drawn0.refl _ | apply Drawn0.step)⟩

end Go.Proofs.Ytemglmcddaeedaa.PA

namespace Go.Proofs.Ytemglmcddaeedaa.PA
open Go.RowKit Go.Proofs.YtemglmcddaeedaaW.PrintWords Go.Proofs.YtemglmcddaeedaaW.PrintLast Go.Proofs.YtemglmcddaeedaaW.PrintMore
attribute [local go_sem] max2_int min2_int max_two min_two max_three min_three max_four min_four   -- for this text's walks alone
set_option linter.unusedVariables false
set_option linter.unusedSimpArgs false

/-! ### ringworkref06_Fill: function 18 -/
def ringworkref06_Fill.l0 : Nat → Int → List (S45) → Int → Option (ByteArray × Int)
  | 0, _, _, _ => none
  | k + 1, x0, x1, x6 => if x6 < (x1.length : Int) then (if 0 ≤ x6 then (if ((rd_T45 x1 x6).f0) < 1 then (some ((⟨#[]⟩ : ByteArray), 1)) else (if ((rd_T45 x1 x6).f0) > 200 then (some ((⟨#[]⟩ : ByteArray), 1)) else (if x6 > 0 then (if 0 ≤ (wrap64 (x6 - 1)) then (if (wrap64 (x6 - 1)) < (x1.length : Int) then (if ((rd_T45 x1 x6).f0) ≤ ((rd_T45 x1 (wrap64 (x6 - 1))).f0) then (some ((⟨#[]⟩ : ByteArray), 1)) else (if ((rd_T45 x1 x6).f1).toList = ([] : List UInt8) then (some ((⟨#[]⟩ : ByteArray), 1)) else (ringworkref06_Fill.l0 k x0 x1 (wrap64 (x6 + 1))))) else (none)) else (none)) else (if ((rd_T45 x1 x6).f1).toList = ([] : List UInt8) then (some ((⟨#[]⟩ : ByteArray), 1)) else (ringworkref06_Fill.l0 k x0 x1 (wrap64 (x6 + 1))))))) else (none)) else ((ringworkref06_Size.f x0).bind fun t115 => (if t115 = true then ((ringworkref06_Room.f k x0 x1).bind fun t116 => (if t116 < 0 then (some ((⟨#[]⟩ : ByteArray), 13)) else ((ringworkref06_Built.f x0 x1).bind fun t117 => (some (t117, 0))))) else (some ((⟨#[]⟩ : ByteArray), 7))))
def ringworkref06_Fill.f (k : Nat) (a0 : Int) (l1 : List (S45)) : Option (ByteArray × Int) := ringworkref06_Fill.l0 k a0 l1 0
theorem ringworkref06_Fill.mono_l : ∀ k, (∀ y0 y1 y2, LeO (ringworkref06_Fill.l0 k y0 y1 y2) (ringworkref06_Fill.l0 (k + 1) y0 y1 y2))
  | 0 => fun _ _ _ r h => by simp [ringworkref06_Fill.l0] at h
  | k + 1 => by
    have ih0 := ringworkref06_Fill.mono_l k
    · intro y0 y1 y2
      unfold ringworkref06_Fill.l0
      repeat' first
      | (with_reducible exact ih0 _ _ _)
      | (with_reducible exact ringworkref06_Room.mono _ _ _)
      | (with_reducible exact LeO.refl _)
      | (with_reducible exact LeO.none _)
      | (with_reducible refine LeO.ite ?_ ?_)
      | (with_reducible refine LeO.bind ?_ (fun _ => ?_))
      | exact ih0 _ _ _
      | exact ringworkref06_Room.mono _ _ _
      | exact LeO.none _
      | refine LeO.ite ?_ ?_
      | refine LeO.bind ?_ (fun _ => ?_)
theorem ringworkref06_Fill.mono : ∀ a0 a1 k, LeO (ringworkref06_Fill.f k a0 a1) (ringworkref06_Fill.f (k + 1) a0 a1) := by
  intro a0 a1 k
  have ih0 := ringworkref06_Fill.mono_l k
  unfold ringworkref06_Fill.f
  repeat' first
      | (with_reducible exact ih0 _ _ _)
      | (with_reducible exact ringworkref06_Room.mono _ _ _)
      | (with_reducible exact LeO.refl _)
      | (with_reducible exact LeO.none _)
      | (with_reducible refine LeO.ite ?_ ?_)
      | (with_reducible refine LeO.bind ?_ (fun _ => ?_))
      | exact ih0 _ _ _
      | exact ringworkref06_Room.mono _ _ _
      | exact LeO.none _
      | refine LeO.ite ?_ ?_
      | refine LeO.bind ?_ (fun _ => ?_)
set_option maxHeartbeats 8000000 in
set_option maxRecDepth 100000 in
theorem ringworkref06_Fill.calls (k : Nat) (a0 : Int) (A1 : Option Addr) (c1 : Nat) (l1 : List (S45)) (r1 : ByteArray) (r2 : Int) (w : World) (hr1 : Kd.C k45 w A1 l1.length l1) (hc1 : l1.length ≤ c1) (h : ringworkref06_Fill.f k a0 l1 = some (r1, r2)) :
    Calls Try.prog 18 #[.int .i64 a0, .slice A1 l1.length c1] w fun e w' => e = .returned (.tuple #[.string r1, .int .i64 r2]) ∧ Below w.heap.size w w' := by
  have HR1 := Aside0.mk hr1
  have HC1 := Aside0.mk hc1
  clear hr1 hc1
  have HB := Aside0.mk (Below.refl w.heap.size w)
  have H : (ringworkref06_Fill.l0 k a0 l1 0) = some (r1, r2) := h
  clear h
  have H' := Aside0.mk H
  clear H
  go_enter Try.func18, Try.ntmps18
  go_wp2
  repeat (go_quiet (fail); try go_wp2)
  go_loopg [6] k (fun kq v6 w' => ∃ (x6_1 : Int), v6 = .int .i64 x6_1 ∧ Aside0 (ringworkref06_Fill.l0 kq a0 l1 x6_1 = some (r1, r2)) ∧ Aside0 (kq ≤ k) ∧ Aside0 (Below w.heap.size w w'))
  case atStart => exact ⟨(0), (by first | rfl | (simp; done) | (simp [*]; done)), H', ⟨Nat.le_refl _⟩, ⟨by repeat (first | (with_reducible first | exact HB.out | apply below_alloc | apply pw_below_drewN | apply below_drew1) | exact HB.out)⟩⟩
  case round =>
    clear H'
    try clear c1
    try clear p2
    obtain ⟨x6_1, rfl, HA, HK1, HB⟩ := hrel
    cases gk with
    | zero => exact absurd HA.out (by simp [ringworkref06_Fill.l0])
    | succ k1 =>
      have H := HA.out
      clear HA
      simp only [ringworkref06_Fill.l0] at H
      by_cases c3 : x6_1 < (l1.length : Int)
      · rw [if_pos c3] at H
        have c3b0 : decide (x6_1 < (l1.length : Int)) = true := decide_eq_true c3
        clear c3
        by_cases c4 : 0 ≤ x6_1
        · rw [if_pos c4] at H
          have c4b0 : decide (0 ≤ x6_1) = true := decide_eq_true c4
          clear c4
          by_cases c5 : ((rd_T45 l1 x6_1).f0) < 1
          · rw [if_pos c5] at H
            have c5b0 : decide (((rd_T45 l1 x6_1).f0) < 1) = true := decide_eq_true c5
            clear c5
            simp only [Option.some.injEq, Prod.mk.injEq] at H
            obtain ⟨rfl, rfl⟩ := H
            have p109 : 0 ≤ (x6_1 : Int) := of_decide_eq_true (by first | (with_reducible assumption) | assumption)
            have q109 : x6_1 < (l1.length : Int) := of_decide_eq_true (by first | (with_reducible assumption) | assumption)
            obtain ⟨ad109, e109, hx109_0, hx109_1⟩ := at_T45 HR1.out x6_1 p109 q109
            cases e109
            replace hx109_0 := (HB.out.cell (World.block_lt_of_cell? w _ hx109_0)).trans hx109_0
            replace hx109_1 := (HB.out.cell (World.block_lt_of_cell? w _ hx109_1)).trans hx109_1
            replace p109 := eq_true p109
            replace q109 := eq_true q109
            go_wp2
            repeat (go_quiet (fail); try go_wp2)
            go_ret2
            exact ⟨by first | rfl | (simp [errW_none, errW_some] <;> rfl) | (simp [*, errW_none, errW_some] <;> rfl), by repeat (first | (with_reducible first | exact HB.out | apply below_alloc | apply pw_below_drewN | apply below_drew1) | exact HB.out)⟩
          · rw [if_neg c5] at H
            have c5b0 : decide (((rd_T45 l1 x6_1).f0) < 1) = false := decide_eq_false c5
            clear c5
            by_cases c6 : ((rd_T45 l1 x6_1).f0) > 200
            · rw [if_pos c6] at H
              have c6b0 : decide (200 < ((rd_T45 l1 x6_1).f0)) = true := decide_eq_true c6
              clear c6
              simp only [Option.some.injEq, Prod.mk.injEq] at H
              obtain ⟨rfl, rfl⟩ := H
              have p109 : 0 ≤ (x6_1 : Int) := of_decide_eq_true (by first | (with_reducible assumption) | assumption)
              have q109 : x6_1 < (l1.length : Int) := of_decide_eq_true (by first | (with_reducible assumption) | assumption)
              obtain ⟨ad109, e109, hx109_0, hx109_1⟩ := at_T45 HR1.out x6_1 p109 q109
              cases e109
              replace hx109_0 := (HB.out.cell (World.block_lt_of_cell? w _ hx109_0)).trans hx109_0
              replace hx109_1 := (HB.out.cell (World.block_lt_of_cell? w _ hx109_1)).trans hx109_1
              replace p109 := eq_true p109
              replace q109 := eq_true q109
              have p110 : 0 ≤ (x6_1 : Int) := of_decide_eq_true (by first | (with_reducible assumption) | assumption)
              have q110 : x6_1 < (l1.length : Int) := of_decide_eq_true (by first | (with_reducible assumption) | assumption)
              obtain ⟨ad110, e110, hx110_0, hx110_1⟩ := at_T45 HR1.out x6_1 p110 q110
              obtain rfl : ad109 = ad110 := (by injection e110)
              replace hx110_0 := (HB.out.cell (World.block_lt_of_cell? w _ hx110_0)).trans hx110_0
              replace hx110_1 := (HB.out.cell (World.block_lt_of_cell? w _ hx110_1)).trans hx110_1
              replace p110 := eq_true p110
              replace q110 := eq_true q110
              go_wp2
              repeat (go_quiet (fail); try go_wp2)
              go_ret2
              exact ⟨by first | rfl | (simp [errW_none, errW_some] <;> rfl) | (simp [*, errW_none, errW_some] <;> rfl), by repeat (first | (with_reducible first | exact HB.out | apply below_alloc | apply pw_below_drewN | apply below_drew1) | exact HB.out)⟩
            · rw [if_neg c6] at H
              have c6b0 : decide (200 < ((rd_T45 l1 x6_1).f0)) = false := decide_eq_false c6
              clear c6
              by_cases c7 : x6_1 > 0
              · rw [if_pos c7] at H
                have c7b0 : decide (0 < x6_1) = true := decide_eq_true c7
                clear c7
                obtain ⟨ji8, hji8⟩ : ∃ j_ : Int, (wrap64 (x6_1 - 1)) = j_ := ⟨_, rfl⟩
                replace H : (if 0 ≤ (ji8) then (if (ji8) < (l1.length : Int) then (if ((rd_T45 l1 x6_1).f0) ≤ ((rd_T45 l1 (ji8)).f0) then (some ((⟨#[]⟩ : ByteArray), 1)) else (if ((rd_T45 l1 x6_1).f1).toList = ([] : List UInt8) then (some ((⟨#[]⟩ : ByteArray), 1)) else (ringworkref06_Fill.l0 k1 a0 l1 (wrap64 (x6_1 + 1))))) else (none)) else (none)) = some (r1, r2) := by first | (rw [hji8] at H; exact H) | (simp only [hji8] at H ⊢; exact H)
                have hji8w : (IntKind.i64.wrap (x6_1 - 1)) = ji8 := (i64_w _).trans hji8
                by_cases c9 : 0 ≤ (ji8)
                · rw [if_pos c9] at H
                  have c9b0 : decide (0 ≤ (ji8)) = true := decide_eq_true c9
                  clear c9
                  by_cases c10 : (ji8) < (l1.length : Int)
                  · rw [if_pos c10] at H
                    have c10b0 : decide ((ji8) < (l1.length : Int)) = true := decide_eq_true c10
                    clear c10
                    by_cases c11 : ((rd_T45 l1 x6_1).f0) ≤ ((rd_T45 l1 (ji8)).f0)
                    · rw [if_pos c11] at H
                      have c11b0 : decide (((rd_T45 l1 x6_1).f0) ≤ ((rd_T45 l1 (ji8)).f0)) = true := decide_eq_true c11
                      clear c11
                      simp only [Option.some.injEq, Prod.mk.injEq] at H
                      obtain ⟨rfl, rfl⟩ := H
                      have p109 : 0 ≤ (x6_1 : Int) := of_decide_eq_true (by first | (with_reducible assumption) | assumption)
                      have q109 : x6_1 < (l1.length : Int) := of_decide_eq_true (by first | (with_reducible assumption) | assumption)
                      obtain ⟨ad109, e109, hx109_0, hx109_1⟩ := at_T45 HR1.out x6_1 p109 q109
                      cases e109
                      replace hx109_0 := (HB.out.cell (World.block_lt_of_cell? w _ hx109_0)).trans hx109_0
                      replace hx109_1 := (HB.out.cell (World.block_lt_of_cell? w _ hx109_1)).trans hx109_1
                      replace p109 := eq_true p109
                      replace q109 := eq_true q109
                      have p110 : 0 ≤ (x6_1 : Int) := of_decide_eq_true (by first | (with_reducible assumption) | assumption)
                      have q110 : x6_1 < (l1.length : Int) := of_decide_eq_true (by first | (with_reducible assumption) | assumption)
                      obtain ⟨ad110, e110, hx110_0, hx110_1⟩ := at_T45 HR1.out x6_1 p110 q110
                      obtain rfl : ad109 = ad110 := (by injection e110)
                      replace hx110_0 := (HB.out.cell (World.block_lt_of_cell? w _ hx110_0)).trans hx110_0
                      replace hx110_1 := (HB.out.cell (World.block_lt_of_cell? w _ hx110_1)).trans hx110_1
                      replace p110 := eq_true p110
                      replace q110 := eq_true q110
                      have p111 : 0 ≤ (x6_1 : Int) := of_decide_eq_true (by first | (with_reducible assumption) | assumption)
                      have q111 : x6_1 < (l1.length : Int) := of_decide_eq_true (by first | (with_reducible assumption) | assumption)
                      obtain ⟨ad111, e111, hx111_0, hx111_1⟩ := at_T45 HR1.out x6_1 p111 q111
                      obtain rfl : ad109 = ad111 := (by injection e111)
                      replace hx111_0 := (HB.out.cell (World.block_lt_of_cell? w _ hx111_0)).trans hx111_0
                      replace hx111_1 := (HB.out.cell (World.block_lt_of_cell? w _ hx111_1)).trans hx111_1
                      replace p111 := eq_true p111
                      replace q111 := eq_true q111
                      have p112 : 0 ≤ ((ji8) : Int) := of_decide_eq_true (by first | (with_reducible assumption) | assumption)
                      have q112 : (ji8) < (l1.length : Int) := of_decide_eq_true (by first | (with_reducible assumption) | assumption)
                      obtain ⟨ad112, e112, hx112_0, hx112_1⟩ := at_T45 HR1.out (ji8) p112 q112
                      obtain rfl : ad109 = ad112 := (by injection e112)
                      replace hx112_0 := (HB.out.cell (World.block_lt_of_cell? w _ hx112_0)).trans hx112_0
                      replace hx112_1 := (HB.out.cell (World.block_lt_of_cell? w _ hx112_1)).trans hx112_1
                      replace p112 := eq_true p112
                      replace q112 := eq_true q112
                      go_wp2
                      repeat (go_quiet (fail); try go_wp2)
                      go_ret2
                      exact ⟨by first | rfl | (simp [errW_none, errW_some] <;> rfl) | (simp only [← hji8]; first | rfl | (simp [errW_none, errW_some] <;> rfl)) | (simp [*, errW_none, errW_some] <;> rfl), by repeat (first | (with_reducible first | exact HB.out | apply below_alloc | apply pw_below_drewN | apply below_drew1) | exact HB.out)⟩
                    · rw [if_neg c11] at H
                      have c11b0 : decide (((rd_T45 l1 x6_1).f0) ≤ ((rd_T45 l1 (ji8)).f0)) = false := decide_eq_false c11
                      clear c11
                      by_cases c12 : ((rd_T45 l1 x6_1).f1).toList = ([] : List UInt8)
                      · rw [if_pos c12] at H
                        have c12b0 : (((rd_T45 l1 x6_1).f1).toList == ([] : List UInt8)) = true := beq_iff_eq.mpr c12
                        have c12b1 : (((rd_T45 l1 x6_1).f1).toList != ([] : List UInt8)) = false := bne_eq_false_iff_eq.mpr c12
                        clear c12
                        simp only [Option.some.injEq, Prod.mk.injEq] at H
                        obtain ⟨rfl, rfl⟩ := H
                        have p109 : 0 ≤ (x6_1 : Int) := of_decide_eq_true (by first | (with_reducible assumption) | assumption)
                        have q109 : x6_1 < (l1.length : Int) := of_decide_eq_true (by first | (with_reducible assumption) | assumption)
                        obtain ⟨ad109, e109, hx109_0, hx109_1⟩ := at_T45 HR1.out x6_1 p109 q109
                        cases e109
                        replace hx109_0 := (HB.out.cell (World.block_lt_of_cell? w _ hx109_0)).trans hx109_0
                        replace hx109_1 := (HB.out.cell (World.block_lt_of_cell? w _ hx109_1)).trans hx109_1
                        replace p109 := eq_true p109
                        replace q109 := eq_true q109
                        have p110 : 0 ≤ (x6_1 : Int) := of_decide_eq_true (by first | (with_reducible assumption) | assumption)
                        have q110 : x6_1 < (l1.length : Int) := of_decide_eq_true (by first | (with_reducible assumption) | assumption)
                        obtain ⟨ad110, e110, hx110_0, hx110_1⟩ := at_T45 HR1.out x6_1 p110 q110
                        obtain rfl : ad109 = ad110 := (by injection e110)
                        replace hx110_0 := (HB.out.cell (World.block_lt_of_cell? w _ hx110_0)).trans hx110_0
                        replace hx110_1 := (HB.out.cell (World.block_lt_of_cell? w _ hx110_1)).trans hx110_1
                        replace p110 := eq_true p110
                        replace q110 := eq_true q110
                        have p111 : 0 ≤ (x6_1 : Int) := of_decide_eq_true (by first | (with_reducible assumption) | assumption)
                        have q111 : x6_1 < (l1.length : Int) := of_decide_eq_true (by first | (with_reducible assumption) | assumption)
                        obtain ⟨ad111, e111, hx111_0, hx111_1⟩ := at_T45 HR1.out x6_1 p111 q111
                        obtain rfl : ad109 = ad111 := (by injection e111)
                        replace hx111_0 := (HB.out.cell (World.block_lt_of_cell? w _ hx111_0)).trans hx111_0
                        replace hx111_1 := (HB.out.cell (World.block_lt_of_cell? w _ hx111_1)).trans hx111_1
                        replace p111 := eq_true p111
                        replace q111 := eq_true q111
                        have p112 : 0 ≤ ((ji8) : Int) := of_decide_eq_true (by first | (with_reducible assumption) | assumption)
                        have q112 : (ji8) < (l1.length : Int) := of_decide_eq_true (by first | (with_reducible assumption) | assumption)
                        obtain ⟨ad112, e112, hx112_0, hx112_1⟩ := at_T45 HR1.out (ji8) p112 q112
                        obtain rfl : ad109 = ad112 := (by injection e112)
                        replace hx112_0 := (HB.out.cell (World.block_lt_of_cell? w _ hx112_0)).trans hx112_0
                        replace hx112_1 := (HB.out.cell (World.block_lt_of_cell? w _ hx112_1)).trans hx112_1
                        replace p112 := eq_true p112
                        replace q112 := eq_true q112
                        have p113 : 0 ≤ (x6_1 : Int) := of_decide_eq_true (by first | (with_reducible assumption) | assumption)
                        have q113 : x6_1 < (l1.length : Int) := of_decide_eq_true (by first | (with_reducible assumption) | assumption)
                        obtain ⟨ad113, e113, hx113_0, hx113_1⟩ := at_T45 HR1.out x6_1 p113 q113
                        obtain rfl : ad109 = ad113 := (by injection e113)
                        replace hx113_0 := (HB.out.cell (World.block_lt_of_cell? w _ hx113_0)).trans hx113_0
                        replace hx113_1 := (HB.out.cell (World.block_lt_of_cell? w _ hx113_1)).trans hx113_1
                        replace p113 := eq_true p113
                        replace q113 := eq_true q113
                        go_wp2
                        repeat (go_quiet (fail); try go_wp2)
                        go_ret2
                        exact ⟨by first | rfl | (simp [errW_none, errW_some] <;> rfl) | (simp only [← hji8]; first | rfl | (simp [errW_none, errW_some] <;> rfl)) | (simp [*, errW_none, errW_some] <;> rfl), by repeat (first | (with_reducible first | exact HB.out | apply below_alloc | apply pw_below_drewN | apply below_drew1) | exact HB.out)⟩
                      · rw [if_neg c12] at H
                        have c12b0 : (((rd_T45 l1 x6_1).f1).toList == ([] : List UInt8)) = false := beq_eq_false_iff_ne.mpr c12
                        have c12b1 : (((rd_T45 l1 x6_1).f1).toList != ([] : List UInt8)) = true := bne_iff_ne.mpr c12
                        have H' := Aside0.mk H
                        clear H
                        have p109 : 0 ≤ (x6_1 : Int) := of_decide_eq_true (by first | (with_reducible assumption) | assumption)
                        have q109 : x6_1 < (l1.length : Int) := of_decide_eq_true (by first | (with_reducible assumption) | assumption)
                        obtain ⟨ad109, e109, hx109_0, hx109_1⟩ := at_T45 HR1.out x6_1 p109 q109
                        cases e109
                        replace hx109_0 := (HB.out.cell (World.block_lt_of_cell? w _ hx109_0)).trans hx109_0
                        replace hx109_1 := (HB.out.cell (World.block_lt_of_cell? w _ hx109_1)).trans hx109_1
                        replace p109 := eq_true p109
                        replace q109 := eq_true q109
                        have p110 : 0 ≤ (x6_1 : Int) := of_decide_eq_true (by first | (with_reducible assumption) | assumption)
                        have q110 : x6_1 < (l1.length : Int) := of_decide_eq_true (by first | (with_reducible assumption) | assumption)
                        obtain ⟨ad110, e110, hx110_0, hx110_1⟩ := at_T45 HR1.out x6_1 p110 q110
                        obtain rfl : ad109 = ad110 := (by injection e110)
                        replace hx110_0 := (HB.out.cell (World.block_lt_of_cell? w _ hx110_0)).trans hx110_0
                        replace hx110_1 := (HB.out.cell (World.block_lt_of_cell? w _ hx110_1)).trans hx110_1
                        replace p110 := eq_true p110
                        replace q110 := eq_true q110
                        have p111 : 0 ≤ (x6_1 : Int) := of_decide_eq_true (by first | (with_reducible assumption) | assumption)
                        have q111 : x6_1 < (l1.length : Int) := of_decide_eq_true (by first | (with_reducible assumption) | assumption)
                        obtain ⟨ad111, e111, hx111_0, hx111_1⟩ := at_T45 HR1.out x6_1 p111 q111
                        obtain rfl : ad109 = ad111 := (by injection e111)
                        replace hx111_0 := (HB.out.cell (World.block_lt_of_cell? w _ hx111_0)).trans hx111_0
                        replace hx111_1 := (HB.out.cell (World.block_lt_of_cell? w _ hx111_1)).trans hx111_1
                        replace p111 := eq_true p111
                        replace q111 := eq_true q111
                        have p112 : 0 ≤ ((ji8) : Int) := of_decide_eq_true (by first | (with_reducible assumption) | assumption)
                        have q112 : (ji8) < (l1.length : Int) := of_decide_eq_true (by first | (with_reducible assumption) | assumption)
                        obtain ⟨ad112, e112, hx112_0, hx112_1⟩ := at_T45 HR1.out (ji8) p112 q112
                        obtain rfl : ad109 = ad112 := (by injection e112)
                        replace hx112_0 := (HB.out.cell (World.block_lt_of_cell? w _ hx112_0)).trans hx112_0
                        replace hx112_1 := (HB.out.cell (World.block_lt_of_cell? w _ hx112_1)).trans hx112_1
                        replace p112 := eq_true p112
                        replace q112 := eq_true q112
                        have p113 : 0 ≤ (x6_1 : Int) := of_decide_eq_true (by first | (with_reducible assumption) | assumption)
                        have q113 : x6_1 < (l1.length : Int) := of_decide_eq_true (by first | (with_reducible assumption) | assumption)
                        obtain ⟨ad113, e113, hx113_0, hx113_1⟩ := at_T45 HR1.out x6_1 p113 q113
                        obtain rfl : ad109 = ad113 := (by injection e113)
                        replace hx113_0 := (HB.out.cell (World.block_lt_of_cell? w _ hx113_0)).trans hx113_0
                        replace hx113_1 := (HB.out.cell (World.block_lt_of_cell? w _ hx113_1)).trans hx113_1
                        replace p113 := eq_true p113
                        replace q113 := eq_true q113
                        go_wp2
                        repeat (go_quiet (fail); try go_wp2)
                        go_roundg k1
                        case measure => have := HK1.out; omega
                        case rel => exact ⟨(wrap64 (x6_1 + 1)), (by first | rfl | (simp; done) | (simp [*]; done)), H', ⟨by have := HK1.out; omega⟩, ⟨by repeat (first | (with_reducible first | exact HB.out | apply below_alloc | apply pw_below_drewN | apply below_drew1) | exact HB.out)⟩⟩
                  · rw [if_neg c10] at H
                    exact absurd H (by simp)
                · rw [if_neg c9] at H
                  exact absurd H (by simp)
              · rw [if_neg c7] at H
                have c7b0 : decide (0 < x6_1) = false := decide_eq_false c7
                clear c7
                by_cases c13 : ((rd_T45 l1 x6_1).f1).toList = ([] : List UInt8)
                · rw [if_pos c13] at H
                  have c13b0 : (((rd_T45 l1 x6_1).f1).toList == ([] : List UInt8)) = true := beq_iff_eq.mpr c13
                  have c13b1 : (((rd_T45 l1 x6_1).f1).toList != ([] : List UInt8)) = false := bne_eq_false_iff_eq.mpr c13
                  clear c13
                  simp only [Option.some.injEq, Prod.mk.injEq] at H
                  obtain ⟨rfl, rfl⟩ := H
                  have p109 : 0 ≤ (x6_1 : Int) := of_decide_eq_true (by first | (with_reducible assumption) | assumption)
                  have q109 : x6_1 < (l1.length : Int) := of_decide_eq_true (by first | (with_reducible assumption) | assumption)
                  obtain ⟨ad109, e109, hx109_0, hx109_1⟩ := at_T45 HR1.out x6_1 p109 q109
                  cases e109
                  replace hx109_0 := (HB.out.cell (World.block_lt_of_cell? w _ hx109_0)).trans hx109_0
                  replace hx109_1 := (HB.out.cell (World.block_lt_of_cell? w _ hx109_1)).trans hx109_1
                  replace p109 := eq_true p109
                  replace q109 := eq_true q109
                  have p110 : 0 ≤ (x6_1 : Int) := of_decide_eq_true (by first | (with_reducible assumption) | assumption)
                  have q110 : x6_1 < (l1.length : Int) := of_decide_eq_true (by first | (with_reducible assumption) | assumption)
                  obtain ⟨ad110, e110, hx110_0, hx110_1⟩ := at_T45 HR1.out x6_1 p110 q110
                  obtain rfl : ad109 = ad110 := (by injection e110)
                  replace hx110_0 := (HB.out.cell (World.block_lt_of_cell? w _ hx110_0)).trans hx110_0
                  replace hx110_1 := (HB.out.cell (World.block_lt_of_cell? w _ hx110_1)).trans hx110_1
                  replace p110 := eq_true p110
                  replace q110 := eq_true q110
                  have p114 : 0 ≤ (x6_1 : Int) := of_decide_eq_true (by first | (with_reducible assumption) | assumption)
                  have q114 : x6_1 < (l1.length : Int) := of_decide_eq_true (by first | (with_reducible assumption) | assumption)
                  obtain ⟨ad114, e114, hx114_0, hx114_1⟩ := at_T45 HR1.out x6_1 p114 q114
                  obtain rfl : ad109 = ad114 := (by injection e114)
                  replace hx114_0 := (HB.out.cell (World.block_lt_of_cell? w _ hx114_0)).trans hx114_0
                  replace hx114_1 := (HB.out.cell (World.block_lt_of_cell? w _ hx114_1)).trans hx114_1
                  replace p114 := eq_true p114
                  replace q114 := eq_true q114
                  go_wp2
                  repeat (go_quiet (fail); try go_wp2)
                  go_ret2
                  exact ⟨by first | rfl | (simp [errW_none, errW_some] <;> rfl) | (simp [*, errW_none, errW_some] <;> rfl), by repeat (first | (with_reducible first | exact HB.out | apply below_alloc | apply pw_below_drewN | apply below_drew1) | exact HB.out)⟩
                · rw [if_neg c13] at H
                  have c13b0 : (((rd_T45 l1 x6_1).f1).toList == ([] : List UInt8)) = false := beq_eq_false_iff_ne.mpr c13
                  have c13b1 : (((rd_T45 l1 x6_1).f1).toList != ([] : List UInt8)) = true := bne_iff_ne.mpr c13
                  have H' := Aside0.mk H
                  clear H
                  have p109 : 0 ≤ (x6_1 : Int) := of_decide_eq_true (by first | (with_reducible assumption) | assumption)
                  have q109 : x6_1 < (l1.length : Int) := of_decide_eq_true (by first | (with_reducible assumption) | assumption)
                  obtain ⟨ad109, e109, hx109_0, hx109_1⟩ := at_T45 HR1.out x6_1 p109 q109
                  cases e109
                  replace hx109_0 := (HB.out.cell (World.block_lt_of_cell? w _ hx109_0)).trans hx109_0
                  replace hx109_1 := (HB.out.cell (World.block_lt_of_cell? w _ hx109_1)).trans hx109_1
                  replace p109 := eq_true p109
                  replace q109 := eq_true q109
                  have p110 : 0 ≤ (x6_1 : Int) := of_decide_eq_true (by first | (with_reducible assumption) | assumption)
                  have q110 : x6_1 < (l1.length : Int) := of_decide_eq_true (by first | (with_reducible assumption) | assumption)
                  obtain ⟨ad110, e110, hx110_0, hx110_1⟩ := at_T45 HR1.out x6_1 p110 q110
                  obtain rfl : ad109 = ad110 := (by injection e110)
                  replace hx110_0 := (HB.out.cell (World.block_lt_of_cell? w _ hx110_0)).trans hx110_0
                  replace hx110_1 := (HB.out.cell (World.block_lt_of_cell? w _ hx110_1)).trans hx110_1
                  replace p110 := eq_true p110
                  replace q110 := eq_true q110
                  have p114 : 0 ≤ (x6_1 : Int) := of_decide_eq_true (by first | (with_reducible assumption) | assumption)
                  have q114 : x6_1 < (l1.length : Int) := of_decide_eq_true (by first | (with_reducible assumption) | assumption)
                  obtain ⟨ad114, e114, hx114_0, hx114_1⟩ := at_T45 HR1.out x6_1 p114 q114
                  obtain rfl : ad109 = ad114 := (by injection e114)
                  replace hx114_0 := (HB.out.cell (World.block_lt_of_cell? w _ hx114_0)).trans hx114_0
                  replace hx114_1 := (HB.out.cell (World.block_lt_of_cell? w _ hx114_1)).trans hx114_1
                  replace p114 := eq_true p114
                  replace q114 := eq_true q114
                  go_wp2
                  repeat (go_quiet (fail); try go_wp2)
                  go_roundg k1
                  case measure => have := HK1.out; omega
                  case rel => exact ⟨(wrap64 (x6_1 + 1)), (by first | rfl | (simp; done) | (simp [*]; done)), H', ⟨by have := HK1.out; omega⟩, ⟨by repeat (first | (with_reducible first | exact HB.out | apply below_alloc | apply pw_below_drewN | apply below_drew1) | exact HB.out)⟩⟩
        · rw [if_neg c4] at H
          exact absurd H (by simp)
      · rw [if_neg c3] at H
        have c3b0 : decide (x6_1 < (l1.length : Int)) = false := decide_eq_false c3
        clear c3
        replace H := Option.bind_eq_some_iff.mp H
        obtain ⟨t115, A140, H⟩ := H
        replace H : (if t115 = true then ((ringworkref06_Room.f k1 a0 l1).bind fun t116 => (if t116 < 0 then (some ((⟨#[]⟩ : ByteArray), 13)) else ((ringworkref06_Built.f a0 l1).bind fun t117 => (some (t117, 0))))) else (some ((⟨#[]⟩ : ByteArray), 7))) = some (r1, r2) := H
        have A14 := Aside0.mk A140
        clear A140
        by_cases c15 : t115 = true
        · subst c15
          have H1 : ((ringworkref06_Room.f k1 a0 l1).bind fun t116 => (if t116 < 0 then (some ((⟨#[]⟩ : ByteArray), 13)) else ((ringworkref06_Built.f a0 l1).bind fun t117 => (some (t117, 0))))) = some (r1, r2) := by rw [if_pos rfl] at H; exact H
          clear H
          have H := H1
          clear H1
          replace H := Option.bind_eq_some_iff.mp H
          obtain ⟨t116, A160, H⟩ := H
          replace H : (if t116 < 0 then (some ((⟨#[]⟩ : ByteArray), 13)) else ((ringworkref06_Built.f a0 l1).bind fun t117 => (some (t117, 0)))) = some (r1, r2) := H
          have A16 := Aside0.mk A160
          clear A160
          by_cases c17 : t116 < 0
          · rw [if_pos c17] at H
            have c17b0 : decide (t116 < 0) = true := decide_eq_true c17
            clear c17
            simp only [Option.some.injEq, Prod.mk.injEq] at H
            obtain ⟨rfl, rfl⟩ := H
            go_wp2_with (first | (go_at_call 50; (with_reducible refine (ringworkref06_Size.calls a0 true _ A14.out).mono ?_); rintro e w' ⟨rfl, ⟨nd, rfl⟩⟩; (try first | exact ⟨rfl, _, World.drewN_drewN _ _ _⟩ | exact ⟨rfl, _, Eq.trans (World.drewN_drewN _ _ _) (congrArg (World.drewN _) (Nat.add_assoc _ _ _))⟩)) | (go_at_call 55; (with_reducible refine (ringworkref06_Room.calls k1 a0 _ _ l1 t116 _ ?side1 ?side2 A16.out).mono ?_); (case side1 => repeat (first | exact (Kd.C_below HR1.out (by repeat (first | (with_reducible first | exact HB.out | apply below_alloc | apply pw_below_drewN | apply below_drew1) | exact HB.out))) | (with_reducible refine Kd.C_alloc ?_ _) | (with_reducible refine Kd.C_drewN ?_ _) | (with_reducible refine Kd.C_drew ?_))); (case side2 => exact HC1.out); rintro e w' ⟨rfl, ⟨nd, rfl⟩⟩; (try first | exact ⟨rfl, _, World.drewN_drewN _ _ _⟩ | exact ⟨rfl, _, Eq.trans (World.drewN_drewN _ _ _) (congrArg (World.drewN _) (Nat.add_assoc _ _ _))⟩)))
            repeat (go_quiet (first | (go_at_call 50; (with_reducible refine (ringworkref06_Size.calls a0 true _ A14.out).mono ?_); rintro e w' ⟨rfl, ⟨nd, rfl⟩⟩; (try first | exact ⟨rfl, _, World.drewN_drewN _ _ _⟩ | exact ⟨rfl, _, Eq.trans (World.drewN_drewN _ _ _) (congrArg (World.drewN _) (Nat.add_assoc _ _ _))⟩)) | (go_at_call 55; (with_reducible refine (ringworkref06_Room.calls k1 a0 _ _ l1 t116 _ ?side1 ?side2 A16.out).mono ?_); (case side1 => repeat (first | exact (Kd.C_below HR1.out (by repeat (first | (with_reducible first | exact HB.out | apply below_alloc | apply pw_below_drewN | apply below_drew1) | exact HB.out))) | (with_reducible refine Kd.C_alloc ?_ _) | (with_reducible refine Kd.C_drewN ?_ _) | (with_reducible refine Kd.C_drew ?_))); (case side2 => exact HC1.out); rintro e w' ⟨rfl, ⟨nd, rfl⟩⟩; (try first | exact ⟨rfl, _, World.drewN_drewN _ _ _⟩ | exact ⟨rfl, _, Eq.trans (World.drewN_drewN _ _ _) (congrArg (World.drewN _) (Nat.add_assoc _ _ _))⟩))); try go_wp2_with (first | (go_at_call 50; (with_reducible refine (ringworkref06_Size.calls a0 true _ A14.out).mono ?_); rintro e w' ⟨rfl, ⟨nd, rfl⟩⟩; (try first | exact ⟨rfl, _, World.drewN_drewN _ _ _⟩ | exact ⟨rfl, _, Eq.trans (World.drewN_drewN _ _ _) (congrArg (World.drewN _) (Nat.add_assoc _ _ _))⟩)) | (go_at_call 55; (with_reducible refine (ringworkref06_Room.calls k1 a0 _ _ l1 t116 _ ?side1 ?side2 A16.out).mono ?_); (case side1 => repeat (first | exact (Kd.C_below HR1.out (by repeat (first | (with_reducible first | exact HB.out | apply below_alloc | apply pw_below_drewN | apply below_drew1) | exact HB.out))) | (with_reducible refine Kd.C_alloc ?_ _) | (with_reducible refine Kd.C_drewN ?_ _) | (with_reducible refine Kd.C_drew ?_))); (case side2 => exact HC1.out); rintro e w' ⟨rfl, ⟨nd, rfl⟩⟩; (try first | exact ⟨rfl, _, World.drewN_drewN _ _ _⟩ | exact ⟨rfl, _, Eq.trans (World.drewN_drewN _ _ _) (congrArg (World.drewN _) (Nat.add_assoc _ _ _))⟩))))
            go_ret2
            exact ⟨by first | rfl | (simp [errW_none, errW_some] <;> rfl) | (simp [*, errW_none, errW_some] <;> rfl), by repeat (first | (with_reducible first | exact HB.out | apply below_alloc | apply pw_below_drewN | apply below_drew1) | exact HB.out)⟩
          · rw [if_neg c17] at H
            have c17b0 : decide (t116 < 0) = false := decide_eq_false c17
            clear c17
            replace H := Option.bind_eq_some_iff.mp H
            obtain ⟨t117, A180, H⟩ := H
            replace H : (some (t117, 0)) = some (r1, r2) := H
            have A18 := Aside0.mk A180
            clear A180
            simp only [Option.some.injEq, Prod.mk.injEq] at H
            obtain ⟨rfl, rfl⟩ := H
            go_wp2_with (first | (go_at_call 50; (with_reducible refine (ringworkref06_Size.calls a0 true _ A14.out).mono ?_); rintro e w' ⟨rfl, ⟨nd, rfl⟩⟩; (try first | exact ⟨rfl, _, World.drewN_drewN _ _ _⟩ | exact ⟨rfl, _, Eq.trans (World.drewN_drewN _ _ _) (congrArg (World.drewN _) (Nat.add_assoc _ _ _))⟩)) | (go_at_call 55; (with_reducible refine (ringworkref06_Room.calls k1 a0 _ _ l1 t116 _ ?side1 ?side2 A16.out).mono ?_); (case side1 => repeat (first | exact (Kd.C_below HR1.out (by repeat (first | (with_reducible first | exact HB.out | apply below_alloc | apply pw_below_drewN | apply below_drew1) | exact HB.out))) | (with_reducible refine Kd.C_alloc ?_ _) | (with_reducible refine Kd.C_drewN ?_ _) | (with_reducible refine Kd.C_drew ?_))); (case side2 => exact HC1.out); rintro e w' ⟨rfl, ⟨nd, rfl⟩⟩; (try first | exact ⟨rfl, _, World.drewN_drewN _ _ _⟩ | exact ⟨rfl, _, Eq.trans (World.drewN_drewN _ _ _) (congrArg (World.drewN _) (Nat.add_assoc _ _ _))⟩)) | (go_at_call 51; (with_reducible refine (ringworkref06_Built.calls a0 _ _ l1 t117 _ ?side1 ?side2 A18.out).mono ?_); (case side1 => repeat (first | exact (Kd.C_below HR1.out (by repeat (first | (with_reducible first | exact HB.out | apply below_alloc | apply pw_below_drewN | apply below_drew1) | exact HB.out))) | (with_reducible refine Kd.C_alloc ?_ _) | (with_reducible refine Kd.C_drewN ?_ _) | (with_reducible refine Kd.C_drew ?_))); (case side2 => exact HC1.out); rintro e w19 ⟨rfl, hb⟩; have n0_ := Aside0.mk (below_step (by repeat (first | (with_reducible first | exact HB.out | apply below_alloc | apply pw_below_drewN | apply below_drew1) | exact HB.out)) hb); clear HB; have HB := n0_; clear n0_; (try clear hb); (try clear hb2); (try clear hk); (try clear hi)))
            repeat (go_quiet (first | (go_at_call 50; (with_reducible refine (ringworkref06_Size.calls a0 true _ A14.out).mono ?_); rintro e w' ⟨rfl, ⟨nd, rfl⟩⟩; (try first | exact ⟨rfl, _, World.drewN_drewN _ _ _⟩ | exact ⟨rfl, _, Eq.trans (World.drewN_drewN _ _ _) (congrArg (World.drewN _) (Nat.add_assoc _ _ _))⟩)) | (go_at_call 55; (with_reducible refine (ringworkref06_Room.calls k1 a0 _ _ l1 t116 _ ?side1 ?side2 A16.out).mono ?_); (case side1 => repeat (first | exact (Kd.C_below HR1.out (by repeat (first | (with_reducible first | exact HB.out | apply below_alloc | apply pw_below_drewN | apply below_drew1) | exact HB.out))) | (with_reducible refine Kd.C_alloc ?_ _) | (with_reducible refine Kd.C_drewN ?_ _) | (with_reducible refine Kd.C_drew ?_))); (case side2 => exact HC1.out); rintro e w' ⟨rfl, ⟨nd, rfl⟩⟩; (try first | exact ⟨rfl, _, World.drewN_drewN _ _ _⟩ | exact ⟨rfl, _, Eq.trans (World.drewN_drewN _ _ _) (congrArg (World.drewN _) (Nat.add_assoc _ _ _))⟩)) | (go_at_call 51; (with_reducible refine (ringworkref06_Built.calls a0 _ _ l1 t117 _ ?side1 ?side2 A18.out).mono ?_); (case side1 => repeat (first | exact (Kd.C_below HR1.out (by repeat (first | (with_reducible first | exact HB.out | apply below_alloc | apply pw_below_drewN | apply below_drew1) | exact HB.out))) | (with_reducible refine Kd.C_alloc ?_ _) | (with_reducible refine Kd.C_drewN ?_ _) | (with_reducible refine Kd.C_drew ?_))); (case side2 => exact HC1.out); rintro e w19 ⟨rfl, hb⟩; have n0_ := Aside0.mk (below_step (by repeat (first | (with_reducible first | exact HB.out | apply below_alloc | apply pw_below_drewN | apply below_drew1) | exact HB.out)) hb); clear HB; have HB := n0_; clear n0_; (try clear hb); (try clear hb2); (try clear hk); (try clear hi))); try go_wp2_with (first | (go_at_call 50; (with_reducible refine (ringworkref06_Size.calls a0 true _ A14.out).mono ?_); rintro e w' ⟨rfl, ⟨nd, rfl⟩⟩; (try first | exact ⟨rfl, _, World.drewN_drewN _ _ _⟩ | exact ⟨rfl, _, Eq.trans (World.drewN_drewN _ _ _) (congrArg (World.drewN _) (Nat.add_assoc _ _ _))⟩)) | (go_at_call 55; (with_reducible refine (ringworkref06_Room.calls k1 a0 _ _ l1 t116 _ ?side1 ?side2 A16.out).mono ?_); (case side1 => repeat (first | exact (Kd.C_below HR1.out (by repeat (first | (with_reducible first | exact HB.out | apply below_alloc | apply pw_below_drewN | apply below_drew1) | exact HB.out))) | (with_reducible refine Kd.C_alloc ?_ _) | (with_reducible refine Kd.C_drewN ?_ _) | (with_reducible refine Kd.C_drew ?_))); (case side2 => exact HC1.out); rintro e w' ⟨rfl, ⟨nd, rfl⟩⟩; (try first | exact ⟨rfl, _, World.drewN_drewN _ _ _⟩ | exact ⟨rfl, _, Eq.trans (World.drewN_drewN _ _ _) (congrArg (World.drewN _) (Nat.add_assoc _ _ _))⟩)) | (go_at_call 51; (with_reducible refine (ringworkref06_Built.calls a0 _ _ l1 t117 _ ?side1 ?side2 A18.out).mono ?_); (case side1 => repeat (first | exact (Kd.C_below HR1.out (by repeat (first | (with_reducible first | exact HB.out | apply below_alloc | apply pw_below_drewN | apply below_drew1) | exact HB.out))) | (with_reducible refine Kd.C_alloc ?_ _) | (with_reducible refine Kd.C_drewN ?_ _) | (with_reducible refine Kd.C_drew ?_))); (case side2 => exact HC1.out); rintro e w19 ⟨rfl, hb⟩; have n0_ := Aside0.mk (below_step (by repeat (first | (with_reducible first | exact HB.out | apply below_alloc | apply pw_below_drewN | apply below_drew1) | exact HB.out)) hb); clear HB; have HB := n0_; clear n0_; (try clear hb); (try clear hb2); (try clear hk); (try clear hi))))
            go_ret2
            exact ⟨by first | rfl | (simp [errW_none, errW_some] <;> rfl) | (simp [*, errW_none, errW_some] <;> rfl), by repeat (first | (with_reducible first | exact HB.out | apply below_alloc | apply pw_below_drewN | apply below_drew1) | exact HB.out)⟩
        · replace c15 := Bool.eq_false_iff.mpr c15
          subst c15
          have H1 : (some ((⟨#[]⟩ : ByteArray), 7)) = some (r1, r2) := by rw [if_neg (show ¬ (false = true) by decide)] at H; exact H
          clear H
          have H := H1
          clear H1
          simp only [Option.some.injEq, Prod.mk.injEq] at H
          obtain ⟨rfl, rfl⟩ := H
          go_wp2_with (first | (go_at_call 50; (with_reducible refine (ringworkref06_Size.calls a0 false _ A14.out).mono ?_); rintro e w' ⟨rfl, ⟨nd, rfl⟩⟩; (try first | exact ⟨rfl, _, World.drewN_drewN _ _ _⟩ | exact ⟨rfl, _, Eq.trans (World.drewN_drewN _ _ _) (congrArg (World.drewN _) (Nat.add_assoc _ _ _))⟩)))
          repeat (go_quiet (first | (go_at_call 50; (with_reducible refine (ringworkref06_Size.calls a0 false _ A14.out).mono ?_); rintro e w' ⟨rfl, ⟨nd, rfl⟩⟩; (try first | exact ⟨rfl, _, World.drewN_drewN _ _ _⟩ | exact ⟨rfl, _, Eq.trans (World.drewN_drewN _ _ _) (congrArg (World.drewN _) (Nat.add_assoc _ _ _))⟩))); try go_wp2_with (first | (go_at_call 50; (with_reducible refine (ringworkref06_Size.calls a0 false _ A14.out).mono ?_); rintro e w' ⟨rfl, ⟨nd, rfl⟩⟩; (try first | exact ⟨rfl, _, World.drewN_drewN _ _ _⟩ | exact ⟨rfl, _, Eq.trans (World.drewN_drewN _ _ _) (congrArg (World.drewN _) (Nat.add_assoc _ _ _))⟩))))
          go_ret2
          exact ⟨by first | rfl | (simp [errW_none, errW_some] <;> rfl) | (simp [*, errW_none, errW_some] <;> rfl), by repeat (first | (with_reducible first | exact HB.out | apply below_alloc | apply pw_below_drewN | apply below_drew1) | exact HB.out)⟩

end Go.Proofs.Ytemglmcddaeedaa.PA

namespace Go.Proofs.Ytemglmcddaeedaa.PA
open Go.RowKit Go.Proofs.YtemglmcddaeedaaW.PrintWords Go.Proofs.YtemglmcddaeedaaW.PrintLast Go.Proofs.YtemglmcddaeedaaW.PrintMore
attribute [local go_sem] max2_int min2_int max_two min_two max_three min_three max_four min_four   -- for this text's walks alone
set_option linter.unusedVariables false
set_option linter.unusedSimpArgs false

/-! ### ringworklaw06_Made: function 10 -/
def ringworklaw06_Made.f (k : Nat) (a0 : Int) (l1 : List (S45)) : Option (ByteArray × Bool) := (ringworklaw06_Cells.f k l1).bind fun t118 => (if t118 = true then ((ringworkref06_Fill.f k a0 l1).bind fun bt119 => (some (bt119.1, (bt119.2 == 0)))) else (some ((⟨#[]⟩ : ByteArray), false)))
theorem ringworklaw06_Made.mono : ∀ a0 a1 k, LeO (ringworklaw06_Made.f k a0 a1) (ringworklaw06_Made.f (k + 1) a0 a1) := by
  intro a0 a1 k
  unfold ringworklaw06_Made.f
  repeat' first
      | (with_reducible exact ringworklaw06_Cells.mono _ _)
      | (with_reducible exact ringworkref06_Fill.mono _ _ _)
      | (with_reducible exact LeO.refl _)
      | (with_reducible exact LeO.none _)
      | (with_reducible refine LeO.ite ?_ ?_)
      | (with_reducible refine LeO.bind ?_ (fun _ => ?_))
      | exact ringworklaw06_Cells.mono _ _
      | exact ringworkref06_Fill.mono _ _ _
      | exact LeO.none _
      | refine LeO.ite ?_ ?_
      | refine LeO.bind ?_ (fun _ => ?_)
set_option maxHeartbeats 8000000 in
set_option maxRecDepth 100000 in
theorem ringworklaw06_Made.calls (k : Nat) (a0 : Int) (A1 : Option Addr) (c1 : Nat) (l1 : List (S45)) (r1 : ByteArray) (r2 : Bool) (w : World) (hr1 : Kd.C k45 w A1 l1.length l1) (hc1 : l1.length ≤ c1) (h : ringworklaw06_Made.f k a0 l1 = some (r1, r2)) :
    Calls Try.prog 10 #[.int .i64 a0, .slice A1 l1.length c1] w fun e w' => e = .returned (.tuple #[.string r1, .bool r2]) ∧ Below w.heap.size w w' := by
  have HR1 := Aside0.mk hr1
  have HC1 := Aside0.mk hc1
  clear hr1 hc1
  have HB := Aside0.mk (Below.refl w.heap.size w)
  have H : ((ringworklaw06_Cells.f k l1).bind fun t118 => (if t118 = true then ((ringworkref06_Fill.f k a0 l1).bind fun bt119 => (some (bt119.1, (bt119.2 == 0)))) else (some ((⟨#[]⟩ : ByteArray), false)))) = some (r1, r2) := h
  clear h
  replace H := Option.bind_eq_some_iff.mp H
  obtain ⟨t118, A30, H⟩ := H
  replace H : (if t118 = true then ((ringworkref06_Fill.f k a0 l1).bind fun bt119 => (some (bt119.1, (bt119.2 == 0)))) else (some ((⟨#[]⟩ : ByteArray), false))) = some (r1, r2) := H
  have A3 := Aside0.mk A30
  clear A30
  by_cases c4 : t118 = true
  · subst c4
    have H1 : ((ringworkref06_Fill.f k a0 l1).bind fun bt119 => (some (bt119.1, (bt119.2 == 0)))) = some (r1, r2) := by rw [if_pos rfl] at H; exact H
    clear H
    have H := H1
    clear H1
    replace H := Option.bind_eq_some_iff.mp H
    obtain ⟨⟨t119, t120⟩, A50, H⟩ := H
    replace H : (some (t119, (t120 == 0))) = some (r1, r2) := H
    have A5 := Aside0.mk A50
    clear A50
    simp only [Option.some.injEq, Prod.mk.injEq] at H
    obtain ⟨rfl, rfl⟩ := H
    go_enter Try.func10, Try.ntmps10
    go_wp2_with (first | ((with_reducible refine gate_callee (f := 14) rfl ?_); refine goesL_ (some 9) rfl rfl Try.func14 (by kernel_rfl) rfl #[.slice A1 l1.length c1] rfl (by (try simp only [List.map_toArray, List.map_cons, List.map_nil]); first | done | rfl | (simp only [List.length_drop, List.length_take]; rfl)) ?_; (with_reducible refine (ringworklaw06_Cells.calls k _ _ l1 true _ ?side1 ?side2 A3.out).mono ?_); (case side1 => repeat (first | exact HR1.out | (with_reducible refine Kd.C_alloc ?_ _) | (with_reducible refine Kd.C_drewN ?_ _) | (with_reducible refine Kd.C_drew ?_))); (case side2 => exact HC1.out); rintro e w' ⟨rfl, ⟨nd, rfl⟩⟩; refine ⟨_, rfl, ?_⟩) | ((with_reducible refine gate_callee (f := 18) rfl ?_); refine goesL_ (some 14) rfl rfl Try.func18 (by kernel_rfl) rfl #[.int .i64 a0, .slice A1 l1.length c1] rfl (by (try simp only [List.map_toArray, List.map_cons, List.map_nil]); first | done | rfl | (simp only [List.length_drop, List.length_take]; rfl)) ?_; (with_reducible refine (ringworkref06_Fill.calls k a0 _ _ l1 t119 t120 _ ?side1 ?side2 A5.out).mono ?_); (case side1 => repeat (first | exact HR1.out | (with_reducible refine Kd.C_alloc ?_ _) | (with_reducible refine Kd.C_drewN ?_ _) | (with_reducible refine Kd.C_drew ?_))); (case side2 => exact HC1.out); rintro e w6 ⟨rfl, hb⟩; refine ⟨_, rfl, ?_⟩; have n0_ := Aside0.mk (below_step (by repeat (first | (with_reducible first | exact HB.out | apply below_alloc | apply pw_below_drewN | apply below_drew1) | exact HB.out)) hb); clear HB; have HB := n0_; clear n0_; (try clear hb); (try clear hb2); (try clear hk); (try clear hi)))
    go_ret2
    exact ⟨by first | rfl | (simp [errW_none, errW_some] <;> rfl) | (simp [*, errW_none, errW_some] <;> rfl), by repeat (first | (with_reducible first | exact HB.out | apply below_alloc | apply pw_below_drewN | apply below_drew1) | exact HB.out)⟩
  · replace c4 := Bool.eq_false_iff.mpr c4
    subst c4
    have H1 : (some ((⟨#[]⟩ : ByteArray), false)) = some (r1, r2) := by rw [if_neg (show ¬ (false = true) by decide)] at H; exact H
    clear H
    have H := H1
    clear H1
    simp only [Option.some.injEq, Prod.mk.injEq] at H
    obtain ⟨rfl, rfl⟩ := H
    go_enter Try.func10, Try.ntmps10
    go_wp2_with (first | ((with_reducible refine gate_callee (f := 14) rfl ?_); refine goesL_ (some 9) rfl rfl Try.func14 (by kernel_rfl) rfl #[.slice A1 l1.length c1] rfl (by (try simp only [List.map_toArray, List.map_cons, List.map_nil]); first | done | rfl | (simp only [List.length_drop, List.length_take]; rfl)) ?_; (with_reducible refine (ringworklaw06_Cells.calls k _ _ l1 false _ ?side1 ?side2 A3.out).mono ?_); (case side1 => repeat (first | exact HR1.out | (with_reducible refine Kd.C_alloc ?_ _) | (with_reducible refine Kd.C_drewN ?_ _) | (with_reducible refine Kd.C_drew ?_))); (case side2 => exact HC1.out); rintro e w' ⟨rfl, ⟨nd, rfl⟩⟩; refine ⟨_, rfl, ?_⟩))
    go_ret2
    exact ⟨by first | rfl | (simp [errW_none, errW_some] <;> rfl) | (simp [*, errW_none, errW_some] <;> rfl), by repeat (first | (with_reducible first | exact HB.out | apply below_alloc | apply pw_below_drewN | apply below_drew1) | exact HB.out)⟩

end Go.Proofs.Ytemglmcddaeedaa.PA

namespace Go.Proofs.Ytemglmcddaeedaa.PA
open Go.RowKit Go.Proofs.YtemglmcddaeedaaW.PrintWords Go.Proofs.YtemglmcddaeedaaW.PrintLast Go.Proofs.YtemglmcddaeedaaW.PrintMore
attribute [local go_sem] max2_int min2_int max_two min_two max_three min_three max_four min_four   -- for this text's walks alone
set_option linter.unusedVariables false
set_option linter.unusedSimpArgs false

/-! ### page_line: function 52 -/
def page_line.f (a0 : Int) : Option (Bool) := if a0 ≥ 1 then (some (decide (a0 ≤ 200))) else (some false)
set_option maxHeartbeats 8000000 in
set_option maxRecDepth 100000 in
theorem page_line.calls (a0 : Int) (r : Bool) (w : World) (h : page_line.f a0 = some r) :
    Calls Try.prog 52 #[.int .i64 a0] w fun e w' => e = .returned (.bool r) ∧ Drawn0 w w' := by
  have H : (if a0 ≥ 1 then (some (decide (a0 ≤ 200))) else (some false)) = some r := h
  clear h
  by_cases c2 : a0 ≥ 1
  · rw [if_pos c2] at H
    have c2b0 : decide (1 ≤ a0) = true := decide_eq_true c2
    clear c2
    obtain rfl := Option.some.inj H
    go_enter Try.func52, Try.ntmps52
    go_wp2
    go_ret
    exact ⟨by first | rfl | (simp; done) | (simp [*]; done), by repeat (first | exact Drawn0.refl _ | apply Drawn0.step)⟩
  · rw [if_neg c2] at H
    have c2b0 : decide (1 ≤ a0) = false := decide_eq_false c2
    clear c2
    obtain rfl := Option.some.inj H
    go_enter Try.func52, Try.ntmps52
    go_wp2
    go_ret
    exact ⟨by first | rfl | (simp; done) | (simp [*]; done), by repeat (first | exact Drawn0.refl _ | apply Drawn0.step)⟩

end Go.Proofs.Ytemglmcddaeedaa.PA

namespace Go.Proofs.Ytemglmcddaeedaa.PA
open Go.RowKit Go.Proofs.YtemglmcddaeedaaW.PrintWords Go.Proofs.YtemglmcddaeedaaW.PrintLast Go.Proofs.YtemglmcddaeedaaW.PrintMore
attribute [local go_sem] max2_int min2_int max_two min_two max_three min_three max_four min_four   -- for this text's walks alone
set_option linter.unusedVariables false
set_option linter.unusedSimpArgs false

/-! ### page_size: function 53 -/
def page_size.f (a0 : Int) : Option (Bool) := if a0 ≥ 32 then (if a0 ≤ 4096 then (some ((Int.tmod a0 8) == 0)) else (some false)) else (some false)
set_option maxHeartbeats 8000000 in
set_option maxRecDepth 100000 in
theorem page_size.calls (a0 : Int) (r : Bool) (w : World) (h : page_size.f a0 = some r) :
    Calls Try.prog 53 #[.int .i64 a0] w fun e w' => e = .returned (.bool r) ∧ Drawn0 w w' := by
  have H : (if a0 ≥ 32 then (if a0 ≤ 4096 then (some ((Int.tmod a0 8) == 0)) else (some false)) else (some false)) = some r := h
  clear h
  by_cases c2 : a0 ≥ 32
  · rw [if_pos c2] at H
    have c2b0 : decide (32 ≤ a0) = true := decide_eq_true c2
    clear c2
    by_cases c3 : a0 ≤ 4096
    · rw [if_pos c3] at H
      have c3b0 : decide (a0 ≤ 4096) = true := decide_eq_true c3
      clear c3
      obtain rfl := Option.some.inj H
      go_enter Try.func53, Try.ntmps53
      go_wp2
      go_ret
      exact ⟨by first | rfl | (simp; done) | (simp [*]; done), by repeat (first | exact Drawn0.refl _ | apply Drawn0.step)⟩
    · rw [if_neg c3] at H
      have c3b0 : decide (a0 ≤ 4096) = false := decide_eq_false c3
      clear c3
      obtain rfl := Option.some.inj H
      go_enter Try.func53, Try.ntmps53
      go_wp2
      go_ret
      exact ⟨by first | rfl | (simp; done) | (simp [*]; done), by repeat (first | exact Drawn0.refl _ | apply Drawn0.step)⟩
  · rw [if_neg c2] at H
    have c2b0 : decide (32 ≤ a0) = false := decide_eq_false c2
    clear c2
    obtain rfl := Option.some.inj H
    go_enter Try.func53, Try.ntmps53
    go_wp2
    go_ret
    exact ⟨by first | rfl | (simp; done) | (simp [*]; done), by repeat (first | exact Drawn0.refl _ | apply Drawn0.step)⟩

end Go.Proofs.Ytemglmcddaeedaa.PA

namespace Go.Proofs.Ytemglmcddaeedaa.PA
open Go.RowKit Go.Proofs.YtemglmcddaeedaaW.PrintWords Go.Proofs.YtemglmcddaeedaaW.PrintLast Go.Proofs.YtemglmcddaeedaaW.PrintMore
attribute [local go_sem] max2_int min2_int max_two min_two max_three min_three max_four min_four   -- for this text's walks alone
set_option linter.unusedVariables false
set_option linter.unusedSimpArgs false

/-! ### page_putrow: function 0 -/
theorem grown_set (w : World) (g j : Nat) (u : Value) : w.grownBy (w.setCell ⟨g, j, none⟩ u) (some g) :=
  ⟨rfl, rfl, rfl, by simp [World.setCell], fun k _ hne => Below.heap_setCell w _ u k (fun e => hne (by rw [e]))⟩
theorem put_row (g n c : Nat) (bs : List Int) (at_ v : Int) (w : World) (hg : w.heap[g]? = some (.cells (nums .u8 bs).toArray 5 (0, 0))) (hlen : bs.length = n) (h0 : 0 ≤ at_) (h1 : at_ + 1 < n) (hn : n ≤ 100000) (hv0 : 0 ≤ v) (hv1 : v ≤ 65535) :
    Calls Try.prog 103 #[.slice (some ⟨g, 0, none⟩) n c, .int .i64 at_, .int .i64 v] w fun e w' => e = .returned (.tuple #[]) ∧
      w'.heap[g]? = some (.cells (nums .u8 ((bs.set at_.toNat (v / 256)).set (at_.toNat + 1) (v % 256))).toArray 5 (0, 0)) ∧ w.grownBy w' (some g) := by
  obtain ⟨k, rfl⟩ := Int.eq_ofNat_of_zero_le h0
  simp only [Int.toNat_natCast]
  have hk : k < bs.length := by omega
  have hk1 : k + 1 < bs.length := by omega
  have c0 := blk_cell hg k
  have c1 := blk_cell hg (k + 1)
  have f0 := blk_frozen hg k
  have f1 := blk_frozen hg (k + 1)
  simp only [nums, List.getElem?_toArray, List.getElem?_map, List.getElem?_eq_getElem hk, List.getElem?_eq_getElem hk1, Option.map_some] at c0 c1
  have HG := Aside0.mk hg
  clear hg
  have e1 : v / 256 % 256 = v / 256 := by omega
  go_enter Try.func103, Try.ntmps103
  go_wp2
  go_end0
  have hs := blk_set (blk_set HG.out k (.int .u8 (v / 256))) (k + 1) (.int .u8 (v % 256))
  have hn1 : ∀ (i : Nat) (x : Int) (l : List Int), (nums .u8 l).toArray.setIfInBounds i (.int .u8 x) = (nums .u8 (l.set i x)).toArray := by
    intro i x l; simp [nums, List.map_set]
  rw [hn1, hn1] at hs
  have hgb : w.grownBy ((w.setCell ⟨g, k, none⟩ (.int .u8 (v / 256))).setCell ⟨g, k + 1, none⟩ (.int .u8 (v % 256))) (some g) :=
    (grown_set _ _ _ _).trans (grown_set _ _ _ _)
  refine ⟨rfl, ?_, ?_⟩
  · exact hs
  · exact hgb

end Go.Proofs.Ytemglmcddaeedaa.PA

namespace Go.Proofs.Ytemglmcddaeedaa.PA
open Go.RowKit Go.Proofs.YtemglmcddaeedaaW.PrintWords Go.Proofs.YtemglmcddaeedaaW.PrintLast Go.Proofs.YtemglmcddaeedaaW.PrintMore
attribute [local go_sem] max2_int min2_int max_two min_two max_three min_three max_four min_four   -- for this text's walks alone
set_option linter.unusedVariables false
set_option linter.unusedSimpArgs false

/-! ### page_needs: function 102 -/
def page_needs.ok (l : List S45) : Prop := 0 ≤ lastL l ∧ lastL l ≤ 1000 ∧ bytesL l ≤ 1000000000000
instance page_needs.okDec (l : List S45) : Decidable (page_needs.ok l) := by unfold page_needs.ok; infer_instance
def page_needs.f (l0 : List S45) : Option Int := if page_needs.ok l0 then some (needsL l0) else none
set_option maxHeartbeats 8000000 in
set_option maxRecDepth 100000 in
theorem page_needs.calls (A0 : Option Addr) (c0 : Nat) (l0 : List S45) (r : Int) (w : World) (hr0 : Kd.C k45 w A0 l0.length l0) (hc0 : l0.length ≤ c0) (h : page_needs.f l0 = some r) :
    Calls Try.prog 102 #[.slice A0 l0.length c0] w fun e w' => e = .returned (.int .i64 r) ∧ Below w.heap.size w w' := by
  have hu45 := Try.underlying45
  unfold page_needs.f at h
  split at h
  rotate_left
  · cases h
  rename_i hok
  obtain rfl := Option.some.inj h
  obtain ⟨hl0, hl1, hb⟩ := hok
  have HR0 := Aside0.mk hr0
  have hlen : l0.length ≤ 9223372036854775807 := Kd.C_max hr0
  have HB := Aside0.mk (Below.refl w.heap.size w)
  clear hr0 hc0
  by_cases hz : 0 < l0.length
  · have HL := Aside0.mk (lastL_rd l0 hz)
    have hz' : (0 : Int) < l0.length := by omega
    obtain ⟨ad, e1, hx0, hx1⟩ := at_T45 HR0.out ((l0.length : Int) - 1) (by omega) (by omega)
    cases e1
    have e2 : ((l0.length : Int) - 1).toNat = l0.length - 1 := by omega
    rw [e2] at hx0
    rw [← HL.out] at hx0
    obtain ⟨L, hL⟩ : ∃ L, lastL l0 = L := ⟨_, rfl⟩
    rw [hL] at hl0 hl1 hx0
    have HL2 := Aside0.mk hL
    clear hL hx1 e2
    go_enter Try.func102, Try.ntmps102
    go_wp2
    go_loopw [3, 21] (fun v3 v21 wr => ∃ i : Nat, i ≤ l0.length ∧ v3 = .int .i64 (2 + 4 * L + (bytesL (l0.take i) : Int)) ∧ v21 = .int .i64 (i : Int) ∧ Aside0 (Below w.heap.size w wr))
      (fun _ v21 _ => l0.length - (intOf v21).toNat)
    case atStart => exact ⟨0, by omega, by simp [bytesL], by simp, HB⟩
    case round =>
      obtain ⟨i, hi, rfl, rfl, HB⟩ := hrel
      by_cases hlt : i < l0.length
      · obtain ⟨ad2, e2, hy0, hy1⟩ := at_T45 HR0.out (i : Int) (by omega) (by omega)
        cases e2
        rw [rd_get l0 i hlt] at hy0 hy1
        replace hy0 := (HB.out.cell (World.block_lt_of_cell? w _ hy0)).trans hy0
        replace hy1 := (HB.out.cell (World.block_lt_of_cell? w _ hy1)).trans hy1
        simp only [Int.toNat_natCast] at hy0 hy1
        have hs := bytesL_take_succ l0 i hlt
        have hs2 := bytesL_take_le l0 (i + 1)
        have HS := Aside0.mk hs
        have hb2 : bytesL (l0.take i) + l0[i].f1.size ≤ 1000000000000 := by omega
        clear hs hs2
        go_wp2
        go_roundw
        case rel => exact ⟨i + 1, by omega, by rw [HS.out]; go_num, by go_num, ⟨(below_alloc HB.out _)⟩⟩
        case measure => simp [intOf]; omega
      · go_wp2
        go_ret
        refine ⟨ret_int ?_, HB.out⟩
        rw [needsL, HL2.out, List.take_of_length_le (by omega)]
  · obtain rfl : l0 = [] := List.eq_nil_of_length_eq_zero (by omega)
    go_enter Try.func102, Try.ntmps102
    go_wp2
    go_loopw [3, 21] (fun v3 v21 wr => v3 = .int .i64 2 ∧ v21 = .int .i64 0 ∧ wr = w) (fun _ _ _ => 0)
    case atStart => exact ⟨rfl, rfl, rfl⟩
    case round =>
      obtain ⟨rfl, rfl, rfl⟩ := hrel
      go_wp2
      go_ret
      exact ⟨ret_int (by rfl), HB.out⟩

end Go.Proofs.Ytemglmcddaeedaa.PA

namespace Go.Proofs.Ytemglmcddaeedaa.PA
open Go.RowKit Go.Proofs.YtemglmcddaeedaaW.PrintWords Go.Proofs.YtemglmcddaeedaaW.PrintLast Go.Proofs.YtemglmcddaeedaaW.PrintMore
attribute [local go_sem] max2_int min2_int max_two min_two max_three min_three max_four min_four   -- for this text's walks alone
set_option linter.unusedVariables false
set_option linter.unusedSimpArgs false

/-! ### page_filled: function 54 -/
def page_filled.ok (n : Int) (l : List S45) : Prop := 32 ≤ n ∧ n ≤ 4096 ∧ CellsOk l ∧ bytesL l ≤ 1000000000000
instance page_filled.okDec (n : Int) (l : List S45) : Decidable (page_filled.ok n l) := by unfold page_filled.ok; infer_instance
def page_filled.f (a0 : Int) (l1 : List S45) : Option (ByteArray × Int) :=
  if page_filled.ok a0 l1 then (if needsL l1 > a0 then some (⟨#[]⟩, 13) else some (strOfNums (builtL a0.toNat l1), 0)) else none
theorem needs_f {l : List S45} (h : CellsOk l) (hb : bytesL l ≤ 1000000000000) : page_needs.f l = some (needsL l) := by
  have := lastL_nonneg h
  rw [page_needs.f, if_pos ⟨this.1, by omega, hb⟩]
set_option maxHeartbeats 8000000 in
set_option maxRecDepth 100000 in
theorem page_filled.calls (a0 : Int) (A1 : Option Addr) (c1 : Nat) (l1 : List S45) (r1 : ByteArray) (r2 : Int) (w : World) (hr1 : Kd.C k45 w A1 l1.length l1) (hc1 : l1.length ≤ c1) (h : page_filled.f a0 l1 = some (r1, r2)) :
    Calls Try.prog 54 #[.int .i64 a0, .slice A1 l1.length c1] w fun e w' => e = .returned (.tuple #[.string r1, .int .i64 r2]) ∧ Below w.heap.size w w' := by
  have hu45 := Try.underlying45
  unfold page_filled.f at h
  split at h
  rotate_left
  · cases h
  rename_i hok
  obtain ⟨hn0, hn1, hcl, hb⟩ := hok
  have HF := Aside0.mk (needs_f hcl hb)
  have HCL := Aside0.mk hcl
  have HR := Aside0.mk hr1
  have HC := Aside0.mk hc1
  have hlen : l1.length ≤ 9223372036854775807 := Kd.C_max hr1
  have hnd : 0 ≤ needsL l1 := by have := lastL_nonneg hcl; unfold needsL; omega
  obtain ⟨nd, hN⟩ : ∃ nd, needsL l1 = nd := ⟨_, rfl⟩
  rw [hN] at h hnd
  have HN := Aside0.mk hN
  have hl1 := lastL_nonneg hcl
  clear hr1 hc1 hcl hN
  obtain ⟨m, rfl⟩ := Int.eq_ofNat_of_zero_le (show 0 ≤ a0 by omega)
  by_cases hbig : nd > (m : Int)
  · rw [if_pos hbig] at h
    obtain ⟨rfl, rfl⟩ := Prod.mk.inj (Option.some.inj h)
    clear h
    go_enter Try.func54, Try.ntmps54
    go_wp2_with (go_at_call 102; refine (page_needs.calls A1 c1 l1 nd _ HR.out HC.out (by rw [HF.out, HN.out])).mono ?_; rintro e w1 ⟨rfl, hb1⟩)
    go_ret2
    exact ⟨rfl, hb1⟩
  · rw [if_neg hbig] at h
    obtain ⟨rfl, rfl⟩ := Prod.mk.inj (Option.some.inj h)
    clear h
    obtain ⟨Z, hZ⟩ : ∃ Z, (nums .u8 (zer m)).toArray = Z := ⟨_, rfl⟩
    have hmk : ∀ W : World, (Instr.makeSlice 27 (.int .i64 (m : Int)) (.int .i64 (m : Int))).run Try.prog W = .ok (.slice (some ⟨W.heap.size, 0, none⟩) m m) (W.alloc (.cells Z 5)) := by
      intro W
      rw [← hZ, zer, ← made_zer]
      exact print_make (P := Try.prog) 27 5 .u8 1 Try.underlying27 (by kernel_rfl) (by decide) m (by omega) W
    have HZ := Aside0.mk hZ
    clear hZ
    by_cases hz : 0 < l1.length
    · have HL := Aside0.mk (lastL_rd l1 hz)
      have hz' : (0 : Int) < l1.length := by omega
      obtain ⟨L, hL⟩ : ∃ L, lastL l1 = L := ⟨_, rfl⟩
      have HL2 := Aside0.mk hL
      rw [hL] at hl1
      obtain ⟨ad, e1, hx0, hx1⟩ := at_T45 HR.out ((l1.length : Int) - 1) (by omega) (by omega)
      cases e1
      have e2 : ((l1.length : Int) - 1).toNat = l1.length - 1 := by omega
      rw [e2, ← HL.out, hL] at hx0
      clear hL hx1 e2
      go_enter Try.func54, Try.ntmps54
      go_wp2_with (go_at_call 102; refine (page_needs.calls (some ad) c1 l1 nd _ HR.out HC.out (by rw [HF.out, HN.out])).mono ?_; rintro e w1 ⟨rfl, hb1⟩; have hx2 := (hb1.cell (World.block_lt_of_cell? w _ hx0)).trans hx0; have hx3 := World.block_lt_of_cell? w1 _ hx2)
      have hg0 : (w1.alloc (.cells Z 5)).heap[w1.heap.size]? = some (.cells (nums .u8 (zer m)).toArray 5 (0, 0)) := by rw [HZ.out]; exact blk_new _ _
      refine (put_row w1.heap.size m m (zer m) 0 L _ hg0 (by simp [zer]) (by omega) (by omega) (by omega) (by omega) (by omega)).mono ?_
      rintro e w2 ⟨rfl, hg2, hgb2⟩
      clear hg0
      have HB2 := Aside0.mk ((below_alloc hb1 (.cells Z 5)).grown hgb2 (by have := hb1.size; simp; omega) (by intro k hk; cases hk; exact hb1.size))
      clear hx2 hx3
      have hbld : ((zer m).set (0 : Int).toNat (L / 256)).set ((0 : Int).toNat + 1) (L % 256) = bld m L [] := by
        rw [bld_nil _ _ (by omega), show m = (m - 2) + 1 + 1 by omega]
        simp [zer, twoL, List.replicate_succ]
      rw [hbld] at hg2
      have HG2 := Aside0.mk hg2
      obtain ⟨g, hgg⟩ : ∃ g, w1.heap.size = g := ⟨_, rfl⟩
      rw [hgg] at HG2
      have hgl : w.heap.size ≤ g := by rw [← hgg]; exact hb1.size
      simp only [hgg]
      clear hgb2 hbld hg2 hgg hmk hb1
      go_wp2
      go_loopw [7, 32] (fun v7 v32 wr => ∃ i : Nat, i ≤ l1.length ∧ v7 = .int .i64 ((m : Int) - (bytesL (l1.take i) : Int)) ∧ v32 = .int .i64 (i : Int) ∧
          Aside0 (wr.heap[g]? = some (.cells (nums .u8 (bld m L (l1.take i))).toArray 5 (0, 0))) ∧ Aside0 (Below w.heap.size w wr))
        (fun _ v32 _ => l1.length - (intOf v32).toNat)
      case atStart => exact ⟨0, by omega, by simp [bytesL], by simp, by simpa using HG2, HB2⟩
      case round =>
        clear HG2 HB2
        obtain ⟨i, hi, rfl, rfl, HG, HB⟩ := hrel
        by_cases hlt : i < l1.length
        · obtain ⟨hnt, hct⟩ := needs_take HCL.out i hlt
          obtain ⟨P, q, hP1, hP2, hP3, hP4⟩ := bld_step (N := m) (n := L) hct (by rw [HN.out] at hnt; omega)
          have hci := hct.append.2.1.head
          obtain ⟨ad2, e2, hy0, hy1⟩ := at_T45 HR.out (i : Int) (by omega) (by omega)
          cases e2
          rw [rd_get l1 i hlt] at hy0 hy1
          replace hy0 := (HB.out.cell (World.block_lt_of_cell? w _ hy0)).trans hy0
          replace hy1 := (HB.out.cell (World.block_lt_of_cell? w _ hy1)).trans hy1
          simp only [Int.toNat_natCast] at hy0 hy1
          have hbt := bytesL_take_succ l1 i hlt
          have HBT := Aside0.mk hbt
          have HT := Aside0.mk (take_snoc l1 i hlt)
          obtain ⟨X, hX⟩ : ∃ X, l1[i] = X := ⟨_, rfl⟩
          rw [hX] at hP1 hP2 hP3 hP4 hci hy0 hy1 HBT HT
          obtain ⟨B, hB⟩ : ∃ B, bytesL (l1.take i) = B := ⟨_, rfl⟩
          rw [hB] at hP2 hP4 HBT
          simp only [hB]
          rw [hP3] at HG
          have HBB0 := Aside0.mk hB
          have HP1 := Aside0.mk hP1
          have HP4 := Aside0.mk hP4
          have hPl : (P.length : Int) = 4 * X.f0 - 2 := by omega
          have hq : (P.length : Int) + 4 + q + X.f1.size + B = m := by omega
          have HPL := Aside0.mk hPl
          have HQ := Aside0.mk hq
          have hb1 : 4 * X.f0 + 2 + X.f1.size + B ≤ m := by omega
          have hb2 : (0 : Int) < X.f1.size := by omega
          have hB0 : (0 : Int) ≤ B := by omega
          obtain ⟨hx1, hx2, hx3⟩ := hci
          clear hbt hnt hct hP1 hP2 hP3 hP4 hX hB hPl hq
          go_wp2
          obtain ⟨T, hT⟩ : ∃ T : Nat, (m : Int) - B - X.f1.size = T := ⟨((m : Int) - B - X.f1.size).toNat, by omega⟩
          rw [hT]
          have HT2 := Aside0.mk hT
          have hTm : (T : Int) + X.f1.size ≤ m := by omega
          have hT0 : 4 * X.f0 + 2 ≤ (T : Int) := by omega
          clear hT hb1
          obtain ⟨b, hb⟩ : ∃ b, wr.heap.size = b := ⟨_, rfl⟩
          have hgb : g < b := by rw [← hb]; exact blk_lt HG.out
          obtain ⟨W, hW⟩ : ∃ W, wr.alloc (.cells #[.int .i64 X.f0, .string X.f1] 45) = W := ⟨_, rfl⟩
          have hbb : W.heap[b]? = some (.cells #[.int .i64 X.f0, .string X.f1] 45 (0, 0)) := by rw [← hW, ← hb]; exact blk_new _ _
          have hG2 := blk_alloc HG.out (.cells #[.int .i64 X.f0, .string X.f1] 45)
          rw [hW] at hG2
          have HG2 := Aside0.mk hG2
          have HB2 := Aside0.mk (show Below w.heap.size w W by rw [← hW]; exact below_alloc HB.out _)
          have hc0 := blk_cell hbb 0
          have hc1 := blk_cell hbb 1
          simp only [List.getElem?_toArray, List.getElem?_cons_zero, List.getElem?_cons_succ] at hc0 hc1
          simp only [hb, hW]
          have HBB := Aside0.mk hbb
          clear hb hW hbb HG HB hy0 hy1 hG2
          have hsl := cut_own (P := Try.prog) 27 5 Try.underlying27 (by kernel_rfl) g m T (by omega)
          go_still_tail 5, (by kernel_rfl)
          clear hsl hc0 hc1
          have hbs : (P ++ (zer 4 ++ (zer q ++ (zer X.f1.size ++ (foldB m (l1.take i)).2)))).length = m := by
            have h1 := HP1.out
            have h2 := HQ.out
            have h5 := HBB0.out
            have h3 := (foldB_len (N := m) (show CellsOk (l1.take i) from (by have h4 := HCL.out; rw [← List.take_append_drop i l1] at h4; exact h4.append.1))).2
            simp only [List.length_append, zer, List.length_replicate]
            omega
          have HBS := Aside0.mk hbs
          refine wpList_copy_str rfl (.tmp 43) (.tmp 45) 27 9 rfl 5 Try.underlying27 (by kernel_rfl) g T (m - T) (m - T) rfl X.f1 rfl _ 5 HG2.out (by omega) (by rw [hbs]; omega) ?_
          intro w3 HG3 hgb3
          have HB3 := Aside0.mk ((show Below w.heap.size w _ from HB2.out.drew).grown hgb3.out HB2.out.size (by intro k hk; cases hk; exact hgl))
          have hbb3 := (hgb3.out.block b (blk_lt HBB.out) (by intro e; cases e; omega)).trans HBB.out
          have hc0 := blk_cell hbb3 0
          have hc1 := blk_cell hbb3 1
          simp only [List.getElem?_toArray, List.getElem?_cons_zero, List.getElem?_cons_succ] at hc0 hc1
          have HBB3 := Aside0.mk hbb3
          clear hbb3 hgb3 HG2 HB2 HBB hbs
          -- the row behind the copy
          have hs1 : splice (P ++ (zer 4 ++ (zer q ++ (zer X.f1.size ++ (foldB m (l1.take i)).2)))) T (bytesOf X.f1) = P ++ (zer 4 ++ (zer q ++ (bytesOf X.f1 ++ (foldB m (l1.take i)).2))) := by
            have h1 : (P ++ (zer 4 ++ zer q)).length = T := by
              have h1 := HP1.out
              have h2 := HQ.out
              have h5 := HT2.out
              simp only [List.length_append, zer, List.length_replicate]
              omega
            have h2 := splice_at (P ++ (zer 4 ++ zer q)) (zer X.f1.size) (foldB m (l1.take i)).2 (bytesOf X.f1) (by rw [bytesOf_length, zer, List.length_replicate])
            rw [h1] at h2
            simpa [List.append_assoc] using h2
          have hG3 := HG3.out
          rw [hs1] at hG3
          clear hs1 HG3
          have hlen3 : (P ++ (zer 4 ++ (zer q ++ (bytesOf X.f1 ++ (foldB m (l1.take i)).2)))).length = m := by
            have h1 := HBS.out
            simp only [List.length_append, zer, List.length_replicate, bytesOf_length] at h1 ⊢
            omega
          have HG3 := Aside0.mk hG3
          have HL3 := Aside0.mk hlen3
          clear hG3 hlen3
          go_wp2_with fail
          have hat : (2 + 4 * (X.f0 - 1)).toNat = P.length := by have h1 := HP1.out; omega
          have HAT := Aside0.mk hat
          clear hat
          refine (put_row g m m _ (2 + 4 * (X.f0 - 1)) T w3 HG3.out HL3.out (by omega) (by omega) (by omega) (by omega) (by omega)).mono ?_
          rintro e w4 ⟨rfl, hG4, hgb4⟩
          rw [HAT.out, show zer 4 = (0 : Int) :: 0 :: [0, 0] from rfl] at hG4
          simp only [List.cons_append, List.nil_append] at hG4
          rw [set2_at _ _ _ _ _ _ _ rfl] at hG4
          have HB4 := Aside0.mk (HB3.out.grown hgb4 HB3.out.size (by intro k hk; cases hk; exact hgl))
          have hbb4 := (hgb4.block b (blk_lt HBB3.out) (by intro e; cases e; omega)).trans HBB3.out
          have hc0 := blk_cell hbb4 0
          have hc1 := blk_cell hbb4 1
          simp only [List.getElem?_toArray, List.getElem?_cons_zero, List.getElem?_cons_succ] at hc0 hc1
          have HG4 := Aside0.mk hG4
          have HBB4 := Aside0.mk hbb4
          have hlen4 : (P ++ ((T : Int) / 256 :: (T : Int) % 256 :: 0 :: 0 :: (zer q ++ (bytesOf X.f1 ++ (foldB m (l1.take i)).2)))).length = m := by
            have h1 := HL3.out
            simp only [List.length_append, zer, List.length_replicate, bytesOf_length, List.length_cons] at h1 ⊢
            omega
          have HL4 := Aside0.mk hlen4
          clear hG4 hgb4 hbb4 hlen4 HG3 HL3 HB3
          go_wp2_with fail
          have hat2 : (2 + 4 * (X.f0 - 1) + 2).toNat = P.length + 2 := by have h1 := HAT.out; omega
          have HAT2 := Aside0.mk hat2
          clear hat2
          refine (put_row g m m _ (2 + 4 * (X.f0 - 1) + 2) X.f1.size w4 HG4.out HL4.out (by omega) (by omega) (by omega) (by omega) (by omega)).mono ?_
          rintro e w5 ⟨rfl, hG5, hgb5⟩
          have e5 : P ++ ((T : Int) / 256 :: (T : Int) % 256 :: 0 :: 0 :: (zer q ++ (bytesOf X.f1 ++ (foldB m (l1.take i)).2))) = (P ++ [(T : Int) / 256, (T : Int) % 256]) ++ (0 :: 0 :: (zer q ++ (bytesOf X.f1 ++ (foldB m (l1.take i)).2))) := by simp
          rw [HAT2.out, e5, set2_at _ _ _ _ _ _ _ (by simp)] at hG5
          have e6 : (P ++ [(T : Int) / 256, (T : Int) % 256]) ++ ((X.f1.size : Int) / 256 :: (X.f1.size : Int) % 256 :: (zer q ++ (bytesOf X.f1 ++ (foldB m (l1.take i)).2))) = bld m L (l1.take (i + 1)) := by
            have h1 := HT2.out
            rw [HT.out, HP4.out, show (m : Int) - ((B + X.f1.size : Nat) : Int) = T by omega]
            simp [ent4]
          rw [e6] at hG5
          have HB5 := Aside0.mk (HB4.out.grown hgb5 HB4.out.size (by intro k hk; cases hk; exact hgl))
          have HG5 := Aside0.mk hG5
          clear hG5 hgb5 e5 e6 hc0 hc1
          have hbn : ((m : Int) - (bytesL (l1.take (i + 1)) : Int)) = T := by rw [HBT.out]; have h1 := HT2.out; omega
          have HBN := Aside0.mk hbn
          clear hbn
          go_wp2
          go_roundw
          case rel => exact ⟨i + 1, by omega, by rw [HBN.out], by go_num, HG5, HB5⟩
          case measure => simp [intOf]; omega
        · have hil : l1.take i = l1 := List.take_of_length_le (by omega)
          have hG := HG.out
          rw [hil] at hG
          have hnl : needsL l1 ≤ (m : Int) := by rw [HN.out]; exact hbig
          have hcv := conv_row (P := Try.prog) 27 9 5 Try.underlying27 Try.underlying5 Try.underlying9 g m m (bld m L l1) 5 wr hG (bld_length HCL.out hnl)
          clear hil hG hnl
          go_wp2
          go_ret2
          exact ⟨by rw [builtL, HL2.out, Int.toNat_natCast]; rfl, HB.out⟩
    · obtain rfl : l1 = [] := List.eq_nil_of_length_eq_zero (by omega)
      go_enter Try.func54, Try.ntmps54
      go_wp2_with (go_at_call 102; refine (page_needs.calls A1 c1 [] nd _ HR.out HC.out (by rw [HF.out, HN.out])).mono ?_; rintro e w1 ⟨rfl, hb1⟩)
      go_loopw [7, 32] (fun v7 v32 wr => v7 = .int .i64 (m : Int) ∧ v32 = .int .i64 0 ∧ wr = w1.alloc (.cells Z 5)) (fun _ _ _ => 0)
      case atStart => exact ⟨rfl, rfl, rfl⟩
      case round =>
        obtain ⟨rfl, rfl, rfl⟩ := hrel
        have hg0 : (w1.alloc (.cells Z 5)).heap[w1.heap.size]? = some (.cells (nums .u8 (zer m)).toArray 5 (0, 0)) := by rw [HZ.out]; exact blk_new _ _
        have hcv := conv_row (P := Try.prog) 27 9 5 Try.underlying27 Try.underlying5 Try.underlying9 w1.heap.size m m (zer m) 5 _ hg0 (by simp [zer])
        clear hg0
        go_wp2
        go_ret2
        refine ⟨?_, below_alloc hb1 _⟩
        have e : builtL m [] = zer m := by
          rw [builtL, bld_nil _ _ (by omega), show m = (m - 2) + 1 + 1 by omega]
          simp [zer, twoL, lastL, List.replicate_succ]
        rw [Int.toNat_natCast, e]; rfl

end Go.Proofs.Ytemglmcddaeedaa.PA

namespace Go.Proofs.Ytemglmcddaeedaa.PA
open Go.RowKit Go.Proofs.YtemglmcddaeedaaW.PrintWords Go.Proofs.YtemglmcddaeedaaW.PrintLast Go.Proofs.YtemglmcddaeedaaW.PrintMore
attribute [local go_sem] max2_int min2_int max_two min_two max_three min_three max_four min_four   -- for this text's walks alone
set_option linter.unusedVariables false
set_option linter.unusedSimpArgs false

/-! ### page_Fill: function 17 -/
def page_Fill.l0 : Nat → Int → List (S45) → List (S45) → Int → Int → Option (ByteArray × Int)
  | 0, _, _, _, _, _ => none
  | k + 1, x0, x1, x8, x9, x10 => if x10 < x9 then (if 0 ≤ x10 then (if x10 < (x8.length : Int) then ((page_line.f ((rd_T45 x8 x10).f0)).bind fun t125 => (if t125 = true then (if ((rd_T45 x8 x10).f1).toList = ([] : List UInt8) then (some ((⟨#[]⟩ : ByteArray), 1)) else (if x10 > 0 then (if 0 ≤ (wrap64 (x10 - 1)) then (if (wrap64 (x10 - 1)) < (x1.length : Int) then (if ((rd_T45 x1 (wrap64 (x10 - 1))).f0) ≥ ((rd_T45 x8 x10).f0) then (some ((⟨#[]⟩ : ByteArray), 1)) else (page_Fill.l0 k x0 x1 x8 x9 (wrap64 (x10 + 1)))) else (none)) else (none)) else (page_Fill.l0 k x0 x1 x8 x9 (wrap64 (x10 + 1))))) else (some ((⟨#[]⟩ : ByteArray), 1)))) else (none)) else (none)) else ((page_size.f x0).bind fun t127 => (if t127 = true then ((page_filled.f x0 x1).bind fun bt128 => (some (bt128.1, bt128.2))) else (some ((⟨#[]⟩ : ByteArray), 7))))
def page_Fill.f (k : Nat) (a0 : Int) (l1 : List (S45)) : Option (ByteArray × Int) := page_Fill.l0 k a0 l1 l1 (l1.length : Int) 0
theorem page_Fill.mono_l : ∀ k, (∀ y0 y1 y2 y3 y4, LeO (page_Fill.l0 k y0 y1 y2 y3 y4) (page_Fill.l0 (k + 1) y0 y1 y2 y3 y4))
  | 0 => fun _ _ _ _ _ r h => by simp [page_Fill.l0] at h
  | k + 1 => by
    have ih0 := page_Fill.mono_l k
    · intro y0 y1 y2 y3 y4
      unfold page_Fill.l0
      repeat' first
      | (with_reducible exact ih0 _ _ _ _ _)
      | (with_reducible exact LeO.refl _)
      | (with_reducible exact LeO.none _)
      | (with_reducible refine LeO.ite ?_ ?_)
      | (with_reducible refine LeO.bind ?_ (fun _ => ?_))
      | exact ih0 _ _ _ _ _
      | exact LeO.none _
      | refine LeO.ite ?_ ?_
      | refine LeO.bind ?_ (fun _ => ?_)
theorem page_Fill.mono : ∀ a0 a1 k, LeO (page_Fill.f k a0 a1) (page_Fill.f (k + 1) a0 a1) := by
  intro a0 a1 k
  have ih0 := page_Fill.mono_l k
  unfold page_Fill.f
  repeat' first
      | (with_reducible exact ih0 _ _ _ _ _)
      | (with_reducible exact LeO.refl _)
      | (with_reducible exact LeO.none _)
      | (with_reducible refine LeO.ite ?_ ?_)
      | (with_reducible refine LeO.bind ?_ (fun _ => ?_))
      | exact ih0 _ _ _ _ _
      | exact LeO.none _
      | refine LeO.ite ?_ ?_
      | refine LeO.bind ?_ (fun _ => ?_)
set_option maxHeartbeats 8000000 in
set_option maxRecDepth 100000 in
theorem page_Fill.calls (k : Nat) (a0 : Int) (A1 : Option Addr) (c1 : Nat) (l1 : List (S45)) (r1 : ByteArray) (r2 : Int) (w : World) (hr1 : Kd.C k45 w A1 l1.length l1) (hc1 : l1.length ≤ c1) (h : page_Fill.f k a0 l1 = some (r1, r2)) :
    Calls Try.prog 17 #[.int .i64 a0, .slice A1 l1.length c1] w fun e w' => e = .returned (.tuple #[.string r1, .int .i64 r2]) ∧ Below w.heap.size w w' := by
  have hu45 := Try.underlying45
  have HR1 := Aside0.mk hr1
  have HC1 := Aside0.mk hc1
  clear hr1 hc1
  have HB := Aside0.mk (Below.refl w.heap.size w)
  have H : (page_Fill.l0 k a0 l1 l1 (l1.length : Int) 0) = some (r1, r2) := h
  clear h
  have H' := Aside0.mk H
  clear H
  go_enter Try.func17, Try.ntmps17
  go_wp2
  repeat (go_quiet (fail); try go_wp2)
  go_loopg [10] k (fun kq v10 w' => ∃ (x10_1 : Int), v10 = .int .i64 x10_1 ∧ Aside0 (page_Fill.l0 kq a0 l1 l1 (l1.length : Int) x10_1 = some (r1, r2)) ∧ Aside0 (kq ≤ k) ∧ Aside0 (Below w.heap.size w w'))
  case atStart => exact ⟨(0), (by first | rfl | (simp; done) | (simp [*]; done)), H', ⟨Nat.le_refl _⟩, ⟨by repeat (first | (with_reducible first | exact HB.out | apply below_alloc | apply pw_below_drewN | apply below_drew1) | exact HB.out)⟩⟩
  case round =>
    clear H'
    try clear c1
    try clear p2
    obtain ⟨x10_1, rfl, HA, HK1, HB⟩ := hrel
    cases gk with
    | zero => exact absurd HA.out (by simp [page_Fill.l0])
    | succ k1 =>
      have H := HA.out
      clear HA
      simp only [page_Fill.l0] at H
      by_cases c3 : x10_1 < (l1.length : Int)
      · rw [if_pos c3] at H
        have c3b0 : decide (x10_1 < (l1.length : Int)) = true := decide_eq_true c3
        clear c3
        by_cases c4 : 0 ≤ x10_1
        · rw [if_pos c4] at H
          have c4b0 : decide (0 ≤ x10_1) = true := decide_eq_true c4
          clear c4
          by_cases c5 : x10_1 < (l1.length : Int)
          · rw [if_pos c5] at H
            have c5b0 : decide (x10_1 < (l1.length : Int)) = true := decide_eq_true c5
            clear c5
            replace H := Option.bind_eq_some_iff.mp H
            obtain ⟨t125, A60, H⟩ := H
            replace H : (if t125 = true then (if ((rd_T45 l1 x10_1).f1).toList = ([] : List UInt8) then (some ((⟨#[]⟩ : ByteArray), 1)) else (if x10_1 > 0 then (if 0 ≤ (wrap64 (x10_1 - 1)) then (if (wrap64 (x10_1 - 1)) < (l1.length : Int) then (if ((rd_T45 l1 (wrap64 (x10_1 - 1))).f0) ≥ ((rd_T45 l1 x10_1).f0) then (some ((⟨#[]⟩ : ByteArray), 1)) else (page_Fill.l0 k1 a0 l1 l1 (l1.length : Int) (wrap64 (x10_1 + 1)))) else (none)) else (none)) else (page_Fill.l0 k1 a0 l1 l1 (l1.length : Int) (wrap64 (x10_1 + 1))))) else (some ((⟨#[]⟩ : ByteArray), 1))) = some (r1, r2) := H
            have A6 := Aside0.mk A60
            clear A60
            by_cases c7 : t125 = true
            · subst c7
              have H1 : (if ((rd_T45 l1 x10_1).f1).toList = ([] : List UInt8) then (some ((⟨#[]⟩ : ByteArray), 1)) else (if x10_1 > 0 then (if 0 ≤ (wrap64 (x10_1 - 1)) then (if (wrap64 (x10_1 - 1)) < (l1.length : Int) then (if ((rd_T45 l1 (wrap64 (x10_1 - 1))).f0) ≥ ((rd_T45 l1 x10_1).f0) then (some ((⟨#[]⟩ : ByteArray), 1)) else (page_Fill.l0 k1 a0 l1 l1 (l1.length : Int) (wrap64 (x10_1 + 1)))) else (none)) else (none)) else (page_Fill.l0 k1 a0 l1 l1 (l1.length : Int) (wrap64 (x10_1 + 1))))) = some (r1, r2) := by rw [if_pos rfl] at H; exact H
              clear H
              have H := H1
              clear H1
              by_cases c8 : ((rd_T45 l1 x10_1).f1).toList = ([] : List UInt8)
              · rw [if_pos c8] at H
                have c8b0 : (((rd_T45 l1 x10_1).f1).toList == ([] : List UInt8)) = true := beq_iff_eq.mpr c8
                have c8b1 : (((rd_T45 l1 x10_1).f1).toList != ([] : List UInt8)) = false := bne_eq_false_iff_eq.mpr c8
                clear c8
                simp only [Option.some.injEq, Prod.mk.injEq] at H
                obtain ⟨rfl, rfl⟩ := H
                have p123 : 0 ≤ (x10_1 : Int) := of_decide_eq_true (by first | (with_reducible assumption) | assumption)
                have q123 : x10_1 < (l1.length : Int) := of_decide_eq_true (by first | (with_reducible assumption) | assumption)
                obtain ⟨ad123, e123, hx123_0, hx123_1⟩ := at_T45 HR1.out x10_1 p123 q123
                cases e123
                replace hx123_0 := (HB.out.cell (World.block_lt_of_cell? w _ hx123_0)).trans hx123_0
                replace hx123_1 := (HB.out.cell (World.block_lt_of_cell? w _ hx123_1)).trans hx123_1
                replace p123 := eq_true p123
                replace q123 := eq_true q123
                go_wp2_with (first | ((with_reducible refine gate_dst (N := 7) rfl ?_); refine box_event ?hg (N := 7) ?hd (cs := #[.int .i64 0, .string (⟨#[]⟩ : ByteArray)]) (t := 45) ?hr ?_; (case hd => rfl); (case hg => rfl); (case hr => first | (go_simp; done) | (go_simp; rfl)); intro gb124 hg w9 hbox hb; have n0_ := Aside0.mk (below_step (by repeat (first | (with_reducible first | exact HB.out | apply below_alloc | apply pw_below_drewN | apply below_drew1) | exact HB.out)) hb); have n1_ := Aside0.mk (hbox); have n2_ := Aside0.mk ((by rw [hg]; exact (below_size (by repeat (first | (with_reducible first | exact HB.out | apply below_alloc | apply pw_below_drewN | apply below_drew1) | exact HB.out))) : w.heap.size ≤ gb124)); have n3_ := Aside0.mk ((by rw [hg]; exact (below_size (by repeat (first | (with_reducible first | exact HB.out | apply below_alloc | apply pw_below_drewN | apply below_drew1) | exact HB.out))) : w.heap.size ≤ gb124)); clear HB; have HB := n0_; have BK124 := n1_; have GW124 := n2_; have GE124 := n3_; clear n0_ n1_ n2_ n3_; clear hb hbox hg; have hcz10_0 : w9.cell? ⟨gb124, 0, none⟩ = some (.int .i64 0) := (blk_cell BK124.out 0).trans rfl; have hcz10_1 : w9.cell? ⟨gb124, 1, none⟩ = some (.string (⟨#[]⟩ : ByteArray)) := (blk_cell BK124.out 1).trans rfl; have hfz10_0 := blk_frozen BK124.out 0; have hfz10_1 := blk_frozen BK124.out 1) | (go_at_call 52; (with_reducible refine (page_line.calls ((rd_T45 l1 x10_1).f0) true _ A6.out).mono ?_); rintro e w' ⟨rfl, ⟨nd, rfl⟩⟩; (try first | exact ⟨rfl, _, World.drewN_drewN _ _ _⟩ | exact ⟨rfl, _, Eq.trans (World.drewN_drewN _ _ _) (congrArg (World.drewN _) (Nat.add_assoc _ _ _))⟩)))
                repeat (go_quiet (first | ((with_reducible refine gate_dst (N := 7) rfl ?_); refine box_event ?hg (N := 7) ?hd (cs := #[.int .i64 0, .string (⟨#[]⟩ : ByteArray)]) (t := 45) ?hr ?_; (case hd => rfl); (case hg => rfl); (case hr => first | (go_simp; done) | (go_simp; rfl)); intro gb124 hg w9 hbox hb; have n0_ := Aside0.mk (below_step (by repeat (first | (with_reducible first | exact HB.out | apply below_alloc | apply pw_below_drewN | apply below_drew1) | exact HB.out)) hb); have n1_ := Aside0.mk (hbox); have n2_ := Aside0.mk ((by rw [hg]; exact (below_size (by repeat (first | (with_reducible first | exact HB.out | apply below_alloc | apply pw_below_drewN | apply below_drew1) | exact HB.out))) : w.heap.size ≤ gb124)); have n3_ := Aside0.mk ((by rw [hg]; exact (below_size (by repeat (first | (with_reducible first | exact HB.out | apply below_alloc | apply pw_below_drewN | apply below_drew1) | exact HB.out))) : w.heap.size ≤ gb124)); clear HB; have HB := n0_; have BK124 := n1_; have GW124 := n2_; have GE124 := n3_; clear n0_ n1_ n2_ n3_; clear hb hbox hg; have hcz10_0 : w9.cell? ⟨gb124, 0, none⟩ = some (.int .i64 0) := (blk_cell BK124.out 0).trans rfl; have hcz10_1 : w9.cell? ⟨gb124, 1, none⟩ = some (.string (⟨#[]⟩ : ByteArray)) := (blk_cell BK124.out 1).trans rfl; have hfz10_0 := blk_frozen BK124.out 0; have hfz10_1 := blk_frozen BK124.out 1) | (go_at_call 52; (with_reducible refine (page_line.calls ((rd_T45 l1 x10_1).f0) true _ A6.out).mono ?_); rintro e w' ⟨rfl, ⟨nd, rfl⟩⟩; (try first | exact ⟨rfl, _, World.drewN_drewN _ _ _⟩ | exact ⟨rfl, _, Eq.trans (World.drewN_drewN _ _ _) (congrArg (World.drewN _) (Nat.add_assoc _ _ _))⟩))); try go_wp2_with (first | ((with_reducible refine gate_dst (N := 7) rfl ?_); refine box_event ?hg (N := 7) ?hd (cs := #[.int .i64 0, .string (⟨#[]⟩ : ByteArray)]) (t := 45) ?hr ?_; (case hd => rfl); (case hg => rfl); (case hr => first | (go_simp; done) | (go_simp; rfl)); intro gb124 hg w9 hbox hb; have n0_ := Aside0.mk (below_step (by repeat (first | (with_reducible first | exact HB.out | apply below_alloc | apply pw_below_drewN | apply below_drew1) | exact HB.out)) hb); have n1_ := Aside0.mk (hbox); have n2_ := Aside0.mk ((by rw [hg]; exact (below_size (by repeat (first | (with_reducible first | exact HB.out | apply below_alloc | apply pw_below_drewN | apply below_drew1) | exact HB.out))) : w.heap.size ≤ gb124)); have n3_ := Aside0.mk ((by rw [hg]; exact (below_size (by repeat (first | (with_reducible first | exact HB.out | apply below_alloc | apply pw_below_drewN | apply below_drew1) | exact HB.out))) : w.heap.size ≤ gb124)); clear HB; have HB := n0_; have BK124 := n1_; have GW124 := n2_; have GE124 := n3_; clear n0_ n1_ n2_ n3_; clear hb hbox hg; have hcz10_0 : w9.cell? ⟨gb124, 0, none⟩ = some (.int .i64 0) := (blk_cell BK124.out 0).trans rfl; have hcz10_1 : w9.cell? ⟨gb124, 1, none⟩ = some (.string (⟨#[]⟩ : ByteArray)) := (blk_cell BK124.out 1).trans rfl; have hfz10_0 := blk_frozen BK124.out 0; have hfz10_1 := blk_frozen BK124.out 1) | (go_at_call 52; (with_reducible refine (page_line.calls ((rd_T45 l1 x10_1).f0) true _ A6.out).mono ?_); rintro e w' ⟨rfl, ⟨nd, rfl⟩⟩; (try first | exact ⟨rfl, _, World.drewN_drewN _ _ _⟩ | exact ⟨rfl, _, Eq.trans (World.drewN_drewN _ _ _) (congrArg (World.drewN _) (Nat.add_assoc _ _ _))⟩))))
                go_ret2
                exact ⟨by first | rfl | (simp [errW_none, errW_some] <;> rfl) | (simp [*, errW_none, errW_some] <;> rfl), by repeat (first | (with_reducible first | exact HB.out | apply below_alloc | apply pw_below_drewN | apply below_drew1 | refine below_set ?_ GE124.out) | exact HB.out)⟩
              · rw [if_neg c8] at H
                have c8b0 : (((rd_T45 l1 x10_1).f1).toList == ([] : List UInt8)) = false := beq_eq_false_iff_ne.mpr c8
                have c8b1 : (((rd_T45 l1 x10_1).f1).toList != ([] : List UInt8)) = true := bne_iff_ne.mpr c8
                by_cases c11 : x10_1 > 0
                · rw [if_pos c11] at H
                  have c11b0 : decide (0 < x10_1) = true := decide_eq_true c11
                  clear c11
                  obtain ⟨ji12, hji12⟩ : ∃ j_ : Int, (wrap64 (x10_1 - 1)) = j_ := ⟨_, rfl⟩
                  replace H : (if 0 ≤ (ji12) then (if (ji12) < (l1.length : Int) then (if ((rd_T45 l1 (ji12)).f0) ≥ ((rd_T45 l1 x10_1).f0) then (some ((⟨#[]⟩ : ByteArray), 1)) else (page_Fill.l0 k1 a0 l1 l1 (l1.length : Int) (wrap64 (x10_1 + 1)))) else (none)) else (none)) = some (r1, r2) := by first | (rw [hji12] at H; exact H) | (simp only [hji12] at H ⊢; exact H)
                  (try rw [hji12] at A6)
                  have hji12w : (IntKind.i64.wrap (x10_1 - 1)) = ji12 := (i64_w _).trans hji12
                  by_cases c13 : 0 ≤ (ji12)
                  · rw [if_pos c13] at H
                    have c13b0 : decide (0 ≤ (ji12)) = true := decide_eq_true c13
                    clear c13
                    by_cases c14 : (ji12) < (l1.length : Int)
                    · rw [if_pos c14] at H
                      have c14b0 : decide ((ji12) < (l1.length : Int)) = true := decide_eq_true c14
                      clear c14
                      by_cases c15 : ((rd_T45 l1 (ji12)).f0) ≥ ((rd_T45 l1 x10_1).f0)
                      · rw [if_pos c15] at H
                        have c15b0 : decide (((rd_T45 l1 x10_1).f0) ≤ ((rd_T45 l1 (ji12)).f0)) = true := decide_eq_true c15
                        clear c15
                        simp only [Option.some.injEq, Prod.mk.injEq] at H
                        obtain ⟨rfl, rfl⟩ := H
                        have p123 : 0 ≤ (x10_1 : Int) := of_decide_eq_true (by first | (with_reducible assumption) | assumption)
                        have q123 : x10_1 < (l1.length : Int) := of_decide_eq_true (by first | (with_reducible assumption) | assumption)
                        obtain ⟨ad123, e123, hx123_0, hx123_1⟩ := at_T45 HR1.out x10_1 p123 q123
                        cases e123
                        replace hx123_0 := (HB.out.cell (World.block_lt_of_cell? w _ hx123_0)).trans hx123_0
                        replace hx123_1 := (HB.out.cell (World.block_lt_of_cell? w _ hx123_1)).trans hx123_1
                        replace p123 := eq_true p123
                        replace q123 := eq_true q123
                        go_wp2_with (first | ((with_reducible refine gate_dst (N := 7) rfl ?_); refine box_event ?hg (N := 7) ?hd (cs := #[.int .i64 0, .string (⟨#[]⟩ : ByteArray)]) (t := 45) ?hr ?_; (case hd => rfl); (case hg => rfl); (case hr => first | (go_simp; done) | (go_simp; rfl)); intro gb124 hg w16 hbox hb; have n0_ := Aside0.mk (below_step (by repeat (first | (with_reducible first | exact HB.out | apply below_alloc | apply pw_below_drewN | apply below_drew1) | exact HB.out)) hb); have n1_ := Aside0.mk (hbox); have n2_ := Aside0.mk ((by rw [hg]; exact (below_size (by repeat (first | (with_reducible first | exact HB.out | apply below_alloc | apply pw_below_drewN | apply below_drew1) | exact HB.out))) : w.heap.size ≤ gb124)); have n3_ := Aside0.mk ((by rw [hg]; exact (below_size (by repeat (first | (with_reducible first | exact HB.out | apply below_alloc | apply pw_below_drewN | apply below_drew1) | exact HB.out))) : w.heap.size ≤ gb124)); clear HB; have HB := n0_; have BK124 := n1_; have GW124 := n2_; have GE124 := n3_; clear n0_ n1_ n2_ n3_; clear hb hbox hg; have hcz17_0 : w16.cell? ⟨gb124, 0, none⟩ = some (.int .i64 0) := (blk_cell BK124.out 0).trans rfl; have hcz17_1 : w16.cell? ⟨gb124, 1, none⟩ = some (.string (⟨#[]⟩ : ByteArray)) := (blk_cell BK124.out 1).trans rfl; have hfz17_0 := blk_frozen BK124.out 0; have hfz17_1 := blk_frozen BK124.out 1) | (go_at_call 52; (with_reducible refine (page_line.calls ((rd_T45 l1 x10_1).f0) true _ A6.out).mono ?_); rintro e w' ⟨rfl, ⟨nd, rfl⟩⟩; (try first | exact ⟨rfl, _, World.drewN_drewN _ _ _⟩ | exact ⟨rfl, _, Eq.trans (World.drewN_drewN _ _ _) (congrArg (World.drewN _) (Nat.add_assoc _ _ _))⟩); have p126 : 0 ≤ ((ji12) : Int) := of_decide_eq_true (by first | (with_reducible assumption) | assumption); have q126 : (ji12) < (l1.length : Int) := of_decide_eq_true (by first | (with_reducible assumption) | assumption); obtain ⟨ad126, e126, hx126_0, hx126_1⟩ := at_T45 HR1.out (ji12) p126 q126; obtain rfl : ad123 = ad126 := (by injection e126); have hn126_0 : ad123.block ≠ gb124 := Nat.ne_of_lt (Nat.lt_of_lt_of_le (by have := World.block_lt_of_cell? _ _ hx126_0; first | rwa [add_block] at this | exact this) GW124.out); have hn126_1 : ad123.block ≠ gb124 := Nat.ne_of_lt (Nat.lt_of_lt_of_le (by have := World.block_lt_of_cell? _ _ hx126_0; first | rwa [add_block] at this | exact this) GW124.out); replace hx126_0 := (HB.out.cell (World.block_lt_of_cell? w _ hx126_0)).trans hx126_0; replace hx126_1 := (HB.out.cell (World.block_lt_of_cell? w _ hx126_1)).trans hx126_1; replace hx126_0 := (cell_far (p := ⟨gb124, 0, none⟩) (by first | (rw [add_block]; exact hn126_0) | (show (Addr.add _ _).block ≠ _; rw [add_block]; exact hn126_0) | exact hn126_0) (.int .i64 ((rd_T45 l1 x10_1).f0))).trans hx126_0; replace hx126_1 := (cell_far (p := ⟨gb124, 0, none⟩) (by first | (rw [add_block]; exact hn126_0) | (show (Addr.add _ _).block ≠ _; rw [add_block]; exact hn126_0) | exact hn126_0) (.int .i64 ((rd_T45 l1 x10_1).f0))).trans hx126_1; replace hx126_0 := (cell_far (p := ⟨gb124, 1, none⟩) (by first | (rw [add_block]; exact hn126_1) | (show (Addr.add _ _).block ≠ _; rw [add_block]; exact hn126_1) | exact hn126_1) (.string ((rd_T45 l1 x10_1).f1))).trans hx126_0; replace hx126_1 := (cell_far (p := ⟨gb124, 1, none⟩) (by first | (rw [add_block]; exact hn126_1) | (show (Addr.add _ _).block ≠ _; rw [add_block]; exact hn126_1) | exact hn126_1) (.string ((rd_T45 l1 x10_1).f1))).trans hx126_1; (try have hy126_0 := fun (n_ : Nat) => (show ((((w16.drewN n_).setCell ⟨gb124, 0, none⟩ (.int .i64 ((rd_T45 l1 x10_1).f0))).setCell ⟨gb124, 1, none⟩ (.string ((rd_T45 l1 x10_1).f1)))).cell? _ = some _ from hx126_0)); (try have hy126_1 := fun (n_ : Nat) => (show ((((w16.drewN n_).setCell ⟨gb124, 0, none⟩ (.int .i64 ((rd_T45 l1 x10_1).f0))).setCell ⟨gb124, 1, none⟩ (.string ((rd_T45 l1 x10_1).f1)))).cell? _ = some _ from hx126_1)); clear hn126_0; clear hn126_1; replace p126 := eq_true p126; replace q126 := eq_true q126))
                        repeat (go_quiet (first | ((with_reducible refine gate_dst (N := 7) rfl ?_); refine box_event ?hg (N := 7) ?hd (cs := #[.int .i64 0, .string (⟨#[]⟩ : ByteArray)]) (t := 45) ?hr ?_; (case hd => rfl); (case hg => rfl); (case hr => first | (go_simp; done) | (go_simp; rfl)); intro gb124 hg w16 hbox hb; have n0_ := Aside0.mk (below_step (by repeat (first | (with_reducible first | exact HB.out | apply below_alloc | apply pw_below_drewN | apply below_drew1) | exact HB.out)) hb); have n1_ := Aside0.mk (hbox); have n2_ := Aside0.mk ((by rw [hg]; exact (below_size (by repeat (first | (with_reducible first | exact HB.out | apply below_alloc | apply pw_below_drewN | apply below_drew1) | exact HB.out))) : w.heap.size ≤ gb124)); have n3_ := Aside0.mk ((by rw [hg]; exact (below_size (by repeat (first | (with_reducible first | exact HB.out | apply below_alloc | apply pw_below_drewN | apply below_drew1) | exact HB.out))) : w.heap.size ≤ gb124)); clear HB; have HB := n0_; have BK124 := n1_; have GW124 := n2_; have GE124 := n3_; clear n0_ n1_ n2_ n3_; clear hb hbox hg; have hcz17_0 : w16.cell? ⟨gb124, 0, none⟩ = some (.int .i64 0) := (blk_cell BK124.out 0).trans rfl; have hcz17_1 : w16.cell? ⟨gb124, 1, none⟩ = some (.string (⟨#[]⟩ : ByteArray)) := (blk_cell BK124.out 1).trans rfl; have hfz17_0 := blk_frozen BK124.out 0; have hfz17_1 := blk_frozen BK124.out 1) | (go_at_call 52; (with_reducible refine (page_line.calls ((rd_T45 l1 x10_1).f0) true _ A6.out).mono ?_); rintro e w' ⟨rfl, ⟨nd, rfl⟩⟩; (try first | exact ⟨rfl, _, World.drewN_drewN _ _ _⟩ | exact ⟨rfl, _, Eq.trans (World.drewN_drewN _ _ _) (congrArg (World.drewN _) (Nat.add_assoc _ _ _))⟩); have p126 : 0 ≤ ((ji12) : Int) := of_decide_eq_true (by first | (with_reducible assumption) | assumption); have q126 : (ji12) < (l1.length : Int) := of_decide_eq_true (by first | (with_reducible assumption) | assumption); obtain ⟨ad126, e126, hx126_0, hx126_1⟩ := at_T45 HR1.out (ji12) p126 q126; obtain rfl : ad123 = ad126 := (by injection e126); have hn126_0 : ad123.block ≠ gb124 := Nat.ne_of_lt (Nat.lt_of_lt_of_le (by have := World.block_lt_of_cell? _ _ hx126_0; first | rwa [add_block] at this | exact this) GW124.out); have hn126_1 : ad123.block ≠ gb124 := Nat.ne_of_lt (Nat.lt_of_lt_of_le (by have := World.block_lt_of_cell? _ _ hx126_0; first | rwa [add_block] at this | exact this) GW124.out); replace hx126_0 := (HB.out.cell (World.block_lt_of_cell? w _ hx126_0)).trans hx126_0; replace hx126_1 := (HB.out.cell (World.block_lt_of_cell? w _ hx126_1)).trans hx126_1; replace hx126_0 := (cell_far (p := ⟨gb124, 0, none⟩) (by first | (rw [add_block]; exact hn126_0) | (show (Addr.add _ _).block ≠ _; rw [add_block]; exact hn126_0) | exact hn126_0) (.int .i64 ((rd_T45 l1 x10_1).f0))).trans hx126_0; replace hx126_1 := (cell_far (p := ⟨gb124, 0, none⟩) (by first | (rw [add_block]; exact hn126_0) | (show (Addr.add _ _).block ≠ _; rw [add_block]; exact hn126_0) | exact hn126_0) (.int .i64 ((rd_T45 l1 x10_1).f0))).trans hx126_1; replace hx126_0 := (cell_far (p := ⟨gb124, 1, none⟩) (by first | (rw [add_block]; exact hn126_1) | (show (Addr.add _ _).block ≠ _; rw [add_block]; exact hn126_1) | exact hn126_1) (.string ((rd_T45 l1 x10_1).f1))).trans hx126_0; replace hx126_1 := (cell_far (p := ⟨gb124, 1, none⟩) (by first | (rw [add_block]; exact hn126_1) | (show (Addr.add _ _).block ≠ _; rw [add_block]; exact hn126_1) | exact hn126_1) (.string ((rd_T45 l1 x10_1).f1))).trans hx126_1; (try have hy126_0 := fun (n_ : Nat) => (show ((((w16.drewN n_).setCell ⟨gb124, 0, none⟩ (.int .i64 ((rd_T45 l1 x10_1).f0))).setCell ⟨gb124, 1, none⟩ (.string ((rd_T45 l1 x10_1).f1)))).cell? _ = some _ from hx126_0)); (try have hy126_1 := fun (n_ : Nat) => (show ((((w16.drewN n_).setCell ⟨gb124, 0, none⟩ (.int .i64 ((rd_T45 l1 x10_1).f0))).setCell ⟨gb124, 1, none⟩ (.string ((rd_T45 l1 x10_1).f1)))).cell? _ = some _ from hx126_1)); clear hn126_0; clear hn126_1; replace p126 := eq_true p126; replace q126 := eq_true q126)); try go_wp2_with (first | ((with_reducible refine gate_dst (N := 7) rfl ?_); refine box_event ?hg (N := 7) ?hd (cs := #[.int .i64 0, .string (⟨#[]⟩ : ByteArray)]) (t := 45) ?hr ?_; (case hd => rfl); (case hg => rfl); (case hr => first | (go_simp; done) | (go_simp; rfl)); intro gb124 hg w16 hbox hb; have n0_ := Aside0.mk (below_step (by repeat (first | (with_reducible first | exact HB.out | apply below_alloc | apply pw_below_drewN | apply below_drew1) | exact HB.out)) hb); have n1_ := Aside0.mk (hbox); have n2_ := Aside0.mk ((by rw [hg]; exact (below_size (by repeat (first | (with_reducible first | exact HB.out | apply below_alloc | apply pw_below_drewN | apply below_drew1) | exact HB.out))) : w.heap.size ≤ gb124)); have n3_ := Aside0.mk ((by rw [hg]; exact (below_size (by repeat (first | (with_reducible first | exact HB.out | apply below_alloc | apply pw_below_drewN | apply below_drew1) | exact HB.out))) : w.heap.size ≤ gb124)); clear HB; have HB := n0_; have BK124 := n1_; have GW124 := n2_; have GE124 := n3_; clear n0_ n1_ n2_ n3_; clear hb hbox hg; have hcz17_0 : w16.cell? ⟨gb124, 0, none⟩ = some (.int .i64 0) := (blk_cell BK124.out 0).trans rfl; have hcz17_1 : w16.cell? ⟨gb124, 1, none⟩ = some (.string (⟨#[]⟩ : ByteArray)) := (blk_cell BK124.out 1).trans rfl; have hfz17_0 := blk_frozen BK124.out 0; have hfz17_1 := blk_frozen BK124.out 1) | (go_at_call 52; (with_reducible refine (page_line.calls ((rd_T45 l1 x10_1).f0) true _ A6.out).mono ?_); rintro e w' ⟨rfl, ⟨nd, rfl⟩⟩; (try first | exact ⟨rfl, _, World.drewN_drewN _ _ _⟩ | exact ⟨rfl, _, Eq.trans (World.drewN_drewN _ _ _) (congrArg (World.drewN _) (Nat.add_assoc _ _ _))⟩); have p126 : 0 ≤ ((ji12) : Int) := of_decide_eq_true (by first | (with_reducible assumption) | assumption); have q126 : (ji12) < (l1.length : Int) := of_decide_eq_true (by first | (with_reducible assumption) | assumption); obtain ⟨ad126, e126, hx126_0, hx126_1⟩ := at_T45 HR1.out (ji12) p126 q126; obtain rfl : ad123 = ad126 := (by injection e126); have hn126_0 : ad123.block ≠ gb124 := Nat.ne_of_lt (Nat.lt_of_lt_of_le (by have := World.block_lt_of_cell? _ _ hx126_0; first | rwa [add_block] at this | exact this) GW124.out); have hn126_1 : ad123.block ≠ gb124 := Nat.ne_of_lt (Nat.lt_of_lt_of_le (by have := World.block_lt_of_cell? _ _ hx126_0; first | rwa [add_block] at this | exact this) GW124.out); replace hx126_0 := (HB.out.cell (World.block_lt_of_cell? w _ hx126_0)).trans hx126_0; replace hx126_1 := (HB.out.cell (World.block_lt_of_cell? w _ hx126_1)).trans hx126_1; replace hx126_0 := (cell_far (p := ⟨gb124, 0, none⟩) (by first | (rw [add_block]; exact hn126_0) | (show (Addr.add _ _).block ≠ _; rw [add_block]; exact hn126_0) | exact hn126_0) (.int .i64 ((rd_T45 l1 x10_1).f0))).trans hx126_0; replace hx126_1 := (cell_far (p := ⟨gb124, 0, none⟩) (by first | (rw [add_block]; exact hn126_0) | (show (Addr.add _ _).block ≠ _; rw [add_block]; exact hn126_0) | exact hn126_0) (.int .i64 ((rd_T45 l1 x10_1).f0))).trans hx126_1; replace hx126_0 := (cell_far (p := ⟨gb124, 1, none⟩) (by first | (rw [add_block]; exact hn126_1) | (show (Addr.add _ _).block ≠ _; rw [add_block]; exact hn126_1) | exact hn126_1) (.string ((rd_T45 l1 x10_1).f1))).trans hx126_0; replace hx126_1 := (cell_far (p := ⟨gb124, 1, none⟩) (by first | (rw [add_block]; exact hn126_1) | (show (Addr.add _ _).block ≠ _; rw [add_block]; exact hn126_1) | exact hn126_1) (.string ((rd_T45 l1 x10_1).f1))).trans hx126_1; (try have hy126_0 := fun (n_ : Nat) => (show ((((w16.drewN n_).setCell ⟨gb124, 0, none⟩ (.int .i64 ((rd_T45 l1 x10_1).f0))).setCell ⟨gb124, 1, none⟩ (.string ((rd_T45 l1 x10_1).f1)))).cell? _ = some _ from hx126_0)); (try have hy126_1 := fun (n_ : Nat) => (show ((((w16.drewN n_).setCell ⟨gb124, 0, none⟩ (.int .i64 ((rd_T45 l1 x10_1).f0))).setCell ⟨gb124, 1, none⟩ (.string ((rd_T45 l1 x10_1).f1)))).cell? _ = some _ from hx126_1)); clear hn126_0; clear hn126_1; replace p126 := eq_true p126; replace q126 := eq_true q126)))
                        go_ret2
                        exact ⟨by first | rfl | (simp [errW_none, errW_some] <;> rfl) | (simp only [← hji12]; first | rfl | (simp [errW_none, errW_some] <;> rfl)) | (simp [*, errW_none, errW_some] <;> rfl), by repeat (first | (with_reducible first | exact HB.out | apply below_alloc | apply pw_below_drewN | apply below_drew1 | refine below_set ?_ GE124.out) | exact HB.out)⟩
                      · rw [if_neg c15] at H
                        have c15b0 : decide (((rd_T45 l1 x10_1).f0) ≤ ((rd_T45 l1 (ji12)).f0)) = false := decide_eq_false c15
                        clear c15
                        have H' := Aside0.mk H
                        clear H
                        have p123 : 0 ≤ (x10_1 : Int) := of_decide_eq_true (by first | (with_reducible assumption) | assumption)
                        have q123 : x10_1 < (l1.length : Int) := of_decide_eq_true (by first | (with_reducible assumption) | assumption)
                        obtain ⟨ad123, e123, hx123_0, hx123_1⟩ := at_T45 HR1.out x10_1 p123 q123
                        cases e123
                        replace hx123_0 := (HB.out.cell (World.block_lt_of_cell? w _ hx123_0)).trans hx123_0
                        replace hx123_1 := (HB.out.cell (World.block_lt_of_cell? w _ hx123_1)).trans hx123_1
                        replace p123 := eq_true p123
                        replace q123 := eq_true q123
                        go_wp2_with (first | ((with_reducible refine gate_dst (N := 7) rfl ?_); refine box_event ?hg (N := 7) ?hd (cs := #[.int .i64 0, .string (⟨#[]⟩ : ByteArray)]) (t := 45) ?hr ?_; (case hd => rfl); (case hg => rfl); (case hr => first | (go_simp; done) | (go_simp; rfl)); intro gb124 hg w18 hbox hb; have n0_ := Aside0.mk (below_step (by repeat (first | (with_reducible first | exact HB.out | apply below_alloc | apply pw_below_drewN | apply below_drew1) | exact HB.out)) hb); have n1_ := Aside0.mk (hbox); have n2_ := Aside0.mk ((by rw [hg]; exact (below_size (by repeat (first | (with_reducible first | exact HB.out | apply below_alloc | apply pw_below_drewN | apply below_drew1) | exact HB.out))) : w.heap.size ≤ gb124)); have n3_ := Aside0.mk ((by rw [hg]; exact (below_size (by repeat (first | (with_reducible first | exact HB.out | apply below_alloc | apply pw_below_drewN | apply below_drew1) | exact HB.out))) : w.heap.size ≤ gb124)); clear HB; have HB := n0_; have BK124 := n1_; have GW124 := n2_; have GE124 := n3_; clear n0_ n1_ n2_ n3_; clear hb hbox hg; have hcz19_0 : w18.cell? ⟨gb124, 0, none⟩ = some (.int .i64 0) := (blk_cell BK124.out 0).trans rfl; have hcz19_1 : w18.cell? ⟨gb124, 1, none⟩ = some (.string (⟨#[]⟩ : ByteArray)) := (blk_cell BK124.out 1).trans rfl; have hfz19_0 := blk_frozen BK124.out 0; have hfz19_1 := blk_frozen BK124.out 1) | (go_at_call 52; (with_reducible refine (page_line.calls ((rd_T45 l1 x10_1).f0) true _ A6.out).mono ?_); rintro e w' ⟨rfl, ⟨nd, rfl⟩⟩; (try first | exact ⟨rfl, _, World.drewN_drewN _ _ _⟩ | exact ⟨rfl, _, Eq.trans (World.drewN_drewN _ _ _) (congrArg (World.drewN _) (Nat.add_assoc _ _ _))⟩); have p126 : 0 ≤ ((ji12) : Int) := of_decide_eq_true (by first | (with_reducible assumption) | assumption); have q126 : (ji12) < (l1.length : Int) := of_decide_eq_true (by first | (with_reducible assumption) | assumption); obtain ⟨ad126, e126, hx126_0, hx126_1⟩ := at_T45 HR1.out (ji12) p126 q126; obtain rfl : ad123 = ad126 := (by injection e126); have hn126_0 : ad123.block ≠ gb124 := Nat.ne_of_lt (Nat.lt_of_lt_of_le (by have := World.block_lt_of_cell? _ _ hx126_0; first | rwa [add_block] at this | exact this) GW124.out); have hn126_1 : ad123.block ≠ gb124 := Nat.ne_of_lt (Nat.lt_of_lt_of_le (by have := World.block_lt_of_cell? _ _ hx126_0; first | rwa [add_block] at this | exact this) GW124.out); replace hx126_0 := (HB.out.cell (World.block_lt_of_cell? w _ hx126_0)).trans hx126_0; replace hx126_1 := (HB.out.cell (World.block_lt_of_cell? w _ hx126_1)).trans hx126_1; replace hx126_0 := (cell_far (p := ⟨gb124, 0, none⟩) (by first | (rw [add_block]; exact hn126_0) | (show (Addr.add _ _).block ≠ _; rw [add_block]; exact hn126_0) | exact hn126_0) (.int .i64 ((rd_T45 l1 x10_1).f0))).trans hx126_0; replace hx126_1 := (cell_far (p := ⟨gb124, 0, none⟩) (by first | (rw [add_block]; exact hn126_0) | (show (Addr.add _ _).block ≠ _; rw [add_block]; exact hn126_0) | exact hn126_0) (.int .i64 ((rd_T45 l1 x10_1).f0))).trans hx126_1; replace hx126_0 := (cell_far (p := ⟨gb124, 1, none⟩) (by first | (rw [add_block]; exact hn126_1) | (show (Addr.add _ _).block ≠ _; rw [add_block]; exact hn126_1) | exact hn126_1) (.string ((rd_T45 l1 x10_1).f1))).trans hx126_0; replace hx126_1 := (cell_far (p := ⟨gb124, 1, none⟩) (by first | (rw [add_block]; exact hn126_1) | (show (Addr.add _ _).block ≠ _; rw [add_block]; exact hn126_1) | exact hn126_1) (.string ((rd_T45 l1 x10_1).f1))).trans hx126_1; (try have hy126_0 := fun (n_ : Nat) => (show ((((w18.drewN n_).setCell ⟨gb124, 0, none⟩ (.int .i64 ((rd_T45 l1 x10_1).f0))).setCell ⟨gb124, 1, none⟩ (.string ((rd_T45 l1 x10_1).f1)))).cell? _ = some _ from hx126_0)); (try have hy126_1 := fun (n_ : Nat) => (show ((((w18.drewN n_).setCell ⟨gb124, 0, none⟩ (.int .i64 ((rd_T45 l1 x10_1).f0))).setCell ⟨gb124, 1, none⟩ (.string ((rd_T45 l1 x10_1).f1)))).cell? _ = some _ from hx126_1)); clear hn126_0; clear hn126_1; replace p126 := eq_true p126; replace q126 := eq_true q126))
                        repeat (go_quiet (first | ((with_reducible refine gate_dst (N := 7) rfl ?_); refine box_event ?hg (N := 7) ?hd (cs := #[.int .i64 0, .string (⟨#[]⟩ : ByteArray)]) (t := 45) ?hr ?_; (case hd => rfl); (case hg => rfl); (case hr => first | (go_simp; done) | (go_simp; rfl)); intro gb124 hg w18 hbox hb; have n0_ := Aside0.mk (below_step (by repeat (first | (with_reducible first | exact HB.out | apply below_alloc | apply pw_below_drewN | apply below_drew1) | exact HB.out)) hb); have n1_ := Aside0.mk (hbox); have n2_ := Aside0.mk ((by rw [hg]; exact (below_size (by repeat (first | (with_reducible first | exact HB.out | apply below_alloc | apply pw_below_drewN | apply below_drew1) | exact HB.out))) : w.heap.size ≤ gb124)); have n3_ := Aside0.mk ((by rw [hg]; exact (below_size (by repeat (first | (with_reducible first | exact HB.out | apply below_alloc | apply pw_below_drewN | apply below_drew1) | exact HB.out))) : w.heap.size ≤ gb124)); clear HB; have HB := n0_; have BK124 := n1_; have GW124 := n2_; have GE124 := n3_; clear n0_ n1_ n2_ n3_; clear hb hbox hg; have hcz19_0 : w18.cell? ⟨gb124, 0, none⟩ = some (.int .i64 0) := (blk_cell BK124.out 0).trans rfl; have hcz19_1 : w18.cell? ⟨gb124, 1, none⟩ = some (.string (⟨#[]⟩ : ByteArray)) := (blk_cell BK124.out 1).trans rfl; have hfz19_0 := blk_frozen BK124.out 0; have hfz19_1 := blk_frozen BK124.out 1) | (go_at_call 52; (with_reducible refine (page_line.calls ((rd_T45 l1 x10_1).f0) true _ A6.out).mono ?_); rintro e w' ⟨rfl, ⟨nd, rfl⟩⟩; (try first | exact ⟨rfl, _, World.drewN_drewN _ _ _⟩ | exact ⟨rfl, _, Eq.trans (World.drewN_drewN _ _ _) (congrArg (World.drewN _) (Nat.add_assoc _ _ _))⟩); have p126 : 0 ≤ ((ji12) : Int) := of_decide_eq_true (by first | (with_reducible assumption) | assumption); have q126 : (ji12) < (l1.length : Int) := of_decide_eq_true (by first | (with_reducible assumption) | assumption); obtain ⟨ad126, e126, hx126_0, hx126_1⟩ := at_T45 HR1.out (ji12) p126 q126; obtain rfl : ad123 = ad126 := (by injection e126); have hn126_0 : ad123.block ≠ gb124 := Nat.ne_of_lt (Nat.lt_of_lt_of_le (by have := World.block_lt_of_cell? _ _ hx126_0; first | rwa [add_block] at this | exact this) GW124.out); have hn126_1 : ad123.block ≠ gb124 := Nat.ne_of_lt (Nat.lt_of_lt_of_le (by have := World.block_lt_of_cell? _ _ hx126_0; first | rwa [add_block] at this | exact this) GW124.out); replace hx126_0 := (HB.out.cell (World.block_lt_of_cell? w _ hx126_0)).trans hx126_0; replace hx126_1 := (HB.out.cell (World.block_lt_of_cell? w _ hx126_1)).trans hx126_1; replace hx126_0 := (cell_far (p := ⟨gb124, 0, none⟩) (by first | (rw [add_block]; exact hn126_0) | (show (Addr.add _ _).block ≠ _; rw [add_block]; exact hn126_0) | exact hn126_0) (.int .i64 ((rd_T45 l1 x10_1).f0))).trans hx126_0; replace hx126_1 := (cell_far (p := ⟨gb124, 0, none⟩) (by first | (rw [add_block]; exact hn126_0) | (show (Addr.add _ _).block ≠ _; rw [add_block]; exact hn126_0) | exact hn126_0) (.int .i64 ((rd_T45 l1 x10_1).f0))).trans hx126_1; replace hx126_0 := (cell_far (p := ⟨gb124, 1, none⟩) (by first | (rw [add_block]; exact hn126_1) | (show (Addr.add _ _).block ≠ _; rw [add_block]; exact hn126_1) | exact hn126_1) (.string ((rd_T45 l1 x10_1).f1))).trans hx126_0; replace hx126_1 := (cell_far (p := ⟨gb124, 1, none⟩) (by first | (rw [add_block]; exact hn126_1) | (show (Addr.add _ _).block ≠ _; rw [add_block]; exact hn126_1) | exact hn126_1) (.string ((rd_T45 l1 x10_1).f1))).trans hx126_1; (try have hy126_0 := fun (n_ : Nat) => (show ((((w18.drewN n_).setCell ⟨gb124, 0, none⟩ (.int .i64 ((rd_T45 l1 x10_1).f0))).setCell ⟨gb124, 1, none⟩ (.string ((rd_T45 l1 x10_1).f1)))).cell? _ = some _ from hx126_0)); (try have hy126_1 := fun (n_ : Nat) => (show ((((w18.drewN n_).setCell ⟨gb124, 0, none⟩ (.int .i64 ((rd_T45 l1 x10_1).f0))).setCell ⟨gb124, 1, none⟩ (.string ((rd_T45 l1 x10_1).f1)))).cell? _ = some _ from hx126_1)); clear hn126_0; clear hn126_1; replace p126 := eq_true p126; replace q126 := eq_true q126)); try go_wp2_with (first | ((with_reducible refine gate_dst (N := 7) rfl ?_); refine box_event ?hg (N := 7) ?hd (cs := #[.int .i64 0, .string (⟨#[]⟩ : ByteArray)]) (t := 45) ?hr ?_; (case hd => rfl); (case hg => rfl); (case hr => first | (go_simp; done) | (go_simp; rfl)); intro gb124 hg w18 hbox hb; have n0_ := Aside0.mk (below_step (by repeat (first | (with_reducible first | exact HB.out | apply below_alloc | apply pw_below_drewN | apply below_drew1) | exact HB.out)) hb); have n1_ := Aside0.mk (hbox); have n2_ := Aside0.mk ((by rw [hg]; exact (below_size (by repeat (first | (with_reducible first | exact HB.out | apply below_alloc | apply pw_below_drewN | apply below_drew1) | exact HB.out))) : w.heap.size ≤ gb124)); have n3_ := Aside0.mk ((by rw [hg]; exact (below_size (by repeat (first | (with_reducible first | exact HB.out | apply below_alloc | apply pw_below_drewN | apply below_drew1) | exact HB.out))) : w.heap.size ≤ gb124)); clear HB; have HB := n0_; have BK124 := n1_; have GW124 := n2_; have GE124 := n3_; clear n0_ n1_ n2_ n3_; clear hb hbox hg; have hcz19_0 : w18.cell? ⟨gb124, 0, none⟩ = some (.int .i64 0) := (blk_cell BK124.out 0).trans rfl; have hcz19_1 : w18.cell? ⟨gb124, 1, none⟩ = some (.string (⟨#[]⟩ : ByteArray)) := (blk_cell BK124.out 1).trans rfl; have hfz19_0 := blk_frozen BK124.out 0; have hfz19_1 := blk_frozen BK124.out 1) | (go_at_call 52; (with_reducible refine (page_line.calls ((rd_T45 l1 x10_1).f0) true _ A6.out).mono ?_); rintro e w' ⟨rfl, ⟨nd, rfl⟩⟩; (try first | exact ⟨rfl, _, World.drewN_drewN _ _ _⟩ | exact ⟨rfl, _, Eq.trans (World.drewN_drewN _ _ _) (congrArg (World.drewN _) (Nat.add_assoc _ _ _))⟩); have p126 : 0 ≤ ((ji12) : Int) := of_decide_eq_true (by first | (with_reducible assumption) | assumption); have q126 : (ji12) < (l1.length : Int) := of_decide_eq_true (by first | (with_reducible assumption) | assumption); obtain ⟨ad126, e126, hx126_0, hx126_1⟩ := at_T45 HR1.out (ji12) p126 q126; obtain rfl : ad123 = ad126 := (by injection e126); have hn126_0 : ad123.block ≠ gb124 := Nat.ne_of_lt (Nat.lt_of_lt_of_le (by have := World.block_lt_of_cell? _ _ hx126_0; first | rwa [add_block] at this | exact this) GW124.out); have hn126_1 : ad123.block ≠ gb124 := Nat.ne_of_lt (Nat.lt_of_lt_of_le (by have := World.block_lt_of_cell? _ _ hx126_0; first | rwa [add_block] at this | exact this) GW124.out); replace hx126_0 := (HB.out.cell (World.block_lt_of_cell? w _ hx126_0)).trans hx126_0; replace hx126_1 := (HB.out.cell (World.block_lt_of_cell? w _ hx126_1)).trans hx126_1; replace hx126_0 := (cell_far (p := ⟨gb124, 0, none⟩) (by first | (rw [add_block]; exact hn126_0) | (show (Addr.add _ _).block ≠ _; rw [add_block]; exact hn126_0) | exact hn126_0) (.int .i64 ((rd_T45 l1 x10_1).f0))).trans hx126_0; replace hx126_1 := (cell_far (p := ⟨gb124, 0, none⟩) (by first | (rw [add_block]; exact hn126_0) | (show (Addr.add _ _).block ≠ _; rw [add_block]; exact hn126_0) | exact hn126_0) (.int .i64 ((rd_T45 l1 x10_1).f0))).trans hx126_1; replace hx126_0 := (cell_far (p := ⟨gb124, 1, none⟩) (by first | (rw [add_block]; exact hn126_1) | (show (Addr.add _ _).block ≠ _; rw [add_block]; exact hn126_1) | exact hn126_1) (.string ((rd_T45 l1 x10_1).f1))).trans hx126_0; replace hx126_1 := (cell_far (p := ⟨gb124, 1, none⟩) (by first | (rw [add_block]; exact hn126_1) | (show (Addr.add _ _).block ≠ _; rw [add_block]; exact hn126_1) | exact hn126_1) (.string ((rd_T45 l1 x10_1).f1))).trans hx126_1; (try have hy126_0 := fun (n_ : Nat) => (show ((((w18.drewN n_).setCell ⟨gb124, 0, none⟩ (.int .i64 ((rd_T45 l1 x10_1).f0))).setCell ⟨gb124, 1, none⟩ (.string ((rd_T45 l1 x10_1).f1)))).cell? _ = some _ from hx126_0)); (try have hy126_1 := fun (n_ : Nat) => (show ((((w18.drewN n_).setCell ⟨gb124, 0, none⟩ (.int .i64 ((rd_T45 l1 x10_1).f0))).setCell ⟨gb124, 1, none⟩ (.string ((rd_T45 l1 x10_1).f1)))).cell? _ = some _ from hx126_1)); clear hn126_0; clear hn126_1; replace p126 := eq_true p126; replace q126 := eq_true q126)))
                        go_roundg k1
                        case measure => have := HK1.out; omega
                        case rel => exact ⟨(wrap64 (x10_1 + 1)), (by first | rfl | (simp; done) | (simp [*]; done)), H', ⟨by have := HK1.out; omega⟩, ⟨by repeat (first | (with_reducible first | exact HB.out | apply below_alloc | apply pw_below_drewN | apply below_drew1 | refine below_set ?_ GE124.out) | exact HB.out)⟩⟩
                    · rw [if_neg c14] at H
                      exact absurd H (by simp)
                  · rw [if_neg c13] at H
                    exact absurd H (by simp)
                · rw [if_neg c11] at H
                  have c11b0 : decide (0 < x10_1) = false := decide_eq_false c11
                  clear c11
                  have H' := Aside0.mk H
                  clear H
                  have p123 : 0 ≤ (x10_1 : Int) := of_decide_eq_true (by first | (with_reducible assumption) | assumption)
                  have q123 : x10_1 < (l1.length : Int) := of_decide_eq_true (by first | (with_reducible assumption) | assumption)
                  obtain ⟨ad123, e123, hx123_0, hx123_1⟩ := at_T45 HR1.out x10_1 p123 q123
                  cases e123
                  replace hx123_0 := (HB.out.cell (World.block_lt_of_cell? w _ hx123_0)).trans hx123_0
                  replace hx123_1 := (HB.out.cell (World.block_lt_of_cell? w _ hx123_1)).trans hx123_1
                  replace p123 := eq_true p123
                  replace q123 := eq_true q123
                  go_wp2_with (first | ((with_reducible refine gate_dst (N := 7) rfl ?_); refine box_event ?hg (N := 7) ?hd (cs := #[.int .i64 0, .string (⟨#[]⟩ : ByteArray)]) (t := 45) ?hr ?_; (case hd => rfl); (case hg => rfl); (case hr => first | (go_simp; done) | (go_simp; rfl)); intro gb124 hg w20 hbox hb; have n0_ := Aside0.mk (below_step (by repeat (first | (with_reducible first | exact HB.out | apply below_alloc | apply pw_below_drewN | apply below_drew1) | exact HB.out)) hb); have n1_ := Aside0.mk (hbox); have n2_ := Aside0.mk ((by rw [hg]; exact (below_size (by repeat (first | (with_reducible first | exact HB.out | apply below_alloc | apply pw_below_drewN | apply below_drew1) | exact HB.out))) : w.heap.size ≤ gb124)); have n3_ := Aside0.mk ((by rw [hg]; exact (below_size (by repeat (first | (with_reducible first | exact HB.out | apply below_alloc | apply pw_below_drewN | apply below_drew1) | exact HB.out))) : w.heap.size ≤ gb124)); clear HB; have HB := n0_; have BK124 := n1_; have GW124 := n2_; have GE124 := n3_; clear n0_ n1_ n2_ n3_; clear hb hbox hg; have hcz21_0 : w20.cell? ⟨gb124, 0, none⟩ = some (.int .i64 0) := (blk_cell BK124.out 0).trans rfl; have hcz21_1 : w20.cell? ⟨gb124, 1, none⟩ = some (.string (⟨#[]⟩ : ByteArray)) := (blk_cell BK124.out 1).trans rfl; have hfz21_0 := blk_frozen BK124.out 0; have hfz21_1 := blk_frozen BK124.out 1) | (go_at_call 52; (with_reducible refine (page_line.calls ((rd_T45 l1 x10_1).f0) true _ A6.out).mono ?_); rintro e w' ⟨rfl, ⟨nd, rfl⟩⟩; (try first | exact ⟨rfl, _, World.drewN_drewN _ _ _⟩ | exact ⟨rfl, _, Eq.trans (World.drewN_drewN _ _ _) (congrArg (World.drewN _) (Nat.add_assoc _ _ _))⟩)))
                  repeat (go_quiet (first | ((with_reducible refine gate_dst (N := 7) rfl ?_); refine box_event ?hg (N := 7) ?hd (cs := #[.int .i64 0, .string (⟨#[]⟩ : ByteArray)]) (t := 45) ?hr ?_; (case hd => rfl); (case hg => rfl); (case hr => first | (go_simp; done) | (go_simp; rfl)); intro gb124 hg w20 hbox hb; have n0_ := Aside0.mk (below_step (by repeat (first | (with_reducible first | exact HB.out | apply below_alloc | apply pw_below_drewN | apply below_drew1) | exact HB.out)) hb); have n1_ := Aside0.mk (hbox); have n2_ := Aside0.mk ((by rw [hg]; exact (below_size (by repeat (first | (with_reducible first | exact HB.out | apply below_alloc | apply pw_below_drewN | apply below_drew1) | exact HB.out))) : w.heap.size ≤ gb124)); have n3_ := Aside0.mk ((by rw [hg]; exact (below_size (by repeat (first | (with_reducible first | exact HB.out | apply below_alloc | apply pw_below_drewN | apply below_drew1) | exact HB.out))) : w.heap.size ≤ gb124)); clear HB; have HB := n0_; have BK124 := n1_; have GW124 := n2_; have GE124 := n3_; clear n0_ n1_ n2_ n3_; clear hb hbox hg; have hcz21_0 : w20.cell? ⟨gb124, 0, none⟩ = some (.int .i64 0) := (blk_cell BK124.out 0).trans rfl; have hcz21_1 : w20.cell? ⟨gb124, 1, none⟩ = some (.string (⟨#[]⟩ : ByteArray)) := (blk_cell BK124.out 1).trans rfl; have hfz21_0 := blk_frozen BK124.out 0; have hfz21_1 := blk_frozen BK124.out 1) | (go_at_call 52; (with_reducible refine (page_line.calls ((rd_T45 l1 x10_1).f0) true _ A6.out).mono ?_); rintro e w' ⟨rfl, ⟨nd, rfl⟩⟩; (try first | exact ⟨rfl, _, World.drewN_drewN _ _ _⟩ | exact ⟨rfl, _, Eq.trans (World.drewN_drewN _ _ _) (congrArg (World.drewN _) (Nat.add_assoc _ _ _))⟩))); try go_wp2_with (first | ((with_reducible refine gate_dst (N := 7) rfl ?_); refine box_event ?hg (N := 7) ?hd (cs := #[.int .i64 0, .string (⟨#[]⟩ : ByteArray)]) (t := 45) ?hr ?_; (case hd => rfl); (case hg => rfl); (case hr => first | (go_simp; done) | (go_simp; rfl)); intro gb124 hg w20 hbox hb; have n0_ := Aside0.mk (below_step (by repeat (first | (with_reducible first | exact HB.out | apply below_alloc | apply pw_below_drewN | apply below_drew1) | exact HB.out)) hb); have n1_ := Aside0.mk (hbox); have n2_ := Aside0.mk ((by rw [hg]; exact (below_size (by repeat (first | (with_reducible first | exact HB.out | apply below_alloc | apply pw_below_drewN | apply below_drew1) | exact HB.out))) : w.heap.size ≤ gb124)); have n3_ := Aside0.mk ((by rw [hg]; exact (below_size (by repeat (first | (with_reducible first | exact HB.out | apply below_alloc | apply pw_below_drewN | apply below_drew1) | exact HB.out))) : w.heap.size ≤ gb124)); clear HB; have HB := n0_; have BK124 := n1_; have GW124 := n2_; have GE124 := n3_; clear n0_ n1_ n2_ n3_; clear hb hbox hg; have hcz21_0 : w20.cell? ⟨gb124, 0, none⟩ = some (.int .i64 0) := (blk_cell BK124.out 0).trans rfl; have hcz21_1 : w20.cell? ⟨gb124, 1, none⟩ = some (.string (⟨#[]⟩ : ByteArray)) := (blk_cell BK124.out 1).trans rfl; have hfz21_0 := blk_frozen BK124.out 0; have hfz21_1 := blk_frozen BK124.out 1) | (go_at_call 52; (with_reducible refine (page_line.calls ((rd_T45 l1 x10_1).f0) true _ A6.out).mono ?_); rintro e w' ⟨rfl, ⟨nd, rfl⟩⟩; (try first | exact ⟨rfl, _, World.drewN_drewN _ _ _⟩ | exact ⟨rfl, _, Eq.trans (World.drewN_drewN _ _ _) (congrArg (World.drewN _) (Nat.add_assoc _ _ _))⟩))))
                  go_roundg k1
                  case measure => have := HK1.out; omega
                  case rel => exact ⟨(wrap64 (x10_1 + 1)), (by first | rfl | (simp; done) | (simp [*]; done)), H', ⟨by have := HK1.out; omega⟩, ⟨by repeat (first | (with_reducible first | exact HB.out | apply below_alloc | apply pw_below_drewN | apply below_drew1 | refine below_set ?_ GE124.out) | exact HB.out)⟩⟩
            · replace c7 := Bool.eq_false_iff.mpr c7
              subst c7
              have H1 : (some ((⟨#[]⟩ : ByteArray), 1)) = some (r1, r2) := by rw [if_neg (show ¬ (false = true) by decide)] at H; exact H
              clear H
              have H := H1
              clear H1
              simp only [Option.some.injEq, Prod.mk.injEq] at H
              obtain ⟨rfl, rfl⟩ := H
              have p123 : 0 ≤ (x10_1 : Int) := of_decide_eq_true (by first | (with_reducible assumption) | assumption)
              have q123 : x10_1 < (l1.length : Int) := of_decide_eq_true (by first | (with_reducible assumption) | assumption)
              obtain ⟨ad123, e123, hx123_0, hx123_1⟩ := at_T45 HR1.out x10_1 p123 q123
              cases e123
              replace hx123_0 := (HB.out.cell (World.block_lt_of_cell? w _ hx123_0)).trans hx123_0
              replace hx123_1 := (HB.out.cell (World.block_lt_of_cell? w _ hx123_1)).trans hx123_1
              replace p123 := eq_true p123
              replace q123 := eq_true q123
              go_wp2_with (first | ((with_reducible refine gate_dst (N := 7) rfl ?_); refine box_event ?hg (N := 7) ?hd (cs := #[.int .i64 0, .string (⟨#[]⟩ : ByteArray)]) (t := 45) ?hr ?_; (case hd => rfl); (case hg => rfl); (case hr => first | (go_simp; done) | (go_simp; rfl)); intro gb124 hg w22 hbox hb; have n0_ := Aside0.mk (below_step (by repeat (first | (with_reducible first | exact HB.out | apply below_alloc | apply pw_below_drewN | apply below_drew1) | exact HB.out)) hb); have n1_ := Aside0.mk (hbox); have n2_ := Aside0.mk ((by rw [hg]; exact (below_size (by repeat (first | (with_reducible first | exact HB.out | apply below_alloc | apply pw_below_drewN | apply below_drew1) | exact HB.out))) : w.heap.size ≤ gb124)); have n3_ := Aside0.mk ((by rw [hg]; exact (below_size (by repeat (first | (with_reducible first | exact HB.out | apply below_alloc | apply pw_below_drewN | apply below_drew1) | exact HB.out))) : w.heap.size ≤ gb124)); clear HB; have HB := n0_; have BK124 := n1_; have GW124 := n2_; have GE124 := n3_; clear n0_ n1_ n2_ n3_; clear hb hbox hg; have hcz23_0 : w22.cell? ⟨gb124, 0, none⟩ = some (.int .i64 0) := (blk_cell BK124.out 0).trans rfl; have hcz23_1 : w22.cell? ⟨gb124, 1, none⟩ = some (.string (⟨#[]⟩ : ByteArray)) := (blk_cell BK124.out 1).trans rfl; have hfz23_0 := blk_frozen BK124.out 0; have hfz23_1 := blk_frozen BK124.out 1) | (go_at_call 52; (with_reducible refine (page_line.calls ((rd_T45 l1 x10_1).f0) false _ A6.out).mono ?_); rintro e w' ⟨rfl, ⟨nd, rfl⟩⟩; (try first | exact ⟨rfl, _, World.drewN_drewN _ _ _⟩ | exact ⟨rfl, _, Eq.trans (World.drewN_drewN _ _ _) (congrArg (World.drewN _) (Nat.add_assoc _ _ _))⟩)))
              repeat (go_quiet (first | ((with_reducible refine gate_dst (N := 7) rfl ?_); refine box_event ?hg (N := 7) ?hd (cs := #[.int .i64 0, .string (⟨#[]⟩ : ByteArray)]) (t := 45) ?hr ?_; (case hd => rfl); (case hg => rfl); (case hr => first | (go_simp; done) | (go_simp; rfl)); intro gb124 hg w22 hbox hb; have n0_ := Aside0.mk (below_step (by repeat (first | (with_reducible first | exact HB.out | apply below_alloc | apply pw_below_drewN | apply below_drew1) | exact HB.out)) hb); have n1_ := Aside0.mk (hbox); have n2_ := Aside0.mk ((by rw [hg]; exact (below_size (by repeat (first | (with_reducible first | exact HB.out | apply below_alloc | apply pw_below_drewN | apply below_drew1) | exact HB.out))) : w.heap.size ≤ gb124)); have n3_ := Aside0.mk ((by rw [hg]; exact (below_size (by repeat (first | (with_reducible first | exact HB.out | apply below_alloc | apply pw_below_drewN | apply below_drew1) | exact HB.out))) : w.heap.size ≤ gb124)); clear HB; have HB := n0_; have BK124 := n1_; have GW124 := n2_; have GE124 := n3_; clear n0_ n1_ n2_ n3_; clear hb hbox hg; have hcz23_0 : w22.cell? ⟨gb124, 0, none⟩ = some (.int .i64 0) := (blk_cell BK124.out 0).trans rfl; have hcz23_1 : w22.cell? ⟨gb124, 1, none⟩ = some (.string (⟨#[]⟩ : ByteArray)) := (blk_cell BK124.out 1).trans rfl; have hfz23_0 := blk_frozen BK124.out 0; have hfz23_1 := blk_frozen BK124.out 1) | (go_at_call 52; (with_reducible refine (page_line.calls ((rd_T45 l1 x10_1).f0) false _ A6.out).mono ?_); rintro e w' ⟨rfl, ⟨nd, rfl⟩⟩; (try first | exact ⟨rfl, _, World.drewN_drewN _ _ _⟩ | exact ⟨rfl, _, Eq.trans (World.drewN_drewN _ _ _) (congrArg (World.drewN _) (Nat.add_assoc _ _ _))⟩))); try go_wp2_with (first | ((with_reducible refine gate_dst (N := 7) rfl ?_); refine box_event ?hg (N := 7) ?hd (cs := #[.int .i64 0, .string (⟨#[]⟩ : ByteArray)]) (t := 45) ?hr ?_; (case hd => rfl); (case hg => rfl); (case hr => first | (go_simp; done) | (go_simp; rfl)); intro gb124 hg w22 hbox hb; have n0_ := Aside0.mk (below_step (by repeat (first | (with_reducible first | exact HB.out | apply below_alloc | apply pw_below_drewN | apply below_drew1) | exact HB.out)) hb); have n1_ := Aside0.mk (hbox); have n2_ := Aside0.mk ((by rw [hg]; exact (below_size (by repeat (first | (with_reducible first | exact HB.out | apply below_alloc | apply pw_below_drewN | apply below_drew1) | exact HB.out))) : w.heap.size ≤ gb124)); have n3_ := Aside0.mk ((by rw [hg]; exact (below_size (by repeat (first | (with_reducible first | exact HB.out | apply below_alloc | apply pw_below_drewN | apply below_drew1) | exact HB.out))) : w.heap.size ≤ gb124)); clear HB; have HB := n0_; have BK124 := n1_; have GW124 := n2_; have GE124 := n3_; clear n0_ n1_ n2_ n3_; clear hb hbox hg; have hcz23_0 : w22.cell? ⟨gb124, 0, none⟩ = some (.int .i64 0) := (blk_cell BK124.out 0).trans rfl; have hcz23_1 : w22.cell? ⟨gb124, 1, none⟩ = some (.string (⟨#[]⟩ : ByteArray)) := (blk_cell BK124.out 1).trans rfl; have hfz23_0 := blk_frozen BK124.out 0; have hfz23_1 := blk_frozen BK124.out 1) | (go_at_call 52; (with_reducible refine (page_line.calls ((rd_T45 l1 x10_1).f0) false _ A6.out).mono ?_); rintro e w' ⟨rfl, ⟨nd, rfl⟩⟩; (try first | exact ⟨rfl, _, World.drewN_drewN _ _ _⟩ | exact ⟨rfl, _, Eq.trans (World.drewN_drewN _ _ _) (congrArg (World.drewN _) (Nat.add_assoc _ _ _))⟩))))
              go_ret2
              exact ⟨by first | rfl | (simp [errW_none, errW_some] <;> rfl) | (simp [*, errW_none, errW_some] <;> rfl), by repeat (first | (with_reducible first | exact HB.out | apply below_alloc | apply pw_below_drewN | apply below_drew1 | refine below_set ?_ GE124.out) | exact HB.out)⟩
          · rw [if_neg c5] at H
            exact absurd H (by simp)
        · rw [if_neg c4] at H
          exact absurd H (by simp)
      · rw [if_neg c3] at H
        have c3b0 : decide (x10_1 < (l1.length : Int)) = false := decide_eq_false c3
        clear c3
        replace H := Option.bind_eq_some_iff.mp H
        obtain ⟨t127, A240, H⟩ := H
        replace H : (if t127 = true then ((page_filled.f a0 l1).bind fun bt128 => (some (bt128.1, bt128.2))) else (some ((⟨#[]⟩ : ByteArray), 7))) = some (r1, r2) := H
        have A24 := Aside0.mk A240
        clear A240
        by_cases c25 : t127 = true
        · subst c25
          have H1 : ((page_filled.f a0 l1).bind fun bt128 => (some (bt128.1, bt128.2))) = some (r1, r2) := by rw [if_pos rfl] at H; exact H
          clear H
          have H := H1
          clear H1
          replace H := Option.bind_eq_some_iff.mp H
          obtain ⟨⟨t128, t129⟩, A260, H⟩ := H
          replace H : (some (t128, t129)) = some (r1, r2) := H
          have A26 := Aside0.mk A260
          clear A260
          simp only [Option.some.injEq, Prod.mk.injEq] at H
          obtain ⟨rfl, rfl⟩ := H
          go_wp2_with (first | (go_at_call 53; (with_reducible refine (page_size.calls a0 true _ A24.out).mono ?_); rintro e w' ⟨rfl, ⟨nd, rfl⟩⟩; (try first | exact ⟨rfl, _, World.drewN_drewN _ _ _⟩ | exact ⟨rfl, _, Eq.trans (World.drewN_drewN _ _ _) (congrArg (World.drewN _) (Nat.add_assoc _ _ _))⟩)) | (go_at_call 54; (with_reducible refine (page_filled.calls a0 _ _ l1 t128 t129 _ ?side1 ?side2 A26.out).mono ?_); (case side1 => repeat (first | exact (Kd.C_below HR1.out (by repeat (first | (with_reducible first | exact HB.out | apply below_alloc | apply pw_below_drewN | apply below_drew1) | exact HB.out))) | (with_reducible refine Kd.C_alloc ?_ _) | (with_reducible refine Kd.C_drewN ?_ _) | (with_reducible refine Kd.C_drew ?_))); (case side2 => exact HC1.out); rintro e w27 ⟨rfl, hb⟩; have n0_ := Aside0.mk (below_step (by repeat (first | (with_reducible first | exact HB.out | apply below_alloc | apply pw_below_drewN | apply below_drew1) | exact HB.out)) hb); clear HB; have HB := n0_; clear n0_; (try clear hb); (try clear hb2); (try clear hk); (try clear hi)))
          repeat (go_quiet (first | (go_at_call 53; (with_reducible refine (page_size.calls a0 true _ A24.out).mono ?_); rintro e w' ⟨rfl, ⟨nd, rfl⟩⟩; (try first | exact ⟨rfl, _, World.drewN_drewN _ _ _⟩ | exact ⟨rfl, _, Eq.trans (World.drewN_drewN _ _ _) (congrArg (World.drewN _) (Nat.add_assoc _ _ _))⟩)) | (go_at_call 54; (with_reducible refine (page_filled.calls a0 _ _ l1 t128 t129 _ ?side1 ?side2 A26.out).mono ?_); (case side1 => repeat (first | exact (Kd.C_below HR1.out (by repeat (first | (with_reducible first | exact HB.out | apply below_alloc | apply pw_below_drewN | apply below_drew1) | exact HB.out))) | (with_reducible refine Kd.C_alloc ?_ _) | (with_reducible refine Kd.C_drewN ?_ _) | (with_reducible refine Kd.C_drew ?_))); (case side2 => exact HC1.out); rintro e w27 ⟨rfl, hb⟩; have n0_ := Aside0.mk (below_step (by repeat (first | (with_reducible first | exact HB.out | apply below_alloc | apply pw_below_drewN | apply below_drew1) | exact HB.out)) hb); clear HB; have HB := n0_; clear n0_; (try clear hb); (try clear hb2); (try clear hk); (try clear hi))); try go_wp2_with (first | (go_at_call 53; (with_reducible refine (page_size.calls a0 true _ A24.out).mono ?_); rintro e w' ⟨rfl, ⟨nd, rfl⟩⟩; (try first | exact ⟨rfl, _, World.drewN_drewN _ _ _⟩ | exact ⟨rfl, _, Eq.trans (World.drewN_drewN _ _ _) (congrArg (World.drewN _) (Nat.add_assoc _ _ _))⟩)) | (go_at_call 54; (with_reducible refine (page_filled.calls a0 _ _ l1 t128 t129 _ ?side1 ?side2 A26.out).mono ?_); (case side1 => repeat (first | exact (Kd.C_below HR1.out (by repeat (first | (with_reducible first | exact HB.out | apply below_alloc | apply pw_below_drewN | apply below_drew1) | exact HB.out))) | (with_reducible refine Kd.C_alloc ?_ _) | (with_reducible refine Kd.C_drewN ?_ _) | (with_reducible refine Kd.C_drew ?_))); (case side2 => exact HC1.out); rintro e w27 ⟨rfl, hb⟩; have n0_ := Aside0.mk (below_step (by repeat (first | (with_reducible first | exact HB.out | apply below_alloc | apply pw_below_drewN | apply below_drew1) | exact HB.out)) hb); clear HB; have HB := n0_; clear n0_; (try clear hb); (try clear hb2); (try clear hk); (try clear hi))))
          go_ret2
          exact ⟨by first | rfl | (simp [errW_none, errW_some] <;> rfl) | (simp [*, errW_none, errW_some] <;> rfl), by repeat (first | (with_reducible first | exact HB.out | apply below_alloc | apply pw_below_drewN | apply below_drew1) | exact HB.out)⟩
        · replace c25 := Bool.eq_false_iff.mpr c25
          subst c25
          have H1 : (some ((⟨#[]⟩ : ByteArray), 7)) = some (r1, r2) := by rw [if_neg (show ¬ (false = true) by decide)] at H; exact H
          clear H
          have H := H1
          clear H1
          simp only [Option.some.injEq, Prod.mk.injEq] at H
          obtain ⟨rfl, rfl⟩ := H
          go_wp2_with (first | (go_at_call 53; (with_reducible refine (page_size.calls a0 false _ A24.out).mono ?_); rintro e w' ⟨rfl, ⟨nd, rfl⟩⟩; (try first | exact ⟨rfl, _, World.drewN_drewN _ _ _⟩ | exact ⟨rfl, _, Eq.trans (World.drewN_drewN _ _ _) (congrArg (World.drewN _) (Nat.add_assoc _ _ _))⟩)))
          repeat (go_quiet (first | (go_at_call 53; (with_reducible refine (page_size.calls a0 false _ A24.out).mono ?_); rintro e w' ⟨rfl, ⟨nd, rfl⟩⟩; (try first | exact ⟨rfl, _, World.drewN_drewN _ _ _⟩ | exact ⟨rfl, _, Eq.trans (World.drewN_drewN _ _ _) (congrArg (World.drewN _) (Nat.add_assoc _ _ _))⟩))); try go_wp2_with (first | (go_at_call 53; (with_reducible refine (page_size.calls a0 false _ A24.out).mono ?_); rintro e w' ⟨rfl, ⟨nd, rfl⟩⟩; (try first | exact ⟨rfl, _, World.drewN_drewN _ _ _⟩ | exact ⟨rfl, _, Eq.trans (World.drewN_drewN _ _ _) (congrArg (World.drewN _) (Nat.add_assoc _ _ _))⟩))))
          go_ret2
          exact ⟨by first | rfl | (simp [errW_none, errW_some] <;> rfl) | (simp [*, errW_none, errW_some] <;> rfl), by repeat (first | (with_reducible first | exact HB.out | apply below_alloc | apply pw_below_drewN | apply below_drew1) | exact HB.out)⟩

end Go.Proofs.Ytemglmcddaeedaa.PA

namespace Go.Proofs.Ytemglmcddaeedaa.PA
open Go.RowKit Go.Proofs.YtemglmcddaeedaaW.PrintWords Go.Proofs.YtemglmcddaeedaaW.PrintLast Go.Proofs.YtemglmcddaeedaaW.PrintMore
attribute [local go_sem] max2_int min2_int max_two min_two max_three min_three max_four min_four   -- for this text's walks alone
set_option linter.unusedVariables false
set_option linter.unusedSimpArgs false

/-! ### ringworklaw06_awake: function 11 -/
def ringworklaw06_awake.f (k : Nat)  : Option (Bool) := (page_Fill.f k 32 (([(⟨1, (⟨#[97, 98]⟩ : ByteArray)⟩ : S45)] : List (S45)))).bind fun bt133 => (if bt133.2 = 0 then (if (bt133.1.size : Int) = 32 then (if 0 ≤ 6 then (if 6 ≤ (bt133.1.size : Int) then (if (bt133.1.extract 0 6).toList = ([0, 1, 0, 30, 0, 2] : List UInt8) then (if 30 ≤ (bt133.1.size : Int) then (some ((bt133.1.extract 30 bt133.1.size).toList == ([97, 98] : List UInt8))) else (none)) else (some false)) else (none)) else (none)) else (some false)) else (some false))
theorem ringworklaw06_awake.mono : ∀ k, LeO (ringworklaw06_awake.f k ) (ringworklaw06_awake.f (k + 1) ) := by
  intro  k
  unfold ringworklaw06_awake.f
  repeat' first
      | (with_reducible exact page_Fill.mono _ _ _)
      | (with_reducible exact LeO.refl _)
      | (with_reducible exact LeO.none _)
      | (with_reducible refine LeO.ite ?_ ?_)
      | (with_reducible refine LeO.bind ?_ (fun _ => ?_))
      | exact page_Fill.mono _ _ _
      | exact LeO.none _
      | refine LeO.ite ?_ ?_
      | refine LeO.bind ?_ (fun _ => ?_)
set_option maxHeartbeats 8000000 in
set_option maxRecDepth 100000 in
theorem ringworklaw06_awake.calls (k : Nat)  (r : Bool) (w : World) (h : ringworklaw06_awake.f k  = some r) :
    Calls Try.prog 11 #[] w fun e w' => e = .returned (.bool r) ∧ Below w.heap.size w w' := by
  have hu45 := Try.underlying45
  have HB := Aside0.mk (Below.refl w.heap.size w)
  have H : ((page_Fill.f k 32 (([(⟨1, (⟨#[97, 98]⟩ : ByteArray)⟩ : S45)] : List (S45)))).bind fun bt133 => (if bt133.2 = 0 then (if (bt133.1.size : Int) = 32 then (if 0 ≤ 6 then (if 6 ≤ (bt133.1.size : Int) then (if (bt133.1.extract 0 6).toList = ([0, 1, 0, 30, 0, 2] : List UInt8) then (if 30 ≤ (bt133.1.size : Int) then (some ((bt133.1.extract 30 bt133.1.size).toList == ([97, 98] : List UInt8))) else (none)) else (some false)) else (none)) else (none)) else (some false)) else (some false))) = some r := h
  clear h
  obtain ⟨y130, hy130⟩ : ∃ y_ : List (S45), y_ = (([(⟨1, (⟨#[97, 98]⟩ : ByteArray)⟩ : S45)] : List (S45))) := ⟨_, rfl⟩
  replace H : ((page_Fill.f k 32 y130).bind fun bt133 => (if bt133.2 = 0 then (if (bt133.1.size : Int) = 32 then (if 0 ≤ 6 then (if 6 ≤ (bt133.1.size : Int) then (if (bt133.1.extract 0 6).toList = ([0, 1, 0, 30, 0, 2] : List UInt8) then (if 30 ≤ (bt133.1.size : Int) then (some ((bt133.1.extract 30 bt133.1.size).toList == ([97, 98] : List UInt8))) else (none)) else (some false)) else (none)) else (none)) else (some false)) else (some false))) = some r := by first | (rw [hy130]; with_reducible exact H) | (have H2_ := (Option.bind_some _ _).symm.trans H; rw [hy130]; with_reducible exact H2_) | (have H2_ := (Option.bind_some _ _).symm.trans H; with_reducible exact H2_) | with_reducible exact H | (rw [hy130]; exact H) | exact H
  have Ny130 := Aside0.mk hy130
  clear hy130
  replace H := Option.bind_eq_some_iff.mp H
  obtain ⟨⟨t133, t134⟩, A10, H⟩ := H
  replace H : (if t134 = 0 then (if (t133.size : Int) = 32 then (if 0 ≤ 6 then (if 6 ≤ (t133.size : Int) then (if (t133.extract 0 6).toList = ([0, 1, 0, 30, 0, 2] : List UInt8) then (if 30 ≤ (t133.size : Int) then (some ((t133.extract 30 t133.size).toList == ([97, 98] : List UInt8))) else (none)) else (some false)) else (none)) else (none)) else (some false)) else (some false)) = some r := H
  have A1 := Aside0.mk A10
  clear A10
  by_cases c2 : t134 = 0
  · rw [if_pos c2] at H
    have c2b0 : (t134 == 0) = true := beq_iff_eq.mpr c2
    have c2b1 : (t134 != 0) = false := bne_eq_false_iff_eq.mpr c2
    clear c2
    by_cases c3 : (t133.size : Int) = 32
    · rw [if_pos c3] at H
      have c3b0 : ((t133.size : Int) == 32) = true := beq_iff_eq.mpr c3
      have c3b1 : ((t133.size : Int) != 32) = false := bne_eq_false_iff_eq.mpr c3
      clear c3
      by_cases c4 : 0 ≤ 6
      · rw [if_pos c4] at H
        have c4b0 := eq_true c4
        have c4b1 : decide (0 ≤ 6) = true := decide_eq_true c4
        clear c4
        by_cases c5 : 6 ≤ (t133.size : Int)
        · rw [if_pos c5] at H
          have c5b0 := eq_true c5
          have c5b1 : decide (6 ≤ (t133.size : Int)) = true := decide_eq_true c5
          clear c5
          by_cases c6 : (t133.extract 0 6).toList = ([0, 1, 0, 30, 0, 2] : List UInt8)
          · rw [if_pos c6] at H
            have c6b0 : ((t133.extract 0 6).toList == ([0, 1, 0, 30, 0, 2] : List UInt8)) = true := beq_iff_eq.mpr c6
            have c6b1 : ((t133.extract 0 6).toList != ([0, 1, 0, 30, 0, 2] : List UInt8)) = false := bne_eq_false_iff_eq.mpr c6
            clear c6
            by_cases c7 : 30 ≤ (t133.size : Int)
            · rw [if_pos c7] at H
              have c7b0 := eq_true c7
              have c7b1 : decide (30 ≤ (t133.size : Int)) = true := decide_eq_true c7
              clear c7
              obtain rfl := Option.some.inj H
              go_enter Try.func11, Try.ntmps11
              go_wp2_with (first | ((with_reducible refine gate_dst (N := 5) rfl ?_); (try (refine gate_guard (by rfl) ?_; dsimp only)); refine Kd.R_lit k45 _ 45 ?hg (N := 5) ?hd (xs := ([(⟨1, (⟨#[97, 98]⟩ : ByteArray)⟩ : S45)] : List (S45))) (inner := [.int .i64 1, .string (⟨#[97, 98]⟩ : ByteArray)]) (ok := fun _ => True) (okp := fun _ => True) ?hr ?hp (fun _ hk => hk) trivial (Below.refl _ _) (Nat.le_refl _) (by simp) ?_; (case hd => rfl); (case hg => rfl); (case hr => first | (go_simp; done) | (go_simp; rfl)); (case hp => exact (Reps.c2 (show Kd.M k45 _ _ _ (⟨1, (⟨#[97, 98]⟩ : ByteArray)⟩ : S45) [.int .i64 1, .string (⟨#[97, 98]⟩ : ByteArray)] from (k45_mkM _ _ _ (⟨1, (⟨#[97, 98]⟩ : ByteArray)⟩ : S45) )) (Reps.none _ _))); intro v131 w8 ho9 hb hg_ hnew_; clear hg_ hnew_; (first | rw [← Ny130.out] at ho9 | (simp only [Int.reduceToNat] at ho9; rw [← Ny130.out] at ho9)); have n0_ := Aside0.mk (Kd.R_lower ho9 (below_size (by repeat (first | (with_reducible first | exact HB.out | apply below_alloc | apply pw_below_drewN | apply below_drew1) | exact HB.out)))); have n1_ := Aside0.mk (below_step (by repeat (first | (with_reducible first | exact HB.out | apply below_alloc | apply pw_below_drewN | apply below_drew1) | exact HB.out)) hb); clear HB; have HO132 := n0_; have HB := n1_; clear n0_ n1_; clear hb ho9; obtain ⟨Ao10, co10, eo10⟩ := Kd.R_slice HO132.out; subst eo10) | ((with_reducible refine gate_callee (f := 17) rfl ?_); refine goesL_ (some 6) rfl rfl Try.func17 (by kernel_rfl) rfl #[.int .i64 32, .slice Ao10 y130.length co10] rfl (by (try simp only [List.map_toArray, List.map_cons, List.map_nil]); first | done | rfl | (simp only [List.length_drop, List.length_take]; rfl)) ?_; (with_reducible refine (page_Fill.calls k 32 _ _ y130 t133 t134 _ ?side1 ?side2 A1.out).mono ?_); (case side1 => repeat (first | exact (Kd.R_reads' HO132.out).2.2 | (with_reducible refine Kd.C_alloc ?_ _) | (with_reducible refine Kd.C_drewN ?_ _) | (with_reducible refine Kd.C_drew ?_))); (case side2 => exact (Kd.R_reads' HO132.out).2.1); rintro e w11 ⟨rfl, hb⟩; refine ⟨_, rfl, ?_⟩; have n0_ := Aside0.mk (Kd.R_below (by (with_reducible repeat (first | apply Kd.R_alloc | apply Kd.R_drewN | apply Kd.R_drew)); exact HO132.out) hb); have n1_ := Aside0.mk (below_step (by repeat (first | (with_reducible first | exact HB.out | apply below_alloc | apply pw_below_drewN | apply below_drew1) | exact HB.out)) hb); clear HO132; clear HB; have HO132 := n0_; have HB := n1_; clear n0_ n1_; (try clear hb); (try clear hb2); (try clear hk); (try clear hi)))
              go_ret
              exact ⟨by first | rfl | (simp [errW_none, errW_some] <;> rfl) | (simp [*, errW_none, errW_some] <;> rfl), by repeat (first | (with_reducible first | exact HB.out | apply below_alloc | apply pw_below_drewN | apply below_drew1) | exact HB.out)⟩
            · rw [if_neg c7] at H
              exact absurd H (by simp)
          · rw [if_neg c6] at H
            have c6b0 : ((t133.extract 0 6).toList == ([0, 1, 0, 30, 0, 2] : List UInt8)) = false := beq_eq_false_iff_ne.mpr c6
            have c6b1 : ((t133.extract 0 6).toList != ([0, 1, 0, 30, 0, 2] : List UInt8)) = true := bne_iff_ne.mpr c6
            obtain rfl := Option.some.inj H
            go_enter Try.func11, Try.ntmps11
            go_wp2_with (first | ((with_reducible refine gate_dst (N := 5) rfl ?_); (try (refine gate_guard (by rfl) ?_; dsimp only)); refine Kd.R_lit k45 _ 45 ?hg (N := 5) ?hd (xs := ([(⟨1, (⟨#[97, 98]⟩ : ByteArray)⟩ : S45)] : List (S45))) (inner := [.int .i64 1, .string (⟨#[97, 98]⟩ : ByteArray)]) (ok := fun _ => True) (okp := fun _ => True) ?hr ?hp (fun _ hk => hk) trivial (Below.refl _ _) (Nat.le_refl _) (by simp) ?_; (case hd => rfl); (case hg => rfl); (case hr => first | (go_simp; done) | (go_simp; rfl)); (case hp => exact (Reps.c2 (show Kd.M k45 _ _ _ (⟨1, (⟨#[97, 98]⟩ : ByteArray)⟩ : S45) [.int .i64 1, .string (⟨#[97, 98]⟩ : ByteArray)] from (k45_mkM _ _ _ (⟨1, (⟨#[97, 98]⟩ : ByteArray)⟩ : S45) )) (Reps.none _ _))); intro v131 w12 ho13 hb hg_ hnew_; clear hg_ hnew_; (first | rw [← Ny130.out] at ho13 | (simp only [Int.reduceToNat] at ho13; rw [← Ny130.out] at ho13)); have n0_ := Aside0.mk (Kd.R_lower ho13 (below_size (by repeat (first | (with_reducible first | exact HB.out | apply below_alloc | apply pw_below_drewN | apply below_drew1) | exact HB.out)))); have n1_ := Aside0.mk (below_step (by repeat (first | (with_reducible first | exact HB.out | apply below_alloc | apply pw_below_drewN | apply below_drew1) | exact HB.out)) hb); clear HB; have HO132 := n0_; have HB := n1_; clear n0_ n1_; clear hb ho13; obtain ⟨Ao14, co14, eo14⟩ := Kd.R_slice HO132.out; subst eo14) | ((with_reducible refine gate_callee (f := 17) rfl ?_); refine goesL_ (some 6) rfl rfl Try.func17 (by kernel_rfl) rfl #[.int .i64 32, .slice Ao14 y130.length co14] rfl (by (try simp only [List.map_toArray, List.map_cons, List.map_nil]); first | done | rfl | (simp only [List.length_drop, List.length_take]; rfl)) ?_; (with_reducible refine (page_Fill.calls k 32 _ _ y130 t133 t134 _ ?side1 ?side2 A1.out).mono ?_); (case side1 => repeat (first | exact (Kd.R_reads' HO132.out).2.2 | (with_reducible refine Kd.C_alloc ?_ _) | (with_reducible refine Kd.C_drewN ?_ _) | (with_reducible refine Kd.C_drew ?_))); (case side2 => exact (Kd.R_reads' HO132.out).2.1); rintro e w15 ⟨rfl, hb⟩; refine ⟨_, rfl, ?_⟩; have n0_ := Aside0.mk (Kd.R_below (by (with_reducible repeat (first | apply Kd.R_alloc | apply Kd.R_drewN | apply Kd.R_drew)); exact HO132.out) hb); have n1_ := Aside0.mk (below_step (by repeat (first | (with_reducible first | exact HB.out | apply below_alloc | apply pw_below_drewN | apply below_drew1) | exact HB.out)) hb); clear HO132; clear HB; have HO132 := n0_; have HB := n1_; clear n0_ n1_; (try clear hb); (try clear hb2); (try clear hk); (try clear hi)))
            go_ret
            exact ⟨by first | rfl | (simp [errW_none, errW_some] <;> rfl) | (simp [*, errW_none, errW_some] <;> rfl), by repeat (first | (with_reducible first | exact HB.out | apply below_alloc | apply pw_below_drewN | apply below_drew1) | exact HB.out)⟩
        · rw [if_neg c5] at H
          exact absurd H (by simp)
      · rw [if_neg c4] at H
        exact absurd H (by simp)
    · rw [if_neg c3] at H
      have c3b0 : ((t133.size : Int) == 32) = false := beq_eq_false_iff_ne.mpr c3
      have c3b1 : ((t133.size : Int) != 32) = true := bne_iff_ne.mpr c3
      obtain rfl := Option.some.inj H
      go_enter Try.func11, Try.ntmps11
      go_wp2_with (first | ((with_reducible refine gate_dst (N := 5) rfl ?_); (try (refine gate_guard (by rfl) ?_; dsimp only)); refine Kd.R_lit k45 _ 45 ?hg (N := 5) ?hd (xs := ([(⟨1, (⟨#[97, 98]⟩ : ByteArray)⟩ : S45)] : List (S45))) (inner := [.int .i64 1, .string (⟨#[97, 98]⟩ : ByteArray)]) (ok := fun _ => True) (okp := fun _ => True) ?hr ?hp (fun _ hk => hk) trivial (Below.refl _ _) (Nat.le_refl _) (by simp) ?_; (case hd => rfl); (case hg => rfl); (case hr => first | (go_simp; done) | (go_simp; rfl)); (case hp => exact (Reps.c2 (show Kd.M k45 _ _ _ (⟨1, (⟨#[97, 98]⟩ : ByteArray)⟩ : S45) [.int .i64 1, .string (⟨#[97, 98]⟩ : ByteArray)] from (k45_mkM _ _ _ (⟨1, (⟨#[97, 98]⟩ : ByteArray)⟩ : S45) )) (Reps.none _ _))); intro v131 w16 ho17 hb hg_ hnew_; clear hg_ hnew_; (first | rw [← Ny130.out] at ho17 | (simp only [Int.reduceToNat] at ho17; rw [← Ny130.out] at ho17)); have n0_ := Aside0.mk (Kd.R_lower ho17 (below_size (by repeat (first | (with_reducible first | exact HB.out | apply below_alloc | apply pw_below_drewN | apply below_drew1) | exact HB.out)))); have n1_ := Aside0.mk (below_step (by repeat (first | (with_reducible first | exact HB.out | apply below_alloc | apply pw_below_drewN | apply below_drew1) | exact HB.out)) hb); clear HB; have HO132 := n0_; have HB := n1_; clear n0_ n1_; clear hb ho17; obtain ⟨Ao18, co18, eo18⟩ := Kd.R_slice HO132.out; subst eo18) | ((with_reducible refine gate_callee (f := 17) rfl ?_); refine goesL_ (some 6) rfl rfl Try.func17 (by kernel_rfl) rfl #[.int .i64 32, .slice Ao18 y130.length co18] rfl (by (try simp only [List.map_toArray, List.map_cons, List.map_nil]); first | done | rfl | (simp only [List.length_drop, List.length_take]; rfl)) ?_; (with_reducible refine (page_Fill.calls k 32 _ _ y130 t133 t134 _ ?side1 ?side2 A1.out).mono ?_); (case side1 => repeat (first | exact (Kd.R_reads' HO132.out).2.2 | (with_reducible refine Kd.C_alloc ?_ _) | (with_reducible refine Kd.C_drewN ?_ _) | (with_reducible refine Kd.C_drew ?_))); (case side2 => exact (Kd.R_reads' HO132.out).2.1); rintro e w19 ⟨rfl, hb⟩; refine ⟨_, rfl, ?_⟩; have n0_ := Aside0.mk (Kd.R_below (by (with_reducible repeat (first | apply Kd.R_alloc | apply Kd.R_drewN | apply Kd.R_drew)); exact HO132.out) hb); have n1_ := Aside0.mk (below_step (by repeat (first | (with_reducible first | exact HB.out | apply below_alloc | apply pw_below_drewN | apply below_drew1) | exact HB.out)) hb); clear HO132; clear HB; have HO132 := n0_; have HB := n1_; clear n0_ n1_; (try clear hb); (try clear hb2); (try clear hk); (try clear hi)))
      go_ret
      exact ⟨by first | rfl | (simp [errW_none, errW_some] <;> rfl) | (simp [*, errW_none, errW_some] <;> rfl), by repeat (first | (with_reducible first | exact HB.out | apply below_alloc | apply pw_below_drewN | apply below_drew1) | exact HB.out)⟩
  · rw [if_neg c2] at H
    have c2b0 : (t134 == 0) = false := beq_eq_false_iff_ne.mpr c2
    have c2b1 : (t134 != 0) = true := bne_iff_ne.mpr c2
    obtain rfl := Option.some.inj H
    go_enter Try.func11, Try.ntmps11
    go_wp2_with (first | ((with_reducible refine gate_dst (N := 5) rfl ?_); (try (refine gate_guard (by rfl) ?_; dsimp only)); refine Kd.R_lit k45 _ 45 ?hg (N := 5) ?hd (xs := ([(⟨1, (⟨#[97, 98]⟩ : ByteArray)⟩ : S45)] : List (S45))) (inner := [.int .i64 1, .string (⟨#[97, 98]⟩ : ByteArray)]) (ok := fun _ => True) (okp := fun _ => True) ?hr ?hp (fun _ hk => hk) trivial (Below.refl _ _) (Nat.le_refl _) (by simp) ?_; (case hd => rfl); (case hg => rfl); (case hr => first | (go_simp; done) | (go_simp; rfl)); (case hp => exact (Reps.c2 (show Kd.M k45 _ _ _ (⟨1, (⟨#[97, 98]⟩ : ByteArray)⟩ : S45) [.int .i64 1, .string (⟨#[97, 98]⟩ : ByteArray)] from (k45_mkM _ _ _ (⟨1, (⟨#[97, 98]⟩ : ByteArray)⟩ : S45) )) (Reps.none _ _))); intro v131 w20 ho21 hb hg_ hnew_; clear hg_ hnew_; (first | rw [← Ny130.out] at ho21 | (simp only [Int.reduceToNat] at ho21; rw [← Ny130.out] at ho21)); have n0_ := Aside0.mk (Kd.R_lower ho21 (below_size (by repeat (first | (with_reducible first | exact HB.out | apply below_alloc | apply pw_below_drewN | apply below_drew1) | exact HB.out)))); have n1_ := Aside0.mk (below_step (by repeat (first | (with_reducible first | exact HB.out | apply below_alloc | apply pw_below_drewN | apply below_drew1) | exact HB.out)) hb); clear HB; have HO132 := n0_; have HB := n1_; clear n0_ n1_; clear hb ho21; obtain ⟨Ao22, co22, eo22⟩ := Kd.R_slice HO132.out; subst eo22) | ((with_reducible refine gate_callee (f := 17) rfl ?_); refine goesL_ (some 6) rfl rfl Try.func17 (by kernel_rfl) rfl #[.int .i64 32, .slice Ao22 y130.length co22] rfl (by (try simp only [List.map_toArray, List.map_cons, List.map_nil]); first | done | rfl | (simp only [List.length_drop, List.length_take]; rfl)) ?_; (with_reducible refine (page_Fill.calls k 32 _ _ y130 t133 t134 _ ?side1 ?side2 A1.out).mono ?_); (case side1 => repeat (first | exact (Kd.R_reads' HO132.out).2.2 | (with_reducible refine Kd.C_alloc ?_ _) | (with_reducible refine Kd.C_drewN ?_ _) | (with_reducible refine Kd.C_drew ?_))); (case side2 => exact (Kd.R_reads' HO132.out).2.1); rintro e w23 ⟨rfl, hb⟩; refine ⟨_, rfl, ?_⟩; have n0_ := Aside0.mk (Kd.R_below (by (with_reducible repeat (first | apply Kd.R_alloc | apply Kd.R_drewN | apply Kd.R_drew)); exact HO132.out) hb); have n1_ := Aside0.mk (below_step (by repeat (first | (with_reducible first | exact HB.out | apply below_alloc | apply pw_below_drewN | apply below_drew1) | exact HB.out)) hb); clear HO132; clear HB; have HO132 := n0_; have HB := n1_; clear n0_ n1_; (try clear hb); (try clear hb2); (try clear hk); (try clear hi)))
    go_ret
    exact ⟨by first | rfl | (simp [errW_none, errW_some] <;> rfl) | (simp [*, errW_none, errW_some] <;> rfl), by repeat (first | (with_reducible first | exact HB.out | apply below_alloc | apply pw_below_drewN | apply below_drew1) | exact HB.out)⟩

end Go.Proofs.Ytemglmcddaeedaa.PA

namespace Go.Proofs.Ytemglmcddaeedaa.PA
open Go.RowKit Go.Proofs.YtemglmcddaeedaaW.PrintWords Go.Proofs.YtemglmcddaeedaaW.PrintLast Go.Proofs.YtemglmcddaeedaaW.PrintMore
attribute [local go_sem] max2_int min2_int max_two min_two max_three min_three max_four min_four   -- for this text's walks alone
set_option linter.unusedVariables false
set_option linter.unusedSimpArgs false

/-! ### page_two: function 105 -/
def page_two.f (a0 : ByteArray) (a1 : Int) : Option (Int) := if 0 ≤ a1 then (if a1 < (a0.size : Int) then (if 0 ≤ (wrap64 (a1 + 1)) then (if (wrap64 (a1 + 1)) < (a0.size : Int) then (some (Go.bits .or .i64 (wrap64 ((wrap64 (bt a0 a1)) * 256)) (wrap64 (bt a0 (wrap64 (a1 + 1)))))) else (none)) else (none)) else (none)) else (none)
set_option maxHeartbeats 8000000 in
set_option maxRecDepth 100000 in
theorem page_two.calls (a0 : ByteArray) (a1 : Int) (r : Int) (w : World) (h : page_two.f a0 a1 = some r) :
    Calls Try.prog 105 #[.string a0, .int .i64 a1] w fun e w' => e = .returned (.int .i64 r) ∧ Drawn0 w w' := by
  have H : (if 0 ≤ a1 then (if a1 < (a0.size : Int) then (if 0 ≤ (wrap64 (a1 + 1)) then (if (wrap64 (a1 + 1)) < (a0.size : Int) then (some (Go.bits .or .i64 (wrap64 ((wrap64 (bt a0 a1)) * 256)) (wrap64 (bt a0 (wrap64 (a1 + 1)))))) else (none)) else (none)) else (none)) else (none)) = some r := h
  clear h
  by_cases c3 : 0 ≤ a1
  · rw [if_pos c3] at H
    have c3b0 : decide (0 ≤ a1) = true := decide_eq_true c3
    clear c3
    by_cases c4 : a1 < (a0.size : Int)
    · rw [if_pos c4] at H
      have c4b0 : decide (a1 < (a0.size : Int)) = true := decide_eq_true c4
      clear c4
      obtain ⟨ji6, hji6⟩ : ∃ j_ : Int, (wrap64 (a1 + 1)) = j_ := ⟨_, rfl⟩
      replace H : (if 0 ≤ (ji6) then (if (ji6) < (a0.size : Int) then (some (Go.bits .or .i64 (wrap64 ((wrap64 (bt a0 a1)) * 256)) (wrap64 (bt a0 (ji6))))) else (none)) else (none)) = some r := by first | (rw [hji6] at H; exact H) | (simp only [hji6] at H ⊢; exact H)
      have hji6w : (IntKind.i64.wrap (a1 + 1)) = ji6 := (i64_w _).trans hji6
      by_cases c7 : 0 ≤ (ji6)
      · rw [if_pos c7] at H
        have c7b0 : decide (0 ≤ (ji6)) = true := decide_eq_true c7
        clear c7
        by_cases c8 : (ji6) < (a0.size : Int)
        · rw [if_pos c8] at H
          have c8b0 : decide ((ji6) < (a0.size : Int)) = true := decide_eq_true c8
          clear c8
          obtain rfl := Option.some.inj H
          have p5 : 0 ≤ (a1 : Int) := of_decide_eq_true (by first | (with_reducible assumption) | assumption)
          have q5 : a1 < (a0.size : Int) := of_decide_eq_true (by first | (with_reducible assumption) | assumption)
          have hx5 := bt_at a0 a1
          replace p5 := eq_true p5
          replace q5 := eq_true q5
          have p9 : 0 ≤ ((ji6) : Int) := of_decide_eq_true (by first | (with_reducible assumption) | assumption)
          have q9 : (ji6) < (a0.size : Int) := of_decide_eq_true (by first | (with_reducible assumption) | assumption)
          have hx9 := bt_at a0 (ji6)
          replace p9 := eq_true p9
          replace q9 := eq_true q9
          go_enter Try.func105, Try.ntmps105
          go_wp2
          repeat (go_quiet (fail); try go_wp2)
          go_ret
          exact ⟨by first | rfl | (simp; done) | (simp only [← hji6] <;> (first | rfl | simp)) | (simp [*]; done), by repeat (first | exact Drawn0.refl _ | apply Drawn0.step)⟩
        · rw [if_neg c8] at H
          exact absurd H (by simp)
      · rw [if_neg c7] at H
        exact absurd H (by simp)
    · rw [if_neg c4] at H
      exact absurd H (by simp)
  · rw [if_neg c3] at H
    exact absurd H (by simp)

end Go.Proofs.Ytemglmcddaeedaa.PA

namespace Go.Proofs.Ytemglmcddaeedaa.PA
open Go.RowKit Go.Proofs.YtemglmcddaeedaaW.PrintWords Go.Proofs.YtemglmcddaeedaaW.PrintLast Go.Proofs.YtemglmcddaeedaaW.PrintMore
attribute [local go_sem] max2_int min2_int max_two min_two max_three min_three max_four min_four   -- for this text's walks alone
set_option linter.unusedVariables false
set_option linter.unusedSimpArgs false

/-! ### page_count: function 57 -/
def page_count.f (a0 : ByteArray) : Option (Int) := (page_two.f a0 0).bind fun t135 => (some t135)
set_option maxHeartbeats 8000000 in
set_option maxRecDepth 100000 in
theorem page_count.calls (a0 : ByteArray) (r : Int) (w : World) (h : page_count.f a0 = some r) :
    Calls Try.prog 57 #[.string a0] w fun e w' => e = .returned (.int .i64 r) ∧ Drawn0 w w' := by
  have H : ((page_two.f a0 0).bind fun t135 => (some t135)) = some r := h
  clear h
  replace H := Option.bind_eq_some_iff.mp H
  obtain ⟨t135, A20, H⟩ := H
  replace H : (some t135) = some r := H
  have A2 := Aside0.mk A20
  clear A20
  obtain rfl := Option.some.inj H
  go_enter Try.func57, Try.ntmps57
  go_wp2_with (first | ((with_reducible refine gate_callee (f := 105) rfl ?_); refine goesL_ (some 4) rfl rfl Try.func105 (by kernel_rfl) rfl #[.string a0, .int .i64 0] rfl (by (try simp only [List.map_toArray, List.map_cons, List.map_nil]); first | done | rfl | (simp only [List.length_drop, List.length_take]; rfl)) ?_; (with_reducible refine (page_two.calls a0 0 t135 _ A2.out).mono ?_); rintro e w' ⟨rfl, ⟨nd, rfl⟩⟩; refine ⟨_, rfl, ?_⟩))
  go_ret
  exact ⟨by first | rfl | (simp; done) | (simp [*]; done), by repeat (first | exact Drawn0.refl _ | apply Drawn0.step)⟩

end Go.Proofs.Ytemglmcddaeedaa.PA

namespace Go.Proofs.Ytemglmcddaeedaa.PA
open Go.RowKit Go.Proofs.YtemglmcddaeedaaW.PrintWords Go.Proofs.YtemglmcddaeedaaW.PrintLast Go.Proofs.YtemglmcddaeedaaW.PrintMore
attribute [local go_sem] max2_int min2_int max_two min_two max_three min_three max_four min_four   -- for this text's walks alone
set_option linter.unusedVariables false
set_option linter.unusedSimpArgs false

/-! ### sp_two: function 0 -/
/-- The number of two bytes at a place. -/
def twoS (p : ByteArray) (at_ : Int) : Int := 256 * bt p at_ + bt p (at_ + 1)
theorem wraps_i64_15 (n : Int) (h₀ : 0 ≤ n) (h₁ : n < 2 ^ 31) : IntKind.i64.wrap n = n := by rw [IntKind.wrap_i64]; omega
theorem i64_or8 (x y : Int) (hx₀ : 0 ≤ x) (hx : x % 256 = 0) (hx₁ : x < 2147483648) (h₀ : 0 ≤ y) (h₁ : y < 256) : Go.bits .or .i64 x y = x + y :=
  bits_join .i64 31 (by decide) wraps_i64_15 8 x y hx₀ hx hx₁ h₀ h₁ (by omega)
theorem twoS_range (p : ByteArray) (a : Int) : 0 ≤ twoS p a ∧ twoS p a ≤ 65535 := by
  have h1 := bt_range p a
  have h2 := bt_range p (a + 1)
  unfold twoS; omega
theorem page_two_f (p : ByteArray) (a : Int) (h0 : 0 ≤ a) (h1 : a + 1 < p.size) (hs : p.size ≤ 9223372036854775807) : page_two.f p a = some (twoS p a) := by
  have b1 := bt_range p a
  have b2 := bt_range p (a + 1)
  have e1 : wrap64 (a + 1) = a + 1 := by unfold wrap64; omega
  have e2 : wrap64 (bt p a) = bt p a := by unfold wrap64; omega
  have e3 : wrap64 (bt p a * 256) = bt p a * 256 := by unfold wrap64; omega
  have e4 : wrap64 (bt p (a + 1)) = bt p (a + 1) := by unfold wrap64; omega
  unfold page_two.f
  rw [e1, if_pos h0, if_pos (by omega), if_pos (by omega), if_pos h1, e2, e3, e4, i64_or8 _ _ (by omega) (by omega) (by omega) (by omega) (by omega)]
  unfold twoS
  rw [Int.mul_comm]
theorem page_count_f (p : ByteArray) (h1 : 2 ≤ p.size) (hs : p.size ≤ 9223372036854775807) : page_count.f p = some (twoS p 0) := by
  unfold page_count.f
  rw [page_two_f p 0 (by omega) (by omega) hs]; rfl

end Go.Proofs.Ytemglmcddaeedaa.PA

namespace Go.Proofs.Ytemglmcddaeedaa.PA
open Go.RowKit Go.Proofs.YtemglmcddaeedaaW.PrintWords Go.Proofs.YtemglmcddaeedaaW.PrintLast Go.Proofs.YtemglmcddaeedaaW.PrintMore
attribute [local go_sem] max2_int min2_int max_two min_two max_three min_three max_four min_four   -- for this text's walks alone
set_option linter.unusedVariables false
set_option linter.unusedSimpArgs false

/-! ### wrong_spec: function 0 -/
/-- What the first i entries of a page with n entries tell: where the data begin and the last used line; or where it is wrong. -/
def scanE (p : ByteArray) (n : Nat) : Nat → Except Int (Int × Int)
  | 0 => .ok (p.size, 0)
  | i + 1 => match scanE p n i with
    | .error a => .error a
    | .ok (top, last) =>
      if twoS p (2 + 4 * (i : Int)) = 0 ∧ twoS p (4 + 4 * (i : Int)) = 0 then .ok (top, last)
      else if twoS p (4 + 4 * (i : Int)) = 0 ∨ twoS p (2 + 4 * (i : Int)) ≠ top - twoS p (4 + 4 * (i : Int)) ∨ twoS p (2 + 4 * (i : Int)) < 2 + 4 * (n : Int) then .error (2 + 4 * (i : Int))
      else .ok (twoS p (2 + 4 * (i : Int)), (i : Int) + 1)
def entriesS (p : ByteArray) (n : Nat) : Except Int Int :=
  match scanE p n n with
  | .error a => .error a
  | .ok (top, last) => if last < n then .error (2 + 4 * ((n : Int) - 1)) else .ok top
theorem scanE_error (p : ByteArray) (n i j : Nat) (hij : i ≤ j) (a : Int) (h : scanE p n i = .error a) : scanE p n j = .error a := by
  induction hij with
  | refl => exact h
  | step _ ih => simp only [scanE, ih]
theorem scanE_range (p : ByteArray) (n i : Nat) (top last : Int) (h : scanE p n i = .ok (top, last)) : 0 ≤ top ∧ top ≤ max 65535 p.size ∧ 0 ≤ last ∧ last ≤ i := by
  induction i generalizing top last with
  | zero =>
    simp only [scanE] at h
    cases h
    omega
  | succ i ih =>
    simp only [scanE] at h
    have t1 := twoS_range p (2 + 4 * (i : Int))
    cases hs : scanE p n i with
    | error a => rw [hs] at h; cases h
    | ok s =>
      obtain ⟨t, l⟩ := s
      have := ih t l hs
      rw [hs] at h
      simp only at h
      split at h
      · cases h; omega
      · split at h
        · cases h
        · cases h; omega
theorem scanE_last (p : ByteArray) (n i : Nat) (top last : Int) (h : scanE p n i = .ok (top, last)) : 2 + 4 * (n : Int) ≤ top ∨ last = 0 := by
  induction i generalizing top last with
  | zero =>
    simp only [scanE] at h
    cases h
    exact .inr rfl
  | succ i ih =>
    simp only [scanE] at h
    cases hs : scanE p n i with
    | error a => rw [hs] at h; cases h
    | ok s =>
      obtain ⟨t, l⟩ := s
      have := ih t l hs
      rw [hs] at h
      simp only at h
      split at h
      · cases h; exact this
      · split at h
        · cases h
        · rename_i h1 h2
          cases h
          exact .inl (by omega)
theorem scanE_top (p : ByteArray) (n i : Nat) (top last : Int) (h : scanE p n i = .ok (top, last)) : top ≤ p.size := by
  induction i generalizing top last with
  | zero =>
    simp only [scanE] at h
    cases h
    omega
  | succ i ih =>
    simp only [scanE] at h
    cases hs : scanE p n i with
    | error a => rw [hs] at h; cases h
    | ok s =>
      obtain ⟨t, l⟩ := s
      have := ih t l hs
      rw [hs] at h
      simp only at h
      split at h
      · cases h; exact this
      · split at h
        · cases h
        · rename_i h1 h2
          cases h
          have := twoS_range p (4 + 4 * (i : Int))
          omega
theorem entriesS_top (p : ByteArray) (n : Nat) (top : Int) (h : entriesS p n = .ok top) : 0 ≤ top ∧ top ≤ p.size := by
  unfold entriesS at h
  cases hs : scanE p n n with
  | error a => rw [hs] at h; cases h
  | ok s =>
    obtain ⟨t, l⟩ := s
    rw [hs] at h
    simp only at h
    have h1 := scanE_top p n n t l hs
    have h2 := scanE_range p n n t l hs
    split at h
    · cases h
    · cases h; omega

end Go.Proofs.Ytemglmcddaeedaa.PA

namespace Go.Proofs.Ytemglmcddaeedaa.PA
open Go.RowKit Go.Proofs.YtemglmcddaeedaaW.PrintWords Go.Proofs.YtemglmcddaeedaaW.PrintLast Go.Proofs.YtemglmcddaeedaaW.PrintMore
attribute [local go_sem] max2_int min2_int max_two min_two max_three min_three max_four min_four   -- for this text's walks alone
set_option linter.unusedVariables false
set_option linter.unusedSimpArgs false

/-! ### valid_spec: function 0 -/
/-- The first byte from i on, up to top, that is not 0. -/
def firstNZ (p : ByteArray) (top : Int) (i : Nat) : Option Nat :=
  if (i : Int) < top then (if bt p i ≠ 0 then some i else firstNZ p top (i + 1)) else none
termination_by (top - i).toNat
/-- What Wrong answers. -/
def wrongS (p : ByteArray) : Int × Int :=
  if 32 ≤ p.size ∧ p.size ≤ 4096 ∧ p.size % 8 = 0 then
    if twoS p 0 > 200 ∨ 2 + 4 * twoS p 0 > p.size then (0, 12)
    else match entriesS p (twoS p 0).toNat with
      | .error a => (a, 12)
      | .ok top => match firstNZ p top (2 + 4 * (twoS p 0).toNat) with
        | some i => ((i : Int), 12)
        | none => ((p.size : Int), 0)
  else (0, 11)
/-- The used lines of the first i entries, with their data. -/
def cellsS (p : ByteArray) : Nat → List S45
  | 0 => []
  | i + 1 => if 0 < twoS p (4 + 4 * (i : Int)) then cellsS p i ++ [⟨(i : Int) + 1, p.extract (twoS p (2 + 4 * (i : Int))).toNat (twoS p (2 + 4 * (i : Int)) + twoS p (4 + 4 * (i : Int))).toNat⟩] else cellsS p i
theorem cellsS_length (p : ByteArray) (i : Nat) : (cellsS p i).length ≤ i := by
  induction i with
  | zero => simp [cellsS]
  | succ i ih =>
    simp only [cellsS]
    split
    · simp; omega
    · omega
/-- The page's bytes are a page. -/
def validS (p : ByteArray) : Prop := (wrongS p).2 = 0
instance validS.dec (p : ByteArray) : Decidable (validS p) := by unfold validS; infer_instance
theorem entriesS_good (p : ByteArray) (n : Nat) (top : Int) (h : entriesS p n = .ok top) (i : Nat) (hi : i < n) (hy : 0 < twoS p (4 + 4 * (i : Int))) :
    2 + 4 * (n : Int) ≤ twoS p (2 + 4 * (i : Int)) ∧ twoS p (2 + 4 * (i : Int)) + twoS p (4 + 4 * (i : Int)) ≤ p.size := by
  have h1 : ∃ s, scanE p n (i + 1) = .ok s := by
    cases hs : scanE p n (i + 1) with
    | ok s => exact ⟨s, rfl⟩
    | error a =>
      have := scanE_error p n (i + 1) n (by omega) a hs
      unfold entriesS at h
      rw [this] at h
      cases h
  obtain ⟨s, hs⟩ := h1
  simp only [scanE] at hs
  cases hq : scanE p n i with
  | error a => rw [hq] at hs; cases hs
  | ok s' =>
    obtain ⟨t, l⟩ := s'
    have ht := scanE_top p n i t l hq
    rw [hq] at hs
    simp only at hs
    split at hs
    · omega
    · split at hs
      · cases hs
      · omega
theorem validS_spec (p : ByteArray) (h : validS p) : 32 ≤ p.size ∧ p.size ≤ 4096 ∧ p.size % 8 = 0 ∧ twoS p 0 ≤ 200 ∧ 2 + 4 * twoS p 0 ≤ p.size ∧ ∃ top, entriesS p (twoS p 0).toNat = .ok top ∧ firstNZ p top (2 + 4 * (twoS p 0).toNat) = none := by
  unfold validS wrongS at h
  split at h
  · rename_i h1
    split at h
    · cases h
    · rename_i h2
      refine ⟨h1.1, h1.2.1, h1.2.2, by omega, by omega, ?_⟩
      cases he : entriesS p (twoS p 0).toNat with
      | error a => rw [he] at h; cases h
      | ok top =>
        rw [he] at h
        simp only at h
        refine ⟨top, rfl, ?_⟩
        cases hf : firstNZ p top (2 + 4 * (twoS p 0).toNat) with
        | none => rfl
        | some i => rw [hf] at h; cases h
  · cases h

end Go.Proofs.Ytemglmcddaeedaa.PA

namespace Go.Proofs.Ytemglmcddaeedaa.PA
open Go.RowKit Go.Proofs.YtemglmcddaeedaaW.PrintWords Go.Proofs.YtemglmcddaeedaaW.PrintLast Go.Proofs.YtemglmcddaeedaaW.PrintMore
attribute [local go_sem] max2_int min2_int max_two min_two max_three min_three max_four min_four   -- for this text's walks alone
set_option linter.unusedVariables false
set_option linter.unusedSimpArgs false

/-! ### strs: function 0 -/
theorem loop_spec (p : ByteArray) : ∀ (k i : Nat) (acc : List UInt8), p.size - i = k → i ≤ p.size → ByteArray.toList.loop p i acc = acc.reverse ++ p.data.toList.drop i := by
  intro k
  induction k with
  | zero =>
    intro i acc hk hi
    rw [ByteArray.toList.loop, if_neg (by omega), List.drop_of_length_le (by simp only [Array.length_toList]; show p.size ≤ i; omega), List.append_nil]
  | succ k ih =>
    intro i acc hk hi
    rw [ByteArray.toList.loop, if_pos (by omega), ih (i + 1) _ (by omega) (by omega)]
    have hl : i < p.data.toList.length := by simp only [Array.length_toList]; show i < p.size; omega
    rw [List.drop_eq_getElem_cons hl]
    have : p.get! i = p.data.toList[i] := by
      simp only [ByteArray.get!, Array.getElem_toList]
      exact getElem!_pos p.data i _
    rw [this]
    simp
theorem toList_data (p : ByteArray) : p.toList = p.data.toList := by
  unfold ByteArray.toList
  rw [loop_spec p p.size 0 [] (by omega) (by omega)]
  rfl
theorem toList_nil (p : ByteArray) : p.toList = ([] : List UInt8) ↔ p.size = 0 := by
  rw [toList_data]
  constructor
  · intro h
    have : p.data.toList.length = 0 := by rw [h]; rfl
    simpa using this
  · intro h
    apply List.length_eq_zero_iff.1
    simpa using h
theorem toList_inj (p q : ByteArray) : p.toList = q.toList ↔ p = q := by
  rw [toList_data, toList_data]
  constructor
  · intro h
    cases p; cases q
    congr 1
    exact Array.toList_inj.1 h
  · rintro rfl; rfl

end Go.Proofs.Ytemglmcddaeedaa.PA

namespace Go.Proofs.Ytemglmcddaeedaa.PA
open Go.RowKit Go.Proofs.YtemglmcddaeedaaW.PrintWords Go.Proofs.YtemglmcddaeedaaW.PrintLast Go.Proofs.YtemglmcddaeedaaW.PrintMore
attribute [local go_sem] max2_int min2_int max_two min_two max_three min_three max_four min_four   -- for this text's walks alone
set_option linter.unusedVariables false
set_option linter.unusedSimpArgs false

/-! ### rowk: function 0 -/
/-! #### rows of elements of several plain cells, known whole -/
section
variable {α : Type} {enc : α → List Value} {k : Nat}
def encs_ (enc : α → List Value) (l : List α) : List Value := l.flatMap enc
theorem encs_nil : encs_ enc [] = [] := rfl
theorem encs_cons (x : α) (l : List α) : encs_ enc (x :: l) = enc x ++ encs_ enc l := by simp [encs_]
theorem encs_one (x : α) : encs_ enc [x] = enc x := by simp [encs_]
theorem encs_app (a b : List α) : encs_ enc (a ++ b) = encs_ enc a ++ encs_ enc b := by simp [encs_]
theorem encs_len (hk : ∀ x, (enc x).length = k) (l : List α) : (encs_ enc l).length = l.length * k := by
  induction l with
  | nil => simp [encs_]
  | cons x l ih => rw [encs_cons, List.length_append, hk, ih, List.length_cons, Nat.add_mul, Nat.one_mul, Nat.add_comm]
theorem encs_oneCell (h1 : ∀ x, ∀ v ∈ enc x, v.oneCell' = true) (l : List α) : ∀ v ∈ encs_ enc l, v.oneCell' = true := by
  intro v hv
  obtain ⟨x, _, hx⟩ := List.mem_flatMap.1 hv
  exact h1 x v hx
theorem encs_take (hk : ∀ x, (enc x).length = k) (l : List α) (i : Nat) (hi : i ≤ l.length) : (encs_ enc l).take (i * k) = encs_ enc (l.take i) := by
  have h : encs_ enc l = encs_ enc (l.take i) ++ encs_ enc (l.drop i) := by rw [← encs_app, List.take_append_drop]
  have hl : (encs_ enc (l.take i)).length = i * k := by rw [encs_len hk, List.length_take, Nat.min_eq_left hi]
  rw [h, ← hl, List.take_left]
theorem encs_drop (hk : ∀ x, (enc x).length = k) (l : List α) (i : Nat) (hi : i ≤ l.length) : (encs_ enc l).drop (i * k) = encs_ enc (l.drop i) := by
  have h : encs_ enc l = encs_ enc (l.take i) ++ encs_ enc (l.drop i) := by rw [← encs_app, List.take_append_drop]
  have hl : (encs_ enc (l.take i)).length = i * k := by rw [encs_len hk, List.length_take, Nat.min_eq_left hi]
  rw [h, ← hl, List.drop_left]
theorem encs_get (hk : ∀ x, (enc x).length = k) (l : List α) (i j : Nat) (hi : i < l.length) (hj : j < k) : (encs_ enc l)[i * k + j]? = (enc l[i])[j]? := by
  have h : encs_ enc l = encs_ enc (l.take i) ++ (enc l[i] ++ encs_ enc (l.drop (i + 1))) := by
    rw [← encs_cons, ← encs_app]; congr 1
    rw [← List.drop_eq_getElem_cons hi, List.take_append_drop]
  have hl : (encs_ enc (l.take i)).length = i * k := by rw [encs_len hk, List.length_take, Nat.min_eq_left (by omega)]
  rw [h, List.getElem?_append_right (by omega), hl, Nat.add_sub_cancel_left, List.getElem?_append_left (by rw [hk]; exact hj)]
/-- A row of one's own (from base on), known whole. -/
def RowK (enc : α → List Value) (k : Nat) (e : TypeId) (w : World) (base : Nat) (v : Value) (l : List α) : Prop :=
  (v = .slice none 0 0 ∧ l = []) ∨ ∃ g cap sp, v = .slice (some ⟨g, 0, none⟩) l.length cap ∧ base ≤ g ∧ l.length ≤ cap ∧ cap ≤ maxLen ∧ sp.length = (cap - l.length) * k ∧ w.heap[g]? = some (.cells (encs_ enc l ++ sp).toArray e (0, 0))
theorem RowK.owns (hk : ∀ x, (enc x).length = k) {e : TypeId} {w : World} {base : Nat} {v : Value} {l : List α} (h : RowK enc k e w base v l) : w.ownsRow base e k v l.length (encs_ enc l) := by
  refine ⟨encs_len hk l, ?_⟩
  rcases h with ⟨rfl, rfl⟩ | ⟨g, cap, sp, rfl, hb, hn, hm, hs, hg⟩
  · exact .inl ⟨rfl, rfl⟩
  · refine .inr ⟨g, cap, _, rfl, hb, hg, hn, hm, ?_, ?_⟩
    · simp only [List.size_toArray, List.length_append, encs_len hk, hs]
      rw [← Nat.add_mul]; congr 1; omega
    · rw [← encs_len hk]; simp
theorem RowK.of_owns (hk : ∀ x, (enc x).length = k) {e : TypeId} {w : World} {base : Nat} {v : Value} {l : List α} (h : w.ownsRow base e k v l.length (encs_ enc l)) : RowK enc k e w base v l := by
  rcases h.2 with ⟨rfl, h0⟩ | ⟨g, cap, cur, rfl, hb, hg, hn, hm, hs, ht⟩
  · exact .inl ⟨rfl, List.eq_nil_of_length_eq_zero h0⟩
  · refine .inr ⟨g, cap, cur.toList.drop (l.length * k), rfl, hb, hn, hm, ?_, ?_⟩
    · rw [List.length_drop, Array.length_toList, hs, Nat.sub_mul]
    · rw [← ht, List.take_append_drop]; exact hg
theorem RowK.below {e : TypeId} {w w1 : World} {base : Nat} {v : Value} {l : List α} (h : RowK enc k e w base v l) (hb : Below w.heap.size w w1) : RowK enc k e w1 base v l := by
  rcases h with h | ⟨g, cap, sp, rfl, h1, hn, hm, hs, hg⟩
  · exact .inl h
  · exact .inr ⟨g, cap, sp, rfl, h1, hn, hm, hs, (hb.block g (blk_lt hg)).trans hg⟩
theorem RowK.nil (e : TypeId) (w : World) (base : Nat) : RowK enc k e w base (.slice none 0 0) [] := .inl ⟨rfl, rfl⟩
end
section
variable {P : Program}
/-- copy onto a row known whole, elements of several cells. -/
theorem run_copy_rowK (w : World) (dT sT ty elem : TypeId) (g o dLen dCap : Nat) (a : Addr) (sLen sCap size : Nat) (cur : Array Value) (t : TypeId) (cs : List Value)
    (hu : P.underlying dT = some (.slice elem)) (hs : (P.info? elem).map (·.size) = some size)
    (hg : w.heap[g]? = some (.cells cur t (0, 0))) (hn : cs.length = Nat.min sLen dLen * size)
    (hsrc : ∀ j v, cs[j]? = some v → w.cell? (a.add j) = some v) (hfit : o + cs.length ≤ cur.size) (h1 : ∀ v ∈ cs, v.oneCell' = true) :
    (Builtin.copy_ #[dT, sT] ty #[.slice (some ⟨g, o, none⟩) dLen dCap, .slice (some a) sLen sCap]).run P w =
      .ok (goInt (Nat.min sLen dLen)) (w.setRow g (splice cur.toList o cs).toArray) := by
  have hl := run_loadCells_list (P := P) w a cs hsrc
  have hst := run_storeCells_at P g o t cs 0 cur w hg (by simpa using hfit) h1
  cases hq : P.info? elem with
  | none => simp [hq] at hs
  | some i =>
    have hi : i.size = size := by simpa [hq] using hs
    rw [hn] at hl
    simp only [Nat.add_zero] at hst
    simp [Builtin.copy_, run_underlying hu, Builtin.lenOf, Builtin.firstCells, sizeOf, typeInfo, hq, hi, hl, hst, splice]
theorem run_append_roomK (w : World) (t ty e : TypeId) (size : Nat) (ht : P.underlying t = some (.slice e)) (hs : (P.info? e).map (·.size) = some size)
    (g sLen sCap : Nat) (a : Addr) (m c : Nat) (cur : Array Value) (tt : TypeId) (hg : w.heap[g]? = some (.cells cur tt (0, 0))) (news : List Value) (hl : news.length = m * size) (hnews : ∀ j u, news[j]? = some u → w.cell? (a.add j) = some u) (h1 : ∀ u ∈ news, u.oneCell' = true)
    (hroom : sLen + m ≤ sCap) (hfit : sLen * size + news.length ≤ cur.size) :
    (Builtin.append_ #[t, t] ty #[.slice (some ⟨g, 0, none⟩) sLen sCap, .slice (some a) m c]).run P w = .ok (.slice (some ⟨g, 0, none⟩) (sLen + m) sCap) (w.setRow g (splice cur.toList (sLen * size) news).toArray) := by
  cases hq : P.info? e with
  | none => simp [hq] at hs
  | some i =>
    have hi : i.size = size := by simpa [hq] using hs
    subst hi
    have hfc := run_firstCells_some (P := P) w i.size m a m c news hl hnews
    have hst := run_storeCells_at P g (sLen * i.size) tt news 0 cur w hg (by simpa using hfit) h1
    simp only [Nat.add_zero] at hst
    simp [Builtin.append_, run_underlying ht, sizeOf, typeInfo, hq, Builtin.lenOf, hroom, hfc, hst, splice, add_plain]
/-- copy where its run is known by an equation. -/
theorem wp_copy_runE (w : World) {o : Oper} {a : Act} {K : Act → World → Prop} {Q : Exit → Act → World → Prop} (d s : Operand) (t t' : TypeId)
    (ho : o.op = .call { callee := .builtin .copy, args := #[d, s], argTypes := #[t, t'] }) (v u : Value) (hd : a.eval d = v) (hs : a.eval s = u) {v' : Value} {w' : World}
    (hr : (Builtin.copy_ #[t, t'] o.type #[v, u]).run P w = .ok v' w') (h : K (a.put o.dst v') w') : o.wp P a w K Q := by
  unfold Oper.wp execOp
  simp only [ho, resolve, invoke, builtin, Sem.run_bind, Sem.run_pure, Result.andThen_ok, List.map_toArray, List.map_cons, List.map_nil, hd, hs, hr]
  exact h
theorem wpList_copy_runE (w : World) {ops : Array Oper} {rest : List Oper} {o : Oper} {a : Act} {Q : Exit → Act → World → Prop} (hgd : o.guard = none) (d s : Operand) (t t' : TypeId)
    (ho : o.op = .call { callee := .builtin .copy, args := #[d, s], argTypes := #[t, t'] }) (v u : Value) (hd : a.eval d = v) (hs : a.eval s = u) {v' : Value} {w' : World}
    (hr : (Builtin.copy_ #[t, t'] o.type #[v, u]).run P w = .ok v' w') (h : wpList P ops Q rest (a.put o.dst v') w') : wpList P ops Q (o :: rest) a w :=
  wpList_plain hgd fun _ hK => wp_copy_runE w d s t t' ho v u hd hs hr (hK _ _ h)
theorem step_copy_runE {ops : Array Oper} {o : Oper} {a : Act} {w : World} {K : Act → World → Prop} {Q : Exit → Act → World → Prop} {E : Prop}
    (hg : o.guard = none) (d x : Operand) (dT sT : TypeId) (hop : o.op = Op.call { callee := Callee.builtin Builtin.copy, args := #[d, x], argTypes := #[dT, sT] })
    (v u : Value) (hd : a.eval d = v) (hx : a.eval x = u) {v' : Value} {w' : World} (hr : (Builtin.copy_ #[dT, sT] o.type #[v, u]).run P w = .ok v' w') (hK : K (a.put o.dst v') w') :
    if Region.wanted o (yielded ops a.tmps) = true then Oper.wp P o a w K Q else E := by
  have hw : Region.wanted o (yielded ops a.tmps) = true := by simp [Region.wanted, hg]
  rw [if_pos hw]
  exact wp_copy_runE w d x dT sT hop v u hd hx hr hK
theorem step_append_runE {ops : Array Oper} {o : Oper} {a : Act} {w : World} {K : Act → World → Prop} {Q : Exit → Act → World → Prop} {E : Prop}
    (hg : o.guard = none) (d x : Operand) (dT sT : TypeId) (hop : o.op = Op.call { callee := Callee.builtin Builtin.append, args := #[d, x], argTypes := #[dT, sT] })
    (v u : Value) (hd : a.eval d = v) (hx : a.eval x = u) {v' : Value} {w' : World} (hr : (Builtin.append_ #[dT, sT] o.type #[v, u]).run P w = .ok v' w') (hK : K (a.put o.dst v') w') :
    if Region.wanted o (yielded ops a.tmps) = true then Oper.wp P o a w K Q else E := by
  have hw : Region.wanted o (yielded ops a.tmps) = true := by simp [Region.wanted, hg]
  rw [if_pos hw]
  unfold Oper.wp execOp
  simp only [hop, resolve, invoke, builtin, Sem.run_bind, Sem.run_pure, Result.andThen_ok, List.map_toArray, List.map_cons, List.map_nil, hd, hx, hr]
  exact hK
theorem wpList_append_runE (w : World) {ops : Array Oper} {rest : List Oper} {o : Oper} {a : Act} {Q : Exit → Act → World → Prop} (hgd : o.guard = none) (d s : Operand) (t t' : TypeId)
    (ho : o.op = .call { callee := .builtin .append, args := #[d, s], argTypes := #[t, t'] }) (v u : Value) (hd : a.eval d = v) (hs : a.eval s = u) {v' : Value} {w' : World}
    (hr : (Builtin.append_ #[t, t'] o.type #[v, u]).run P w = .ok v' w') (h : wpList P ops Q rest (a.put o.dst v') w') : wpList P ops Q (o :: rest) a w :=
  wpList_plain hgd fun _ hK => by
    unfold Oper.wp execOp
    simp only [ho, resolve, invoke, builtin, Sem.run_bind, Sem.run_pure, Result.andThen_ok, List.map_toArray, List.map_cons, List.map_nil, hd, hs, hr]
    exact hK _ _ h
theorem wpList_clear_runE (w : World) {ops : Array Oper} {rest : List Oper} {o : Oper} {a : Act} {Q : Exit → Act → World → Prop} (hgd : o.guard = none) (d : Operand) (t : TypeId)
    (ho : o.op = .call { callee := .builtin .clear, args := #[d], argTypes := #[t] }) (v : Value) (hd : a.eval d = v) {v' : Value} {w' : World}
    (hr : (Builtin.clear_ #[t] o.type #[v]).run P w = .ok v' w') (h : wpList P ops Q rest (a.put o.dst v') w') : wpList P ops Q (o :: rest) a w :=
  wpList_plain hgd fun _ hK => by
    unfold Oper.wp execOp
    simp only [ho, resolve, invoke, builtin, Sem.run_bind, Sem.run_pure, Result.andThen_ok, List.map_toArray, List.map_cons, List.map_nil, hd, hr]
    exact hK _ _ h
end
theorem splice_ins {β : Type} (T D s S c : List β) (k t : Nat) (hT : T.length = t) (hs : s.length = k) (hc : c.length = k) : splice (splice (T ++ D ++ (s ++ S)) (t + k) D) t c = T ++ (c ++ (D ++ S)) := by
  have hL : (T ++ D ++ (s ++ S)).length = t + D.length + (k + S.length) := by simp only [List.length_append]; omega
  have e1 : (T ++ D ++ (s ++ S)).drop (t + k + D.length) = S := by
    rw [show T ++ D ++ (s ++ S) = (T ++ D ++ s) ++ S by simp, List.drop_left' (by simp only [List.length_append]; omega)]
  have e2 : (T ++ D ++ (s ++ S)).take t = T := by rw [List.append_assoc, List.take_left' hT]
  have hY : ((T ++ D ++ (s ++ S)).take (t + k)).length = t + k := by rw [List.length_take]; omega
  have e3 : ((T ++ D ++ (s ++ S)).take (t + k)).take t = T := by rw [List.take_take, Nat.min_eq_left (by omega), e2]
  unfold splice
  rw [e1, List.take_append_of_le_length (by omega), e3, hc, List.drop_left' hY]
theorem grown_drew (w : World) (row : Option Nat) : w.grownBy w.drew row := ⟨rfl, rfl, rfl, Nat.le_refl _, fun _ _ _ => rfl⟩
theorem splice_two {β : Type} (T Z c D : List β) (k t : Nat) (hT : T.length = t) (hc : c.length = k) : splice (splice (T ++ Z) t c) (t + k) D = T ++ (c ++ (D ++ Z.drop (k + D.length))) := by
  have e1 : splice (T ++ Z) t c = (T ++ c) ++ Z.drop k := by
    unfold splice
    rw [List.take_left' hT, hc, ← hT, List.drop_append, List.drop_of_length_le (by omega), show T.length + k - T.length = k by omega]
    simp
  have h2 : (T ++ c).length = t + k := by simp only [List.length_append]; omega
  rw [e1]
  unfold splice
  rw [List.take_left' h2, ← h2, List.drop_append, List.drop_of_length_le (by omega), show (T ++ c).length + D.length - (T ++ c).length = D.length by omega, List.drop_drop]
  simp

end Go.Proofs.Ytemglmcddaeedaa.PA

namespace Go.Proofs.Ytemglmcddaeedaa.PA
open Go.RowKit Go.Proofs.YtemglmcddaeedaaW.PrintWords Go.Proofs.YtemglmcddaeedaaW.PrintLast Go.Proofs.YtemglmcddaeedaaW.PrintMore
attribute [local go_sem] max2_int min2_int max_two min_two max_three min_three max_four min_four   -- for this text's walks alone
set_option linter.unusedVariables false
set_option linter.unusedSimpArgs false

/-! ### page_insert: function 0 -/
def cv (c : S45) : List Value := [.int .i64 c.f0, .string c.f1]
theorem cv_len (x : S45) : (cv x).length = 2 := rfl
theorem cv_one (x : S45) : ∀ v ∈ cv x, v.oneCell' = true := by
  intro v hv
  simp only [cv, List.mem_cons, List.not_mem_nil, or_false] at hv
  rcases hv with rfl | rfl <;> rfl
/-- s[a:b] of a row at any place, elements of two cells, in the spelling of the walk. -/
theorem ins_copy (w : World) (ty : TypeId) (g o dLen dCap o2 g2 sLen sCap : Nat) (cur : Array Value) (cs : List Value) (hg : w.heap[g]? = some (.cells cur 45 (0, 0))) (hn : cs.length = Nat.min sLen dLen * 2)
    (hsrc : ∀ j v, cs[j]? = some v → w.cell? ⟨g2, o2 + j, none⟩ = some v) (hfit : o + cs.length ≤ cur.size) (h1 : ∀ v ∈ cs, v.oneCell' = true) :
    (Builtin.copy_ #[22, 22] ty #[.slice (some ⟨g, o, none⟩) dLen dCap, .slice (some ⟨g2, o2, none⟩) sLen sCap]).run Try.prog w =
      .ok (goInt (Nat.min sLen dLen)) (w.setRow g (splice cur.toList o cs).toArray) :=
  run_copy_rowK w _ _ ty 45 g o dLen dCap ⟨g2, o2, none⟩ sLen sCap 2 cur 45 cs Try.underlying22 (by kernel_rfl) hg hn (fun j v hj => by rw [Addr.add_lit]; exact hsrc j v hj) hfit h1
set_option maxHeartbeats 4000000 in
set_option maxRecDepth 100000 in
theorem insert_room (l : List S45) (i : Nat) (hi : i < l.length) (x : S45) (w : World) (g cap vb : Nat) (sp : List Value) (hcap : l.length + 1 ≤ cap) (hm : cap ≤ maxLen) (hsp : sp.length = (cap - l.length) * 2)
    (hg : w.heap[g]? = some (.cells (encs_ cv l ++ sp).toArray 45 (0, 0))) (hvb : w.heap[vb]? = some (.cells (cv x).toArray 45 (0, 0))) (hne : vb ≠ g) :
    Calls Try.prog 72 #[.slice (some ⟨g, 0, none⟩) l.length cap, .int .i64 (i : Int), .slice (some ⟨vb, 0, none⟩) 1 1] w fun e w' =>
      e = .returned (.slice (some ⟨g, 0, none⟩) (l.length + 1) cap) ∧ w'.heap[g]? = some (.cells (encs_ cv (l.take i ++ x :: l.drop i) ++ sp.drop 2).toArray 45 (0, 0)) ∧ w.grownBy w' (some g) := by
  have hov : ∀ (W : World) n m c, W.heap[g]? = some (.cells (encs_ cv l ++ sp).toArray 45 (0, 0)) → W.heap[vb]? = some (.cells (cv x).toArray 45 (0, 0)) → (callFunc 112 #[.slice (some ⟨vb, 0, none⟩) 1 1, .slice (some ⟨g, n, none⟩) m c]).run Try.prog W = .ok (.value (.bool false)) W := by
    intro W n m c h1 h2
    rw [run_callFunc_extern Try.func112 (by kernel_rfl) (by kernel_rfl) (by kernel_rfl) (e := Extern.SlicesOverlaps.overlaps #[22, 22] #[4]) (by kernel_rfl),
      Lib.run_overlaps_apart W 22 4 45 Try.underlying22 2 (fun W => by kernel_rfl) ⟨vb, 0, none⟩ ⟨g, n, none⟩ 1 1 m c hne 45 45 2 ((encs_ cv l ++ sp).length) (by simp [World.shape?, h2, cv]) (by simp [World.shape?, h1]) (by rw [List.length_append, encs_len cv_len]; omega) (blk_frozen h2 0) (blk_frozen h2 2)]
    rfl
  obtain ⟨n, hn⟩ : ∃ n, l.length = n := ⟨_, rfl⟩
  unfold maxLen at hm
  have hcl : (encs_ cv (l.drop i)).length = (n - i) * 2 := by rw [encs_len cv_len, List.length_drop, hn]
  have hcs := encs_drop (enc := cv) cv_len l i (by omega)
  have hct := encs_take (enc := cv) cv_len l i (by omega)
  have hll : (encs_ cv l).length = n * 2 := by rw [encs_len cv_len, hn]
  rw [hn] at hcap hi hsp ⊢
  obtain ⟨R1, hR1⟩ : ∃ R1 : List Value, splice (encs_ cv l ++ sp) ((i + 1) * 2) (encs_ cv (l.drop i)) = R1 := ⟨_, rfl⟩
  obtain ⟨W1, hW1⟩ : ∃ W1, w.drew.setRow g R1.toArray = W1 := ⟨_, rfl⟩
  have hG1 : W1.heap[g]? = some (.cells R1.toArray 45 (0, 0)) := by rw [← hW1]; exact setRow_heap w.drew g _ _ _ _ (blk_drew hg)
  have hV1 : W1.heap[vb]? = some (.cells (cv x).toArray 45 (0, 0)) := by rw [← hW1, setRow_other w.drew g vb _ hne]; exact hvb
  have hRl : R1.length = cap * 2 := by
    rw [← hR1]
    simp only [splice, List.length_append, List.length_take, List.length_drop, hcl, hll, hsp]
    omega
  have hcp1 : ∀ ty dc sc, (Builtin.copy_ #[22, 22] ty #[.slice (some ⟨g, (i + 1) * 2, none⟩) (n - i) dc, .slice (some ⟨g, i * 2, none⟩) (n + 1 - i) sc]).run Try.prog w.drew = .ok (goInt (Nat.min (n + 1 - i) (n - i))) W1 := fun ty dc sc => by
    rw [← hW1, ← hR1]
    exact ins_copy w.drew ty g _ _ dc (i * 2) g _ sc _ (encs_ cv (l.drop i)) (blk_drew hg) (by rw [hcl]; congr 1; simp only [Nat.min_def]; split <;> omega)
      (fun j v hj => by
        rw [blk_cell (blk_drew hg)]
        rw [← hcs, List.getElem?_drop] at hj
        simp only [List.getElem?_toArray]
        rw [List.getElem?_append_left (List.getElem?_eq_some_iff.1 hj).1]
        exact hj) (by simp only [List.size_toArray, List.length_append, hcl, hll, hsp]; omega) (encs_oneCell cv_one _)
  obtain ⟨R2, hR2⟩ : ∃ R2 : List Value, splice R1 (i * 2) (cv x) = R2 := ⟨_, rfl⟩
  have hcp2 : ∀ ty dc, (Builtin.copy_ #[22, 22] ty #[.slice (some ⟨g, i * 2, none⟩) (n + 1 - i) dc, .slice (some ⟨vb, 0, none⟩) 1 1]).run Try.prog W1 = .ok (goInt (Nat.min 1 (n + 1 - i))) (W1.setRow g R2.toArray) := fun ty dc => by
    rw [← hR2]
    exact ins_copy W1 ty g _ _ dc 0 vb _ 1 _ (cv x) hG1 (by rw [cv_len]; simp only [Nat.min_def]; split <;> omega)
      (fun j v hj => by
        rw [blk_cell hV1]
        simpa using hj) (by simp only [List.size_toArray, hRl, cv_len]; omega) (cv_one _)
  have hfin : R2 = encs_ cv (l.take i ++ x :: l.drop i) ++ sp.drop 2 := by
    rw [← hR2, ← hR1, encs_app, encs_cons, ← hct, ← hcs]
    have h2 : (sp.take 2).length = 2 := by rw [List.length_take]; omega
    have hT : ((encs_ cv l).take (i * 2)).length = i * 2 := by rw [List.length_take]; omega
    have e := splice_ins ((encs_ cv l).take (i * 2)) ((encs_ cv l).drop (i * 2)) (sp.take 2) (sp.drop 2) (cv x) 2 (i * 2) hT h2 (cv_len x)
    rw [List.take_append_drop, List.take_append_drop, show i * 2 + 2 = (i + 1) * 2 by omega] at e
    rw [e]
    simp
  have hz1 : ¬ ((1 : Int) = 0) := by omega
  have hz2 : ¬ ((i : Int) = (n : Int)) := by omega
  have hin : i ≤ n := by omega
  have hw1 : IntKind.i64.wrap ((i : Int) + 1) = (i : Int) + 1 := by rw [IntKind.wrap_i64]; omega
  have hb1 : (0 : Int) ≤ (i : Int) + 1 := by omega
  have htn : ((i : Int) + 1).toNat = i + 1 := by omega
  have hb2 : ¬ (cap = i + 1) := by omega
  have hb3 : (i : Int) ≤ (n : Int) + 1 := by omega
  have hb4 : ¬ (cap = i) := by omega
  have HG := Aside0.mk hg
  have HV := Aside0.mk hvb
  have HN := Aside0.mk hn
  have HX := Aside0.mk (And.intro hW1 (And.intro hG1 hfin))
  clear hg hvb hn hcl hcs hct hll hsp hW1 hG1 hV1 hRl hfin hR1 hR2
  go_enter Try.func72, Try.ntmps72
  go_wp2_with (simp only [hov _ _ _ _ HG.out HV.out])
  go_region_law (refine step_copy_runE rfl _ _ 22 22 rfl _ _ (by simp [Act.eval, Act.put]) (by simp [Act.eval, Act.put]) (hcp1 _ _ _) ?_)
  go_wp2_with (at_builtin; refine wpList_copy_runE _ rfl _ _ 22 22 rfl _ _ rfl rfl (hcp2 _ _) ?_)
  go_ret
  refine ⟨rfl, ?_, ?_⟩
  · rw [← HX.out.2.2]; exact setRow_heap W1 g _ _ _ _ HX.out.2.1
  · rw [← HX.out.1]; exact (grown_drew w _).trans ((grown_setRow _ _ _).trans (grown_setRow _ _ _))
set_option maxHeartbeats 4000000 in
set_option maxRecDepth 100000 in
theorem insert_grow (l : List S45) (i : Nat) (hi : i < l.length) (x : S45) (w : World) (g cap vb : Nat) (sp : List Value) (hcap : l.length ≤ cap) (hcap2 : cap < l.length + 1) (hm : cap ≤ 1000000) (hsp : sp.length = (cap - l.length) * 2)
    (hg : w.heap[g]? = some (.cells (encs_ cv l ++ sp).toArray 45 (0, 0))) (hvb : w.heap[vb]? = some (.cells (cv x).toArray 45 (0, 0))) :
    Calls Try.prog 72 #[.slice (some ⟨g, 0, none⟩) l.length cap, .int .i64 (i : Int), .slice (some ⟨vb, 0, none⟩) 1 1] w fun e w' =>
      ∃ G SP, e = .returned (.slice (some ⟨w.heap.size, 0, none⟩) (l.length + 1) G) ∧ l.length + 1 ≤ G ∧ G ≤ maxLen ∧ SP.length = (G - (l.length + 1)) * 2 ∧ w'.heap[w.heap.size]? = some (.cells (encs_ cv (l.take i ++ x :: l.drop i) ++ SP).toArray 45 (0, 0)) ∧ Below w.heap.size w w' := by
  obtain ⟨n, hn⟩ : ∃ n, l.length = n := ⟨_, rfl⟩
  have hcl : (encs_ cv (l.drop i)).length = (n - i) * 2 := by rw [encs_len cv_len, List.length_drop, hn]
  have hcs := encs_drop (enc := cv) cv_len l i (by omega)
  have hct := encs_take (enc := cv) cv_len l i (by omega)
  have hll : (encs_ cv l).length = n * 2 := by rw [encs_len cv_len, hn]
  rw [hn] at hcap hcap2 hi hsp ⊢
  obtain ⟨i0, hi0, hz0, hzs, hzb⟩ := info_parts (show (Try.prog.info? 45).map (fun i => (i.zero, i.size, i.bytes)) = some (some (.agg #[.int .i64 0, .string ⟨#[]⟩]), 2, 24) by kernel_rfl)
  have hkk : (n : Int) + 1 - (i : Int) = ((n + 1 - i : Nat) : Int) := by omega
  have hik : i + (n + 1 - i) = n + 1 := by omega
  have hold : (Builtin.firstCells i0.size i (.slice (some ⟨g, 0, none⟩) i cap)).run Try.prog w.drew = .ok (encs_ cv (l.take i)).toArray w.drew := by
    rw [hzs]
    exact run_firstCells_some w.drew 2 i ⟨g, 0, none⟩ i cap (encs_ cv (l.take i)) (by rw [encs_len cv_len, List.length_take]; omega) (fun j v hj => by
      rw [add_plain, blk_cell (blk_drew hg)]
      rw [← hct, List.getElem?_take] at hj
      split at hj
      · simp only [List.getElem?_toArray]
        rw [List.getElem?_append_left (List.getElem?_eq_some_iff.1 hj).1]
        exact hj
      · cases hj)
  obtain ⟨G, hG⟩ : ∃ G, G = grownCap w (n + 1) cap 45 := ⟨_, rfl⟩
  obtain ⟨ROW, hROW⟩ : ∃ ROW : Array Value, ROW = (encs_ cv (l.take i)).toArray ++ Builtin.zeroCells (Value.agg #[.int .i64 0, .string ⟨#[]⟩]).cells (n + 1 - i) ++ Builtin.zeroCells (Value.agg #[.int .i64 0, .string ⟨#[]⟩]).cells (G - (n + 1)) := ⟨_, rfl⟩
  have hrz : ∀ ty, (Builtin.append_ #[22, 3] ty #[.slice (some ⟨g, 0, none⟩) i cap, .int .i64 ((n : Int) + 1 - (i : Int))]).run Try.prog w =
      .ok (.slice (some ⟨w.heap.size, 0, none⟩) (n + 1) G) (w.drew.alloc (.cells ROW 45)) := fun ty => by
    have h := Lib.run_append_grow_zeros w 22 3 ty 45 i0 _ .i64 .i64 Try.underlying22 Try.underlying3 hi0 hz0 (some ⟨g, 0, none⟩) i cap _ hold (n + 1 - i) (by omega) (by omega) (by omega) (by omega) (by rw [hzb]; omega) (by rw [hzb, hik]; exact growslice_fits (by omega) (by omega))
    rw [hik] at h
    rw [hkk, hROW, hG]
    exact h
  have hGn : n + 1 ≤ G := by rw [hG]; exact grownCap_ge w _ _ _
  have hGm : G ≤ maxLen := by rw [hG]; exact grownCap_le_maxLen w (n + 1) cap 45 (by unfold maxLen; omega)
  have hdl : (encs_ cv (l.drop i)).length = (n - i) * 2 := hcl
  have hb1 := blk_lt hg
  have hv1 := blk_lt hvb
  obtain ⟨Z, hZ, hZl⟩ : ∃ Z, ROW.toList = encs_ cv (l.take i) ++ Z ∧ Z.length = (G - i) * 2 := by
    refine ⟨(Builtin.zeroCells (Value.agg #[.int .i64 0, .string ⟨#[]⟩]).cells (n + 1 - i) ++ Builtin.zeroCells (Value.agg #[.int .i64 0, .string ⟨#[]⟩]).cells (G - (n + 1))).toList, by rw [hROW]; simp, ?_⟩
    simp [Builtin.zeroCells, Value.cells]
    omega
  have hROW2 : ROW = (encs_ cv (l.take i) ++ Z).toArray := by rw [← hZ]
  have hTl : (encs_ cv (l.take i)).length = i * 2 := by rw [encs_len cv_len, List.length_take]; omega
  obtain ⟨b, hb⟩ : ∃ b, w.heap.size = b := ⟨_, rfl⟩
  simp only [hb]
  obtain ⟨Wa, hWa⟩ : ∃ Wa, (w.alloc (.cells ROW 45)).drew = Wa := ⟨_, rfl⟩
  have hrz' : ∀ ty, (Builtin.append_ #[22, 3] ty #[.slice (some ⟨g, 0, none⟩) i cap, .int .i64 ((n : Int) + 1 - (i : Int))]).run Try.prog w = .ok (.slice (some ⟨b, 0, none⟩) (n + 1) G) Wa := fun ty => by
    rw [hrz ty, ← hWa, ← hb]; rfl
  have hBa : Below b w Wa := by rw [← hWa, ← hb]; exact (below_alloc (Below.refl _ w) _).drew
  have hGb : Wa.heap[b]? = some (.cells (encs_ cv (l.take i) ++ Z).toArray 45 (0, 0)) := by rw [← hWa, ← hb, ← hROW2]; exact blk_drew (blk_new w _)
  have hGg : Wa.heap[g]? = some (.cells (encs_ cv l ++ sp).toArray 45 (0, 0)) := (hBa.block g (by omega)).trans hg
  have hGv : Wa.heap[vb]? = some (.cells (cv x).toArray 45 (0, 0)) := (hBa.block vb (by omega)).trans hvb
  obtain ⟨R1, hR1⟩ : ∃ R1 : List Value, splice (encs_ cv (l.take i) ++ Z) (i * 2) (cv x) = R1 := ⟨_, rfl⟩
  obtain ⟨Wb, hWb⟩ : ∃ Wb, Wa.setRow b R1.toArray = Wb := ⟨_, rfl⟩
  have hRl : R1.length = G * 2 := by
    rw [← hR1]
    simp only [splice, List.length_append, List.length_take, List.length_drop, cv_len, hTl, hZl]
    omega
  have hcpA : ∀ ty dc, (Builtin.copy_ #[22, 22] ty #[.slice (some ⟨b, i * 2, none⟩) (n + 1 - i) dc, .slice (some ⟨vb, 0, none⟩) 1 1]).run Try.prog Wa = .ok (goInt (Nat.min 1 (n + 1 - i))) Wb := fun ty dc => by
    rw [← hWb, ← hR1]
    exact ins_copy Wa ty b _ _ dc 0 vb _ 1 _ (cv x) hGb (by rw [cv_len]; simp only [Nat.min_def]; split <;> omega)
      (fun j v hj => by
        rw [blk_cell hGv]
        simpa using hj) (by simp only [List.size_toArray, List.length_append, hTl, hZl, cv_len]; omega) (cv_one _)
  have hGb2 : Wb.heap[b]? = some (.cells R1.toArray 45 (0, 0)) := by rw [← hWb]; exact setRow_heap Wa b _ _ _ _ hGb
  have hGg2 : Wb.heap[g]? = some (.cells (encs_ cv l ++ sp).toArray 45 (0, 0)) := by rw [← hWb, setRow_other Wa b g _ (by omega)]; exact hGg
  obtain ⟨R2, hR2⟩ : ∃ R2 : List Value, splice R1 ((i + 1) * 2) (encs_ cv (l.drop i)) = R2 := ⟨_, rfl⟩
  have hcpB : ∀ ty dc sc, (Builtin.copy_ #[22, 22] ty #[.slice (some ⟨b, (i + 1) * 2, none⟩) (n - i) dc, .slice (some ⟨g, i * 2, none⟩) (n - i) sc]).run Try.prog Wb.drew = .ok (goInt (Nat.min (n - i) (n - i))) (Wb.drew.setRow b R2.toArray) := fun ty dc sc => by
    rw [← hR2]
    exact ins_copy Wb.drew ty b _ _ dc (i * 2) g _ sc _ (encs_ cv (l.drop i)) (blk_drew hGb2) (by rw [hdl]; congr 1; simp only [Nat.min_def]; split <;> omega)
      (fun j v hj => by
        rw [blk_cell (blk_drew hGg2)]
        rw [← hcs, List.getElem?_drop] at hj
        simp only [List.getElem?_toArray]
        rw [List.getElem?_append_left (List.getElem?_eq_some_iff.1 hj).1]
        exact hj) (by simp only [List.size_toArray, hRl, hdl]; omega) (encs_oneCell cv_one _)
  have hfin : ∃ SP : List Value, SP.length = (G - (n + 1)) * 2 ∧ R2 = encs_ cv (l.take i ++ x :: l.drop i) ++ SP := by
    have e := splice_two (encs_ cv (l.take i)) Z (cv x) (encs_ cv (l.drop i)) 2 (i * 2) hTl (cv_len x)
    rw [hR1, show i * 2 + 2 = (i + 1) * 2 by omega, hR2] at e
    refine ⟨_, ?_, e.trans (by rw [encs_app, encs_cons]; simp; rfl)⟩
    rw [List.length_drop, hZl, hdl]
    omega
  have hBb : Below b w (Wb.drew.setRow b R2.toArray) := by
    refine (hBa.grown (w' := Wb) (row := some b) ?_ (by rw [← hWa, ← hb]; simp) (by intro k hk; cases hk; omega)).grown (row := some b) ((grown_drew Wb _).trans (grown_setRow _ _ _)) ?_ (by intro k hk; cases hk; omega)
    · rw [← hWb]; exact grown_setRow _ _ _
    · rw [← hWb, ← hWa, ← hb]; simp [World.setRow]
  have hz1 : ¬ ((1 : Int) = 0) := by omega
  have hz2 : ¬ ((i : Int) = (n : Int)) := by omega
  have hz3 : (cap : Int) < (n : Int) + 1 := by omega
  have hin : i ≤ n := by omega
  have hw1 : IntKind.i64.wrap ((i : Int) + 1) = (i : Int) + 1 := by rw [IntKind.wrap_i64]; omega
  have hb2 : (0 : Int) ≤ (i : Int) + 1 := by omega
  have htn : ((i : Int) + 1).toNat = i + 1 := by omega
  have hb3 : (i : Int) ≤ (n : Int) := by omega
  have hGi : ¬ (G = i) := by omega
  have hGim : ¬ (G = i + 1) := by omega
  have hci : ¬ (cap = i) := by omega
  have hG63 : G ≤ 9223372036854775807 := by unfold maxLen at hGm; omega
  have HN := Aside0.mk hn
  have HX := Aside0.mk (And.intro hGb2 (And.intro hfin hBb))
  have HM := Aside0.mk (And.intro hGn hGm)
  clear hg hvb hn hcl hcs hct hll hsp hkk hik hold hG hROW hrz hdl hZ hZl hROW2 hTl hWa hGb hGg hGv hR1 hWb hRl hGb2 hGg2 hR2 hfin hBa hBb hi0 hz0 hzs hzb hGm
  go_enter Try.func72, Try.ntmps72
  go_wp2_with (first
    | (at_builtin; refine wpList_append_runE _ rfl _ _ _ _ rfl _ _ rfl rfl (hrz' _) ?_)
    | (at_builtin; refine wpList_copy_runE _ rfl _ _ 22 22 rfl _ _ rfl rfl (hcpA _ _) ?_))
  go_region_law (refine step_copy_runE rfl _ _ 22 22 rfl _ _ (by simp [Act.eval, Act.put]) (by simp [Act.eval, Act.put]) (hcpB _ _ _) ?_)
  go_wp2
  go_ret
  obtain ⟨SP, h1, h2⟩ := HX.out.2.1
  refine ⟨G, SP, rfl, HM.out.1, HM.out.2, h1, ?_, HX.out.2.2⟩
  rw [← h2]
  exact setRow_heap Wb.drew b _ _ _ _ (blk_drew HX.out.1)
theorem reps_cv (w : World) (base : Nat) (ok : Nat → Prop) (l : List S45) : Reps (k45.M w base ok) 2 l (encs_ cv l) := by
  refine ⟨encs_len cv_len l, fun j p hj => ?_⟩
  obtain ⟨hlt, he⟩ := List.getElem?_eq_some_iff.1 hj
  have : ((encs_ cv l).drop (j * 2)).take 2 = cv p := by
    rw [encs_drop cv_len l j (by omega), List.drop_eq_getElem_cons hlt, he, encs_cons]
    exact List.take_left' (cv_len p)
  rw [this]
  exact k45_mkM w base ok p
theorem cv_of_reps {w : World} {base : Nat} {ok : Nat → Prop} : ∀ {l : List S45} {cs : List Value}, Reps (k45.M w base ok) 2 l cs → cs = encs_ cv l := by
  intro l
  induction l with
  | nil => intro cs h; exact List.eq_nil_of_length_eq_zero (by simpa using h.1)
  | cons x l ih =>
    intro cs h
    have h0 := k45_openM (h.2 0 x rfl)
    simp only [Nat.zero_mul, List.drop_zero] at h0
    have h1 : Reps (k45.M w base ok) 2 l (cs.drop 2) := by
      refine ⟨by rw [List.length_drop, h.1, List.length_cons]; omega, fun j p hj => ?_⟩
      have := h.2 (j + 1) p (by simpa using hj)
      rw [show (j + 1) * 2 = 2 + j * 2 by omega, ← List.drop_drop] at this
      exact this
    rw [encs_cons, ← ih h1, show cv x = cs.take 2 from h0.symm, List.take_append_drop]
theorem R_of_row {w : World} {base : Nat} {v : Value} {l : List S45} (h : RowK cv 2 45 w base v l) : Kd.R k45 45 w base (fun _ => True) v l :=
  ⟨fun _ _ => trivial, encs_ cv l, h.owns cv_len, reps_cv _ _ _ _⟩
theorem row_of_R {w : World} {base : Nat} {ok : Nat → Prop} {v : Value} {l : List S45} (h : Kd.R k45 45 w base ok v l) : RowK cv 2 45 w base v l := by
  obtain ⟨_, inner, ho, hr⟩ := h
  rw [cv_of_reps hr] at ho
  exact RowK.of_owns cv_len ho
theorem insert_end (l : List S45) (x : S45) (v : Value) (w : World) (base vb : Nat) (hl : l.length ≤ 100000) (hbase : base ≤ w.heap.size) (HO : RowK cv 2 45 w base v l)
    (hvb : w.heap[vb]? = some (.cells (cv x).toArray 45 (0, 0))) (hvb2 : some vb ≠ v.ownBlock) :
    Calls Try.prog 72 #[v, .int .i64 (l.length : Int), .slice (some ⟨vb, 0, none⟩) 1 1] w fun e w' =>
      ∃ v', e = .returned v' ∧ Kd.R k45 45 w' base (fun _ => True) v' (l ++ [x]) ∧ Below base w w' := by
  have HR : ReadsRow (k45.M w base (fun k => some k ≠ v.ownBlock)) 2 w (some ⟨vb, 0, none⟩) 1 [x] := ⟨rfl, by omega, fun _ => ⟨_, rfl, fun j p hj => by
    match j, hj with
    | 0, hj =>
      cases hj
      exact ⟨cv x, rfl, k45_mkM w base _ x, fun i u hu => by rw [Nat.zero_mul, Nat.zero_add, add_plain, blk_cell hvb]; simpa using hu⟩⟩⟩
  have H0 := Aside0.mk (R_of_row HO)
  have HR := Aside0.mk HR
  have HB := Aside0.mk hbase
  obtain ⟨A, c, rfl, hc⟩ : ∃ A c, v = .slice A l.length c ∧ l.length ≤ c := by
    obtain ⟨A, c, e, h, _⟩ := Kd.R_reads H0.out
    exact ⟨A, c, e, h⟩
  have hz1 : ¬ ((1 : Int) = 0) := by omega
  clear HO hvb hvb2 hbase
  obtain ⟨n, hn⟩ : ∃ n, l.length = n := ⟨_, rfl⟩
  have HN := Aside0.mk hn
  rw [hn] at hl hc ⊢
  rw [hn] at HR H0
  clear hn
  have hcn : n ≤ c := hc
  cases A with
  | none =>
    go_enter Try.func72, Try.ntmps72
    go_wp2_with (at_builtin; refine Kd.R_append_rows k45 base rfl (.tmp 23) (.tmp 24) 22 45 (.agg #[.int .i64 0, .string ⟨#[]⟩]) 24 rfl Try.underlying22 (by kernel_rfl) rfl (by decide) (by decide) _ l [x] _ 1 1 (fun _ => True) _ rfl rfl H0.out HR.out (fun _ _ h => h) (fun k h => ⟨trivial, h⟩) (fun _ _ => trivial) (Below.refl _ _) HB.out (by rw [HN.out]; omega) ?_; intro v1 w1 h1 h2 h3 h4)
    go_ret
    exact ⟨v1, rfl, h1, h2⟩
  | some ad =>
    obtain ⟨ab, ao, asp⟩ := ad
    go_enter Try.func72, Try.ntmps72
    go_wp2_with (at_builtin; refine Kd.R_append_rows k45 base rfl (.tmp 23) (.tmp 24) 22 45 (.agg #[.int .i64 0, .string ⟨#[]⟩]) 24 rfl Try.underlying22 (by kernel_rfl) rfl (by decide) (by decide) _ l [x] _ 1 1 (fun _ => True) _ rfl rfl H0.out HR.out (fun _ _ h => h) (fun k h => ⟨trivial, h⟩) (fun _ _ => trivial) (Below.refl _ _) HB.out (by rw [HN.out]; omega) ?_; intro v1 w1 h1 h2 h3 h4)
    all_goals (go_ret; exact ⟨v1, rfl, h1, h2⟩)
/-- slices.Insert of one cell into a row of one's own. -/
theorem insert_calls (l : List S45) (i : Nat) (hi : i ≤ l.length) (x : S45) (v : Value) (w : World) (base vb : Nat) (hl : l.length ≤ 100000) (hbase : base ≤ w.heap.size)
    (HO : Kd.R k45 45 w base (fun _ => True) v l) (hvb : w.heap[vb]? = some (.cells (cv x).toArray 45 (0, 0))) (hvb2 : some vb ≠ v.ownBlock) :
    Calls Try.prog 72 #[v, .int .i64 (i : Int), .slice (some ⟨vb, 0, none⟩) 1 1] w fun e w' =>
      ∃ v', e = .returned v' ∧ Kd.R k45 45 w' base (fun _ => True) v' (l.take i ++ x :: l.drop i) ∧ Below base w w' := by
  by_cases h : i = l.length
  · subst h
    rw [List.take_length, List.drop_length]
    exact insert_end l x v w base vb hl hbase (row_of_R HO) hvb hvb2
  · rcases row_of_R HO with ⟨rfl, rfl⟩ | ⟨g, cap, sp, rfl, hb, hn, hm, hs, hg⟩
    · exact absurd (Nat.le_antisymm hi (Nat.zero_le _)) h
    · have hll : (l.take i ++ x :: l.drop i).length = l.length + 1 := by simp; omega
      by_cases hr : l.length + 1 ≤ cap
      · refine (insert_room l i (by omega) x w g cap vb sp hr hm hs hg hvb (fun e => hvb2 (by rw [e]; rfl))).mono ?_
        rintro e w' ⟨rfl, h1, h2⟩
        refine ⟨_, rfl, R_of_row (.inr ⟨g, cap, sp.drop 2, by rw [hll], hb, by omega, hm, by rw [List.length_drop, hs, hll]; omega, h1⟩), ?_⟩
        exact (Below.refl base w).grown h2 hbase (by intro k hk; cases hk; exact hb)
      · refine (insert_grow l i (by omega) x w g cap vb sp hn (by omega) (by omega) hs hg hvb).mono ?_
        rintro e w' ⟨G, SP, rfl, h1, h2, h3, h4, h5⟩
        refine ⟨_, rfl, R_of_row (.inr ⟨w.heap.size, G, SP, by rw [hll], hbase, by omega, h2, by rw [hll]; exact h3, h4⟩), ?_⟩
        exact ⟨h5.os, h5.tape, h5.output, h5.size, fun k hk => h5.block k (by omega)⟩

end Go.Proofs.Ytemglmcddaeedaa.PA

namespace Go.Proofs.Ytemglmcddaeedaa.PA
open Go.RowKit Go.Proofs.YtemglmcddaeedaaW.PrintWords Go.Proofs.YtemglmcddaeedaaW.PrintLast Go.Proofs.YtemglmcddaeedaaW.PrintMore
attribute [local go_sem] max2_int min2_int max_two min_two max_three min_three max_four min_four   -- for this text's walks alone
set_option linter.unusedVariables false
set_option linter.unusedSimpArgs false

/-! ### page_find: function 0 -/
/-- Where a line stands among cells in order, or would. -/
def idxS (l : List S45) (n : Int) : Nat := (l.takeWhile (fun c => decide (c.f0 < n))).length
theorem idxS_le (l : List S45) (n : Int) : idxS l n ≤ l.length := by
  unfold idxS
  induction l with
  | nil => simp
  | cons c r ih =>
    rw [List.takeWhile_cons]
    split
    · simp only [List.length_cons]; omega
    · simp
theorem idxS_spec : ∀ {l : List S45}, CellsOk l → ∀ (n : Int) (h : Nat) (hl : h < l.length), l[h].f0 < n ↔ h < idxS l n := by
  intro l
  induction l with
  | nil => intro _ n h hl; simp at hl
  | cons c r ih =>
    intro hok n h hl
    unfold idxS
    rw [List.takeWhile_cons]
    by_cases hc : c.f0 < n
    · rw [if_pos (decide_eq_true hc)]
      cases h with
      | zero => simp [hc]
      | succ h =>
        have := ih hok.tail n h (by simpa using hl)
        simp only [List.getElem_cons_succ, List.length_cons]
        rw [this]
        unfold idxS
        omega
    · rw [if_neg (by simpa using hc)]
      cases h with
      | zero => simp [hc]
      | succ h =>
        have h1 := hok.lt (r[h]'(by simpa using hl)) (List.getElem_mem _)
        simp only [List.getElem_cons_succ, List.length_nil, Nat.not_lt_zero, iff_false]
        omega
theorem idxS_iff {l : List S45} (hok : CellsOk l) (n : Int) (h : Nat) (hl : h < l.length) : l[h].f0 < n ↔ h < idxS l n := idxS_spec hok n h hl
def foundS (l : List S45) (n : Int) : Bool := match l[idxS l n]? with | some c => decide (c.f0 = n) | none => false
set_option maxHeartbeats 4000000 in
theorem find1_calls (c : S45) (n : Int) (h0 : 0 ≤ c.f0 ∧ c.f0 ≤ 1000) (h1 : -1000 ≤ n ∧ n ≤ 1000) (w : World) :
    Calls Try.prog 110 #[.agg #[.int .i64 c.f0, .string c.f1], .int .i64 n] w fun e w' => e = .returned (.int .i64 (c.f0 - n)) ∧ Below w.heap.size w w' := by
  have h2 := h0.1
  have h3 := h0.2
  have h4 := h1.1
  have h5 := h1.2
  clear h0 h1
  have hb := blk_new w (.cells #[.int .i64 c.f0, .string c.f1] 45)
  have c0 := blk_cell hb 0
  simp only [List.getElem?_toArray, List.getElem?_cons_zero] at c0
  have HB := Aside0.mk (below_alloc (Below.refl _ w) (.cells #[.int .i64 c.f0, .string c.f1] 45))
  clear hb
  go_enter Try.func110, Try.ntmps110
  go_wp2
  go_ret
  exact ⟨rfl, HB.out⟩
set_option maxHeartbeats 4000000 in
set_option maxRecDepth 100000 in
theorem bsearch_calls (l : List S45) (A : Option Addr) (c : Nat) (n : Int) (w : World) (hok : CellsOk l) (hn : -1000 ≤ n ∧ n ≤ 1000) (hl : l.length ≤ 1000) (hC : Kd.C k45 w A l.length l) :
    Calls Try.prog 109 #[.slice A l.length c, .int .i64 n, .func (.func 110) #[] #[]] w fun e w' => e = .returned (.tuple #[.int .i64 (idxS l n), .bool (foundS l n)]) ∧ Below w.heap.size w w' := by
  have HOK := Aside0.mk hok
  have HC := Aside0.mk hC
  have HI := Aside0.mk (idxS_le l n)
  clear hok hC
  go_enter Try.func109, Try.ntmps109
  go_wp2
  go_loopw [9, 10] (fun v9 v10 wr => ∃ i j : Nat, i ≤ idxS l n ∧ idxS l n ≤ j ∧ j ≤ l.length ∧ v9 = .int .i64 (i : Int) ∧ v10 = .int .i64 (j : Int) ∧ Aside0 (Below w.heap.size w wr)) (fun v9 v10 _ => (intOf v10).toNat - (intOf v9).toNat)
  case atStart => exact ⟨0, l.length, by omega, HI.out, by omega, rfl, rfl, ⟨Below.refl _ _⟩⟩
  case round =>
    obtain ⟨i, j, hi, hij, hj, rfl, rfl, HB⟩ := hrel
    by_cases hlt : i < j
    · have hm0 : i ≤ (i + j) / 2 := by omega
      have hm1 : (i + j) / 2 < j := by omega
      obtain ⟨h, hh⟩ : ∃ h, (i + j) / 2 = h := ⟨_, rfl⟩
      rw [hh] at hm0 hm1
      have hhl : h < l.length := by omega
      obtain ⟨ad, e1, hx0, hx1⟩ := at_T45 HC.out (h : Int) (by omega) (by omega)
      cases e1
      rw [rd_get l h hhl] at hx0 hx1
      replace hx0 := (HB.out.cell (World.block_lt_of_cell? w _ hx0)).trans hx0
      replace hx1 := (HB.out.cell (World.block_lt_of_cell? w _ hx1)).trans hx1
      simp only [Int.toNat_natCast] at hx0 hx1
      have HS := Aside0.mk (idxS_spec HOK.out n h hhl)
      have hE := HOK.out.each l[h] (List.getElem_mem _)
      obtain ⟨X, hX⟩ : ∃ X, l[h] = X := ⟨_, rfl⟩
      rw [hX] at hx0 hx1 HS hE
      have hE1 : 0 ≤ X.f0 := by omega
      have hE2 : X.f0 ≤ 1000 := by omega
      have HH := Aside0.mk hh
      clear hX hh hE
      have hw1 : (((i : Int) + (j : Int)) / 2) = (h : Int) := by have := HH.out; omega
      by_cases hcmp : X.f0 < n
      · have hd : decide (X.f0 - n < 0) = true := decide_eq_true (by omega)
        go_wp2_with (go_at_call 110; refine (find1_calls X n ⟨hE1, hE2⟩ hn _).mono ?_; rintro e w' ⟨rfl, hb1⟩)
        go_roundw
        case rel => exact ⟨h + 1, j, by have := HS.out.1 hcmp; omega, hij, hj, by go_num, rfl, ⟨below_then HB.out HB.out.size hb1⟩⟩
        case measure => simp [intOf]; omega
      · have hd : decide (X.f0 - n < 0) = false := decide_eq_false (by omega)
        have hge : ¬ h < idxS l n := fun hh => hcmp (HS.out.2 hh)
        go_wp2_with (go_at_call 110; refine (find1_calls X n ⟨hE1, hE2⟩ hn _).mono ?_; rintro e w' ⟨rfl, hb1⟩)
        go_roundw
        case rel => exact ⟨i, h, hi, by omega, by omega, rfl, rfl, ⟨below_then HB.out HB.out.size hb1⟩⟩
        case measure => simp [intOf]; omega
    · obtain ⟨m, hm⟩ : ∃ m, idxS l n = m := ⟨_, rfl⟩
      rw [hm] at hi hij
      have hmi : i = m := by omega
      have hmj : j = m := by omega
      subst hmi
      subst hmj
      clear hi hij hlt
      have HM := Aside0.mk hm
      rw [hm]
      clear hm
      by_cases hlt : j < l.length
      · obtain ⟨ad, e1, hx0, hx1⟩ := at_T45 HC.out (j : Int) (by omega) (by omega)
        cases e1
        rw [rd_get l j hlt] at hx0 hx1
        replace hx0 := (HB.out.cell (World.block_lt_of_cell? w _ hx0)).trans hx0
        replace hx1 := (HB.out.cell (World.block_lt_of_cell? w _ hx1)).trans hx1
        simp only [Int.toNat_natCast] at hx0 hx1
        have hE := HOK.out.each l[j] (List.getElem_mem _)
        have HF := Aside0.mk (show foundS l n = decide (l[j].f0 = n) by unfold foundS; rw [HM.out, List.getElem?_eq_getElem hlt])
        obtain ⟨X, hX⟩ : ∃ X, l[j] = X := ⟨_, rfl⟩
        rw [hX] at hx0 hx1 HF hE
        have hE1 : 0 ≤ X.f0 := by omega
        have hE2 : X.f0 ≤ 1000 := by omega
        clear hX hE
        have hlti : decide (j < l.length) = true := decide_eq_true hlt
        go_wp2_with (go_at_call 110; refine (find1_calls X n ⟨hE1, hE2⟩ hn _).mono ?_; rintro e w' ⟨rfl, hb1⟩)
        go_ret2
        refine ⟨?_, below_then HB.out HB.out.size hb1⟩
        rw [HF.out, HM.out]
        have : ((X.f0 - n) == (0 : Int)) = decide (X.f0 = n) := by rw [Bool.eq_iff_iff]; simp; omega
        first | rfl | (rw [← this]; rfl)
      · have HF := Aside0.mk (show foundS l n = false by unfold foundS; rw [HM.out, List.getElem?_eq_none (by omega)])
        have hlti : decide (j < l.length) = false := decide_eq_false hlt
        go_wp2_with (go_at_call 110; fail)
        go_ret2
        exact ⟨by rw [HF.out, HM.out]; rfl, HB.out⟩
set_option maxHeartbeats 4000000 in
theorem find_calls (l : List S45) (A : Option Addr) (c : Nat) (n : Int) (w : World) (hok : CellsOk l) (hn : -1000 ≤ n ∧ n ≤ 1000) (hl : l.length ≤ 1000) (hC : Kd.C k45 w A l.length l) :
    Calls Try.prog 66 #[.slice A l.length c, .int .i64 n] w fun e w' => e = .returned (.tuple #[.int .i64 (idxS l n), .bool (foundS l n)]) ∧ Below w.heap.size w w' := by
  go_enter Try.func66, Try.ntmps66
  go_wp2_with (go_at_call 109; refine (bsearch_calls l A c n _ hok hn hl hC).mono ?_; rintro e w' ⟨rfl, hb1⟩)
  go_ret2
  exact ⟨rfl, hb1⟩

end Go.Proofs.Ytemglmcddaeedaa.PA

namespace Go.Proofs.Ytemglmcddaeedaa.PA
open Go.RowKit Go.Proofs.YtemglmcddaeedaaW.PrintWords Go.Proofs.YtemglmcddaeedaaW.PrintLast Go.Proofs.YtemglmcddaeedaaW.PrintMore
attribute [local go_sem] max2_int min2_int max_two min_two max_three min_three max_four min_four   -- for this text's walks alone
set_option linter.unusedVariables false
set_option linter.unusedSimpArgs false

/-! ### b_lists: function 0 -/
/-! #### the bytes of a page, as a list -/
theorem bytesOf_get (p : ByteArray) (i : Nat) (h : i < p.size) : (bytesOf p)[i]? = some (bt p (i : Int)) := by
  have hl : i < (bytesOf p).length := by rw [bytesOf_length]; exact h
  rw [List.getElem?_eq_getElem hl]
  congr 1
  simp only [bytesOf, List.getElem_map, bt, Int.toNat_natCast, dif_pos h, Array.getElem_toList]
  rfl
theorem bytesOf_getD (p : ByteArray) (i : Nat) : (bytesOf p).getD i 0 = bt p (i : Int) := by
  by_cases h : i < p.size
  · rw [List.getD_eq_getElem?_getD, bytesOf_get p i h]; rfl
  · rw [List.getD_eq_getElem?_getD, List.getElem?_eq_none (by rw [bytesOf_length]; omega)]
    simp [bt, h]
theorem bytesOf_inj {p q : ByteArray} (h : bytesOf p = bytesOf q) : p = q := by
  cases p with | mk a => cases q with | mk b =>
  congr 1
  apply Array.toList_inj.1
  have hm : ∀ (x y : List UInt8), x.map (fun b => (b.toNat : Int)) = y.map (fun b => (b.toNat : Int)) → x = y := by
    intro x
    induction x with
    | nil => intro y hy; cases y with | nil => rfl | cons _ _ => simp at hy
    | cons c x ih =>
      intro y hy
      cases y with
      | nil => simp at hy
      | cons d y =>
        simp only [List.map_cons, List.cons.injEq] at hy
        rw [ih y hy.2, show c = d from UInt8.toNat_inj.1 (by omega)]
  exact hm _ _ h
theorem bytesOf_range (p : ByteArray) : ∀ x ∈ bytesOf p, 0 ≤ x ∧ x ≤ 255 := by
  intro x hx
  simp only [bytesOf, List.mem_map] at hx
  obtain ⟨b, _, rfl⟩ := hx
  have := UInt8.toNat_lt b
  omega
theorem bytesOf_strOfNums (l : List Int) (h : ∀ x ∈ l, 0 ≤ x ∧ x ≤ 255) : bytesOf (strOfNums l) = l := by
  simp only [bytesOf, strOfNums, List.map_map]
  induction l with
  | nil => rfl
  | cons x l ih =>
    rw [List.map_cons, ih (fun y hy => h y (by simp [hy]))]
    congr 1
    have := h x (by simp)
    simp only [Function.comp, UInt8.toNat_ofNat']
    omega
theorem strOfNums_bytesOf (p : ByteArray) : strOfNums (bytesOf p) = p := bytesOf_inj (bytesOf_strOfNums _ (bytesOf_range p))
theorem bytesOf_extract (p : ByteArray) (i j : Nat) (hj : j ≤ p.size) : bytesOf (p.extract i j) = ((bytesOf p).drop i).take (j - i) := by
  simp only [bytesOf, ByteArray.data_extract, Array.toList_extract, List.extract_eq_take_drop, List.map_take, List.map_drop]
theorem extract_size (p : ByteArray) (i j : Nat) (hj : j ≤ p.size) : (p.extract i j).size = j - i := by
  rw [ByteArray.size_extract]; omega
theorem bytesOf_append (a b : ByteArray) : bytesOf (a ++ b) = bytesOf a ++ bytesOf b := by
  simp only [bytesOf, ByteArray.data_append, Array.toList_append, List.map_append]

end Go.Proofs.Ytemglmcddaeedaa.PA
