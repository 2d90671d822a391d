/- Part of the proof: The law PageChanges of the page layer holds for every size, cells, line, other size and data: Get, Put, PutAt, Set, Drop and Resize are the reference's, and no other line changes. No condition. -/
import Derived.Test.YtemglmcddaeedaaPageChangesC
import Derived.ArgAppend
import Derived.Below
import Derived.BigQuiet
import Derived.ChangeOld
import Derived.Deep.AppendLies
import Derived.Deep.CutBlock
import Derived.Deep.DeepCutAuto
import Derived.Deep.Draws
import Derived.Deep.LoopGhost
import Derived.Deep.OwnRows
import Derived.Deep.QuietTactic
import Derived.Deep.RegionHeld3
import Derived.Deep.RegionLaw
import Derived.Deep.SlicePairs
import Derived.Defers
import Derived.DefersIn
import Derived.KernelRfl
import Derived.Laws.BitsLemmas
import Derived.Laws.BytesArg
import Derived.Laws.CopyOwn
import Derived.Laws.IdiomCopy
import Derived.Laws.MakeOwn
import Derived.Laws.OwnMore
import Derived.Laws.Rows
import Derived.Laws.Slices
import Derived.Lib.AppendStr
import Derived.Lib.AppendZerosOnto
import Derived.Lib.BufferWrite
import Derived.Lib.ConvBytes
import Derived.Lib.Hide
import Derived.Lib.Overlaps
import Derived.LoopIn
import Derived.LoopNIn
import Derived.Maps.AppendAt
import Derived.OpenShut
import Derived.OrdersHeld
import Derived.OwnWalk
import Derived.OwnWalkIn
import Derived.ProofKit
import Derived.RangeFuncBound
import Derived.RangeFuncCalls
import Derived.RangeFuncLeaves
import Derived.RangeFuncNested
import Derived.RangeFuncRecord
import Derived.Recover
import Derived.RecoverIn
import Derived.RowKit
import Derived.RowKit3
import Derived.Shelf.Abstract
import Derived.Shelf.RegionOpen
import Derived.ShutString
import Derived.SizedLaws
import Derived.StillTailTactics
import Derived.Tactics
import Derived.TacticsInMore
import Derived.Test.YtemglmcddaeedaaProg
import Derived.Test.YtemglmcddaeedaaRows
import Derived.Test.YtemglmcddaeedaaWApart
import Derived.Test.YtemglmcddaeedaaWArr
import Derived.Test.YtemglmcddaeedaaWAt
import Derived.Test.YtemglmcddaeedaaWEqStruct
import Derived.Test.YtemglmcddaeedaaWFoot
import Derived.Test.YtemglmcddaeedaaWFootNe
import Derived.Test.YtemglmcddaeedaaWFour
import Derived.Test.YtemglmcddaeedaaWGuard
import Derived.Test.YtemglmcddaeedaaWInv
import Derived.Test.YtemglmcddaeedaaWInvWords
import Derived.Test.YtemglmcddaeedaaWKept
import Derived.Test.YtemglmcddaeedaaWLast
import Derived.Test.YtemglmcddaeedaaWMore
import Derived.Test.YtemglmcddaeedaaWN
import Derived.Test.YtemglmcddaeedaaWNEv
import Derived.Test.YtemglmcddaeedaaWQPut
import Derived.Test.YtemglmcddaeedaaWRepsOne
import Derived.Test.YtemglmcddaeedaaWShare
import Derived.Test.YtemglmcddaeedaaWTab
import Derived.Test.YtemglmcddaeedaaWWords
import Derived.Test.YtemglmcddaeedaaWZeros
import Derived.WalkKit
import Derived.WalkLawsBesides
import Derived.WalkSpells
import Derived.WideLaws
namespace Go.Proofs.Ytemglmcddaeedaa.PA
open Go.RowKit Go.Proofs.YtemglmcddaeedaaW.PrintWords Go.Proofs.YtemglmcddaeedaaW.PrintLast Go.Proofs.YtemglmcddaeedaaW.PrintMore
set_option linter.unusedVariables false
set_option linter.unusedSimpArgs false
/-! #### Fill, New, Cells: what both sides answer -/
def sizeOk (n : Int) : Prop := 32 ≤ n ∧ n ≤ 4096 ∧ n % 8 = 0
instance sizeOk.dec (n : Int) : Decidable (sizeOk n) := by unfold sizeOk; infer_instance
def fillS (n : Int) (l : List S45) : ByteArray × Int :=
  if CellsOk l then (if sizeOk n then (if needsL l > n then (⟨#[]⟩, 13) else (strOfNums (builtL n.toNat l), 0)) else (⟨#[]⟩, 7)) else (⟨#[]⟩, 1)
theorem w64 (x : Int) (h0 : -9223372036854775808 ≤ x) (h1 : x < 9223372036854775808) : wrap64 x = x := by unfold wrap64; omega
theorem size_f (n : Int) : page_size.f n = some (decide (sizeOk n)) := by
  unfold page_size.f
  split
  · split
    · rw [Int.tmod_eq_emod_of_nonneg (by omega)]
      congr 1
      by_cases h : n % 8 = 0
      · rw [decide_eq_true (show sizeOk n from ⟨by omega, by omega, h⟩), h]; rfl
      · rw [decide_eq_false (fun hs : sizeOk n => h hs.2.2)]; simpa using h
    · rw [decide_eq_false (fun hs : sizeOk n => by have := hs.2.1; omega)]
  · rw [decide_eq_false (fun hs : sizeOk n => by have := hs.1; omega)]
theorem refSize_f (n : Int) : ringworkref06_Size.f n = some (decide (sizeOk n)) := by
  rw [← size_f]; rfl
theorem line_f (n : Int) : page_line.f n = some (decide (1 ≤ n ∧ n ≤ 200)) := by
  unfold page_line.f
  split
  · rename_i h; simp; omega
  · rename_i h; simp; omega
theorem CellsOk_take {l : List S45} (h : CellsOk l) (i : Nat) : CellsOk (l.take i) := by
  rw [← List.take_append_drop i l] at h; exact h.append.1
/-- What one more cell asks. -/
theorem ok_next {l : List S45} (i : Nat) (hi : i < l.length) (h : CellsOk (l.take i)) :
    CellsOk (l.take (i + 1)) ↔ (1 ≤ l[i].f0 ∧ l[i].f0 ≤ 200 ∧ 0 < l[i].f1.size ∧ lastL (l.take i) < l[i].f0) := by
  rw [take_snoc l i hi]
  constructor
  · intro hc
    have h1 := hc.each l[i] (List.mem_append.2 (.inr (List.mem_singleton.2 rfl)))
    exact ⟨h1.1, h1.2.1, h1.2.2, lastL_lt hc⟩
  · rintro ⟨h1, h2, h3, h4⟩
    exact h.snoc ⟨h1, h2, h3⟩ h4
theorem lastL_take {l : List S45} (i : Nat) (hi : i ≤ l.length) (hp : 0 < i) : lastL (l.take i) = (l[i - 1]'(by omega)).f0 := by
  have e : l.take i = l.take (i - 1) ++ [l[i - 1]'(by omega)] := by
    have := take_snoc l (i - 1) (by omega)
    rw [show i - 1 + 1 = i by omega] at this
    exact this
  rw [e, lastL_snoc]
theorem lastL_zero {l : List S45} (i : Nat) (hp : ¬ 0 < i) : lastL (l.take i) = 0 := by
  have : i = 0 := by omega
  subst this
  rfl
theorem not_ok {l : List S45} (i : Nat) (h : ¬ CellsOk (l.take i)) : ¬ CellsOk l := fun hl => h (CellsOk_take hl i)
theorem fill_bad {l : List S45} (n : Int) (h : ¬ CellsOk l) : fillS n l = (⟨#[]⟩, 1) := by unfold fillS; rw [if_neg h]
theorem Fill_l0 (n : Int) (l : List S45) (hl : l.length ≤ 9223372036854775807) (hb : bytesL l ≤ 1000000000000) : ∀ (k i : Nat), i ≤ l.length → l.length - i < k → CellsOk (l.take i) →
    page_Fill.l0 k n l l (l.length : Int) (i : Int) = some (fillS n l) := by
  intro k
  induction k with
  | zero => intro i _ h; omega
  | succ k ih =>
    intro i hi hk hok
    rw [page_Fill.l0]
    by_cases hlt : i < l.length
    · have hn := ok_next i hlt hok
      rw [if_pos (by omega), if_pos (by omega), if_pos (by omega), rd_get l i hlt, line_f]
      simp only [Option.bind_some, decide_eq_true_eq]
      by_cases h1 : 1 ≤ l[i].f0 ∧ l[i].f0 ≤ 200
      · rw [if_pos h1]
        by_cases h2 : l[i].f1.toList = ([] : List UInt8)
        · rw [if_pos h2, fill_bad n (not_ok (i + 1) (fun hc => by have := (hn.1 hc).2.2.1; have := (toList_nil _).1 h2; omega))]
        · rw [if_neg h2]
          have h2' : 0 < l[i].f1.size := by
            rcases Nat.eq_zero_or_pos l[i].f1.size with h | h
            · exact absurd ((toList_nil _).2 h) h2
            · exact h
          by_cases h3 : (i : Int) > 0
          · rw [if_pos h3, w64 _ (by omega) (by omega), if_pos (by omega), if_pos (by omega), show (i : Int) - 1 = ((i - 1 : Nat) : Int) by omega, rd_get l (i - 1) (by omega)]
            by_cases h4 : (l[i - 1]'(by omega)).f0 ≥ l[i].f0
            · rw [if_pos h4, fill_bad n (not_ok (i + 1) (fun hc => by have := (hn.1 hc).2.2.2; rw [lastL_take i hi (by omega)] at this; omega))]
            · rw [if_neg h4, w64 _ (by omega) (by omega), show (i : Int) + 1 = ((i + 1 : Nat) : Int) by omega]
              exact ih (i + 1) (by omega) (by omega) (hn.2 ⟨h1.1, h1.2, h2', by rw [lastL_take i hi (by omega)]; omega⟩)
          · rw [if_neg h3, w64 _ (by omega) (by omega), show (i : Int) + 1 = ((i + 1 : Nat) : Int) by omega]
            exact ih (i + 1) (by omega) (by omega) (hn.2 ⟨h1.1, h1.2, h2', by rw [lastL_zero i (by omega)]; omega⟩)
      · rw [if_neg h1, fill_bad n (not_ok (i + 1) (fun hc => h1 ⟨(hn.1 hc).1, (hn.1 hc).2.1⟩))]
    · have hil : i = l.length := by omega
      rw [if_neg (by omega), size_f]
      rw [hil, List.take_length] at hok
      simp only [Option.bind_some, decide_eq_true_eq]
      unfold fillS
      rw [if_pos hok]
      by_cases hs : sizeOk n
      · rw [if_pos hs, if_pos hs]
        obtain ⟨s1, s2, s3⟩ := hs
        unfold page_filled.f
        rw [if_pos ⟨s1, s2, hok, hb⟩]
        split <;> rfl
      · rw [if_neg hs, if_neg hs]
theorem Fill_f (n : Int) (l : List S45) (hl : l.length ≤ 9223372036854775807) (hb : bytesL l ≤ 1000000000000) (k : Nat) (hk : l.length < k) : page_Fill.f k n l = some (fillS n l) :=
  Fill_l0 n l hl hb k 0 (by omega) (by omega) trivial
theorem New_f (n : Int) (k : Nat) (hk : 0 < k) : page_New.f k n = some (fillS n []) := by
  unfold page_New.f
  rw [Fill_f n [] (by simp) (by simp [bytesL]) k (by simpa using hk)]
  rfl
theorem refLast_f (l : List S45) (hl : l.length ≤ 9223372036854775807) : ringworkref06_Last.f l = some (lastL l) := by
  unfold ringworkref06_Last.f
  by_cases h : l.length = 0
  · rw [if_pos (by omega)]
    have : l = [] := List.length_eq_zero_iff.1 h
    subst this; rfl
  · rw [if_neg (by omega), w64 _ (by omega) (by omega), if_pos (by omega), if_pos (by omega), lastL_rd l (by omega)]
theorem refBytes_l0 (l : List S45) (hl : l.length ≤ 9223372036854775807) (hb : bytesL l ≤ 1000000000000) : ∀ (k i : Nat), i ≤ l.length → l.length - i < k →
    ringworkref06_Bytes.l0 k l (bytesL (l.take i) : Int) (i : Int) = some (bytesL l : Int) := by
  intro k
  induction k with
  | zero => intro i _ h; omega
  | succ k ih =>
    intro i hi hk
    rw [ringworkref06_Bytes.l0]
    by_cases hlt : i < l.length
    · have h1 := bytesL_take_succ l i hlt
      have h2 := bytesL_take_le l (i + 1)
      rw [if_pos (by omega), if_pos (by omega), rd_get l i hlt, w64 _ (by omega) (by omega), w64 _ (by omega) (by omega), show (i : Int) + 1 = ((i + 1 : Nat) : Int) by omega, show (bytesL (l.take i) : Int) + (l[i].f1.size : Int) = (bytesL (l.take (i + 1)) : Int) by omega]
      exact ih (i + 1) (by omega) (by omega)
    · rw [if_neg (by omega), List.take_of_length_le (by omega)]
theorem refBytes_f (l : List S45) (hl : l.length ≤ 9223372036854775807) (hb : bytesL l ≤ 1000000000000) (k : Nat) (hk : l.length < k) : ringworkref06_Bytes.f k l = some (bytesL l : Int) := by
  have := refBytes_l0 l hl hb k 0 (by omega) (by omega)
  exact this
theorem refRoom_f (n : Int) (l : List S45) (hn : -1000000000000 ≤ n ∧ n ≤ 1000000000000) (hl : l.length ≤ 9223372036854775807) (hb : bytesL l ≤ 1000000000000) (hok : CellsOk l) (k : Nat) (hk : l.length < k) :
    ringworkref06_Room.f k n l = some (n - needsL l) := by
  have h := lastL_nonneg hok
  unfold ringworkref06_Room.f
  rw [refLast_f l hl, Option.bind_some, refBytes_f l hl hb k hk, Option.bind_some, w64 (n - 2) (by omega) (by omega), w64 (4 * lastL l) (by omega) (by omega), w64 (n - 2 - 4 * lastL l) (by omega) (by omega), w64 _ (by omega) (by omega)]
  congr 1
  unfold needsL
  omega
theorem refFill_l0 (n : Int) (l : List S45) (hl : l.length ≤ 9223372036854775807) (hb : bytesL l ≤ 1000000000000) : ∀ (k i : Nat), i ≤ l.length → l.length - i + l.length + 1 < k → CellsOk (l.take i) →
    ringworkref06_Fill.l0 k n l (i : Int) = some (fillS n l) := by
  intro k
  induction k with
  | zero => intro i _ h; omega
  | succ k ih =>
    intro i hi hk hok
    rw [ringworkref06_Fill.l0]
    by_cases hlt : i < l.length
    · have hn := ok_next i hlt hok
      rw [if_pos (by omega), if_pos (by omega), rd_get l i hlt]
      by_cases h1 : l[i].f0 < 1
      · rw [if_pos h1, fill_bad n (not_ok (i + 1) (fun hc => by have := (hn.1 hc).1; omega))]
      · rw [if_neg h1]
        by_cases h1' : l[i].f0 > 200
        · rw [if_pos h1', fill_bad n (not_ok (i + 1) (fun hc => by have := (hn.1 hc).2.1; omega))]
        · rw [if_neg h1']
          have hz : l[i].f1.toList = ([] : List UInt8) → fillS n l = (⟨#[]⟩, 1) := fun h2 => fill_bad n (not_ok (i + 1) (fun hc => by have := (hn.1 hc).2.2.1; have := (toList_nil _).1 h2; omega))
          have hpos : ¬ l[i].f1.toList = ([] : List UInt8) → 0 < l[i].f1.size := fun h2 => by
            rcases Nat.eq_zero_or_pos l[i].f1.size with h | h
            · exact absurd ((toList_nil _).2 h) h2
            · exact h
          by_cases h3 : (i : Int) > 0
          · rw [if_pos h3, w64 ((i : Int) - 1) (by omega) (by omega), if_pos (by omega), if_pos (by omega), show (i : Int) - 1 = ((i - 1 : Nat) : Int) by omega, rd_get l (i - 1) (by omega)]
            by_cases h4 : l[i].f0 ≤ (l[i - 1]'(by omega)).f0
            · rw [if_pos h4, fill_bad n (not_ok (i + 1) (fun hc => by have := (hn.1 hc).2.2.2; rw [lastL_take i hi (by omega)] at this; omega))]
            · rw [if_neg h4]
              by_cases h2 : l[i].f1.toList = ([] : List UInt8)
              · rw [if_pos h2, hz h2]
              · rw [if_neg h2, w64 _ (by omega) (by omega), show (i : Int) + 1 = ((i + 1 : Nat) : Int) by omega]
                exact ih (i + 1) (by omega) (by omega) (hn.2 ⟨by omega, by omega, hpos h2, by rw [lastL_take i hi (by omega)]; omega⟩)
          · rw [if_neg h3]
            by_cases h2 : l[i].f1.toList = ([] : List UInt8)
            · rw [if_pos h2, hz h2]
            · rw [if_neg h2, w64 _ (by omega) (by omega), show (i : Int) + 1 = ((i + 1 : Nat) : Int) by omega]
              exact ih (i + 1) (by omega) (by omega) (hn.2 ⟨by omega, by omega, hpos h2, by rw [lastL_zero i (by omega)]; omega⟩)
    · have hil : i = l.length := by omega
      rw [if_neg (by omega), refSize_f]
      rw [hil, List.take_length] at hok
      simp only [Option.bind_some, decide_eq_true_eq]
      unfold fillS
      rw [if_pos hok]
      by_cases hs : sizeOk n
      · rw [if_pos hs, if_pos hs]
        obtain ⟨s1, s2, s3⟩ := hs
        rw [refRoom_f n l (by omega) hl hb hok k (by omega), Option.bind_some]
        by_cases hnd : needsL l > n
        · rw [if_pos (by omega), if_pos hnd]
        · rw [if_neg (by omega), if_neg hnd]
          unfold ringworkref06_Built.f
          rw [if_pos ⟨s1, s2, hok, hb, by omega⟩]
          rfl
      · rw [if_neg hs, if_neg hs]
theorem refFill_f (n : Int) (l : List S45) (hl : l.length ≤ 9223372036854775807) (hb : bytesL l ≤ 1000000000000) (k : Nat) (hk : 2 * l.length + 1 < k) : ringworkref06_Fill.f k n l = some (fillS n l) :=
  refFill_l0 n l hl hb k 0 (by omega) (by omega) trivial
theorem refNew_f (n : Int) : ringworkref06_New.f n = some (fillS n []) := by
  unfold ringworkref06_New.f fillS
  rw [refSize_f, Option.bind_some, if_pos (show CellsOk [] from trivial)]
  by_cases hs : sizeOk n
  · rw [if_pos (decide_eq_true hs), if_pos hs]
    obtain ⟨s1, s2, s3⟩ := hs
    have h0 : needsL ([] : List S45) = 2 := rfl
    rw [if_neg (show ¬ needsL ([] : List S45) > n by omega)]
    unfold ringworkref06_Built.f
    rw [if_pos ⟨s1, s2, trivial, by simp [bytesL], by omega⟩]
    rfl
  · rw [if_neg (by simpa using hs), if_neg hs]
theorem Wrong_f (p : ByteArray) (h : p.size ≤ 100000) : page_Wrong.f p = some (wrongS p) := by unfold page_Wrong.f; rw [if_pos h]
theorem Valid_f (p : ByteArray) (h : p.size ≤ 100000) : page_Valid.f p = some (decide (validS p)) := by
  unfold page_Valid.f validS
  rw [Wrong_f p h, Option.bind_some]
  congr 1
theorem Cells_f (p : ByteArray) (h : p.size ≤ 100000) : page_Cells.f p = some (if validS p then (cellsS p (twoS p 0).toNat, 0) else ([], 1)) := by
  unfold page_Cells.f
  rw [Valid_f p h, Option.bind_some]
  by_cases hv : validS p
  · rw [if_pos (decide_eq_true hv), if_pos hv]
    unfold page_cells.f
    rw [if_pos hv]
    rfl
  · rw [if_neg (by simpa using hv), if_neg hv]
/-- The page of cells that are right and fit is valid, with these cells. -/
theorem fill_good (n : Int) (l : List S45) (h : (fillS n l).2 = 0) : CellsOk l ∧ sizeOk n ∧ needsL l ≤ n ∧ (fillS n l).1 = strOfNums (builtL n.toNat l) := by
  unfold fillS at h ⊢
  split at h
  · rename_i h1
    split at h
    · rename_i h2
      split at h
      · cases h
      · rename_i h3
        refine ⟨h1, h2, by omega, ?_⟩
        rw [if_pos h1, if_pos h2, if_neg h3]
    · cases h
  · cases h
theorem built_cells (n : Int) (l : List S45) (h1 : CellsOk l) (h2 : sizeOk n) (h3 : needsL l ≤ n) :
    validS (strOfNums (builtL n.toNat l)) ∧ cellsS (strOfNums (builtL n.toNat l)) (twoS (strOfNums (builtL n.toNat l)) 0).toNat = l ∧ (strOfNums (builtL n.toNat l)).size = n.toNat := by
  obtain ⟨s1, s2, s3⟩ := h2
  obtain ⟨e1, e2, e3⟩ := built_valid (N := n.toNat) (by omega) (by omega) (by omega) h1 (by omega)
  exact ⟨by unfold validS; rw [e1], by rw [e2]; exact e3, built_size h1 (by omega)⟩

end Go.Proofs.Ytemglmcddaeedaa.PA

namespace Go.Proofs.Ytemglmcddaeedaa.PA
open Go.RowKit Go.Proofs.YtemglmcddaeedaaW.PrintWords Go.Proofs.YtemglmcddaeedaaW.PrintLast Go.Proofs.YtemglmcddaeedaaW.PrintMore
set_option linter.unusedVariables false
set_option linter.unusedSimpArgs false
theorem wrap_add (a b : Int) : wrap64 (wrap64 a + b) = wrap64 (a + b) := by unfold wrap64; omega
theorem lawCells_l0 (l : List S45) (hl : l.length ≤ 9223372036854775807) (hb : l.length ≤ 60 → bytesL l ≤ 9000000000000000) : ∀ (k i : Nat), i ≤ l.length → l.length - i < k →
    ringworklaw06_Cells.l0 k l (wrap64 (bytesL (l.take i) : Int)) (i : Int) = some (decide (l.length ≤ 60 ∧ bytesL l ≤ 6000)) := by
  intro k
  induction k with
  | zero => intro i _ h; omega
  | succ k ih =>
    intro i hi hk
    rw [ringworklaw06_Cells.l0]
    by_cases hlt : i < l.length
    · have h1 := bytesL_take_succ l i hlt
      rw [if_pos (by omega), if_pos (by omega), rd_get l i hlt, w64 ((i : Int) + 1) (by omega) (by omega), show (i : Int) + 1 = ((i + 1 : Nat) : Int) by omega, wrap_add, show (bytesL (l.take i) : Int) + (l[i].f1.size : Int) = (bytesL (l.take (i + 1)) : Int) by omega]
      exact ih (i + 1) (by omega) (by omega)
    · rw [if_neg (by omega), List.take_of_length_le (by omega)]
      by_cases h6 : l.length ≤ 60
      · have := hb h6
        rw [if_pos (by omega), w64 _ (by omega) (by omega)]
        congr 1
        by_cases h7 : bytesL l ≤ 6000
        · rw [decide_eq_true (show (bytesL l : Int) ≤ 6000 by omega), decide_eq_true ⟨h6, h7⟩]
        · rw [decide_eq_false (show ¬ (bytesL l : Int) ≤ 6000 by omega), decide_eq_false (fun h => h7 h.2)]
      · rw [if_neg (by omega), decide_eq_false (fun h => h6 h.1)]
theorem lawCells_f (l : List S45) (hl : l.length ≤ 9223372036854775807) (hb : l.length ≤ 60 → bytesL l ≤ 9000000000000000) (k : Nat) (hk : l.length < k) :
    ringworklaw06_Cells.f k l = some (decide (l.length ≤ 60 ∧ bytesL l ≤ 6000)) := by
  have := lawCells_l0 l hl hb k 0 (by omega) (by omega)
  rw [show wrap64 (bytesL (l.take 0) : Int) = 0 by simp [bytesL, wrap64]] at this
  exact this
theorem same_l0 (l : List S45) (hl : l.length ≤ 9223372036854775807) : ∀ (k i : Nat), i ≤ l.length → l.length - i < k → ringworklaw06_same.l0 k l l (i : Int) = some true := by
  intro k
  induction k with
  | zero => intro i _ h; omega
  | succ k ih =>
    intro i hi hk
    rw [ringworklaw06_same.l0]
    by_cases hlt : i < l.length
    · rw [if_pos (by omega), if_pos (by omega), if_pos (by omega), if_neg (by simp), w64 _ (by omega) (by omega), show (i : Int) + 1 = ((i + 1 : Nat) : Int) by omega]
      exact ih (i + 1) (by omega) (by omega)
    · rw [if_neg (by omega)]
theorem same_f (l : List S45) (hl : l.length ≤ 9223372036854775807) (k : Nat) (hk : l.length < k) : ringworklaw06_same.f k l l = some true := by
  unfold ringworklaw06_same.f
  rw [if_pos rfl]
  exact same_l0 l hl k 0 (by omega) (by omega)
theorem awake_f (k : Nat) (hk : 1 < k) : ringworklaw06_awake.f k = some true := by
  unfold ringworklaw06_awake.f
  rw [Fill_f 32 _ (by simp) (by decide +kernel) k (by simpa using hk)]
  have e : fillS 32 [(⟨1, (⟨#[97, 98]⟩ : ByteArray)⟩ : S45)] = (⟨#[0, 1, 0, 30, 0, 2, 0, 0, 0, 0, 0, 0, 0, 0, 0, 0, 0, 0, 0, 0, 0, 0, 0, 0, 0, 0, 0, 0, 0, 0, 97, 98]⟩, 0) := by decide +kernel
  rw [e]
  simp only [Option.bind_some, toList_data]
  decide +kernel
theorem bound60 (l : List S45) (h : ∀ c ∈ l, c.f1.size ≤ reachBytes) (h6 : l.length ≤ 60) : bytesL l ≤ 9000000000000000 := by
  have h1 := bytes_bound l reachBytes h
  have h2 : l.length * reachBytes ≤ 60 * reachBytes := Nat.mul_le_mul_right _ h6
  have h3 : 60 * reachBytes ≤ 9000000000000000 := by decide
  omega
theorem Made_f (n : Int) (l : List S45) (hl : l.length ≤ 9223372036854775807) (hb : l.length ≤ 60 → bytesL l ≤ 9000000000000000) (k : Nat) (hk : 2 * l.length + 1 < k) :
    ringworklaw06_Made.f k n l = some (if l.length ≤ 60 ∧ bytesL l ≤ 6000 then ((fillS n l).1, (fillS n l).2 == 0) else (⟨#[]⟩, false)) := by
  unfold ringworklaw06_Made.f
  rw [lawCells_f l hl hb k (by omega), Option.bind_some]
  by_cases hc : l.length ≤ 60 ∧ bytesL l ≤ 6000
  · rw [if_pos (decide_eq_true hc), if_pos hc, refFill_f n l hl (by omega) k hk]
    rfl
  · rw [if_neg (by simpa using hc), if_neg hc]

end Go.Proofs.Ytemglmcddaeedaa.PA

namespace Go.Proofs.Ytemglmcddaeedaa.PA
open Go.RowKit Go.Proofs.YtemglmcddaeedaaW.PrintWords Go.Proofs.YtemglmcddaeedaaW.PrintLast Go.Proofs.YtemglmcddaeedaaW.PrintMore
set_option linter.unusedVariables false
set_option linter.unusedSimpArgs false
def atS (l : List S45) (n : Int) : ByteArray := match l.find? (fun c => c.f0 == n) with | some c => c.f1 | none => ⟨#[]⟩
theorem atS_pos {l : List S45} (h : CellsOk l) (n : Int) : 0 < (atS l n).size ↔ ∃ c ∈ l, c.f0 = n := by
  unfold atS
  cases hf : l.find? (fun c => c.f0 == n) with
  | none =>
    constructor
    · intro h0
      exact absurd h0 (by decide)
    · rintro ⟨c, hc, hn⟩
      have := List.find?_eq_none.1 hf c hc
      simp [hn] at this
  | some c =>
    have h1 := List.mem_of_find?_eq_some hf
    have h2 := List.find?_some hf
    exact ⟨fun _ => ⟨c, h1, by simpa using h2⟩, fun _ => (h.each c h1).2.2⟩
theorem leastL_spec : ∀ (l : List S45), CellsOk l → 1 ≤ leastL l ∧ leastL l ≤ 201 ∧ (∀ j, 1 ≤ j → j < leastL l → ∃ c ∈ l, c.f0 = j) ∧ (∀ c ∈ l, c.f0 ≠ leastL l) := by
  intro l
  induction hl : l.length generalizing l with
  | zero =>
    intro _
    have : l = [] := List.length_eq_zero_iff.1 hl
    subst this
    refine ⟨by decide, by decide, fun j h1 h2 => ?_, by simp⟩
    have : leastL ([] : List S45) = 1 := rfl
    omega
  | succ m ih =>
    intro h
    have hne : l ≠ [] := by intro h; rw [h] at hl; cases hl
    obtain ⟨a, c, rfl⟩ : ∃ a c, l = a ++ [c] := ⟨l.dropLast, l.getLast hne, (List.dropLast_concat_getLast hne).symm⟩
    obtain ⟨i1, i2, i3, i4⟩ := ih a (by simp at hl; exact hl) h.append.1
    have hc := h.append.2.1.head
    have hlt := fun x hx => h.append.2.2 x hx c (by simp)
    rw [leastL_snoc]
    split
    · rename_i he
      refine ⟨by omega, by omega, fun j h1 h2 => ?_, fun x hx => ?_⟩
      · by_cases hj : j < leastL a
        · obtain ⟨d, hd, hdj⟩ := i3 j h1 hj
          exact ⟨d, by simp [hd], hdj⟩
        · exact ⟨c, by simp, by omega⟩
      · rcases List.mem_append.1 hx with hx | hx
        · have := hlt x hx; omega
        · simp only [List.mem_singleton] at hx; subst hx; omega
    · rename_i he
      refine ⟨i1, i2, fun j h1 h2 => ?_, fun x hx => ?_⟩
      · obtain ⟨d, hd, hdj⟩ := i3 j h1 h2
        exact ⟨d, by simp [hd], hdj⟩
      · rcases List.mem_append.1 hx with hx | hx
        · exact i4 x hx
        · simp only [List.mem_singleton] at hx; subst hx; exact he

end Go.Proofs.Ytemglmcddaeedaa.PA

namespace Go.Proofs.Ytemglmcddaeedaa.PA
open Go.RowKit Go.Proofs.YtemglmcddaeedaaW.PrintWords Go.Proofs.YtemglmcddaeedaaW.PrintLast Go.Proofs.YtemglmcddaeedaaW.PrintMore
set_option linter.unusedVariables false
set_option linter.unusedSimpArgs false
theorem dropIdx {l : List S45} (h : CellsOk l) {n : Int} (hf : foundS l n = true) : ∃ c, l.drop (idxS l n) = c :: l.drop (idxS l n + 1) ∧ c.f0 = n ∧ rd_T45 l (idxS l n) = c ∧ c ∈ l := by
  obtain ⟨c, hc, hcn⟩ := (idx_split h n).2.2.1 hf
  obtain ⟨hlt, he⟩ := List.getElem?_eq_some_iff.1 hc
  exact ⟨c, by rw [List.drop_eq_getElem_cons hlt, he], hcn, by rw [rd_get l _ hlt, he], by rw [← he]; exact List.getElem_mem _⟩
theorem find_lt {a : List S45} {n : Int} (h : ∀ x ∈ a, x.f0 ≠ n) : a.find? (fun c => c.f0 == n) = none := by
  rw [List.find?_eq_none]; intro x hx; simpa using h x hx
theorem atS_app {a b : List S45} {n : Int} (h : ∀ x ∈ a, x.f0 ≠ n) : atS (a ++ b) n = atS b n := by
  unfold atS; rw [List.find?_append, find_lt h]; rfl
theorem atS_cons {c : S45} {b : List S45} {n : Int} : atS (c :: b) n = if c.f0 = n then c.f1 else atS b n := by
  unfold atS
  rw [List.find?_cons]
  by_cases h : c.f0 = n
  · rw [if_pos h]; simp [h]
  · rw [if_neg h]
    have : (c.f0 == n) = false := by simpa using h
    rw [this]
theorem atS_none {b : List S45} {n : Int} (h : ∀ x ∈ b, x.f0 ≠ n) : atS b n = ⟨#[]⟩ := by unfold atS; rw [find_lt h]
theorem atS_skip {a b : List S45} {n : Int} : atS (a ++ b) n = if 0 < (atS a n).size ∨ (∃ c ∈ a, c.f0 = n) then atS a n else atS b n := by
  induction a with
  | nil => rw [if_neg]; · rfl
           · rintro (h | ⟨c, hc, _⟩)
             · exact absurd h (Nat.lt_irrefl 0)
             · cases hc
  | cons c a ih =>
    rw [List.cons_append, atS_cons, atS_cons]
    by_cases h : c.f0 = n
    · rw [if_pos h, if_pos h, if_pos (.inr ⟨c, by simp, h⟩)]
    · rw [if_neg h, if_neg h, ih]
      congr 1
      apply propext
      constructor
      · rintro (h1 | ⟨x, hx, hn⟩)
        · exact .inl h1
        · exact .inr ⟨x, by simp [hx], hn⟩
      · rintro (h1 | ⟨x, hx, hn⟩)
        · exact .inl h1
        · rcases List.mem_cons.1 hx with rfl | hx
          · exact absurd hn h
          · exact .inr ⟨x, hx, hn⟩
theorem atS_found {l : List S45} (h : CellsOk l) (n : Int) : (foundS l n = true → atS l n = (rd_T45 l (idxS l n)).f1 ∧ 0 < (atS l n).size) ∧ (foundS l n = false → atS l n = ⟨#[]⟩) := by
  have hs := idx_split h n
  have ha : ∀ x ∈ l.take (idxS l n), x.f0 ≠ n := fun x hx => by have := hs.1 x hx; omega
  have e : atS l n = atS (l.drop (idxS l n)) n := by
    have := atS_app (b := l.drop (idxS l n)) ha
    rwa [List.take_append_drop] at this
  constructor
  · intro hf
    obtain ⟨c, h1, h2, h3, h4⟩ := dropIdx h hf
    rw [e, h1, atS_cons, if_pos h2, h3]
    exact ⟨rfl, (h.each c h4).2.2⟩
  · intro hf
    rw [e]
    exact atS_none (fun x hx => by have := hs.2.2.2 hf x hx; omega)
theorem found_iff {l : List S45} (h : CellsOk l) (n : Int) : foundS l n = true ↔ ∃ c ∈ l, c.f0 = n := by
  rw [← atS_pos h n]
  constructor
  · intro hf; exact ((atS_found h n).1 hf).2
  · intro h0
    cases hf : foundS l n with
    | true => rfl
    | false => rw [(atS_found h n).2 hf] at h0; exact absurd h0 (by decide)
theorem atS_size {l : List S45} (h : CellsOk l) (n : Int) : ((atS l n).toList = ([] : List UInt8)) ↔ foundS l n = false := by
  rw [toList_nil]
  cases hf : foundS l n with
  | true => have := ((atS_found h n).1 hf).2; constructor <;> intro h <;> first | omega | cases h
  | false => rw [(atS_found h n).2 hf]; simp; rfl
theorem emptyB (d : ByteArray) : (d.toList == ([] : List UInt8)) = decide (d.size = 0) := by
  rw [Bool.eq_iff_iff]; simp only [beq_iff_eq, decide_eq_true_eq]; exact toList_nil d
theorem least_free {l : List S45} (h : CellsOk l) : foundS l (leastL l) = false := by
  cases hf : foundS l (leastL l) with
  | false => rfl
  | true =>
    obtain ⟨c, hc, hn⟩ := (found_iff h _).1 hf
    exact absurd hn ((leastL_spec l h).2.2.2 c hc)
theorem lastL_append (a b : List S45) (hb : b ≠ []) : lastL (a ++ b) = lastL b := by
  unfold lastL
  cases b with
  | nil => exact absurd rfl hb
  | cons c r => rw [List.getLast?_append]; cases h : (c :: r).getLast? with
    | none => simp at h
    | some x => rfl
theorem lastL_mem {l : List S45} (h : l ≠ []) : ∃ c ∈ l, lastL l = c.f0 := by
  unfold lastL
  cases hl : l.getLast? with
  | none => simp at hl; exact absurd hl h
  | some c => exact ⟨c, List.mem_of_getLast? hl, rfl⟩
theorem lastL_ins {l : List S45} (h : CellsOk l) (n : Int) (hn : 0 ≤ n) (d : ByteArray) (hf : foundS l n = false) : lastL (insS l n d) = if n ≤ lastL l then lastL l else n := by
  have hs := idx_split h n
  have e : l = l.take (idxS l n) ++ l.drop (idxS l n) := (List.take_append_drop _ _).symm
  unfold insS
  rw [lastL_append _ _ (by simp)]
  by_cases hb : l.drop (idxS l n) = []
  · rw [hb]
    have h1 : lastL l < n ∨ l = [] := by
      by_cases hl : l = []
      · exact .inr hl
      · left
        obtain ⟨c, hc, hce⟩ := lastL_mem hl
        rw [hb, List.append_nil] at e
        rw [e] at hc
        have := hs.1 c hc
        omega
    have h2 : lastL [(⟨n, d⟩ : S45)] = n := by simp [lastL]
    rw [h2]
    rcases h1 with h1 | h1
    · rw [if_neg (by omega)]
    · subst h1
      have : lastL ([] : List S45) = 0 := rfl
      rw [this]
      split <;> omega
  · have h1 : lastL l = lastL (l.drop (idxS l n)) := by
      have := lastL_append (l.take (idxS l n)) _ hb
      rwa [List.take_append_drop] at this
    obtain ⟨c, hc, hce⟩ := lastL_mem hb
    have h2 := hs.2.2.2 hf c hc
    rw [show (⟨n, d⟩ : S45) :: l.drop (idxS l n) = [⟨n, d⟩] ++ l.drop (idxS l n) from rfl, lastL_append _ _ hb, if_pos (by omega), h1]
/-- What page.Put answers. -/
def putS (p : ByteArray) (d : ByteArray) : ByteArray × Int × Int :=
  if validS p ∧ d.size ≠ 0 then
    (if leastL (cellsP p) > 200 then (⟨#[]⟩, 0, 13) else if needsL (insS (cellsP p) (leastL (cellsP p)) d) > p.size then (⟨#[]⟩, 0, 13) else (strOfNums (builtL p.size (insS (cellsP p) (leastL (cellsP p)) d)), leastL (cellsP p), 0))
  else (⟨#[]⟩, 0, 1)
theorem Put_f (p : ByteArray) (hs : p.size ≤ 100000) (d : ByteArray) (hd : d.size ≤ 100000) (k : Nat) (hk : 0 < k) : page_Put.f k p d = some (putS p d) := by
  obtain ⟨k, rfl⟩ : ∃ k', k = k' + 1 := ⟨k - 1, by omega⟩
  unfold page_Put.f putS
  rw [Valid_f p hs, Option.bind_some]
  by_cases hv : validS p
  · rw [if_pos (decide_eq_true hv), page_Put.j0, emptyB]
    by_cases h0 : d.size = 0
    · rw [if_pos (decide_eq_true h0), if_neg (by simp [h0])]
    · rw [if_neg (by simpa using h0), if_pos ⟨hv, h0⟩]
      obtain ⟨hok, k2, k3, k4, k5⟩ := cellsP_ok hv
      have hl := leastL_spec _ hok
      by_cases hb : leastL (cellsP p) > 200
      · have hN : page_Next.f p = some (0, 13) := by unfold page_Next.f; rw [if_pos hs, if_pos hv, if_pos (show leastL (cellsS p (twoS p 0).toNat) > 200 from hb)]
        rw [hN, Option.bind_some, if_pos hb]; rfl
      · have hN : page_Next.f p = some (leastL (cellsP p), 0) := by unfold page_Next.f; rw [if_pos hs, if_pos hv, if_neg (show ¬ leastL (cellsS p (twoS p 0).toNat) > 200 from hb)]; rfl
        rw [hN, Option.bind_some, if_neg hb]
        simp only
        have hP : page_PutAt.f p (leastL (cellsP p)) d = some (if needsL (insS (cellsP p) (leastL (cellsP p)) d) > (p.size : Int) then (⟨#[]⟩, 13) else (strOfNums (builtL p.size (insS (cellsP p) (leastL (cellsP p)) d)), 0)) := by
          unfold page_PutAt.f
          rw [if_pos ⟨hs, hd⟩]
          unfold putAtS filledS
          rw [if_neg h0, if_pos hv, if_pos (show 1 ≤ leastL (cellsP p) ∧ leastL (cellsP p) ≤ 200 from ⟨by omega, by omega⟩), if_neg (by simp [least_free hok]), Int.toNat_natCast]
        rw [if_pos trivial, hP, Option.bind_some]
        by_cases hf : needsL (insS (cellsP p) (leastL (cellsP p)) d) > (p.size : Int)
        · rw [if_pos hf, if_pos hf]; rfl
        · rw [if_neg hf, if_neg hf]; rfl
  · rw [if_neg (by simpa using hv), page_Put.j0, if_pos rfl, if_neg (by simp [hv])]
/-! #### the other lines -/
theorem atS_mid (a b : List S45) (c : S45) (i : Int) (h : c.f0 ≠ i) : atS (a ++ c :: b) i = atS (a ++ b) i := by
  unfold atS
  rw [List.find?_append, List.find?_append, List.find?_cons]
  have : (c.f0 == i) = false := by simpa using h
  rw [this]
theorem atS_ins (l : List S45) (n i : Int) (d : ByteArray) (h : i ≠ n) : atS (insS l n d) i = atS l i := by
  unfold insS
  rw [atS_mid _ _ _ _ (fun e => h e.symm), List.take_append_drop]
theorem atS_del {l : List S45} (hok : CellsOk l) (n i : Int) (hf : foundS l n = true) (h : i ≠ n) : atS (delS l n) i = atS l i := by
  obtain ⟨c, h1, h2, h3, h4⟩ := dropIdx hok hf
  have e : l = l.take (idxS l n) ++ c :: l.drop (idxS l n + 1) := by rw [← h1, List.take_append_drop]
  have := atS_mid (l.take (idxS l n)) (l.drop (idxS l n + 1)) c i (by omega)
  rw [← e] at this
  rw [this]; rfl
theorem atS_rep {l : List S45} (hok : CellsOk l) (n i : Int) (d : ByteArray) (hf : foundS l n = true) (h : i ≠ n) : atS (repS l n d) i = atS l i := by
  rw [← atS_del hok n i hf h]
  exact atS_mid _ _ _ _ (fun e => h e.symm)
theorem getS_at {p : ByteArray} (hv : validS p) {i : Int} (hi : 1 ≤ i ∧ i ≤ 200) : getS p i = if 0 < (atS (cellsP p) i).size then (atS (cellsP p) i, 0) else (⟨#[]⟩, 8) := by
  have hok := (cellsP_ok hv).1
  unfold getS
  rw [if_pos hv, if_pos hi]
  cases hf : foundS (cellsP p) i with
  | true => rw [if_pos rfl, if_pos ((atS_found hok i).1 hf).2, ((atS_found hok i).1 hf).1]
  | false => rw [if_neg (by simp), (atS_found hok i).2 hf, if_neg (by decide)]
/-- A page that was filled. -/
theorem filled_page {p : ByteArray} (hv : validS p) {m : List S45} (hm : CellsOk m) (h0 : (filledS p.size m).2 = 0) :
    validS (filledS p.size m).1 ∧ cellsP (filledS p.size m).1 = m ∧ (filledS p.size m).1.size = p.size ∧ (filledS p.size m).1 = strOfNums (builtL p.size m) := by
  obtain ⟨q1, q2, q3, _⟩ := validS_spec p hv
  unfold filledS at h0 ⊢
  by_cases hf : needsL m > (p.size : Int)
  · rw [if_pos hf] at h0; cases h0
  · rw [if_neg hf]
    obtain ⟨v1, v2, v3⟩ := built_cells (p.size : Int) m hm ⟨by omega, by omega, by omega⟩ (by omega)
    exact ⟨v1, v2, by rw [v3]; rfl, rfl⟩
theorem page_self {p : ByteArray} (hv : validS p) : filledS p.size (cellsP p) = (p, 0) := by
  obtain ⟨g1, g2, g3, g4⟩ := valid_reads p hv
  unfold filledS
  rw [if_neg (show ¬ needsL (cellsP p) > (p.size : Int) by unfold cellsP; omega), Int.toNat_natCast]
  exact Prod.ext (valid_built p hv) rfl
theorem idxS_mid (a b : List S45) (c : S45) (n : Int) (ha : ∀ x ∈ a, x.f0 < n) (hc : ¬ c.f0 < n) : idxS (a ++ c :: b) n = a.length := by
  unfold idxS
  rw [List.takeWhile_append_of_pos (by intro x hx; exact decide_eq_true (ha x hx)), List.takeWhile_cons, if_neg (by simpa using hc), List.append_nil]
theorem del_ins {l : List S45} (h : CellsOk l) (n : Int) (d : ByteArray) : idxS (insS l n d) n = idxS l n ∧ foundS (insS l n d) n = true ∧ delS (insS l n d) n = l := by
  have hs := idx_split h n
  have hl : (l.take (idxS l n)).length = idxS l n := by rw [List.length_take, Nat.min_eq_left (idxS_le l n)]
  have e : idxS (insS l n d) n = idxS l n := by
    have := idxS_mid (l.take (idxS l n)) (l.drop (idxS l n)) ⟨n, d⟩ n hs.1 (by show ¬ n < n; omega)
    rw [hl] at this
    exact this
  have e2 : (insS l n d)[idxS l n]? = some ⟨n, d⟩ := by
    unfold insS
    rw [List.getElem?_append_right (by omega), hl, Nat.sub_self]; rfl
  refine ⟨e, ?_, ?_⟩
  · unfold foundS; rw [e, e2]; exact decide_eq_true rfl
  · unfold delS
    rw [e]
    unfold insS
    rw [List.take_left' hl, show idxS l n + 1 = (l.take (idxS l n)).length + 1 by rw [hl], List.drop_append, List.drop_of_length_le (by omega)]
    simp
theorem rep_self {l : List S45} (h : CellsOk l) (i : Nat) (hi : i < l.length) : foundS l l[i].f0 = true ∧ repS l l[i].f0 l[i].f1 = l := by
  have hp := List.pairwise_iff_getElem.1 (CellsOk_iff.1 h).2
  have e0 : l = l.take i ++ l[i] :: l.drop (i + 1) := by rw [← List.drop_eq_getElem_cons hi, List.take_append_drop]
  have e : idxS l l[i].f0 = i := by
    have := idxS_mid (l.take i) (l.drop (i + 1)) l[i] l[i].f0 (by
      intro x hx
      obtain ⟨j, hj, rfl⟩ := List.getElem_of_mem hx
      rw [List.length_take] at hj
      rw [List.getElem_take]
      exact hp j i (by omega) hi (by omega)) (by omega)
    rw [← e0, List.length_take, Nat.min_eq_left (by omega)] at this
    exact this
  constructor
  · unfold foundS; rw [e, List.getElem?_eq_getElem hi]; exact decide_eq_true rfl
  · unfold repS; rw [e]; exact e0.symm
theorem Drop_f (p : ByteArray) (hs : p.size ≤ 100000) (n : Int) : page_Drop.f p n = some (dropS p n) := by unfold page_Drop.f; rw [if_pos hs]
theorem Set_f (p : ByteArray) (hs : p.size ≤ 100000) (n : Int) (d : ByteArray) (hd : d.size ≤ 100000) : page_Set.f p n d = some (setS p n d) := by unfold page_Set.f; rw [if_pos ⟨hs, hd⟩]
theorem PutAt_f (p : ByteArray) (hs : p.size ≤ 100000) (n : Int) (d : ByteArray) (hd : d.size ≤ 100000) : page_PutAt.f p n d = some (putAtS p n d) := by unfold page_PutAt.f; rw [if_pos ⟨hs, hd⟩]
theorem Get_f (p : ByteArray) (hs : p.size ≤ 100000) (n : Int) : page_Get.f p n = some (getS p n) := by unfold page_Get.f; rw [if_pos hs]

end Go.Proofs.Ytemglmcddaeedaa.PA

namespace Go.Proofs.Ytemglmcddaeedaa.PA
open Go.RowKit Go.Proofs.YtemglmcddaeedaaW.PrintWords Go.Proofs.YtemglmcddaeedaaW.PrintLast Go.Proofs.YtemglmcddaeedaaW.PrintMore
attribute [local go_sem] max2_int min2_int max_two min_two max_three min_three max_four min_four   -- for this text's walks alone
set_option linter.unusedVariables false
set_option linter.unusedSimpArgs false

/-! ### ringworkref06_Free: function 26 -/
def ringworkref06_Free.f (k : Nat) (a0 : ByteArray) : Option (Int × Int) := (ringworkref06_Cells.f k a0).bind fun bt194 => (if bt194.2 = 0 then ((ringworkref06_Room.f k (a0.size : Int) bt194.1).bind fun t198 => (some (t198, 0))) else (some (0, bt194.2)))
theorem ringworkref06_Free.mono : ∀ a0 k, LeO (ringworkref06_Free.f k a0) (ringworkref06_Free.f (k + 1) a0) := by
  intro a0 k
  unfold ringworkref06_Free.f
  repeat' first
      | (with_reducible exact ringworkref06_Cells.mono _ _)
      | (with_reducible exact ringworkref06_Room.mono _ _ _)
      | (with_reducible exact LeO.refl _)
      | (with_reducible exact LeO.none _)
      | (with_reducible refine LeO.ite ?_ ?_)
      | (with_reducible refine LeO.bind ?_ (fun _ => ?_))
      | exact ringworkref06_Cells.mono _ _
      | exact ringworkref06_Room.mono _ _ _
      | exact LeO.none _
      | refine LeO.ite ?_ ?_
      | refine LeO.bind ?_ (fun _ => ?_)
set_option maxHeartbeats 8000000 in
set_option maxRecDepth 100000 in
theorem ringworkref06_Free.calls (k : Nat) (a0 : ByteArray) (r1 : Int) (r2 : Int) (w : World) (h : ringworkref06_Free.f k a0 = some (r1, r2)) :
    Calls Try.prog 26 #[.string a0] w fun e w' => e = .returned (.tuple #[.int .i64 r1, .int .i64 r2]) ∧ Below w.heap.size w w' := by
  have HB := Aside0.mk (Below.refl w.heap.size w)
  have H : ((ringworkref06_Cells.f k a0).bind fun bt194 => (if bt194.2 = 0 then ((ringworkref06_Room.f k (a0.size : Int) bt194.1).bind fun t198 => (some (t198, 0))) else (some (0, bt194.2)))) = some (r1, r2) := h
  clear h
  replace H := Option.bind_eq_some_iff.mp H
  obtain ⟨⟨t194, t195⟩, A20, H⟩ := H
  replace H : (if t195 = 0 then ((ringworkref06_Room.f k (a0.size : Int) t194).bind fun t198 => (some (t198, 0))) else (some (0, t195))) = some (r1, r2) := H
  have A2 := Aside0.mk A20
  clear A20
  by_cases c3 : t195 = 0
  · rw [if_pos c3] at H
    have c3b0 : (t195 == 0) = true := beq_iff_eq.mpr c3
    have c3b1 : (t195 != 0) = false := bne_eq_false_iff_eq.mpr c3
    clear c3
    replace H := Option.bind_eq_some_iff.mp H
    obtain ⟨t198, A40, H⟩ := H
    replace H : (some (t198, 0)) = some (r1, r2) := H
    have A4 := Aside0.mk A40
    clear A40
    simp only [Option.some.injEq, Prod.mk.injEq] at H
    obtain ⟨rfl, rfl⟩ := H
    go_enter Try.func26, Try.ntmps26
    go_wp2_with (first | ((with_reducible refine gate_callee (f := 23) rfl ?_); refine goesL_ (some 8) rfl rfl Try.func23 (by kernel_rfl) rfl #[.string a0] rfl (by (try simp only [List.map_toArray, List.map_cons, List.map_nil]); first | done | rfl | (simp only [List.length_drop, List.length_take]; rfl)) ?_; (with_reducible refine (ringworkref06_Cells.calls k a0 t194 t195 _ A2.out).mono ?_); rintro e w5 ⟨v196, rfl, ho0, hb⟩; refine ⟨_, rfl, ?_⟩; have n0_ := Aside0.mk (Kd.R_lower ho0 (below_size (by repeat (first | (with_reducible first | exact HB.out | apply below_alloc | apply pw_below_drewN | apply below_drew1) | exact HB.out)))); have n1_ := Aside0.mk (below_step (by repeat (first | (with_reducible first | exact HB.out | apply below_alloc | apply pw_below_drewN | apply below_drew1) | exact HB.out)) hb); clear HB; have HO197 := n0_; have HB := n1_; clear n0_ n1_; (try clear hb); (try clear hb2); (try clear hk); (try clear hi); (try clear ho0); obtain ⟨Ao6, co6, eo6⟩ := Kd.R_slice HO197.out; subst eo6) | ((with_reducible refine gate_callee (f := 55) rfl ?_); refine goesL_ (some 17) rfl rfl Try.func55 (by kernel_rfl) rfl #[.int .i64 (a0.size : Int), .slice Ao6 t194.length co6] rfl (by (try simp only [List.map_toArray, List.map_cons, List.map_nil]); first | done | rfl | (simp only [List.length_drop, List.length_take]; rfl)) ?_; (with_reducible refine (ringworkref06_Room.calls k (a0.size : Int) _ _ t194 t198 _ ?side1 ?side2 A4.out).mono ?_); (case side1 => repeat (first | exact (Kd.R_reads' HO197.out).2.2 | (with_reducible refine Kd.C_alloc ?_ _) | (with_reducible refine Kd.C_drewN ?_ _) | (with_reducible refine Kd.C_drew ?_))); (case side2 => exact (Kd.R_reads' HO197.out).2.1); rintro e w' ⟨rfl, ⟨nd, rfl⟩⟩; refine ⟨_, rfl, ?_⟩))
    go_ret2
    exact ⟨by first | rfl | (simp [errW_none, errW_some] <;> rfl) | (simp [*, errW_none, errW_some] <;> rfl), by repeat (first | (with_reducible first | exact HB.out | apply below_alloc | apply pw_below_drewN | apply below_drew1) | exact HB.out)⟩
  · rw [if_neg c3] at H
    have c3b0 : (t195 == 0) = false := beq_eq_false_iff_ne.mpr c3
    have c3b1 : (t195 != 0) = true := bne_iff_ne.mpr c3
    simp only [Option.some.injEq, Prod.mk.injEq] at H
    obtain ⟨rfl, rfl⟩ := H
    go_enter Try.func26, Try.ntmps26
    go_wp2_with (first | ((with_reducible refine gate_callee (f := 23) rfl ?_); refine goesL_ (some 8) rfl rfl Try.func23 (by kernel_rfl) rfl #[.string a0] rfl (by (try simp only [List.map_toArray, List.map_cons, List.map_nil]); first | done | rfl | (simp only [List.length_drop, List.length_take]; rfl)) ?_; (with_reducible refine (ringworkref06_Cells.calls k a0 t194 t195 _ A2.out).mono ?_); rintro e w7 ⟨v196, rfl, ho0, hb⟩; refine ⟨_, rfl, ?_⟩; have n0_ := Aside0.mk (Kd.R_lower ho0 (below_size (by repeat (first | (with_reducible first | exact HB.out | apply below_alloc | apply pw_below_drewN | apply below_drew1) | exact HB.out)))); have n1_ := Aside0.mk (below_step (by repeat (first | (with_reducible first | exact HB.out | apply below_alloc | apply pw_below_drewN | apply below_drew1) | exact HB.out)) hb); clear HB; have HO197 := n0_; have HB := n1_; clear n0_ n1_; (try clear hb); (try clear hb2); (try clear hk); (try clear hi); (try clear ho0)))
    go_ret2
    exact ⟨by first | rfl | (simp [errW_none, errW_some] <;> rfl) | (simp [*, errW_none, errW_some] <;> rfl), by repeat (first | (with_reducible first | exact HB.out | apply below_alloc | apply pw_below_drewN | apply below_drew1) | exact HB.out)⟩

end Go.Proofs.Ytemglmcddaeedaa.PA

namespace Go.Proofs.Ytemglmcddaeedaa.PA
open Go.RowKit Go.Proofs.YtemglmcddaeedaaW.PrintWords Go.Proofs.YtemglmcddaeedaaW.PrintLast Go.Proofs.YtemglmcddaeedaaW.PrintMore
attribute [local go_sem] max2_int min2_int max_two min_two max_three min_three max_four min_four   -- for this text's walks alone
set_option linter.unusedVariables false
set_option linter.unusedSimpArgs false

/-! ### ringworkref06_Next: function 28 -/
def ringworkref06_Next.f (k : Nat) (a0 : ByteArray) : Option (Int × Int) := (ringworkref06_Cells.f k a0).bind fun bt202 => (if bt202.2 = 0 then ((ringworkref06_Least.f k bt202.1).bind fun t206 => (if t206 > 200 then (some (0, 13)) else ((ringworkref06_Least.f k bt202.1).bind fun t207 => (some (t207, 0))))) else (some (0, bt202.2)))
theorem ringworkref06_Next.mono : ∀ a0 k, LeO (ringworkref06_Next.f k a0) (ringworkref06_Next.f (k + 1) a0) := by
  intro a0 k
  unfold ringworkref06_Next.f
  repeat' first
      | (with_reducible exact ringworkref06_Cells.mono _ _)
      | (with_reducible exact ringworkref06_Least.mono _ _)
      | (with_reducible exact LeO.refl _)
      | (with_reducible exact LeO.none _)
      | (with_reducible refine LeO.ite ?_ ?_)
      | (with_reducible refine LeO.bind ?_ (fun _ => ?_))
      | exact ringworkref06_Cells.mono _ _
      | exact ringworkref06_Least.mono _ _
      | exact LeO.none _
      | refine LeO.ite ?_ ?_
      | refine LeO.bind ?_ (fun _ => ?_)
set_option maxHeartbeats 8000000 in
set_option maxRecDepth 100000 in
theorem ringworkref06_Next.calls (k : Nat) (a0 : ByteArray) (r1 : Int) (r2 : Int) (w : World) (h : ringworkref06_Next.f k a0 = some (r1, r2)) :
    Calls Try.prog 28 #[.string a0] w fun e w' => e = .returned (.tuple #[.int .i64 r1, .int .i64 r2]) ∧ Below w.heap.size w w' := by
  have HB := Aside0.mk (Below.refl w.heap.size w)
  have H : ((ringworkref06_Cells.f k a0).bind fun bt202 => (if bt202.2 = 0 then ((ringworkref06_Least.f k bt202.1).bind fun t206 => (if t206 > 200 then (some (0, 13)) else ((ringworkref06_Least.f k bt202.1).bind fun t207 => (some (t207, 0))))) else (some (0, bt202.2)))) = some (r1, r2) := h
  clear h
  replace H := Option.bind_eq_some_iff.mp H
  obtain ⟨⟨t202, t203⟩, A20, H⟩ := H
  replace H : (if t203 = 0 then ((ringworkref06_Least.f k t202).bind fun t206 => (if t206 > 200 then (some (0, 13)) else ((ringworkref06_Least.f k t202).bind fun t207 => (some (t207, 0))))) else (some (0, t203))) = some (r1, r2) := H
  have A2 := Aside0.mk A20
  clear A20
  by_cases c3 : t203 = 0
  · rw [if_pos c3] at H
    have c3b0 : (t203 == 0) = true := beq_iff_eq.mpr c3
    have c3b1 : (t203 != 0) = false := bne_eq_false_iff_eq.mpr c3
    clear c3
    replace H := Option.bind_eq_some_iff.mp H
    obtain ⟨t206, A40, H⟩ := H
    replace H : (if t206 > 200 then (some (0, 13)) else ((ringworkref06_Least.f k t202).bind fun t207 => (some (t207, 0)))) = some (r1, r2) := H
    have A4 := Aside0.mk A40
    clear A40
    by_cases c5 : t206 > 200
    · rw [if_pos c5] at H
      have c5b0 : decide (200 < t206) = true := decide_eq_true c5
      clear c5
      simp only [Option.some.injEq, Prod.mk.injEq] at H
      obtain ⟨rfl, rfl⟩ := H
      go_enter Try.func28, Try.ntmps28
      go_wp2_with (first | ((with_reducible refine gate_callee (f := 23) rfl ?_); refine goesL_ (some 8) rfl rfl Try.func23 (by kernel_rfl) rfl #[.string a0] rfl (by (try simp only [List.map_toArray, List.map_cons, List.map_nil]); first | done | rfl | (simp only [List.length_drop, List.length_take]; rfl)) ?_; (with_reducible refine (ringworkref06_Cells.calls k a0 t202 t203 _ A2.out).mono ?_); rintro e w6 ⟨v204, rfl, ho0, hb⟩; refine ⟨_, rfl, ?_⟩; have n0_ := Aside0.mk (Kd.R_lower ho0 (below_size (by repeat (first | (with_reducible first | exact HB.out | apply below_alloc | apply pw_below_drewN | apply below_drew1) | exact HB.out)))); have n1_ := Aside0.mk (below_step (by repeat (first | (with_reducible first | exact HB.out | apply below_alloc | apply pw_below_drewN | apply below_drew1) | exact HB.out)) hb); clear HB; have HO205 := n0_; have HB := n1_; clear n0_ n1_; (try clear hb); (try clear hb2); (try clear hk); (try clear hi); (try clear ho0); obtain ⟨Ao7, co7, eo7⟩ := Kd.R_slice HO205.out; subst eo7) | ((with_reducible refine gate_callee (f := 64) rfl ?_); refine goesL_ (some 15) rfl rfl Try.func64 (by kernel_rfl) rfl #[.slice Ao7 t202.length co7] rfl (by (try simp only [List.map_toArray, List.map_cons, List.map_nil]); first | done | rfl | (simp only [List.length_drop, List.length_take]; rfl)) ?_; (with_reducible refine (ringworkref06_Least.calls k _ _ t202 t206 _ ?side1 ?side2 A4.out).mono ?_); (case side1 => repeat (first | exact (Kd.R_reads' HO205.out).2.2 | (with_reducible refine Kd.C_alloc ?_ _) | (with_reducible refine Kd.C_drewN ?_ _) | (with_reducible refine Kd.C_drew ?_))); (case side2 => exact (Kd.R_reads' HO205.out).2.1); rintro e w' ⟨rfl, ⟨nd, rfl⟩⟩; refine ⟨_, rfl, ?_⟩))
      go_ret2
      exact ⟨by first | rfl | (simp [errW_none, errW_some] <;> rfl) | (simp [*, errW_none, errW_some] <;> rfl), by repeat (first | (with_reducible first | exact HB.out | apply below_alloc | apply pw_below_drewN | apply below_drew1) | exact HB.out)⟩
    · rw [if_neg c5] at H
      have c5b0 : decide (200 < t206) = false := decide_eq_false c5
      clear c5
      replace H := Option.bind_eq_some_iff.mp H
      obtain ⟨t207, A80, H⟩ := H
      replace H : (some (t207, 0)) = some (r1, r2) := H
      have A8 := Aside0.mk A80
      clear A80
      simp only [Option.some.injEq, Prod.mk.injEq] at H
      obtain ⟨rfl, rfl⟩ := H
      go_enter Try.func28, Try.ntmps28
      go_wp2_with (first | ((with_reducible refine gate_callee (f := 23) rfl ?_); refine goesL_ (some 8) rfl rfl Try.func23 (by kernel_rfl) rfl #[.string a0] rfl (by (try simp only [List.map_toArray, List.map_cons, List.map_nil]); first | done | rfl | (simp only [List.length_drop, List.length_take]; rfl)) ?_; (with_reducible refine (ringworkref06_Cells.calls k a0 t202 t203 _ A2.out).mono ?_); rintro e w9 ⟨v204, rfl, ho0, hb⟩; refine ⟨_, rfl, ?_⟩; have n0_ := Aside0.mk (Kd.R_lower ho0 (below_size (by repeat (first | (with_reducible first | exact HB.out | apply below_alloc | apply pw_below_drewN | apply below_drew1) | exact HB.out)))); have n1_ := Aside0.mk (below_step (by repeat (first | (with_reducible first | exact HB.out | apply below_alloc | apply pw_below_drewN | apply below_drew1) | exact HB.out)) hb); clear HB; have HO205 := n0_; have HB := n1_; clear n0_ n1_; (try clear hb); (try clear hb2); (try clear hk); (try clear hi); (try clear ho0); obtain ⟨Ao10, co10, eo10⟩ := Kd.R_slice HO205.out; subst eo10) | ((with_reducible refine gate_callee (f := 64) rfl ?_); refine goesL_ (some 15) rfl rfl Try.func64 (by kernel_rfl) rfl #[.slice Ao10 t202.length co10] rfl (by (try simp only [List.map_toArray, List.map_cons, List.map_nil]); first | done | rfl | (simp only [List.length_drop, List.length_take]; rfl)) ?_; (with_reducible refine (ringworkref06_Least.calls k _ _ t202 t206 _ ?side1 ?side2 A4.out).mono ?_); (case side1 => repeat (first | exact (Kd.R_reads' HO205.out).2.2 | (with_reducible refine Kd.C_alloc ?_ _) | (with_reducible refine Kd.C_drewN ?_ _) | (with_reducible refine Kd.C_drew ?_))); (case side2 => exact (Kd.R_reads' HO205.out).2.1); rintro e w' ⟨rfl, ⟨nd, rfl⟩⟩; refine ⟨_, rfl, ?_⟩) | ((with_reducible refine gate_callee (f := 64) rfl ?_); refine goesL_ (some 18) rfl rfl Try.func64 (by kernel_rfl) rfl #[.slice Ao10 t202.length co10] rfl (by (try simp only [List.map_toArray, List.map_cons, List.map_nil]); first | done | rfl | (simp only [List.length_drop, List.length_take]; rfl)) ?_; (with_reducible refine (ringworkref06_Least.calls k _ _ t202 t207 _ ?side1 ?side2 A8.out).mono ?_); (case side1 => repeat (first | exact (Kd.R_reads' HO205.out).2.2 | (with_reducible refine Kd.C_alloc ?_ _) | (with_reducible refine Kd.C_drewN ?_ _) | (with_reducible refine Kd.C_drew ?_))); (case side2 => exact (Kd.R_reads' HO205.out).2.1); rintro e w' ⟨rfl, ⟨nd, rfl⟩⟩; refine ⟨_, rfl, ?_⟩))
      go_ret2
      exact ⟨by first | rfl | (simp [errW_none, errW_some] <;> rfl) | (simp [*, errW_none, errW_some] <;> rfl), by repeat (first | (with_reducible first | exact HB.out | apply below_alloc | apply pw_below_drewN | apply below_drew1) | exact HB.out)⟩
  · rw [if_neg c3] at H
    have c3b0 : (t203 == 0) = false := beq_eq_false_iff_ne.mpr c3
    have c3b1 : (t203 != 0) = true := bne_iff_ne.mpr c3
    simp only [Option.some.injEq, Prod.mk.injEq] at H
    obtain ⟨rfl, rfl⟩ := H
    go_enter Try.func28, Try.ntmps28
    go_wp2_with (first | ((with_reducible refine gate_callee (f := 23) rfl ?_); refine goesL_ (some 8) rfl rfl Try.func23 (by kernel_rfl) rfl #[.string a0] rfl (by (try simp only [List.map_toArray, List.map_cons, List.map_nil]); first | done | rfl | (simp only [List.length_drop, List.length_take]; rfl)) ?_; (with_reducible refine (ringworkref06_Cells.calls k a0 t202 t203 _ A2.out).mono ?_); rintro e w11 ⟨v204, rfl, ho0, hb⟩; refine ⟨_, rfl, ?_⟩; have n0_ := Aside0.mk (Kd.R_lower ho0 (below_size (by repeat (first | (with_reducible first | exact HB.out | apply below_alloc | apply pw_below_drewN | apply below_drew1) | exact HB.out)))); have n1_ := Aside0.mk (below_step (by repeat (first | (with_reducible first | exact HB.out | apply below_alloc | apply pw_below_drewN | apply below_drew1) | exact HB.out)) hb); clear HB; have HO205 := n0_; have HB := n1_; clear n0_ n1_; (try clear hb); (try clear hb2); (try clear hk); (try clear hi); (try clear ho0)))
    go_ret2
    exact ⟨by first | rfl | (simp [errW_none, errW_some] <;> rfl) | (simp [*, errW_none, errW_some] <;> rfl), by repeat (first | (with_reducible first | exact HB.out | apply below_alloc | apply pw_below_drewN | apply below_drew1) | exact HB.out)⟩

end Go.Proofs.Ytemglmcddaeedaa.PA

namespace Go.Proofs.Ytemglmcddaeedaa.PA
open Go.RowKit Go.Proofs.YtemglmcddaeedaaW.PrintWords Go.Proofs.YtemglmcddaeedaaW.PrintLast Go.Proofs.YtemglmcddaeedaaW.PrintMore
set_option linter.unusedVariables false
set_option linter.unusedSimpArgs false
/-! #### what the reference's readers answer -/
theorem refTwo_f (p : ByteArray) (a : Int) (h0 : 0 ≤ a) (h1 : a + 1 < p.size) (hs : p.size ≤ 100000) : ringworkref06_Two.f p a = some (twoS p a) := by
  have b1 := bt_range p a
  have b2 := bt_range p (a + 1)
  unfold ringworkref06_Two.f twoS
  rw [w64 (a + 1) (by omega) (by omega), if_pos h0, if_pos (by omega), if_pos (by omega), if_pos h1, w64 (bt p a) (by omega) (by omega), w64 (bt p (a + 1)) (by omega) (by omega), w64 (256 * bt p a) (by omega) (by omega), w64 (256 * bt p a + bt p (a + 1)) (by omega) (by omega)]
/-- What is answered from the entries on. -/
def wrongT (p : ByteArray) (n : Nat) : Int × Int :=
  match entriesS p n with
  | .error a => (a, 12)
  | .ok top => match firstNZ p top (2 + 4 * n) with
    | some i => ((i : Int), 12)
    | none => ((p.size : Int), 0)
theorem refWrong_l1 (p : ByteArray) (hs : p.size ≤ 100000) (top : Int) (ht : top ≤ p.size) : ∀ (k j : Nat), j ≤ p.size + 1 → p.size + 1 - j < k →
    ringworkref06_Wrong.l1 k p top (j : Int) = some (match firstNZ p top j with | some i => ((i : Int), 12) | none => ((p.size : Int), 0)) := by
  intro k
  induction k with
  | zero => intro j _ h; omega
  | succ k ih =>
    intro j hj hk
    rw [ringworkref06_Wrong.l1, firstNZ]
    by_cases h : (j : Int) < top
    · rw [if_pos h, if_pos (by omega), if_pos (by omega), if_pos h]
      by_cases hz : bt p (j : Int) = 0
      · rw [if_pos hz, if_neg (by simpa using hz), w64 _ (by omega) (by omega), show (j : Int) + 1 = ((j + 1 : Nat) : Int) by omega]
        exact ih (j + 1) (by omega) (by omega)
      · rw [if_neg hz, if_pos hz]
    · rw [if_neg h, if_neg h]
theorem refWrong_l0 (p : ByteArray) (n : Nat) (hn : n ≤ 200) (hsz : 2 + 4 * n ≤ p.size) (hs : p.size ≤ 100000) : ∀ (k i : Nat) (top last : Int), i ≤ n → 2 * (n - i) + p.size + 3 < k → scanE p n i = .ok (top, last) → (i = n → last = n) →
    ringworkref06_Wrong.l0 k p (n : Int) top ((i : Int) + 1) = some (wrongT p n) := by
  intro k
  induction k using Nat.strongRecOn with
  | ind k ih =>
    intro i top last hi hk hsc hl
    have htop := scanE_top p n i top last hsc
    have hrg := scanE_range p n i top last hsc
    obtain ⟨k, rfl⟩ : ∃ k', k = k' + 1 := ⟨k - 1, by omega⟩
    rw [ringworkref06_Wrong.l0]
    by_cases hlt : i < n
    · rw [if_pos (by omega), w64 (4 * ((i : Int) + 1)) (by omega) (by omega), w64 (4 * ((i : Int) + 1) - 2) (by omega) (by omega), w64 (4 * ((i : Int) + 1) - 2 + 2) (by omega) (by omega)]
      rw [show 4 * ((i : Int) + 1) - 2 = 2 + 4 * (i : Int) by omega, show 2 + 4 * (i : Int) + 2 = 4 + 4 * (i : Int) by omega, refTwo_f p _ (by omega) (by omega) hs, Option.bind_some, refTwo_f p _ (by omega) (by omega) hs, Option.bind_some]
      have hx := twoS_range p (2 + 4 * (i : Int))
      have hy := twoS_range p (4 + 4 * (i : Int))
      have hstep : scanE p n (i + 1) = if twoS p (2 + 4 * (i : Int)) = 0 ∧ twoS p (4 + 4 * (i : Int)) = 0 then .ok (top, last)
        else if twoS p (4 + 4 * (i : Int)) = 0 ∨ twoS p (2 + 4 * (i : Int)) ≠ top - twoS p (4 + 4 * (i : Int)) ∨ twoS p (2 + 4 * (i : Int)) < 2 + 4 * (n : Int) then .error (2 + 4 * (i : Int))
        else .ok (twoS p (2 + 4 * (i : Int)), (i : Int) + 1) := by rw [scanE, hsc]
      generalize twoS p (2 + 4 * (i : Int)) = x at *
      generalize twoS p (4 + 4 * (i : Int)) = y at *
      obtain ⟨k, rfl⟩ : ∃ k', k = k' + 1 := ⟨k - 1, by omega⟩
      have hbad : (¬ (x = 0 ∧ y = 0)) → (y = 0 ∨ x ≠ top - y ∨ x < 2 + 4 * (n : Int)) → wrongT p n = (2 + 4 * (i : Int), 12) := fun h1 h2 => by
        rw [if_neg h1, if_pos h2] at hstep
        have := scanE_error p n (i + 1) n (by omega) _ hstep
        unfold wrongT entriesS
        rw [this]
      have hcont : ∀ b : Bool, b = decide (x = 0 ∧ y = 0) → ringworkref06_Wrong.j2 (k + 1) p (n : Int) top ((i : Int) + 1) (2 + 4 * (i : Int)) x y b = some (wrongT p n) := by
        intro b hb
        rw [ringworkref06_Wrong.j2]
        by_cases hz : x = 0 ∧ y = 0
        · rw [if_pos (by rw [hb]; exact decide_eq_true hz)]
          rw [if_pos hz] at hstep
          by_cases hlast : (i : Int) + 1 = n
          · rw [if_pos hlast]
            have hin : i + 1 = n := by omega
            rw [hin] at hstep
            unfold wrongT entriesS
            rw [hstep]
            simp only
            rw [if_pos (by omega)]
            congr 2
            omega
          · rw [if_neg hlast, w64 ((i : Int) + 1 + 1) (by omega) (by omega), show (i : Int) + 1 + 1 = ((i + 1 : Nat) : Int) + 1 by omega]
            exact ih k (by omega) (i + 1) top last (by omega) (by omega) hstep (fun h => absurd h (by omega))
        · rw [if_neg (by rw [hb, decide_eq_false hz]; simp)]
          by_cases hx0 : x = 0
          · rw [if_pos hx0, hbad hz (by omega)]
          · rw [if_neg hx0]
            by_cases hy0 : y = 0
            · rw [if_pos hy0, hbad hz (by omega)]
            · rw [if_neg hy0, w64 (top - y) (by omega) (by omega), w64 (4 * (n : Int)) (by omega) (by omega), w64 (2 + 4 * (n : Int)) (by omega) (by omega)]
              by_cases hxy : x = top - y
              · rw [if_pos hxy]
                by_cases hlo : x < 2 + 4 * (n : Int)
                · rw [if_pos hlo, hbad hz (by omega)]
                · rw [if_neg hlo, w64 ((i : Int) + 1 + 1) (by omega) (by omega), show (i : Int) + 1 + 1 = ((i + 1 : Nat) : Int) + 1 by omega]
                  rw [if_neg hz, if_neg (by omega)] at hstep
                  exact ih k (by omega) (i + 1) x ((i : Int) + 1) (by omega) (by omega) hstep (fun h => by omega)
              · rw [if_neg hxy, hbad hz (by omega)]
      by_cases hx0 : x = 0
      · rw [if_pos hx0]
        exact hcont _ (by rw [Bool.eq_iff_iff]; simp [hx0])
      · rw [if_neg hx0]
        exact hcont _ (by rw [Bool.eq_iff_iff]; simp [hx0])
    · have hin : i = n := by omega
      subst hin
      rw [if_neg (by omega), w64 (4 * (i : Int)) (by omega) (by omega), w64 (2 + 4 * (i : Int)) (by omega) (by omega), show 2 + 4 * (i : Int) = ((2 + 4 * i : Nat) : Int) by omega, refWrong_l1 p hs top htop k (2 + 4 * i) (by omega) (by omega)]
      unfold wrongT entriesS
      rw [hsc]
      simp only
      rw [if_neg (by have := hl rfl; omega)]
theorem refWrong_f (p : ByteArray) (hs : p.size ≤ 100000) (k : Nat) (hk : 2 * 200 + p.size + 10 < k) : ringworkref06_Wrong.f k p = some (wrongS p) := by
  unfold ringworkref06_Wrong.f wrongS
  rw [refSize_f, Option.bind_some]
  by_cases hok : 32 ≤ p.size ∧ p.size ≤ 4096 ∧ p.size % 8 = 0
  · rw [if_pos (decide_eq_true (show sizeOk (p.size : Int) from ⟨by omega, by omega, by omega⟩)), if_pos hok, refTwo_f p 0 (by omega) (by omega) hs, Option.bind_some]
    have hr := twoS_range p 0
    obtain ⟨n, hn⟩ : ∃ n : Nat, twoS p 0 = n := ⟨(twoS p 0).toNat, by omega⟩
    rw [hn, w64 (4 * (n : Int)) (by omega) (by omega), w64 (2 + 4 * (n : Int)) (by omega) (by omega)]
    obtain ⟨k, rfl⟩ : ∃ k', k = k' + 1 := ⟨k - 1, by omega⟩
    by_cases h1 : (n : Int) > 200
    · rw [if_pos h1, if_pos (by omega), ringworkref06_Wrong.j0, if_pos rfl]
    · rw [if_neg h1, ringworkref06_Wrong.j0]
      by_cases h2 : 2 + 4 * (n : Int) > p.size
      · rw [if_pos (decide_eq_true h2), if_pos (.inr h2)]
      · rw [if_neg (by rw [decide_eq_false h2]; simp), if_neg (by omega)]
        have := refWrong_l0 p n (by omega) (by omega) hs k 0 p.size 0 (by omega) (by omega) rfl (fun h => by omega)
        rw [show ((0 : Nat) : Int) + 1 = 1 by rfl] at this
        rw [this, Int.toNat_natCast]
        rfl
  · rw [if_neg (by
      rw [decide_eq_false (fun h : sizeOk (p.size : Int) => hok ⟨by have := h.1; omega, by have := h.2.1; omega, by have := h.2.2; omega⟩)]; simp), if_neg hok]
theorem refValid_f (p : ByteArray) (hs : p.size ≤ 100000) (k : Nat) (hk : 2 * 200 + p.size + 10 < k) : ringworkref06_Valid.f k p = some (decide (validS p)) := by
  unfold ringworkref06_Valid.f validS
  rw [refWrong_f p hs k hk, Option.bind_some]
  congr 1
theorem refCellsOf_l0 (p : ByteArray) (n : Nat) (hn : twoS p 0 = n) (hn2 : n ≤ 200) (hsz : 2 + 4 * n ≤ p.size) (hs : p.size ≤ 100000)
    (hgood : ∀ i : Nat, i < n → 0 < twoS p (4 + 4 * (i : Int)) → twoS p (2 + 4 * (i : Int)) + twoS p (4 + 4 * (i : Int)) ≤ p.size) : ∀ (k i : Nat), i ≤ n → n - i < k →
    ringworkref06_CellsOf.l0 k p (cellsS p i) ((i : Int) + 1) = some (cellsS p n) := by
  intro k
  induction k with
  | zero => intro i _ h; omega
  | succ k ih =>
    intro i hi hk
    rw [ringworkref06_CellsOf.l0, refTwo_f p 0 (by omega) (by omega) hs, Option.bind_some, hn]
    by_cases hlt : i < n
    · rw [if_pos (by omega), w64 (4 * ((i : Int) + 1)) (by omega) (by omega), w64 (4 * ((i : Int) + 1) - 2) (by omega) (by omega), show 4 * ((i : Int) + 1) - 2 = 2 + 4 * (i : Int) by omega, show 4 * ((i : Int) + 1) = 4 + 4 * (i : Int) by omega, refTwo_f p _ (by omega) (by omega) hs, Option.bind_some, refTwo_f p _ (by omega) (by omega) hs, Option.bind_some]
      have hx := twoS_range p (2 + 4 * (i : Int))
      have hy := twoS_range p (4 + 4 * (i : Int))
      have hg := hgood i hlt
      have hnext := ih (i + 1) (by omega) (by omega)
      have hlen := cellsS_length p i
      rw [w64 ((i : Int) + 1 + 1) (by omega) (by omega), show (i : Int) + 1 + 1 = ((i + 1 : Nat) : Int) + 1 by omega]
      by_cases hy0 : 0 < twoS p (4 + 4 * (i : Int))
      · have hg := hg hy0
        rw [if_pos hy0, if_pos (by omega), w64 _ (by omega) (by omega), if_pos (by omega), if_pos (by omega), if_pos (by omega)]
        rw [cellsS, if_pos hy0] at hnext
        exact hnext
      · rw [if_neg hy0]
        rw [cellsS, if_neg hy0] at hnext
        exact hnext
    · rw [if_neg (by omega), show i = n by omega]
theorem refCellsOf_f (p : ByteArray) (hv : validS p) (k : Nat) (hk : 201 < k) : ringworkref06_CellsOf.f k p = some (cellsS p (twoS p 0).toNat) := by
  obtain ⟨q1, q2, q3, q4, q5, top, q6, q7⟩ := validS_spec p hv
  have hr := twoS_range p 0
  obtain ⟨n, hn⟩ : ∃ n : Nat, twoS p 0 = n := ⟨(twoS p 0).toNat, by omega⟩
  rw [hn, Int.toNat_natCast] at q6
  have := refCellsOf_l0 p n hn (by omega) (by omega) (by omega) (fun i hi hy => (entriesS_good p n top q6 i hi hy).2) k 0 (by omega) (by omega)
  rw [hn, Int.toNat_natCast]
  exact this
theorem refCells_f (p : ByteArray) (hs : p.size ≤ 100000) (k : Nat) (hk : 2 * 200 + p.size + 10 < k) : ringworkref06_Cells.f k p = some (if validS p then (cellsS p (twoS p 0).toNat, 0) else ([], 1)) := by
  unfold ringworkref06_Cells.f
  rw [refValid_f p hs k hk, Option.bind_some]
  by_cases hv : validS p
  · rw [if_pos (decide_eq_true hv), if_pos hv, refCellsOf_f p hv k (by omega)]
    rfl
  · rw [if_neg (by simpa using hv), if_neg hv]
/-! At: the data of a line. -/
theorem refAt_l0 (l : List S45) (hl : l.length ≤ 9223372036854775807) (n : Int) : ∀ (k i : Nat), i ≤ l.length → l.length - i < k → ringworkref06_At.l0 k l n (i : Int) = some (atS (l.drop i) n) := by
  intro k
  induction k with
  | zero => intro i _ h; omega
  | succ k ih =>
    intro i hi hk
    rw [ringworkref06_At.l0]
    by_cases hlt : i < l.length
    · rw [if_pos (by omega), if_pos (by omega), rd_get l i hlt, List.drop_eq_getElem_cons hlt]
      by_cases h : l[i].f0 = n
      · rw [if_pos h]
        unfold atS
        rw [List.find?_cons_of_pos (by simpa using h)]
      · rw [if_neg h, w64 _ (by omega) (by omega), show (i : Int) + 1 = ((i + 1 : Nat) : Int) by omega, ih (i + 1) (by omega) (by omega)]
        unfold atS
        rw [List.find?_cons_of_neg (by simpa using h)]
    · rw [if_neg (by omega), List.drop_of_length_le (by omega)]
      rfl
theorem refAt_f (l : List S45) (hl : l.length ≤ 9223372036854775807) (n : Int) (k : Nat) (hk : l.length < k) : ringworkref06_At.f k l n = some (atS l n) := by
  have := refAt_l0 l hl n k 0 (by omega) (by omega)
  exact this
theorem refLeast_l0 (l : List S45) (h : CellsOk l) (hl : l.length ≤ 100000) : ∀ (k : Nat) (j : Int), 1 ≤ j → j ≤ leastL l → (201 - j).toNat + l.length + 1 < k →
    ringworkref06_Least.l0 k l j = some (leastL l) := by
  obtain ⟨i1, i2, i3, i4⟩ := leastL_spec l h
  intro k
  induction k with
  | zero => intro j _ _ h; omega
  | succ k ih =>
    intro j h1 h2 hk
    rw [ringworkref06_Least.l0]
    by_cases hj : j ≤ 200
    · rw [if_pos hj, refAt_f l (by omega) j k (by omega), Option.bind_some]
      by_cases hlt : j < leastL l
      · have hp := (atS_pos h j).2 (i3 j h1 hlt)
        rw [if_neg (fun hn => by have := (toList_nil _).1 hn; omega), w64 _ (by omega) (by omega)]
        exact ih (j + 1) (by omega) (by omega) (by omega)
      · have he : j = leastL l := by omega
        rw [if_pos ((toList_nil _).2 (by
          rcases Nat.eq_zero_or_pos (atS l j).size with hz | hz
          · exact hz
          · obtain ⟨c, hc, hcj⟩ := (atS_pos h j).1 hz
            exact absurd hcj (by rw [he]; exact i4 c hc))), he]
    · rw [if_neg hj]
      congr 1
      omega
theorem refLeast_f (l : List S45) (h : CellsOk l) (hl : l.length ≤ 100000) (k : Nat) (hk : l.length + 202 < k) : ringworkref06_Least.f k l = some (leastL l) :=
  refLeast_l0 l h hl k 1 (by omega) (leastL_spec l h).1 (by omega)
theorem refFree_f (p : ByteArray) (hs : p.size ≤ 100000) (k : Nat) (hk : 2 * 200 + p.size + 10 < k) : ringworkref06_Free.f k p = some (if validS p then ((p.size : Int) - needsL (cellsS p (twoS p 0).toNat), 0) else (0, 1)) := by
  unfold ringworkref06_Free.f
  rw [refCells_f p hs k hk, Option.bind_some]
  by_cases hv : validS p
  · obtain ⟨g1, g2, g3, g4⟩ := valid_reads p hv
    obtain ⟨q1, q2, q3, q4, q5, _⟩ := validS_spec p hv
    have hl := cellsS_length p (twoS p 0).toNat
    have h0 := lastL_nonneg g1
    have hb : bytesL (cellsS p (twoS p 0).toNat) ≤ 1000000000000 := by unfold needsL at g2; omega
    rw [if_pos hv, if_pos hv]
    simp only
    rw [if_pos trivial, refRoom_f _ _ (by omega) (by omega) hb g1 k (by omega)]
    rfl
  · rw [if_neg hv, if_neg hv]
    rfl
theorem refNext_f (p : ByteArray) (hs : p.size ≤ 100000) (k : Nat) (hk : 2 * 200 + p.size + 1000 < k) :
    ringworkref06_Next.f k p = some (if validS p then (if leastL (cellsS p (twoS p 0).toNat) > 200 then (0, 13) else (leastL (cellsS p (twoS p 0).toNat), 0)) else (0, 1)) := by
  unfold ringworkref06_Next.f
  rw [refCells_f p hs k (by omega), Option.bind_some]
  by_cases hv : validS p
  · obtain ⟨g1, g2, g3, g4⟩ := valid_reads p hv
    obtain ⟨q1, q2, q3, q4, q5, _⟩ := validS_spec p hv
    have hl := cellsS_length p (twoS p 0).toNat
    rw [if_pos hv, if_pos hv]
    simp only
    rw [if_pos trivial, refLeast_f _ g1 (by omega) k (by omega), Option.bind_some]
    split <;> rfl
  · rw [if_neg hv, if_neg hv]
    rfl

end Go.Proofs.Ytemglmcddaeedaa.PA

namespace Go.Proofs.Ytemglmcddaeedaa.PA
open Go.RowKit Go.Proofs.YtemglmcddaeedaaW.PrintWords Go.Proofs.YtemglmcddaeedaaW.PrintLast Go.Proofs.YtemglmcddaeedaaW.PrintMore
set_option linter.unusedVariables false
set_option linter.unusedSimpArgs false
/-! #### what is edited in a page: the program's and the reference's answers -/
/-- The reference's With, on what is left. -/
def withR (n : Int) (d : ByteArray) : List S45 → Bool → List S45
  | [], done => if done then [] else [⟨n, d⟩]
  | c :: r, done => if done = false ∧ c.f0 ≥ n then ⟨n, d⟩ :: ((if c.f0 = n then [] else [c]) ++ withR n d r true) else (if c.f0 = n then [] else [c]) ++ withR n d r done
theorem withR_true (n : Int) (d : ByteArray) (c : S45) (r : List S45) : withR n d (c :: r) true = (if c.f0 = n then [] else [c]) ++ withR n d r true := by rw [withR, if_neg (fun h => by cases h.1)]
theorem withR_ge (n : Int) (d : ByteArray) (c : S45) (r : List S45) (h : c.f0 ≥ n) : withR n d (c :: r) false = ⟨n, d⟩ :: ((if c.f0 = n then [] else [c]) ++ withR n d r true) := by rw [withR, if_pos ⟨rfl, h⟩]
theorem withR_lt (n : Int) (d : ByteArray) (c : S45) (r : List S45) (h : ¬ c.f0 ≥ n) : withR n d (c :: r) false = (if c.f0 = n then [] else [c]) ++ withR n d r false := by rw [withR, if_neg (fun h2 => h h2.2)]
theorem refWith_l0 (l : List S45) (hl : l.length ≤ 100000) (n : Int) (d : ByteArray) : ∀ (k i : Nat) (out : List S45) (done : Bool), i ≤ l.length → out.length ≤ 2 * i + 2 → 2 * (l.length - i) + 1 ≤ k →
    ringworkref06_With.l0 k l n d out done (i : Int) = some (out ++ withR n d (l.drop i) done) := by
  intro k
  induction k using Nat.strongRecOn with
  | ind k ih =>
    intro i out done hi ho hk
    obtain ⟨k, rfl⟩ : ∃ k', k = k' + 1 := ⟨k - 1, by omega⟩
    rw [ringworkref06_With.l0]
    by_cases hlt : i < l.length
    · obtain ⟨k, rfl⟩ : ∃ k', k = k' + 1 := ⟨k - 1, by omega⟩
      have e1 : wrap64 ((i : Int) + 1) = ((i + 1 : Nat) : Int) := by rw [w64 _ (by omega) (by omega)]; omega
      rw [if_pos (by omega), List.drop_eq_getElem_cons hlt]
      have hrd := rd_get l i hlt
      generalize l[i] = X at *
      have step : ∀ (out : List S45) (done : Bool), out.length ≤ 2 * i + 2 → ringworkref06_With.j1 (k + 1) l n d out done (i : Int) false = some (out ++ ((if X.f0 = n then [] else [X]) ++ withR n d (l.drop (i + 1)) done)) := by
        intro out done ho
        rw [ringworkref06_With.j1, if_neg (by simp), if_pos (by omega), if_pos (by omega), hrd]
        by_cases hn : X.f0 = n
        · rw [if_pos hn, if_pos hn, e1, ih k (by omega) (i + 1) out done (by omega) (by omega) (by omega)]; rfl
        · rw [if_neg hn, if_neg hn, if_pos (by omega), e1, ih k (by omega) (i + 1) _ done (by omega) (by rw [List.length_append, List.length_singleton]; omega) (by omega)]
          simp
      cases done with
      | true => rw [if_pos rfl, step out true ho, withR_true]
      | false =>
        rw [if_neg (by simp), if_pos (by omega), hrd]
        by_cases hge : X.f0 ≥ n
        · rw [decide_eq_true hge, ringworkref06_With.j1, if_pos rfl, if_pos (by omega), Option.bind_some, if_pos (by omega), if_pos (by omega), hrd, withR_ge n d X _ hge]
          by_cases hn : X.f0 = n
          · rw [if_pos hn, if_pos hn, e1, ih k (by omega) (i + 1) _ true (by omega) (by rw [List.length_append, List.length_singleton]; omega) (by omega)]
            simp
          · rw [if_neg hn, if_neg hn, if_pos (by rw [List.length_append, List.length_singleton]; omega), e1, ih k (by omega) (i + 1) _ true (by omega) (by rw [List.length_append, List.length_append, List.length_singleton, List.length_singleton]; omega) (by omega)]
            simp
        · rw [decide_eq_false hge, step out false ho, withR_lt n d X _ hge]
    · rw [if_neg (by omega), List.drop_of_length_le (by omega), withR]
      cases done with
      | true => simp
      | false => rw [if_neg (by simp), if_pos (by omega)]; simp
theorem withR_far (n : Int) (d : ByteArray) : ∀ (b : List S45), (∀ x ∈ b, n < x.f0) → withR n d b true = b := by
  intro b
  induction b with
  | nil => intro _; rfl
  | cons c r ih =>
    intro h
    have := h c (by simp)
    rw [withR_true, if_neg (by omega), ih (fun x hx => h x (by simp [hx]))]; rfl
theorem withR_pre (n : Int) (d : ByteArray) (b : List S45) (done : Bool) : ∀ (a : List S45), (∀ x ∈ a, x.f0 < n) → withR n d (a ++ b) done = a ++ withR n d b done := by
  intro a
  induction a with
  | nil => intro _; rfl
  | cons c r ih =>
    intro h
    have hc := h c (by simp)
    have := ih (fun x hx => h x (by simp [hx]))
    cases done with
    | true => rw [List.cons_append, withR_true, if_neg (by omega), this]; rfl
    | false => rw [List.cons_append, withR_lt n d c _ (by omega), if_neg (by omega), this]; rfl
/-- The cells with other data for a line. -/
def withS (l : List S45) (n : Int) (d : ByteArray) : List S45 :=
  if d.size = 0 then (if foundS l n = true then delS l n else l) else (if foundS l n = true then repS l n d else insS l n d)
theorem withR_S {l : List S45} (h : CellsOk l) (n : Int) (d : ByteArray) : withR n d l (decide (d.size = 0)) = withS l n d := by
  have hs := idx_split h n
  have e := withR_pre n d (l.drop (idxS l n)) (decide (d.size = 0)) (l.take (idxS l n)) hs.1
  rw [List.take_append_drop] at e
  rw [e]
  unfold withS
  by_cases hd : d.size = 0
  · rw [if_pos hd, decide_eq_true hd]
    cases hf : foundS l n with
    | true =>
      rw [if_pos rfl]
      obtain ⟨c, h1, h2, h3, h4⟩ := dropIdx h hf
      rw [h1, withR_true, if_pos h2, withR_far n d _ (drop_succ_lt h hf)]
      rfl
    | false =>
      rw [if_neg (by simp), withR_far n d _ (hs.2.2.2 hf), List.take_append_drop]
  · rw [if_neg hd, decide_eq_false hd]
    cases hf : foundS l n with
    | true =>
      rw [if_pos rfl]
      obtain ⟨c, h1, h2, h3, h4⟩ := dropIdx h hf
      rw [h1, withR_ge n d c _ (by omega), if_pos h2, withR_far n d _ (drop_succ_lt h hf)]
      rfl
    | false =>
      rw [if_neg (by simp)]
      unfold insS
      congr 1
      have hb := hs.2.2.2 hf
      cases hdr : l.drop (idxS l n) with
      | nil => rfl
      | cons c r =>
        rw [hdr] at hb
        have := hb c (by simp)
        rw [withR_ge n d c _ (by omega), if_neg (by omega), withR_far n d r (fun x hx => hb x (by simp [hx]))]
        rfl
theorem refWith_f {l : List S45} (h : CellsOk l) (hl : l.length ≤ 100000) (n : Int) (d : ByteArray) (k : Nat) (hk : 2 * l.length + 1 ≤ k) : ringworkref06_With.f k l n d = some (withS l n d) := by
  unfold ringworkref06_With.f
  have e : (d.toList == ([] : List UInt8)) = decide (d.size = 0) := by
    rw [Bool.eq_iff_iff]; simp only [beq_iff_eq, decide_eq_true_eq]; exact toList_nil d
  have := refWith_l0 l hl n d k 0 [] (decide (d.size = 0)) (by omega) (by simp) (by omega)
  rw [e]
  rw [← withR_S h n d]
  simpa using this
theorem withS_ok {l : List S45} (h : CellsOk l) {n : Int} (hn : 1 ≤ n ∧ n ≤ 200) (d : ByteArray) : CellsOk (withS l n d) := by
  unfold withS
  by_cases hd : d.size = 0
  · rw [if_pos hd]
    split
    · exact delS_ok h n
    · exact h
  · rw [if_neg hd]
    split
    · rename_i hf; exact repS_ok h hn (by omega) hf
    · rename_i hf; exact insS_ok h hn (by omega) (by simpa using hf)
theorem withS_bytes (l : List S45) (n : Int) (d : ByteArray) : bytesL (withS l n d) ≤ bytesL l + d.size := by
  unfold withS
  have h1 := delS_bytes l n
  have h2 := repS_bytes l n d
  have h3 := insS_bytes l n d
  split <;> split <;> omega
theorem withS_len (l : List S45) (n : Int) (d : ByteArray) : (withS l n d).length ≤ l.length + 1 := by
  unfold withS delS repS insS
  split <;> split <;> simp <;> omega
/-- What the reference's changed answers. -/
theorem refChanged_f (p : ByteArray) {l : List S45} (h : CellsOk l) (hl : l.length ≤ 200) (hb : bytesL l ≤ 5000) (hp : 32 ≤ p.size ∧ p.size ≤ 4096) {n : Int} (hn : 1 ≤ n ∧ n ≤ 200) (d : ByteArray) (hd : d.size ≤ 100000) (k : Nat) (hk : 1000 ≤ k) :
    ringworkref06_changed.f k p l n d = some (filledS p.size (withS l n d)) := by
  have ho := withS_ok h hn d
  have hby := withS_bytes l n d
  have hln := withS_len l n d
  unfold ringworkref06_changed.f
  rw [refWith_f h (by omega) n d k (by omega), Option.bind_some, refRoom_f _ _ ⟨by omega, by omega⟩ (by omega) (by omega) ho k (by omega), Option.bind_some]
  unfold filledS
  by_cases hf : needsL (withS l n d) > (p.size : Int)
  · rw [if_pos (by omega), if_pos hf]
  · rw [if_neg (by omega), if_neg hf]
    unfold ringworkref06_Built.f
    rw [if_pos ⟨by omega, by omega, ho, by omega, by omega⟩]
    rfl

end Go.Proofs.Ytemglmcddaeedaa.PA

namespace Go.Proofs.Ytemglmcddaeedaa.PA
open Go.RowKit Go.Proofs.YtemglmcddaeedaaW.PrintWords Go.Proofs.YtemglmcddaeedaaW.PrintLast Go.Proofs.YtemglmcddaeedaaW.PrintMore
set_option linter.unusedVariables false
set_option linter.unusedSimpArgs false
/-! #### the answers, function by function -/
theorem refLine_f (p : ByteArray) (hs : p.size ≤ 100000) (n : Int) (k : Nat) (hk : 2 * 200 + p.size + 10 < k) : ringworkref06_line.f k p n = some (if validS p then (if 1 ≤ n ∧ n ≤ 200 then (cellsP p, 0) else ([], 7)) else ([], 1)) := by
  unfold ringworkref06_line.f
  rw [refValid_f p hs k hk, Option.bind_some]
  by_cases hv : validS p
  · rw [if_pos (decide_eq_true hv), if_pos hv]
    by_cases h1 : n < 1
    · rw [if_pos h1, if_neg (by omega)]
    · rw [if_neg h1]
      by_cases h2 : n > 200
      · rw [if_pos h2, if_neg (by omega)]
      · rw [if_neg h2, if_pos (by omega), refCellsOf_f p hv k (by omega)]
        rfl
  · rw [if_neg (by simpa using hv), if_neg hv]
theorem refAt_P {p : ByteArray} (hv : validS p) (n : Int) (k : Nat) (hk : 1000 ≤ k) : ringworkref06_At.f k (cellsP p) n = some (atS (cellsP p) n) := by
  have := (cellsP_ok hv).2.1
  exact refAt_f _ (by omega) n k (by omega)
theorem refGet_f (p : ByteArray) (hs : p.size ≤ 100000) (n : Int) (k : Nat) (hk : 2 * 200 + p.size + 1000 < k) : ringworkref06_Get.f k p n = some (getS p n) := by
  unfold ringworkref06_Get.f getS
  rw [refLine_f p hs n k (by omega), Option.bind_some]
  by_cases hv : validS p
  · rw [if_pos hv, if_pos hv]
    by_cases hn : 1 ≤ n ∧ n ≤ 200
    · rw [if_pos hn, if_pos hn]
      simp only
      have hok := (cellsP_ok hv).1
      rw [if_pos trivial, refAt_P hv n k (by omega), Option.bind_some]
      cases hf : foundS (cellsP p) n with
      | true =>
        rw [if_neg (by rw [atS_size hok]; simp [hf]), Option.bind_some, if_pos rfl, ((atS_found hok n).1 hf).1]
      | false => rw [if_pos ((atS_size hok n).2 hf), if_neg (by simp)]
    · rw [if_neg hn, if_neg hn]; rfl
  · rw [if_neg hv, if_neg hv]; rfl
theorem refPutAt_f (p : ByteArray) (hs : p.size ≤ 100000) (n : Int) (d : ByteArray) (hd : d.size ≤ 100000) (k : Nat) (hk : 2 * 200 + p.size + 1002 < k) : ringworkref06_PutAt.f k p n d = some (putAtS p n d) := by
  unfold ringworkref06_PutAt.f putAtS
  obtain ⟨k, rfl⟩ : ∃ k', k = k' + 1 := ⟨k - 1, by omega⟩
  rw [refValid_f p hs _ (by omega), Option.bind_some]
  by_cases hv : validS p
  · rw [if_pos (decide_eq_true hv), ringworkref06_PutAt.j0, emptyB]
    by_cases h0 : d.size = 0
    · rw [if_pos (decide_eq_true h0), if_pos h0]
    · rw [if_neg (by simpa using h0), if_neg h0, if_pos hv, refLine_f p hs n k (by omega), Option.bind_some, if_pos hv]
      by_cases hn : 1 ≤ n ∧ n ≤ 200
      · rw [if_pos hn, if_pos hn]
        simp only
        obtain ⟨hok, k2, k3, k4, k5⟩ := cellsP_ok hv
        rw [if_pos trivial, refAt_P hv n k (by omega), Option.bind_some]
        cases hf : foundS (cellsP p) n with
        | true => rw [if_neg (by rw [atS_size hok]; simp [hf]), if_pos rfl]
        | false =>
          rw [if_pos ((atS_size hok n).2 hf), if_neg (by simp), refChanged_f p hok k2 (by omega) ⟨k4, k5⟩ hn d hd k (by omega), Option.bind_some]
          unfold withS
          rw [if_neg h0, hf, if_neg (by simp)]
      · rw [if_neg hn, if_neg hn]; rfl
  · rw [if_neg (by simpa using hv), ringworkref06_PutAt.j0, if_pos rfl, if_neg hv]
    split <;> rfl
theorem refSet_f (p : ByteArray) (hs : p.size ≤ 100000) (n : Int) (d : ByteArray) (hd : d.size ≤ 100000) (k : Nat) (hk : 2 * 200 + p.size + 1002 < k) : ringworkref06_Set.f k p n d = some (setS p n d) := by
  unfold ringworkref06_Set.f setS
  obtain ⟨k, rfl⟩ : ∃ k', k = k' + 1 := ⟨k - 1, by omega⟩
  rw [refValid_f p hs _ (by omega), Option.bind_some]
  by_cases hv : validS p
  · rw [if_pos (decide_eq_true hv), ringworkref06_Set.j0, emptyB]
    by_cases h0 : d.size = 0
    · rw [if_pos (decide_eq_true h0), if_pos h0]
    · rw [if_neg (by simpa using h0), if_neg h0, if_pos hv, refLine_f p hs n k (by omega), Option.bind_some, if_pos hv]
      by_cases hn : 1 ≤ n ∧ n ≤ 200
      · rw [if_pos hn, if_pos hn]
        simp only
        obtain ⟨hok, k2, k3, k4, k5⟩ := cellsP_ok hv
        rw [if_pos trivial, refAt_P hv n k (by omega), Option.bind_some]
        cases hf : foundS (cellsP p) n with
        | true =>
          rw [if_neg (by rw [atS_size hok]; simp [hf]), if_pos rfl, refChanged_f p hok k2 (by omega) ⟨k4, k5⟩ hn d hd k (by omega), Option.bind_some]
          unfold withS
          rw [if_neg h0, hf, if_pos rfl]
        | false => rw [if_pos ((atS_size hok n).2 hf), if_neg (by simp)]
      · rw [if_neg hn, if_neg hn]; rfl
  · rw [if_neg (by simpa using hv), ringworkref06_Set.j0, if_pos rfl, if_neg hv]
    split <;> rfl
theorem refDrop_f (p : ByteArray) (hs : p.size ≤ 100000) (n : Int) (k : Nat) (hk : 2 * 200 + p.size + 1002 < k) : ringworkref06_Drop.f k p n = some (dropS p n) := by
  unfold ringworkref06_Drop.f dropS
  rw [refLine_f p hs n k (by omega), Option.bind_some]
  by_cases hv : validS p
  · rw [if_pos hv, if_pos hv]
    by_cases hn : 1 ≤ n ∧ n ≤ 200
    · rw [if_pos hn, if_pos hn]
      simp only
      obtain ⟨hok, k2, k3, k4, k5⟩ := cellsP_ok hv
      rw [if_pos trivial, refAt_P hv n k (by omega), Option.bind_some]
      cases hf : foundS (cellsP p) n with
      | true =>
        rw [if_neg (by rw [atS_size hok]; simp [hf]), if_pos rfl, refChanged_f p hok k2 (by omega) ⟨k4, k5⟩ hn ⟨#[]⟩ (by decide) k (by omega), Option.bind_some]
        unfold withS
        rw [if_pos (show (⟨#[]⟩ : ByteArray).size = 0 from rfl), hf, if_pos rfl]
      | false => rw [if_pos ((atS_size hok n).2 hf), if_neg (by simp)]
    · rw [if_neg hn, if_neg hn]; rfl
  · rw [if_neg hv, if_neg hv]; rfl
theorem refHolds_f {l : List S45} (h : CellsOk l) (hl : l.length ≤ 200) (hb : bytesL l ≤ 5000) (n : Int) (hn : 32 ≤ n ∧ n ≤ 4096) (d : ByteArray) (hd : d.size ≤ 100000) (h0 : d.size ≠ 0) (k : Nat) (hk : 1000 ≤ k) :
    ringworkref06_Holds.f k n l (d.size : Int) = some (decide (leastL l ≤ 200 ∧ needsL (insS l (leastL l) d) ≤ n)) := by
  unfold ringworkref06_Holds.f
  have hle := leastL_spec l h
  rw [refLeast_f l h (by omega) k (by omega), Option.bind_some, if_pos (by omega)]
  have h1 := lastL_ins h (leastL l) (by omega) d (least_free h)
  have h2 := insS_bytes l (leastL l) d
  have h3 := lastL_nonneg h
  by_cases h4 : leastL l ≤ 200
  · rw [if_pos h4, refLast_f l (by omega), Option.bind_some, refBytes_f l (by omega) (by omega) k (by omega), Option.bind_some]
    have hm : mx (leastL l) (lastL l) = lastL (insS l (leastL l) d) := by rw [h1]; unfold mx; split <;> split <;> omega
    rw [hm]
    have h5 : 0 ≤ lastL (insS l (leastL l) d) ∧ lastL (insS l (leastL l) d) ≤ 200 := by rw [h1]; split <;> omega
    have h6 : needsL (insS l (leastL l) d) = 2 + 4 * lastL (insS l (leastL l) d) + (bytesL l + d.size : Nat) := by unfold needsL; rw [h2]
    rw [h6]
    generalize lastL (insS l (leastL l) d) = M at *
    rw [w64 (n - 2) (by omega) (by omega), w64 (4 * M) (by omega) (by omega), w64 (n - 2 - 4 * M) (by omega) (by omega), w64 (n - 2 - 4 * M - (bytesL l : Int)) (by omega) (by omega), w64 (n - 2 - 4 * M - (bytesL l : Int) - (d.size : Int)) (by omega) (by omega)]
    congr 1
    rw [decide_eq_decide]
    constructor
    · intro h; exact ⟨h4, by omega⟩
    · intro h; omega
  · rw [if_neg h4]
    congr 1
    exact (decide_eq_false (fun h => h4 h.1)).symm
theorem refPut_f (p : ByteArray) (hs : p.size ≤ 100000) (d : ByteArray) (hd : d.size ≤ 100000) (k : Nat) (hk : 2 * 200 + p.size + 1002 < k) : ringworkref06_Put.f k p d = some (putS p d) := by
  obtain ⟨k, rfl⟩ : ∃ k', k = k' + 1 := ⟨k - 1, by omega⟩
  unfold ringworkref06_Put.f putS
  rw [refCells_f p hs _ (by omega), Option.bind_some]
  by_cases hv : validS p
  · rw [if_pos hv]
    simp only
    rw [if_pos trivial, ringworkref06_Put.j0, emptyB]
    by_cases h0 : d.size = 0
    · rw [if_pos (decide_eq_true h0), if_neg (by simp [h0])]
    · rw [if_neg (by simpa using h0), if_pos ⟨hv, h0⟩]
      obtain ⟨hok, k2, k3, k4, k5⟩ := cellsP_ok hv
      have hl := leastL_spec _ hok
      show ((ringworkref06_Holds.f k (p.size : Int) (cellsP p) (d.size : Int)).bind _) = _
      rw [refHolds_f hok k2 (by omega) (p.size : Int) ⟨by omega, by omega⟩ d hd h0 k (by omega), Option.bind_some]
      by_cases h4 : leastL (cellsP p) > 200
      · rw [if_neg (by simp; omega), if_pos h4]
      · rw [if_neg h4]
        by_cases hf : needsL (insS (cellsP p) (leastL (cellsP p)) d) > (p.size : Int)
        · rw [if_neg (by simp; omega), if_pos hf]
        · have hC : ringworkref06_changed.f k p (cellsP p) (leastL (cellsP p)) d = some (strOfNums (builtL p.size (insS (cellsP p) (leastL (cellsP p)) d)), 0) := by
            rw [refChanged_f p hok k2 (by omega) ⟨k4, k5⟩ ⟨by omega, by omega⟩ d hd k (by omega)]
            unfold withS
            rw [if_neg h0, if_neg (by simp [least_free hok])]
            unfold filledS
            rw [if_neg hf, Int.toNat_natCast]
          rw [if_pos (decide_eq_true ⟨by omega, by omega⟩), if_neg hf]
          show ((ringworkref06_Least.f k (cellsP p)).bind _) = _
          rw [refLeast_f _ hok (by omega) k (by omega), Option.bind_some]
          show ((ringworkref06_changed.f k p (cellsP p) (leastL (cellsP p)) d).bind _) = _
          rw [hC, Option.bind_some]
          show ((ringworkref06_Least.f k (cellsP p)).bind _) = _
          rw [refLeast_f _ hok (by omega) k (by omega), Option.bind_some]
  · rw [if_neg hv]
    simp only
    rw [if_neg (by decide), ringworkref06_Put.j0, if_pos rfl, if_neg (by simp [hv])]
theorem refResize_f (p : ByteArray) (hs : p.size ≤ 100000) (n : Int) (k : Nat) (hk : 2 * 200 + p.size + 1000 < k) : ringworkref06_Resize.f k p n = some (if validS p then fillS n (cellsP p) else (⟨#[]⟩, 1)) := by
  unfold ringworkref06_Resize.f
  rw [refCells_f p hs k (by omega), Option.bind_some]
  by_cases hv : validS p
  · rw [if_pos hv, if_pos hv]
    simp only
    obtain ⟨hok, k2, k3, k4, k5⟩ := cellsP_ok hv
    rw [if_pos trivial]
    show ((ringworkref06_Fill.f k n (cellsP p)).bind _) = _
    rw [refFill_f n _ (by omega) (by omega) k (by omega)]
    rfl
  · rw [if_neg hv, if_neg hv]; rfl
theorem Resize_f (p : ByteArray) (hs : p.size ≤ 100000) (n : Int) : page_Resize.f p n = some (if validS p then fillS n (cellsP p) else (⟨#[]⟩, 1)) := by
  unfold page_Resize.f
  rw [Valid_f p hs, Option.bind_some]
  by_cases hv : validS p
  · rw [if_pos (decide_eq_true hv), if_pos hv, size_f, Option.bind_some]
    obtain ⟨hok, k2, k3, k4, k5⟩ := cellsP_ok hv
    unfold fillS
    rw [if_pos hok]
    by_cases hz : sizeOk n
    · rw [if_pos (decide_eq_true hz), if_pos hz, cells_f hv, Option.bind_some, filled_f hz.1 hz.2.1 hok (by omega), Option.bind_some]
      unfold filledS
      split <;> rfl
    · rw [if_neg (by simpa using hz), if_neg hz]
  · rw [if_neg (by simpa using hv), if_neg hv]
theorem others_l0 (p q : ByteArray) (hp : p.size ≤ 100000) (hq : q.size ≤ 100000) (n : Int) (h : ∀ i : Int, 1 ≤ i → i ≤ 200 → i ≠ n → getS p i = getS q i) : ∀ (k : Nat) (i : Int), 1 ≤ i → i ≤ 201 → (201 - i).toNat < k → ringworklaw06_others.l0 k p q n i = some true := by
  intro k
  induction k with
  | zero => intro i _ _ h; omega
  | succ k ih =>
    intro i h1 h2 hk
    rw [ringworklaw06_others.l0]
    by_cases hi : i ≤ 200
    · rw [if_pos hi]
      unfold page_Get.f
      rw [if_pos hp, Option.bind_some, if_pos hq, Option.bind_some, w64 (i + 1) (by omega) (by omega)]
      have hn := ih (i + 1) (by omega) (by omega) (by omega)
      by_cases he : i = n
      · rw [if_pos he]; exact hn
      · rw [if_neg he, h i h1 hi he, if_pos rfl, if_pos rfl]; exact hn
    · rw [if_neg hi]
theorem others_f (p q : ByteArray) (hp : p.size ≤ 100000) (hq : q.size ≤ 100000) (n : Int) (h : ∀ i : Int, 1 ≤ i → i ≤ 200 → i ≠ n → getS p i = getS q i) (k : Nat) (hk : 200 < k) : ringworklaw06_others.f k p q n = some true :=
  others_l0 p q hp hq n h k 1 (by omega) (by omega) (by omega)

end Go.Proofs.Ytemglmcddaeedaa.PA

namespace Go.Proofs.Ytemglmcddaeedaa.PA
open Go.RowKit Go.Proofs.YtemglmcddaeedaaW.PrintWords Go.Proofs.YtemglmcddaeedaaW.PrintLast Go.Proofs.YtemglmcddaeedaaW.PrintMore
set_option linter.unusedVariables false
set_option linter.unusedSimpArgs false
theorem put_other {p : ByteArray} (hv : validS p) (n : Int) (d : ByteArray) (h : (putAtS p n d).2 = 0) : (putAtS p n d).1.size ≤ 100000 ∧ ∀ i : Int, 1 ≤ i → i ≤ 200 → i ≠ n → getS p i = getS (putAtS p n d).1 i := by
  obtain ⟨hok, k2, k3, k4, k5⟩ := cellsP_ok hv
  unfold putAtS at h ⊢
  by_cases hd : d.size = 0
  · rw [if_pos hd] at h; cases h
  · rw [if_neg hd, if_pos hv] at h ⊢
    by_cases hn : 1 ≤ n ∧ n ≤ 200
    · rw [if_pos hn] at h ⊢
      cases hf : foundS (cellsP p) n with
      | true => rw [hf, if_pos rfl] at h; cases h
      | false =>
        rw [hf, if_neg (by simp)] at h
        rw [if_neg (by simp)]
        obtain ⟨f1, f2, f3, f4⟩ := filled_page hv (insS_ok hok hn (by omega) hf) h
        refine ⟨by omega, fun i h1 h2 h3 => ?_⟩
        rw [getS_at hv ⟨h1, h2⟩, getS_at f1 ⟨h1, h2⟩, f2, atS_ins _ _ _ _ h3]
    · rw [if_neg hn] at h; cases h
theorem set_other {p : ByteArray} (hv : validS p) (n : Int) (d : ByteArray) (h : (setS p n d).2 = 0) : (setS p n d).1.size ≤ 100000 ∧ ∀ i : Int, 1 ≤ i → i ≤ 200 → i ≠ n → getS p i = getS (setS p n d).1 i := by
  obtain ⟨hok, k2, k3, k4, k5⟩ := cellsP_ok hv
  unfold setS at h ⊢
  by_cases hd : d.size = 0
  · rw [if_pos hd] at h; cases h
  · rw [if_neg hd, if_pos hv] at h ⊢
    by_cases hn : 1 ≤ n ∧ n ≤ 200
    · rw [if_pos hn] at h ⊢
      cases hf : foundS (cellsP p) n with
      | true =>
        rw [hf, if_pos rfl] at h
        rw [if_pos rfl]
        obtain ⟨f1, f2, f3, f4⟩ := filled_page hv (repS_ok hok hn (by omega) hf) h
        refine ⟨by omega, fun i h1 h2 h3 => ?_⟩
        rw [getS_at hv ⟨h1, h2⟩, getS_at f1 ⟨h1, h2⟩, f2, atS_rep hok _ _ _ hf h3]
      | false => rw [hf, if_neg (by simp)] at h; cases h
    · rw [if_neg hn] at h; cases h
theorem drop_other {p : ByteArray} (hv : validS p) (n : Int) (h : (dropS p n).2 = 0) : (dropS p n).1.size ≤ 100000 ∧ ∀ i : Int, 1 ≤ i → i ≤ 200 → i ≠ n → getS p i = getS (dropS p n).1 i := by
  obtain ⟨hok, k2, k3, k4, k5⟩ := cellsP_ok hv
  unfold dropS at h ⊢
  rw [if_pos hv] at h ⊢
  by_cases hn : 1 ≤ n ∧ n ≤ 200
  · rw [if_pos hn] at h ⊢
    cases hf : foundS (cellsP p) n with
    | true =>
      rw [hf, if_pos rfl] at h
      rw [if_pos rfl]
      obtain ⟨f1, f2, f3, f4⟩ := filled_page hv (delS_ok hok n) h
      refine ⟨by omega, fun i h1 h2 h3 => ?_⟩
      rw [getS_at hv ⟨h1, h2⟩, getS_at f1 ⟨h1, h2⟩, f2, atS_del hok _ _ hf h3]
    | false => rw [hf, if_neg (by simp)] at h; cases h
  · rw [if_neg hn] at h; cases h
theorem PageChanges_pure (n : Int) (l : List S45) (hl : l.length ≤ 9223372036854775807) (hb : l.length ≤ 60 → bytesL l ≤ 9000000000000000) (line other : Int) (d : ByteArray) : ∃ k, ringworklaw06_PageChanges.f k n l line other d = some true := by
  refine ⟨2 * l.length + 20000, ?_⟩
  unfold ringworklaw06_PageChanges.f
  rw [Made_f n l hl hb _ (by omega), Option.bind_some]
  have haw : ∀ (x1 x2 x3 x4), ringworklaw06_PageChanges.j0 (2 * l.length + 20000) x1 x2 x3 x4 true = some true := fun x1 x2 x3 x4 => by
    rw [show 2 * l.length + 20000 = (2 * l.length + 19999) + 1 by omega, ringworklaw06_PageChanges.j0, if_pos rfl, awake_f _ (by omega)]; rfl
  by_cases hc : l.length ≤ 60 ∧ bytesL l ≤ 6000
  · rw [if_pos hc]
    by_cases hf : (fillS n l).2 = 0
    · obtain ⟨g1, g2, g3, g4⟩ := fill_good n l hf
      obtain ⟨v1, v2, v3⟩ := built_cells n l g1 g2 g3
      obtain ⟨s1, s2, s3⟩ := g2
      rw [if_pos (by simpa using hf)]
      simp only
      rw [g4]
      generalize hp : strOfNums (builtL n.toNat l) = p at *
      have hs : p.size ≤ 100000 := by omega
      by_cases hd : (d.size : Int) > 5000
      · rw [decide_eq_true hd, haw]
      · have hds : d.size ≤ 100000 := by omega
        generalize hK : 2 * l.length + 19990 = K
        have hj5 : ringworklaw06_PageChanges.j5 (K + 5) other p false = some true := by
          rw [ringworklaw06_PageChanges.j5, if_neg (by simp), Resize_f p hs, Option.bind_some, refResize_f p hs _ _ (by omega), Option.bind_some, if_pos rfl, if_pos rfl, awake_f _ (by omega)]
          rfl
        have hj4 : ringworklaw06_PageChanges.j4 (K + 6) line other p false = some true := by
          rw [ringworklaw06_PageChanges.j4, if_neg (by simp), Drop_f p hs, Option.bind_some, refDrop_f p hs _ _ (by omega), Option.bind_some, if_pos rfl, if_pos rfl]
          by_cases h0 : (dropS p line).2 = 0
          · obtain ⟨h1, h2⟩ := drop_other v1 line h0
            rw [if_pos h0, others_f p _ hs h1 line h2 _ (by omega), Option.bind_some]
            exact hj5
          · rw [if_neg h0]; exact hj5
        have hj3 : ringworklaw06_PageChanges.j3 (K + 7) line other d p false = some true := by
          rw [ringworklaw06_PageChanges.j3, if_neg (by simp), Set_f p hs _ _ hds, Option.bind_some, refSet_f p hs _ _ hds _ (by omega), Option.bind_some, if_pos rfl, if_pos rfl]
          by_cases h0 : (setS p line d).2 = 0
          · obtain ⟨h1, h2⟩ := set_other v1 line d h0
            rw [if_pos h0, others_f p _ hs h1 line h2 _ (by omega), Option.bind_some]
            exact hj4
          · rw [if_neg h0]; exact hj4
        have hj2 : ringworklaw06_PageChanges.j2 (K + 8) line other d p false = some true := by
          rw [ringworklaw06_PageChanges.j2, if_neg (by simp), PutAt_f p hs _ _ hds, Option.bind_some, refPutAt_f p hs _ _ hds _ (by omega), Option.bind_some, if_pos rfl, if_pos rfl]
          by_cases h0 : (putAtS p line d).2 = 0
          · obtain ⟨h1, h2⟩ := put_other v1 line d h0
            rw [if_pos h0, others_f p _ hs h1 line h2 _ (by omega), Option.bind_some]
            exact hj3
          · rw [if_neg h0]; exact hj3
        have hj1 : ringworklaw06_PageChanges.j1 (K + 9) line other d p false = some true := by
          rw [ringworklaw06_PageChanges.j1, if_neg (by simp), Put_f p hs d hds _ (by omega), Option.bind_some, refPut_f p hs d hds _ (by omega), Option.bind_some, if_pos rfl, if_pos rfl]
          simp only [bne_self_eq_false]
          exact hj2
        rw [decide_eq_false hd, show 2 * l.length + 20000 = (K + 9) + 1 by omega, ringworklaw06_PageChanges.j0, if_neg (by simp), Get_f p hs, Option.bind_some, refGet_f p hs _ _ (by omega), Option.bind_some, if_pos rfl]
        simp only [bne_self_eq_false]
        exact hj1
    · rw [if_neg (by simpa using hf), haw]
  · rw [if_neg hc, if_neg (by simp), haw]
theorem PageChanges_law (n : Int) (hn : (Lit.int .i64 n).wf = true) (l : List S45) (hm : l.length ≤ maxLen) (hb : ∀ c ∈ l, c.f1.size ≤ reachBytes) (a : Int) (ha : (Lit.int .i64 a).wf = true) (b : Int) (hb2 : (Lit.int .i64 b).wf = true) (d : ByteArray) (hd : d.size ≤ 140737488351232) :
    ∃ k, ringworklaw06_PageChanges.f k n l a b d = some true :=
  PageChanges_pure n l (by unfold maxLen at hm; omega) (bound60 l hb) a b d

end Go.Proofs.Ytemglmcddaeedaa.PA
