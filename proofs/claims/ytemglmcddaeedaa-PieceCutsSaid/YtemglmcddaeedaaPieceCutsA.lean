/- Part of the proof: For every key, number and data the law PieceCuts returns true and never panics: Cut is that of the document; the statement's own conditions and no others. -/
import Derived.ArgAppend
import Derived.Below
import Derived.BigQuiet
import Derived.ChangeOld
import Derived.Deep.AppendLies
import Derived.Deep.CutBlock
import Derived.Deep.DeepCutAuto
import Derived.Deep.Draws
import Derived.Deep.LoopGhost
import Derived.Deep.OwnRows
import Derived.Deep.QuietTactic
import Derived.Deep.RegionHeld3
import Derived.Deep.RegionLaw
import Derived.Deep.SlicePairs
import Derived.Defers
import Derived.DefersIn
import Derived.KernelRfl
import Derived.Laws.BitsLemmas
import Derived.Laws.BytesArg
import Derived.Laws.CopyOwn
import Derived.Laws.IdiomCopy
import Derived.Laws.MakeOwn
import Derived.Laws.OwnMore
import Derived.Laws.Rows
import Derived.Laws.Slices
import Derived.Lib.AppendStr
import Derived.Lib.AppendZerosOnto
import Derived.Lib.BufferWrite
import Derived.Lib.ConvBytes
import Derived.Lib.Hide
import Derived.Lib.Overlaps
import Derived.LoopIn
import Derived.LoopNIn
import Derived.Maps.AppendAt
import Derived.OpenShut
import Derived.OrdersHeld
import Derived.OwnWalk
import Derived.OwnWalkIn
import Derived.ProofKit
import Derived.RangeFuncBound
import Derived.RangeFuncCalls
import Derived.RangeFuncLeaves
import Derived.RangeFuncNested
import Derived.RangeFuncRecord
import Derived.Recover
import Derived.RecoverIn
import Derived.RowKit
import Derived.RowKit3
import Derived.Shelf.Abstract
import Derived.Shelf.RegionOpen
import Derived.ShutString
import Derived.SizedLaws
import Derived.StillTailTactics
import Derived.Tactics
import Derived.TacticsInMore
import Derived.Test.YtemglmcddaeedaaProg
import Derived.Test.YtemglmcddaeedaaRows
import Derived.Test.YtemglmcddaeedaaWApart
import Derived.Test.YtemglmcddaeedaaWArr
import Derived.Test.YtemglmcddaeedaaWAt
import Derived.Test.YtemglmcddaeedaaWEqStruct
import Derived.Test.YtemglmcddaeedaaWFoot
import Derived.Test.YtemglmcddaeedaaWFootNe
import Derived.Test.YtemglmcddaeedaaWFour
import Derived.Test.YtemglmcddaeedaaWGuard
import Derived.Test.YtemglmcddaeedaaWInv
import Derived.Test.YtemglmcddaeedaaWInvWords
import Derived.Test.YtemglmcddaeedaaWKept
import Derived.Test.YtemglmcddaeedaaWLast
import Derived.Test.YtemglmcddaeedaaWMore
import Derived.Test.YtemglmcddaeedaaWN
import Derived.Test.YtemglmcddaeedaaWNEv
import Derived.Test.YtemglmcddaeedaaWQPut
import Derived.Test.YtemglmcddaeedaaWRepsOne
import Derived.Test.YtemglmcddaeedaaWShare
import Derived.Test.YtemglmcddaeedaaWTab
import Derived.Test.YtemglmcddaeedaaWWords
import Derived.Test.YtemglmcddaeedaaWZeros
import Derived.WalkKit
import Derived.WalkLawsBesides
import Derived.WalkSpells
import Derived.WideLaws
namespace Go.Proofs.Ytemglmcddaeedaa.PA
open Go.RowKit Go.Proofs.YtemglmcddaeedaaW.PrintWords Go.Proofs.YtemglmcddaeedaaW.PrintLast Go.Proofs.YtemglmcddaeedaaW.PrintMore
attribute [local go_sem] max2_int min2_int max_two min_two max_three min_three max_four min_four   -- for this text's walks alone
set_option linter.unusedVariables false
set_option linter.unusedSimpArgs false



def errW : Option Int → Value
  | none => .nilIface
  | some c => .iface 0 (.int .i64 c)
theorem errW_none : errW none = .nilIface := rfl
theorem errW_some (c : Int) : errW (some c) = .iface 0 (.int .i64 c) := rfl

theorem info3 : (Try.prog.info? 3).map (fun i => (i.zero, i.size, i.bytes)) = some (some (.int .i64 0), 1, 8) := by kernel_rfl
theorem info5 : (Try.prog.info? 5).map (fun i => (i.zero, i.size, i.bytes)) = some (some (.int .u8 0), 1, 1) := by kernel_rfl
theorem info9 : (Try.prog.info? 9).map (fun i => (i.zero, i.size, i.bytes)) = some (some (.string ⟨#[]⟩), 1, 16) := by kernel_rfl
theorem info45 : (Try.prog.info? 45).map (fun i => (i.zero, i.size, i.bytes)) = some (some (.agg #[(.int .i64 0), (.string ⟨#[]⟩)]), 2, 24) := by kernel_rfl
-- the values' own types
/-! #### struct type 45 -/
structure S45 where
  f0 : Int
  f1 : ByteArray
def z45 : S45 := ⟨(0 : Int), (⟨#[]⟩ : ByteArray)⟩
def k45 : Kd S45 := Kd.iso (Kd.pair (Kd.int .i64) Kd.string) (fun x : S45 => (x.f0, x.f1))
theorem k45_open {w : World} {x : S45} {cs : List Value} (h : k45.K w x cs) : cs = [.int .i64 x.f0, .string x.f1] := by
  obtain ⟨_, _, rfl, rfl, rfl⟩ := h
  exact rfl
theorem k45_openM {w : World} {base : Nat} {ok : Nat → Prop} {x : S45} {cs : List Value} (h : k45.M w base ok x cs) : cs = [.int .i64 x.f0, .string x.f1] := by
  obtain ⟨_, _, rfl, rfl, rfl⟩ := h
  exact rfl
theorem k45_mk (w : World) (x : S45)  : k45.K w x [.int .i64 x.f0, .string x.f1] := ⟨[.int .i64 x.f0], [.string x.f1], rfl, rfl, rfl⟩
theorem k45_mkM (w : World) (base : Nat) (ok : Nat → Prop) (x : S45)  : k45.M w base ok x [.int .i64 x.f0, .string x.f1] := ⟨[.int .i64 x.f0], [.string x.f1], rfl, rfl, rfl⟩
def rd_T45 (xs : List S45) (i : Int) : S45 := xs.getD i.toNat z45
theorem at_T45 {w : World} {A : Option Addr} {n : Nat} {xs : List S45} (h : Kd.C k45 w A n xs) (i : Int) (h0 : 0 ≤ i) (h1 : i < n) : ∃ ad , A = some ad ∧ w.cell? (ad.add (i.toNat * 2)) = some (.int .i64 (rd_T45 xs i).f0) ∧ w.cell? ⟨(ad.add (i.toNat * 2)).block, (ad.add (i.toNat * 2)).off + 1, none⟩ = some (.string (rd_T45 xs i).f1) := by
  obtain ⟨ad, c, e, _, hK, hc0⟩ := Kd.C_get h z45 i h0 h1
  have hc : ∀ j u, c[j]? = some u → w.cell? (ad.add (i.toNat * 2 + j)) = some u := hc0
  obtain rfl := k45_open hK
  exact ⟨ad, e, hc 0 _ rfl, by rw [← add_field _ _ 1 (by omega)]; exact hc 1 _ rfl⟩

def rd_L4 (xs : List (List S45)) (i : Int) : (List S45) := xs.getD i.toNat ([] : List S45)
theorem at_L4 {w : World} {A : Option Addr} {n : Nat} {xs : List (List S45)} (h : Kd.C (Kd.slice 45 k45) w A n xs) (i : Int) (h0 : 0 ≤ i) (h1 : i < n) : ∃ ad A0 c0, A = some ad ∧ w.cell? (ad.add i.toNat) = some (.slice A0 (rd_L4 xs i).length c0) ∧ (rd_L4 xs i).length ≤ c0 ∧ k45.C w A0 (rd_L4 xs i).length (rd_L4 xs i) := by
  obtain ⟨ad, c, e, _, hK, hc0⟩ := Kd.C_get h ([] : List S45) i h0 h1
  have hc : ∀ j u, c[j]? = some u → w.cell? (ad.add (i.toNat * 1 + j)) = some u := hc0
  obtain ⟨A0, c0, rfl, l0, g0⟩ := hK
  exact ⟨ad, A0, c0, e, by have hq := hc 0 _ rfl; rwa [Nat.mul_one, Nat.add_zero] at hq, l0, g0⟩

def rd_L5 (xs : List (List Int)) (i : Int) : (List Int) := xs.getD i.toNat ([] : List Int)
theorem at_L5 {w : World} {A : Option Addr} {n : Nat} {xs : List (List Int)} (h : Kd.C (Kd.slice 3 (Kd.int .i64)) w A n xs) (i : Int) (h0 : 0 ≤ i) (h1 : i < n) : ∃ ad A0 c0, A = some ad ∧ w.cell? (ad.add i.toNat) = some (.slice A0 (rd_L5 xs i).length c0) ∧ (rd_L5 xs i).length ≤ c0 ∧ (Kd.int .i64).C w A0 (rd_L5 xs i).length (rd_L5 xs i) := by
  obtain ⟨ad, c, e, _, hK, hc0⟩ := Kd.C_get h ([] : List Int) i h0 h1
  have hc : ∀ j u, c[j]? = some u → w.cell? (ad.add (i.toNat * 1 + j)) = some u := hc0
  obtain ⟨A0, c0, rfl, l0, g0⟩ := hK
  exact ⟨ad, A0, c0, e, by have hq := hc 0 _ rfl; rwa [Nat.mul_one, Nat.add_zero] at hq, l0, g0⟩

end Go.Proofs.Ytemglmcddaeedaa.PA

namespace Go.Proofs.Ytemglmcddaeedaa.PA
open Go.RowKit Go.Proofs.YtemglmcddaeedaaW.PrintWords Go.Proofs.YtemglmcddaeedaaW.PrintLast Go.Proofs.YtemglmcddaeedaaW.PrintMore
attribute [local go_sem] max2_int min2_int max_two min_two max_three min_three max_four min_four   -- for this text's walks alone
set_option linter.unusedVariables false
set_option linter.unusedSimpArgs false

/-! ### strs: function 0 -/
theorem loop_spec (p : ByteArray) : ∀ (k i : Nat) (acc : List UInt8), p.size - i = k → i ≤ p.size → ByteArray.toList.loop p i acc = acc.reverse ++ p.data.toList.drop i := by
  intro k
  induction k with
  | zero =>
    intro i acc hk hi
    rw [ByteArray.toList.loop, if_neg (by omega), List.drop_of_length_le (by simp only [Array.length_toList]; show p.size ≤ i; omega), List.append_nil]
  | succ k ih =>
    intro i acc hk hi
    rw [ByteArray.toList.loop, if_pos (by omega), ih (i + 1) _ (by omega) (by omega)]
    have hl : i < p.data.toList.length := by simp only [Array.length_toList]; show i < p.size; omega
    rw [List.drop_eq_getElem_cons hl]
    have : p.get! i = p.data.toList[i] := by
      simp only [ByteArray.get!, Array.getElem_toList]
      exact getElem!_pos p.data i _
    rw [this]
    simp
theorem toList_data (p : ByteArray) : p.toList = p.data.toList := by
  unfold ByteArray.toList
  rw [loop_spec p p.size 0 [] (by omega) (by omega)]
  rfl
theorem toList_nil (p : ByteArray) : p.toList = ([] : List UInt8) ↔ p.size = 0 := by
  rw [toList_data]
  constructor
  · intro h
    have : p.data.toList.length = 0 := by rw [h]; rfl
    simpa using this
  · intro h
    apply List.length_eq_zero_iff.1
    simpa using h
theorem toList_inj (p q : ByteArray) : p.toList = q.toList ↔ p = q := by
  rw [toList_data, toList_data]
  constructor
  · intro h
    cases p; cases q
    congr 1
    exact Array.toList_inj.1 h
  · rintro rfl; rfl

end Go.Proofs.Ytemglmcddaeedaa.PA

namespace Go.Proofs.Ytemglmcddaeedaa.PA
open Go.RowKit Go.Proofs.YtemglmcddaeedaaW.PrintWords Go.Proofs.YtemglmcddaeedaaW.PrintLast Go.Proofs.YtemglmcddaeedaaW.PrintMore
attribute [local go_sem] max2_int min2_int max_two min_two max_three min_three max_four min_four   -- for this text's walks alone
set_option linter.unusedVariables false
set_option linter.unusedSimpArgs false

/-! ### sp_page: function 0 -/
theorem ret_int {k : IntKind} {a b : Int} (h : a = b) : Ending.returned (.int k a) = .returned (.int k b) := by rw [h]
/-- The lengths of all data of cells. -/
def bytesL (l : List S45) : Nat := (l.map fun c => c.f1.size).sum
/-- The line of the last cell. -/
def lastL (l : List S45) : Int := match l.getLast? with | some c => c.f0 | none => 0
def needsL (l : List S45) : Int := 2 + 4 * lastL l + (bytesL l : Int)
theorem bytesL_nil : bytesL [] = 0 := rfl
theorem bytesL_append (a b : List S45) : bytesL (a ++ b) = bytesL a + bytesL b := by simp [bytesL]
theorem bytesL_cons (c : S45) (b : List S45) : bytesL (c :: b) = c.f1.size + bytesL b := by simp [bytesL]
theorem bytesL_take_succ (l : List S45) (i : Nat) (h : i < l.length) : bytesL (l.take (i + 1)) = bytesL (l.take i) + l[i].f1.size := by
  rw [List.take_succ_eq_append_getElem h, bytesL_append]; simp [bytesL]
theorem bytesL_take_le (l : List S45) (i : Nat) : bytesL (l.take i) ≤ bytesL l := by
  have := bytesL_append (l.take i) (l.drop i); rw [List.take_append_drop] at this; omega
theorem rd_get (l : List S45) (i : Nat) (h : i < l.length) : rd_T45 l (i : Int) = l[i] := by
  unfold rd_T45; simp [List.getD_eq_getElem?_getD, h]
theorem lastL_rd (l : List S45) (h : 0 < l.length) : lastL l = (rd_T45 l ((l.length : Int) - 1)).f0 := by
  have e : ((l.length : Int) - 1) = ((l.length - 1 : Nat) : Int) := by omega
  rw [e, rd_get l _ (by omega)]
  unfold lastL
  rw [List.getLast?_eq_getElem?, List.getElem?_eq_getElem (show l.length - 1 < l.length by omega)]

end Go.Proofs.Ytemglmcddaeedaa.PA

namespace Go.Proofs.Ytemglmcddaeedaa.PA
open Go.RowKit Go.Proofs.YtemglmcddaeedaaW.PrintWords Go.Proofs.YtemglmcddaeedaaW.PrintLast Go.Proofs.YtemglmcddaeedaaW.PrintMore
attribute [local go_sem] max2_int min2_int max_two min_two max_three min_three max_four min_four   -- for this text's walks alone
set_option linter.unusedVariables false
set_option linter.unusedSimpArgs false

/-! ### sp_built: function 0 -/
/-! #### the page of cells, as a list of bytes -/
def twoL (n : Int) : List Int := [n / 256, n % 256]
def ent4 (o n : Int) : List Int := [o / 256, o % 256, n / 256, n % 256]
def zer (n : Nat) : List Int := List.replicate n 0
/-- One cell more: its entry behind the entries so far, its data ahead of the data so far. -/
def stepB (N : Nat) (s : List Int × List Int) (c : S45) : List Int × List Int :=
  (s.1 ++ (zer (4 * (c.f0.toNat - 1) - s.1.length) ++ ent4 ((N : Int) - (s.2.length + c.f1.size : Nat)) c.f1.size), bytesOf c.f1 ++ s.2)
def foldB (N : Nat) (l : List S45) : List Int × List Int := l.foldl (stepB N) ([], [])
/-- The bytes with the head n and the cells l. -/
def bld (N : Nat) (n : Int) (l : List S45) : List Int :=
  twoL n ++ ((foldB N l).1 ++ (zer (N - 2 - (foldB N l).1.length - (foldB N l).2.length) ++ (foldB N l).2))
def builtL (N : Nat) (l : List S45) : List Int := bld N (lastL l) l
theorem foldB_snoc (N : Nat) (l : List S45) (c : S45) : foldB N (l ++ [c]) = stepB N (foldB N l) c := by simp [foldB]
/-- Cells in order: lines from 1 to 200, ascending; data not empty. -/
def CellsOk : List S45 → Prop
  | [] => True
  | [c] => 1 ≤ c.f0 ∧ c.f0 ≤ 200 ∧ 0 < c.f1.size
  | c :: d :: r => (1 ≤ c.f0 ∧ c.f0 ≤ 200 ∧ 0 < c.f1.size) ∧ c.f0 < d.f0 ∧ CellsOk (d :: r)
instance decCellsOk : (l : List S45) → Decidable (CellsOk l)
  | [] => isTrue trivial
  | [c] => by unfold CellsOk; infer_instance
  | c :: d :: r => by unfold CellsOk; have := decCellsOk (d :: r); infer_instance
theorem CellsOk.head {c : S45} {r : List S45} (h : CellsOk (c :: r)) : 1 ≤ c.f0 ∧ c.f0 ≤ 200 ∧ 0 < c.f1.size := by
  cases r with
  | nil => exact h
  | cons d r => exact h.1
theorem CellsOk.tail {c : S45} {r : List S45} (h : CellsOk (c :: r)) : CellsOk r := by
  cases r with
  | nil => trivial
  | cons d r => exact h.2.2
theorem CellsOk.lt {c : S45} {r : List S45} (h : CellsOk (c :: r)) : ∀ d ∈ r, c.f0 < d.f0 := by
  induction r generalizing c with
  | nil => simp
  | cons e r ih =>
    intro d hd
    rcases List.mem_cons.1 hd with rfl | hd
    · exact h.2.1
    · have := ih h.2.2 d hd; have := h.2.1; omega
theorem CellsOk.mk {c : S45} {r : List S45} (h : 1 ≤ c.f0 ∧ c.f0 ≤ 200 ∧ 0 < c.f1.size) (hl : ∀ d ∈ r, c.f0 < d.f0) (hr : CellsOk r) : CellsOk (c :: r) := by
  cases r with
  | nil => exact h
  | cons d r => exact ⟨h, hl d (by simp), hr⟩
theorem CellsOk.each {l : List S45} (h : CellsOk l) : ∀ c ∈ l, 1 ≤ c.f0 ∧ c.f0 ≤ 200 ∧ 0 < c.f1.size := by
  induction l with
  | nil => simp
  | cons e r ih =>
    intro c hc
    rcases List.mem_cons.1 hc with rfl | hc
    · exact h.head
    · exact ih h.tail c hc
theorem CellsOk.append {a b : List S45} (h : CellsOk (a ++ b)) : CellsOk a ∧ CellsOk b ∧ ∀ x ∈ a, ∀ y ∈ b, x.f0 < y.f0 := by
  induction a with
  | nil => exact ⟨trivial, h, by simp⟩
  | cons c a ih =>
    obtain ⟨h1, h2, h3⟩ := ih h.tail
    refine ⟨CellsOk.mk h.head (fun d hd => h.lt d (by simp [hd])) h1, h2, fun x hx y hy => ?_⟩
    rcases List.mem_cons.1 hx with rfl | hx
    · exact h.lt y (by simp [hy])
    · exact h3 x hx y hy
theorem lastL_snoc (l : List S45) (c : S45) : lastL (l ++ [c]) = c.f0 := by simp [lastL]
theorem lastL_lt {a : List S45} {c : S45} {b : List S45} (h : CellsOk (a ++ c :: b)) : lastL a < c.f0 := by
  obtain ⟨_, h2, h3⟩ := h.append
  rcases List.eq_nil_or_concat a with rfl | ⟨a', d, rfl⟩
  · have := h2.head; simp [lastL]; omega
  · rw [List.concat_eq_append, lastL_snoc]; exact h3 d (by simp) c (by simp)
theorem lastL_nonneg {a : List S45} (h : CellsOk a) : 0 ≤ lastL a ∧ lastL a ≤ 200 := by
  rcases List.eq_nil_or_concat a with rfl | ⟨a', d, rfl⟩
  · simp [lastL]
  · rw [List.concat_eq_append, lastL_snoc]; have := h.each d (by simp); omega
theorem foldB_len {N : Nat} : ∀ {l : List S45}, CellsOk l → ((foldB N l).1.length : Int) = 4 * lastL l ∧ (foldB N l).2.length = bytesL l := by
  intro l
  induction hn : l.length generalizing l with
  | zero =>
    intro _
    obtain rfl := List.eq_nil_of_length_eq_zero hn
    simp [foldB, lastL, bytesL]
  | succ n ih =>
    intro h
    rcases List.eq_nil_or_concat l with rfl | ⟨a, c, rfl⟩
    · simp at hn
    · rw [List.concat_eq_append] at h hn ⊢
      obtain ⟨ha, hc, _⟩ := h.append
      obtain ⟨i1, i2⟩ := ih (l := a) (by simpa using hn) ha
      have hlt := lastL_lt h
      have h0 := (lastL_nonneg ha).1
      have hc' := hc.head
      rw [foldB_snoc, lastL_snoc, bytesL_append]
      simp only [stepB, List.length_append, zer, List.length_replicate, ent4, List.length_cons, List.length_nil, bytesOf_length, i2]
      refine ⟨?_, by simp [bytesL]; omega⟩
      omega
theorem bld_length {N : Nat} {n : Int} {l : List S45} (h : CellsOk l) (hf : needsL l ≤ N) : (bld N n l).length = N := by
  obtain ⟨h1, h2⟩ := foldB_len (N := N) h
  have h0 := (lastL_nonneg h).1
  unfold needsL at hf
  simp only [bld, twoL, List.length_append, List.length_cons, List.length_nil, zer, List.length_replicate]
  omega
theorem zer_add (a b : Nat) : zer (a + b) = zer a ++ zer b := by simp [zer, List.replicate_append_replicate]
/-- What one round of filling does. -/
theorem bld_step {N : Nat} {n : Int} {l : List S45} {c : S45} (h : CellsOk (l ++ [c])) (hf : needsL (l ++ [c]) ≤ N) :
    ∃ (P : List Int) (r : Nat), P.length = (4 * c.f0 - 2).toNat ∧ P.length + 4 + r + c.f1.size + bytesL l = N ∧
      bld N n l = P ++ (zer 4 ++ (zer r ++ (zer c.f1.size ++ (foldB N l).2))) ∧
      bld N n (l ++ [c]) = P ++ (ent4 ((N : Int) - (bytesL l + c.f1.size : Nat)) c.f1.size ++ (zer r ++ (bytesOf c.f1 ++ (foldB N l).2))) := by
  obtain ⟨ha, hc, _⟩ := h.append
  obtain ⟨h1, h2⟩ := foldB_len (N := N) ha
  have hlt := lastL_lt h
  have h0 := (lastL_nonneg ha).1
  have hc' := hc.head
  unfold needsL at hf
  rw [lastL_snoc, bytesL_append] at hf
  have hb1 : bytesL [c] = c.f1.size := by simp [bytesL]
  rw [hb1] at hf
  refine ⟨twoL n ++ ((foldB N l).1 ++ zer (4 * (c.f0.toNat - 1) - (foldB N l).1.length)), N - (4 * c.f0 - 2).toNat - 4 - c.f1.size - bytesL l, ?_, ?_, ?_, ?_⟩
  · simp only [twoL, List.length_append, List.length_cons, List.length_nil, zer, List.length_replicate]; omega
  · simp only [twoL, List.length_append, List.length_cons, List.length_nil, zer, List.length_replicate]; omega
  · unfold bld
    have e : N - 2 - (foldB N l).1.length - (foldB N l).2.length = (4 * (c.f0.toNat - 1) - (foldB N l).1.length) + (4 + ((N - (4 * c.f0 - 2).toNat - 4 - c.f1.size - bytesL l) + c.f1.size)) := by omega
    rw [e, zer_add, zer_add, zer_add]
    simp only [List.append_assoc]
  · unfold bld
    rw [foldB_snoc]
    simp only [stepB]
    have e : N - 2 - ((foldB N l).1 ++ (zer (4 * (c.f0.toNat - 1) - (foldB N l).1.length) ++ ent4 ((N : Int) - ((foldB N l).2.length + c.f1.size : Nat)) c.f1.size)).length - (bytesOf c.f1 ++ (foldB N l).2).length = N - (4 * c.f0 - 2).toNat - 4 - c.f1.size - bytesL l := by
      simp only [List.length_append, zer, List.length_replicate, ent4, List.length_cons, List.length_nil, bytesOf_length, h2]; omega
    rw [e, h2]
    simp only [List.append_assoc]
theorem splice_at {α : Type} (P Q R X : List α) (h : X.length = Q.length) : splice (P ++ (Q ++ R)) P.length X = P ++ (X ++ R) := by
  unfold splice
  rw [List.take_left]
  congr 2
  rw [← List.append_assoc, List.drop_append_of_le_length (by simp; omega), List.drop_eq_nil_of_le (by simp; omega)]
  simp
theorem set_at {α : Type} (P R : List α) (x y : α) : (P ++ (x :: R)).set P.length y = P ++ (y :: R) := by
  rw [List.set_append_right _ _ (by omega)]; simp
theorem bld_nil (N : Nat) (n : Int) (h : 2 ≤ N) : bld N n [] = twoL n ++ zer (N - 2) := by simp [bld, foldB]
theorem take_split (l : List S45) (i : Nat) (h : i < l.length) : l = l.take i ++ l[i] :: l.drop (i + 1) := by
  conv => lhs; rw [← List.take_append_drop i l, List.drop_eq_getElem_cons h]
theorem take_snoc (l : List S45) (i : Nat) (h : i < l.length) : l.take (i + 1) = l.take i ++ [l[i]] := List.take_succ_eq_append_getElem h
theorem needs_take {l : List S45} (h : CellsOk l) (i : Nat) (hi : i < l.length) : needsL (l.take i ++ [l[i]]) ≤ needsL l ∧ CellsOk (l.take i ++ [l[i]]) := by
  have e := take_split l i hi
  have hb : bytesL l = bytesL (l.take i ++ [l[i]]) + bytesL (l.drop (i + 1)) := by
    rw [← bytesL_append, List.append_assoc]
    exact congrArg bytesL e
  have hl : lastL (l.take i ++ [l[i]]) ≤ lastL l := by
    rw [lastL_snoc]
    rcases List.eq_nil_or_concat (l.drop (i + 1)) with hd | ⟨a, d, hd⟩
    · conv => rhs; rw [e, hd, lastL_snoc]
      exact Int.le_refl _
    · rw [List.concat_eq_append] at hd
      have e2 : l = (l.take i ++ l[i] :: a) ++ [d] := by conv => lhs; rw [e, hd]
                                                         simp
      conv => rhs; rw [e2, lastL_snoc]
      have h2 := h
      rw [e2] at h2
      have := h2.append.2.2 l[i] (by simp) d (by simp)
      omega
  refine ⟨by unfold needsL; omega, ?_⟩
  have h2 := h
  rw [e, show l.take i ++ l[i] :: l.drop (i + 1) = (l.take i ++ [l[i]]) ++ l.drop (i + 1) by simp] at h2
  exact h2.append.1
theorem set2_at (P R : List Int) (x0 x1 y0 y1 : Int) (k : Nat) (hk : k = P.length) : ((P ++ (x0 :: x1 :: R)).set k y0).set (k + 1) y1 = P ++ (y0 :: y1 :: R) := by
  subst hk
  rw [set_at, show P ++ y0 :: x1 :: R = (P ++ [y0]) ++ x1 :: R by simp, show P.length + 1 = (P ++ [y0]).length by simp, set_at]
  simp
theorem splice_at' {α : Type} (P Q R X : List α) (k : Nat) (hk : P.length = k) (h : X.length = Q.length) : splice (P ++ (Q ++ R)) k X = P ++ (X ++ R) := by
  subst hk; exact splice_at P Q R X h

end Go.Proofs.Ytemglmcddaeedaa.PA

namespace Go.Proofs.Ytemglmcddaeedaa.PA
open Go.RowKit Go.Proofs.YtemglmcddaeedaaW.PrintWords Go.Proofs.YtemglmcddaeedaaW.PrintLast Go.Proofs.YtemglmcddaeedaaW.PrintMore
attribute [local go_sem] max2_int min2_int max_two min_two max_three min_three max_four min_four   -- for this text's walks alone
set_option linter.unusedVariables false
set_option linter.unusedSimpArgs false

/-! ### page_two: function 105 -/
def page_two.f (a0 : ByteArray) (a1 : Int) : Option (Int) := if 0 ≤ a1 then (if a1 < (a0.size : Int) then (if 0 ≤ (wrap64 (a1 + 1)) then (if (wrap64 (a1 + 1)) < (a0.size : Int) then (some (Go.bits .or .i64 (wrap64 ((wrap64 (bt a0 a1)) * 256)) (wrap64 (bt a0 (wrap64 (a1 + 1)))))) else (none)) else (none)) else (none)) else (none)
set_option maxHeartbeats 8000000 in
set_option maxRecDepth 100000 in
theorem page_two.calls (a0 : ByteArray) (a1 : Int) (r : Int) (w : World) (h : page_two.f a0 a1 = some r) :
    Calls Try.prog 105 #[.string a0, .int .i64 a1] w fun e w' => e = .returned (.int .i64 r) ∧ Drawn0 w w' := by
  have H : (if 0 ≤ a1 then (if a1 < (a0.size : Int) then (if 0 ≤ (wrap64 (a1 + 1)) then (if (wrap64 (a1 + 1)) < (a0.size : Int) then (some (Go.bits .or .i64 (wrap64 ((wrap64 (bt a0 a1)) * 256)) (wrap64 (bt a0 (wrap64 (a1 + 1)))))) else (none)) else (none)) else (none)) else (none)) = some r := h
  clear h
  by_cases c3 : 0 ≤ a1
  · rw [if_pos c3] at H
    have c3b0 : decide (0 ≤ a1) = true := decide_eq_true c3
    clear c3
    by_cases c4 : a1 < (a0.size : Int)
    · rw [if_pos c4] at H
      have c4b0 : decide (a1 < (a0.size : Int)) = true := decide_eq_true c4
      clear c4
      obtain ⟨ji6, hji6⟩ : ∃ j_ : Int, (wrap64 (a1 + 1)) = j_ := ⟨_, rfl⟩
      replace H : (if 0 ≤ (ji6) then (if (ji6) < (a0.size : Int) then (some (Go.bits .or .i64 (wrap64 ((wrap64 (bt a0 a1)) * 256)) (wrap64 (bt a0 (ji6))))) else (none)) else (none)) = some r := by first | (rw [hji6] at H; exact H) | (simp only [hji6] at H ⊢; exact H)
      have hji6w : (IntKind.i64.wrap (a1 + 1)) = ji6 := (i64_w _).trans hji6
      by_cases c7 : 0 ≤ (ji6)
      · rw [if_pos c7] at H
        have c7b0 : decide (0 ≤ (ji6)) = true := decide_eq_true c7
        clear c7
        by_cases c8 : (ji6) < (a0.size : Int)
        · rw [if_pos c8] at H
          have c8b0 : decide ((ji6) < (a0.size : Int)) = true := decide_eq_true c8
          clear c8
          obtain rfl := Option.some.inj H
          have p5 : 0 ≤ (a1 : Int) := of_decide_eq_true (by first | (with_reducible assumption) | assumption)
          have q5 : a1 < (a0.size : Int) := of_decide_eq_true (by first | (with_reducible assumption) | assumption)
          have hx5 := bt_at a0 a1
          replace p5 := eq_true p5
          replace q5 := eq_true q5
          have p9 : 0 ≤ ((ji6) : Int) := of_decide_eq_true (by first | (with_reducible assumption) | assumption)
          have q9 : (ji6) < (a0.size : Int) := of_decide_eq_true (by first | (with_reducible assumption) | assumption)
          have hx9 := bt_at a0 (ji6)
          replace p9 := eq_true p9
          replace q9 := eq_true q9
          go_enter Try.func105, Try.ntmps105
          go_wp2
          repeat (go_quiet (fail); try go_wp2)
          go_ret
          exact ⟨by first | rfl | (simp; done) | (simp only [← hji6] <;> (first | rfl | simp)) | (simp [*]; done), by repeat (first | exact Drawn0.refl _ | apply Drawn0.step)⟩
        · rw [if_neg c8] at H
          exact absurd H (by simp)
      · rw [if_neg c7] at H
        exact absurd H (by simp)
    · rw [if_neg c4] at H
      exact absurd H (by simp)
  · rw [if_neg c3] at H
    exact absurd H (by simp)

end Go.Proofs.Ytemglmcddaeedaa.PA

namespace Go.Proofs.Ytemglmcddaeedaa.PA
open Go.RowKit Go.Proofs.YtemglmcddaeedaaW.PrintWords Go.Proofs.YtemglmcddaeedaaW.PrintLast Go.Proofs.YtemglmcddaeedaaW.PrintMore
attribute [local go_sem] max2_int min2_int max_two min_two max_three min_three max_four min_four   -- for this text's walks alone
set_option linter.unusedVariables false
set_option linter.unusedSimpArgs false

/-! ### page_count: function 57 -/
def page_count.f (a0 : ByteArray) : Option (Int) := (page_two.f a0 0).bind fun t135 => (some t135)
set_option maxHeartbeats 8000000 in
set_option maxRecDepth 100000 in
theorem page_count.calls (a0 : ByteArray) (r : Int) (w : World) (h : page_count.f a0 = some r) :
    Calls Try.prog 57 #[.string a0] w fun e w' => e = .returned (.int .i64 r) ∧ Drawn0 w w' := by
  have H : ((page_two.f a0 0).bind fun t135 => (some t135)) = some r := h
  clear h
  replace H := Option.bind_eq_some_iff.mp H
  obtain ⟨t135, A20, H⟩ := H
  replace H : (some t135) = some r := H
  have A2 := Aside0.mk A20
  clear A20
  obtain rfl := Option.some.inj H
  go_enter Try.func57, Try.ntmps57
  go_wp2_with (first | ((with_reducible refine gate_callee (f := 105) rfl ?_); refine goesL_ (some 4) rfl rfl Try.func105 (by kernel_rfl) rfl #[.string a0, .int .i64 0] rfl (by (try simp only [List.map_toArray, List.map_cons, List.map_nil]); first | done | rfl | (simp only [List.length_drop, List.length_take]; rfl)) ?_; (with_reducible refine (page_two.calls a0 0 t135 _ A2.out).mono ?_); rintro e w' ⟨rfl, ⟨nd, rfl⟩⟩; refine ⟨_, rfl, ?_⟩))
  go_ret
  exact ⟨by first | rfl | (simp; done) | (simp [*]; done), by repeat (first | exact Drawn0.refl _ | apply Drawn0.step)⟩

end Go.Proofs.Ytemglmcddaeedaa.PA

namespace Go.Proofs.Ytemglmcddaeedaa.PA
open Go.RowKit Go.Proofs.YtemglmcddaeedaaW.PrintWords Go.Proofs.YtemglmcddaeedaaW.PrintLast Go.Proofs.YtemglmcddaeedaaW.PrintMore
attribute [local go_sem] max2_int min2_int max_two min_two max_three min_three max_four min_four   -- for this text's walks alone
set_option linter.unusedVariables false
set_option linter.unusedSimpArgs false

/-! ### sp_two: function 0 -/
/-- The number of two bytes at a place. -/
def twoS (p : ByteArray) (at_ : Int) : Int := 256 * bt p at_ + bt p (at_ + 1)
theorem wraps_i64_15 (n : Int) (h₀ : 0 ≤ n) (h₁ : n < 2 ^ 31) : IntKind.i64.wrap n = n := by rw [IntKind.wrap_i64]; omega
theorem i64_or8 (x y : Int) (hx₀ : 0 ≤ x) (hx : x % 256 = 0) (hx₁ : x < 2147483648) (h₀ : 0 ≤ y) (h₁ : y < 256) : Go.bits .or .i64 x y = x + y :=
  bits_join .i64 31 (by decide) wraps_i64_15 8 x y hx₀ hx hx₁ h₀ h₁ (by omega)
theorem twoS_range (p : ByteArray) (a : Int) : 0 ≤ twoS p a ∧ twoS p a ≤ 65535 := by
  have h1 := bt_range p a
  have h2 := bt_range p (a + 1)
  unfold twoS; omega
theorem page_two_f (p : ByteArray) (a : Int) (h0 : 0 ≤ a) (h1 : a + 1 < p.size) (hs : p.size ≤ 9223372036854775807) : page_two.f p a = some (twoS p a) := by
  have b1 := bt_range p a
  have b2 := bt_range p (a + 1)
  have e1 : wrap64 (a + 1) = a + 1 := by unfold wrap64; omega
  have e2 : wrap64 (bt p a) = bt p a := by unfold wrap64; omega
  have e3 : wrap64 (bt p a * 256) = bt p a * 256 := by unfold wrap64; omega
  have e4 : wrap64 (bt p (a + 1)) = bt p (a + 1) := by unfold wrap64; omega
  unfold page_two.f
  rw [e1, if_pos h0, if_pos (by omega), if_pos (by omega), if_pos h1, e2, e3, e4, i64_or8 _ _ (by omega) (by omega) (by omega) (by omega) (by omega)]
  unfold twoS
  rw [Int.mul_comm]
theorem page_count_f (p : ByteArray) (h1 : 2 ≤ p.size) (hs : p.size ≤ 9223372036854775807) : page_count.f p = some (twoS p 0) := by
  unfold page_count.f
  rw [page_two_f p 0 (by omega) (by omega) hs]; rfl

end Go.Proofs.Ytemglmcddaeedaa.PA

namespace Go.Proofs.Ytemglmcddaeedaa.PA
open Go.RowKit Go.Proofs.YtemglmcddaeedaaW.PrintWords Go.Proofs.YtemglmcddaeedaaW.PrintLast Go.Proofs.YtemglmcddaeedaaW.PrintMore
attribute [local go_sem] max2_int min2_int max_two min_two max_three min_three max_four min_four   -- for this text's walks alone
set_option linter.unusedVariables false
set_option linter.unusedSimpArgs false

/-! ### wrong_spec: function 0 -/
/-- What the first i entries of a page with n entries tell: where the data begin and the last used line; or where it is wrong. -/
def scanE (p : ByteArray) (n : Nat) : Nat → Except Int (Int × Int)
  | 0 => .ok (p.size, 0)
  | i + 1 => match scanE p n i with
    | .error a => .error a
    | .ok (top, last) =>
      if twoS p (2 + 4 * (i : Int)) = 0 ∧ twoS p (4 + 4 * (i : Int)) = 0 then .ok (top, last)
      else if twoS p (4 + 4 * (i : Int)) = 0 ∨ twoS p (2 + 4 * (i : Int)) ≠ top - twoS p (4 + 4 * (i : Int)) ∨ twoS p (2 + 4 * (i : Int)) < 2 + 4 * (n : Int) then .error (2 + 4 * (i : Int))
      else .ok (twoS p (2 + 4 * (i : Int)), (i : Int) + 1)
def entriesS (p : ByteArray) (n : Nat) : Except Int Int :=
  match scanE p n n with
  | .error a => .error a
  | .ok (top, last) => if last < n then .error (2 + 4 * ((n : Int) - 1)) else .ok top
theorem scanE_error (p : ByteArray) (n i j : Nat) (hij : i ≤ j) (a : Int) (h : scanE p n i = .error a) : scanE p n j = .error a := by
  induction hij with
  | refl => exact h
  | step _ ih => simp only [scanE, ih]
theorem scanE_range (p : ByteArray) (n i : Nat) (top last : Int) (h : scanE p n i = .ok (top, last)) : 0 ≤ top ∧ top ≤ max 65535 p.size ∧ 0 ≤ last ∧ last ≤ i := by
  induction i generalizing top last with
  | zero =>
    simp only [scanE] at h
    cases h
    omega
  | succ i ih =>
    simp only [scanE] at h
    have t1 := twoS_range p (2 + 4 * (i : Int))
    cases hs : scanE p n i with
    | error a => rw [hs] at h; cases h
    | ok s =>
      obtain ⟨t, l⟩ := s
      have := ih t l hs
      rw [hs] at h
      simp only at h
      split at h
      · cases h; omega
      · split at h
        · cases h
        · cases h; omega
theorem scanE_last (p : ByteArray) (n i : Nat) (top last : Int) (h : scanE p n i = .ok (top, last)) : 2 + 4 * (n : Int) ≤ top ∨ last = 0 := by
  induction i generalizing top last with
  | zero =>
    simp only [scanE] at h
    cases h
    exact .inr rfl
  | succ i ih =>
    simp only [scanE] at h
    cases hs : scanE p n i with
    | error a => rw [hs] at h; cases h
    | ok s =>
      obtain ⟨t, l⟩ := s
      have := ih t l hs
      rw [hs] at h
      simp only at h
      split at h
      · cases h; exact this
      · split at h
        · cases h
        · rename_i h1 h2
          cases h
          exact .inl (by omega)
theorem scanE_top (p : ByteArray) (n i : Nat) (top last : Int) (h : scanE p n i = .ok (top, last)) : top ≤ p.size := by
  induction i generalizing top last with
  | zero =>
    simp only [scanE] at h
    cases h
    omega
  | succ i ih =>
    simp only [scanE] at h
    cases hs : scanE p n i with
    | error a => rw [hs] at h; cases h
    | ok s =>
      obtain ⟨t, l⟩ := s
      have := ih t l hs
      rw [hs] at h
      simp only at h
      split at h
      · cases h; exact this
      · split at h
        · cases h
        · rename_i h1 h2
          cases h
          have := twoS_range p (4 + 4 * (i : Int))
          omega
theorem entriesS_top (p : ByteArray) (n : Nat) (top : Int) (h : entriesS p n = .ok top) : 0 ≤ top ∧ top ≤ p.size := by
  unfold entriesS at h
  cases hs : scanE p n n with
  | error a => rw [hs] at h; cases h
  | ok s =>
    obtain ⟨t, l⟩ := s
    rw [hs] at h
    simp only at h
    have h1 := scanE_top p n n t l hs
    have h2 := scanE_range p n n t l hs
    split at h
    · cases h
    · cases h; omega

end Go.Proofs.Ytemglmcddaeedaa.PA

namespace Go.Proofs.Ytemglmcddaeedaa.PA
open Go.RowKit Go.Proofs.YtemglmcddaeedaaW.PrintWords Go.Proofs.YtemglmcddaeedaaW.PrintLast Go.Proofs.YtemglmcddaeedaaW.PrintMore
attribute [local go_sem] max2_int min2_int max_two min_two max_three min_three max_four min_four   -- for this text's walks alone
set_option linter.unusedVariables false
set_option linter.unusedSimpArgs false

/-! ### valid_spec: function 0 -/
/-- The first byte from i on, up to top, that is not 0. -/
def firstNZ (p : ByteArray) (top : Int) (i : Nat) : Option Nat :=
  if (i : Int) < top then (if bt p i ≠ 0 then some i else firstNZ p top (i + 1)) else none
termination_by (top - i).toNat
/-- What Wrong answers. -/
def wrongS (p : ByteArray) : Int × Int :=
  if 32 ≤ p.size ∧ p.size ≤ 4096 ∧ p.size % 8 = 0 then
    if twoS p 0 > 200 ∨ 2 + 4 * twoS p 0 > p.size then (0, 12)
    else match entriesS p (twoS p 0).toNat with
      | .error a => (a, 12)
      | .ok top => match firstNZ p top (2 + 4 * (twoS p 0).toNat) with
        | some i => ((i : Int), 12)
        | none => ((p.size : Int), 0)
  else (0, 11)
/-- The used lines of the first i entries, with their data. -/
def cellsS (p : ByteArray) : Nat → List S45
  | 0 => []
  | i + 1 => if 0 < twoS p (4 + 4 * (i : Int)) then cellsS p i ++ [⟨(i : Int) + 1, p.extract (twoS p (2 + 4 * (i : Int))).toNat (twoS p (2 + 4 * (i : Int)) + twoS p (4 + 4 * (i : Int))).toNat⟩] else cellsS p i
theorem cellsS_length (p : ByteArray) (i : Nat) : (cellsS p i).length ≤ i := by
  induction i with
  | zero => simp [cellsS]
  | succ i ih =>
    simp only [cellsS]
    split
    · simp; omega
    · omega
/-- The page's bytes are a page. -/
def validS (p : ByteArray) : Prop := (wrongS p).2 = 0
instance validS.dec (p : ByteArray) : Decidable (validS p) := by unfold validS; infer_instance
theorem entriesS_good (p : ByteArray) (n : Nat) (top : Int) (h : entriesS p n = .ok top) (i : Nat) (hi : i < n) (hy : 0 < twoS p (4 + 4 * (i : Int))) :
    2 + 4 * (n : Int) ≤ twoS p (2 + 4 * (i : Int)) ∧ twoS p (2 + 4 * (i : Int)) + twoS p (4 + 4 * (i : Int)) ≤ p.size := by
  have h1 : ∃ s, scanE p n (i + 1) = .ok s := by
    cases hs : scanE p n (i + 1) with
    | ok s => exact ⟨s, rfl⟩
    | error a =>
      have := scanE_error p n (i + 1) n (by omega) a hs
      unfold entriesS at h
      rw [this] at h
      cases h
  obtain ⟨s, hs⟩ := h1
  simp only [scanE] at hs
  cases hq : scanE p n i with
  | error a => rw [hq] at hs; cases hs
  | ok s' =>
    obtain ⟨t, l⟩ := s'
    have ht := scanE_top p n i t l hq
    rw [hq] at hs
    simp only at hs
    split at hs
    · omega
    · split at hs
      · cases hs
      · omega
theorem validS_spec (p : ByteArray) (h : validS p) : 32 ≤ p.size ∧ p.size ≤ 4096 ∧ p.size % 8 = 0 ∧ twoS p 0 ≤ 200 ∧ 2 + 4 * twoS p 0 ≤ p.size ∧ ∃ top, entriesS p (twoS p 0).toNat = .ok top ∧ firstNZ p top (2 + 4 * (twoS p 0).toNat) = none := by
  unfold validS wrongS at h
  split at h
  · rename_i h1
    split at h
    · cases h
    · rename_i h2
      refine ⟨h1.1, h1.2.1, h1.2.2, by omega, by omega, ?_⟩
      cases he : entriesS p (twoS p 0).toNat with
      | error a => rw [he] at h; cases h
      | ok top =>
        rw [he] at h
        simp only at h
        refine ⟨top, rfl, ?_⟩
        cases hf : firstNZ p top (2 + 4 * (twoS p 0).toNat) with
        | none => rfl
        | some i => rw [hf] at h; cases h
  · cases h

end Go.Proofs.Ytemglmcddaeedaa.PA

namespace Go.Proofs.Ytemglmcddaeedaa.PA
open Go.RowKit Go.Proofs.YtemglmcddaeedaaW.PrintWords Go.Proofs.YtemglmcddaeedaaW.PrintLast Go.Proofs.YtemglmcddaeedaaW.PrintMore
attribute [local go_sem] max2_int min2_int max_two min_two max_three min_three max_four min_four   -- for this text's walks alone
set_option linter.unusedVariables false
set_option linter.unusedSimpArgs false

/-! ### b_lists: function 0 -/
/-! #### the bytes of a page, as a list -/
theorem bytesOf_get (p : ByteArray) (i : Nat) (h : i < p.size) : (bytesOf p)[i]? = some (bt p (i : Int)) := by
  have hl : i < (bytesOf p).length := by rw [bytesOf_length]; exact h
  rw [List.getElem?_eq_getElem hl]
  congr 1
  simp only [bytesOf, List.getElem_map, bt, Int.toNat_natCast, dif_pos h, Array.getElem_toList]
  rfl
theorem bytesOf_getD (p : ByteArray) (i : Nat) : (bytesOf p).getD i 0 = bt p (i : Int) := by
  by_cases h : i < p.size
  · rw [List.getD_eq_getElem?_getD, bytesOf_get p i h]; rfl
  · rw [List.getD_eq_getElem?_getD, List.getElem?_eq_none (by rw [bytesOf_length]; omega)]
    simp [bt, h]
theorem bytesOf_inj {p q : ByteArray} (h : bytesOf p = bytesOf q) : p = q := by
  cases p with | mk a => cases q with | mk b =>
  congr 1
  apply Array.toList_inj.1
  have hm : ∀ (x y : List UInt8), x.map (fun b => (b.toNat : Int)) = y.map (fun b => (b.toNat : Int)) → x = y := by
    intro x
    induction x with
    | nil => intro y hy; cases y with | nil => rfl | cons _ _ => simp at hy
    | cons c x ih =>
      intro y hy
      cases y with
      | nil => simp at hy
      | cons d y =>
        simp only [List.map_cons, List.cons.injEq] at hy
        rw [ih y hy.2, show c = d from UInt8.toNat_inj.1 (by omega)]
  exact hm _ _ h
theorem bytesOf_range (p : ByteArray) : ∀ x ∈ bytesOf p, 0 ≤ x ∧ x ≤ 255 := by
  intro x hx
  simp only [bytesOf, List.mem_map] at hx
  obtain ⟨b, _, rfl⟩ := hx
  have := UInt8.toNat_lt b
  omega
theorem bytesOf_strOfNums (l : List Int) (h : ∀ x ∈ l, 0 ≤ x ∧ x ≤ 255) : bytesOf (strOfNums l) = l := by
  simp only [bytesOf, strOfNums, List.map_map]
  induction l with
  | nil => rfl
  | cons x l ih =>
    rw [List.map_cons, ih (fun y hy => h y (by simp [hy]))]
    congr 1
    have := h x (by simp)
    simp only [Function.comp, UInt8.toNat_ofNat']
    omega
theorem strOfNums_bytesOf (p : ByteArray) : strOfNums (bytesOf p) = p := bytesOf_inj (bytesOf_strOfNums _ (bytesOf_range p))
theorem bytesOf_extract (p : ByteArray) (i j : Nat) (hj : j ≤ p.size) : bytesOf (p.extract i j) = ((bytesOf p).drop i).take (j - i) := by
  simp only [bytesOf, ByteArray.data_extract, Array.toList_extract, List.extract_eq_take_drop, List.map_take, List.map_drop]
theorem extract_size (p : ByteArray) (i j : Nat) (hj : j ≤ p.size) : (p.extract i j).size = j - i := by
  rw [ByteArray.size_extract]; omega
theorem bytesOf_append (a b : ByteArray) : bytesOf (a ++ b) = bytesOf a ++ bytesOf b := by
  simp only [bytesOf, ByteArray.data_append, Array.toList_append, List.map_append]

end Go.Proofs.Ytemglmcddaeedaa.PA

namespace Go.Proofs.Ytemglmcddaeedaa.PA
open Go.RowKit Go.Proofs.YtemglmcddaeedaaW.PrintWords Go.Proofs.YtemglmcddaeedaaW.PrintLast Go.Proofs.YtemglmcddaeedaaW.PrintMore
attribute [local go_sem] max2_int min2_int max_two min_two max_three min_three max_four min_four   -- for this text's walks alone
set_option linter.unusedVariables false
set_option linter.unusedSimpArgs false

/-! ### b_one: function 0 -/
/-! #### the page of cells is valid and has these cells -/
theorem getD_left (a b : List Int) (j : Nat) (h : j < a.length) : (a ++ b).getD j 0 = a.getD j 0 := by
  simp [List.getD_eq_getElem?_getD, List.getElem?_append_left h]
theorem getD_right (a b : List Int) (j : Nat) (h : a.length ≤ j) : (a ++ b).getD j 0 = b.getD (j - a.length) 0 := by
  simp [List.getD_eq_getElem?_getD, List.getElem?_append_right h]
theorem ext_getD {a b : List Int} (hl : a.length = b.length) (h : ∀ j, j < a.length → a.getD j 0 = b.getD j 0) : a = b := by
  apply List.ext_getElem hl
  intro j h1 h2
  have := h j h1
  rw [List.getD_eq_getElem?_getD, List.getD_eq_getElem?_getD, List.getElem?_eq_getElem h1, List.getElem?_eq_getElem h2] at this
  exact this
theorem getD_zer (n j : Nat) : (zer n).getD j 0 = 0 := by
  rw [List.getD_eq_getElem?_getD, zer, List.getElem?_replicate]; split <;> rfl
theorem bld_gap {N : Nat} {n : Int} {l : List S45} (h : CellsOk l) (hf : needsL l ≤ N) (j : Nat) (h0 : 2 + 4 * lastL l ≤ j) (h1 : j + bytesL l < N) : (bld N n l).getD j 0 = 0 := by
  obtain ⟨e1, e2⟩ := foldB_len (N := N) h
  unfold bld
  rw [getD_right _ _ _ (by simp [twoL]; omega), getD_right _ _ _ (by simp [twoL]; omega), getD_left _ _ _ (by simp [twoL, zer]; omega), getD_zer]
theorem bld_one {N : Nat} {n : Int} {l : List S45} {c : S45} (h : CellsOk (l ++ [c])) (hf : needsL (l ++ [c]) ≤ N) (j : Nat) (hj : (j : Int) < 4 * c.f0 - 2 ∨ N ≤ j + bytesL l) :
    (bld N n (l ++ [c])).getD j 0 = (bld N n l).getD j 0 := by
  obtain ⟨P, r, e1, e2, e3, e4⟩ := bld_step (n := n) h hf
  rw [e3, e4]
  by_cases hp : j < P.length
  · rw [getD_left _ _ _ hp, getD_left _ _ _ hp]
  · have hj' : N ≤ j + bytesL l := by rcases hj with hj | hj <;> omega
    have a1 : P ++ (ent4 ((N : Int) - (bytesL l + c.f1.size : Nat)) c.f1.size ++ (zer r ++ (bytesOf c.f1 ++ (foldB N l).2))) = (P ++ ent4 ((N : Int) - (bytesL l + c.f1.size : Nat)) c.f1.size ++ zer r ++ bytesOf c.f1) ++ (foldB N l).2 := by simp only [List.append_assoc]
    have a2 : P ++ (zer 4 ++ (zer r ++ (zer c.f1.size ++ (foldB N l).2))) = (P ++ zer 4 ++ zer r ++ zer c.f1.size) ++ (foldB N l).2 := by simp only [List.append_assoc]
    have l1 : (P ++ ent4 ((N : Int) - (bytesL l + c.f1.size : Nat)) c.f1.size ++ zer r ++ bytesOf c.f1).length = P.length + 4 + r + c.f1.size := by simp [ent4, zer, bytesOf_length]; omega
    have l2 : (P ++ zer 4 ++ zer r ++ zer c.f1.size).length = P.length + 4 + r + c.f1.size := by simp [zer]; omega
    rw [a1, a2, getD_right _ _ _ (by omega), getD_right _ _ _ (by omega), l1, l2]
theorem bld_ent {N : Nat} {n : Int} {l : List S45} {c : S45} (h : CellsOk (l ++ [c])) (hf : needsL (l ++ [c]) ≤ N) (j : Nat) (hj : j < 4) :
    (bld N n (l ++ [c])).getD ((4 * c.f0 - 2).toNat + j) 0 = (ent4 ((N : Int) - (bytesL l + c.f1.size : Nat)) c.f1.size).getD j 0 := by
  obtain ⟨P, r, e1, e2, e3, e4⟩ := bld_step (n := n) h hf
  rw [e4, getD_right _ _ _ (by omega), getD_left _ _ _ (by simp [ent4]; omega)]
  congr 1
  omega
theorem bld_data {N : Nat} {n : Int} {l : List S45} {c : S45} (h : CellsOk (l ++ [c])) (hf : needsL (l ++ [c]) ≤ N) (j : Nat) (hj : j < c.f1.size) :
    (bld N n (l ++ [c])).getD (N - bytesL l - c.f1.size + j) 0 = (bytesOf c.f1).getD j 0 := by
  obtain ⟨P, r, e1, e2, e3, e4⟩ := bld_step (n := n) h hf
  have a1 : P ++ (ent4 ((N : Int) - (bytesL l + c.f1.size : Nat)) c.f1.size ++ (zer r ++ (bytesOf c.f1 ++ (foldB N l).2))) = (P ++ ent4 ((N : Int) - (bytesL l + c.f1.size : Nat)) c.f1.size ++ zer r) ++ (bytesOf c.f1 ++ (foldB N l).2) := by simp only [List.append_assoc]
  have l1 : (P ++ ent4 ((N : Int) - (bytesL l + c.f1.size : Nat)) c.f1.size ++ zer r).length = P.length + 4 + r := by simp [ent4, zer]; omega
  rw [e4, a1, getD_right _ _ _ (by omega), l1, getD_left _ _ _ (by rw [bytesOf_length]; omega)]
  congr 1
  omega
theorem needs_mono {a b : List S45} (h : CellsOk (a ++ b)) : needsL a ≤ needsL (a ++ b) := by
  unfold needsL
  rw [bytesL_append]
  have : lastL a ≤ lastL (a ++ b) := by
    cases hb : b.getLast? with
    | none =>
      have : b = [] := by simpa using hb
      simp [this]
    | some d =>
      have hd : d ∈ b := List.mem_of_getLast? hb
      have e : lastL (a ++ b) = d.f0 := by simp [lastL, List.getLast?_append, hb]
      rw [e]
      cases ha : a.getLast? with
      | none => simp only [lastL, ha]; have := (h.append.2.1.each d hd).1; omega
      | some x =>
        have hx : x ∈ a := List.mem_of_getLast? ha
        have := h.append.2.2 x hx d hd
        simp only [lastL, ha]; omega
  omega
theorem bld_stable {N : Nat} {n : Int} (b : List S45) : ∀ (a : List S45), CellsOk (a ++ b) → needsL (a ++ b) ≤ N → ∀ j : Nat, ((j : Int) < 2 + 4 * lastL a ∨ N ≤ j + bytesL a) → (bld N n (a ++ b)).getD j 0 = (bld N n a).getD j 0 := by
  induction b with
  | nil => intro a _ _ j _; simp
  | cons c b ih =>
    intro a h hf j hj
    have e : a ++ c :: b = (a ++ [c]) ++ b := by simp
    rw [e] at h hf ⊢
    have h1 := h.append.1
    have hf1 : needsL (a ++ [c]) ≤ N := by have := needs_mono h; omega
    have hl := lastL_lt h1
    rw [ih (a ++ [c]) h hf j (by
      rcases hj with hj | hj
      · left; rw [lastL_snoc]; omega
      · right; rw [bytesL_append]; omega)]
    exact bld_one h1 hf1 j (by
      rcases hj with hj | hj
      · left; omega
      · right; exact hj)
theorem foldB_range {N : Nat} (hN : N ≤ 65535) : ∀ {l : List S45}, CellsOk l → needsL l ≤ N → (∀ x ∈ (foldB N l).1, 0 ≤ x ∧ x ≤ 255) ∧ (∀ x ∈ (foldB N l).2, 0 ≤ x ∧ x ≤ 255) := by
  intro l
  induction hl : l.length generalizing l with
  | zero =>
    intro _ _
    have : l = [] := List.length_eq_zero_iff.1 hl
    subst this
    simp [foldB]
  | succ m ih =>
    intro h hf
    have hne : l ≠ [] := by intro h; rw [h] at hl; cases hl
    obtain ⟨a, c, rfl⟩ : ∃ a c, l = a ++ [c] := ⟨l.dropLast, l.getLast hne, (List.dropLast_concat_getLast hne).symm⟩
    have ha := h.append.1
    have hn := needs_mono h
    obtain ⟨i1, i2⟩ := ih (by simp at hl; exact hl) ha (by omega)
    have hfl := foldB_len (N := N) ha
    unfold needsL at hf
    have h0 := lastL_nonneg h
    rw [bytesL_append] at hf
    have hb1 : bytesL [c] = c.f1.size := by simp [bytesL]
    rw [foldB_snoc]
    simp only [stepB]
    constructor
    · intro x hx
      rcases List.mem_append.1 hx with hx | hx
      · exact i1 x hx
      · rcases List.mem_append.1 hx with hx | hx
        · have := (List.mem_replicate.1 hx).2; omega
        · simp only [ent4, List.mem_cons, List.not_mem_nil, or_false] at hx
          rcases hx with rfl | rfl | rfl | rfl <;> omega
    · intro x hx
      rcases List.mem_append.1 hx with hx | hx
      · exact bytesOf_range _ x hx
      · exact i2 x hx
theorem built_range {N : Nat} (hN : N ≤ 65535) {l : List S45} (h : CellsOk l) (hf : needsL l ≤ N) : ∀ x ∈ builtL N l, 0 ≤ x ∧ x ≤ 255 := by
  intro x hx
  obtain ⟨i1, i2⟩ := foldB_range hN h hf
  have h0 := lastL_nonneg h
  unfold builtL bld at hx
  rcases List.mem_append.1 hx with hx | hx
  · simp only [twoL, List.mem_cons, List.not_mem_nil, or_false] at hx
    rcases hx with rfl | rfl <;> omega
  · rcases List.mem_append.1 hx with hx | hx
    · exact i1 x hx
    · rcases List.mem_append.1 hx with hx | hx
      · have := (List.mem_replicate.1 hx).2; omega
      · exact i2 x hx
theorem built_size {N : Nat} {l : List S45} (h : CellsOk l) (hf : needsL l ≤ N) : (strOfNums (builtL N l)).size = N := by
  have : (strOfNums (builtL N l)).size = (builtL N l).length := by simp [strOfNums, ByteArray.size]
  rw [this, builtL, bld_length h hf]
theorem built_bt {N : Nat} (hN : N ≤ 65535) {l : List S45} (h : CellsOk l) (hf : needsL l ≤ N) (j : Nat) : bt (strOfNums (builtL N l)) (j : Int) = (builtL N l).getD j 0 := by
  rw [← bytesOf_getD, bytesOf_strOfNums _ (built_range hN h hf)]
theorem built_scan {N : Nat} (hN : N ≤ 65535) {l : List S45} (h : CellsOk l) (hf : needsL l ≤ N) (n : Nat) (hn : lastL l = n) : ∀ i, i ≤ n →
    ∃ a b, l = a ++ b ∧ (∀ x ∈ a, x.f0 ≤ i) ∧ (∀ x ∈ b, (i : Int) < x.f0) ∧ scanE (strOfNums (builtL N l)) n i = .ok ((N : Int) - bytesL a, lastL a) ∧ cellsS (strOfNums (builtL N l)) i = a := by
  intro i
  induction i with
  | zero =>
    intro _
    exact ⟨[], l, rfl, by simp, fun x hx => by have := (h.each x hx).1; omega, by simp [scanE, built_size h hf, bytesL, lastL], rfl⟩
  | succ i ih =>
    intro hi
    obtain ⟨a, b, hab, h1, h2, h3, h4⟩ := ih (by omega)
    have hlast : lastL a ≤ i := by
      cases ha : a.getLast? with
      | none => simp only [lastL, ha]; omega
      | some d => simp only [lastL, ha]; exact h1 d (List.mem_of_getLast? ha)
    cases b with
    | nil =>
      rw [List.append_nil] at hab
      rw [← hab] at hlast
      omega
    | cons c b =>
      have e : l = (a ++ [c]) ++ b := by rw [hab]; simp
      have hc := h2 c (by simp)
      have hac : CellsOk (a ++ [c]) := by rw [e] at h; exact h.append.1
      have ha := hac.append.1
      have hfac : needsL (a ++ [c]) ≤ N := by
        have := needs_mono (a := a ++ [c]) (b := b) (by rw [← e]; exact h)
        rw [← e] at this
        omega
      have hcr := h.each c (by rw [hab]; simp)
      have hL : builtL N l = bld N n ((a ++ [c]) ++ b) := by rw [builtL, hn, ← e]
      have hst := fun j hj => bld_stable (N := N) (n := n) b (a ++ [c]) (by rw [← e]; exact h) (by rw [← e]; exact hf) j hj
      rw [← hL] at hst
      have hnf : 2 + 4 * (n : Int) + bytesL l ≤ N := by unfold needsL at hf; omega
      have hbl : bytesL l = bytesL a + c.f1.size + bytesL b := by rw [e, bytesL_append, bytesL_append]; simp [bytesL]
      have hln : lastL (a ++ [c]) = c.f0 := lastL_snoc _ _
      have rd : ∀ t : Nat, (2 + 4 * i + t : Nat) < 2 + 4 * c.f0 → bt (strOfNums (builtL N l)) ((2 + 4 * i + t : Nat) : Int) = (bld N n (a ++ [c])).getD (2 + 4 * i + t) 0 := by
        intro t ht
        rw [built_bt hN h hf, hst _ (by left; rw [hln]; exact ht)]
      by_cases heq : c.f0 = (i : Int) + 1
      · -- the entry of c
        have ent : ∀ t : Nat, t < 4 → bt (strOfNums (builtL N l)) ((2 + 4 * i + t : Nat) : Int) = (ent4 ((N : Int) - (bytesL a + c.f1.size : Nat)) c.f1.size).getD t 0 := by
          intro t ht
          rw [rd t (by omega), ← bld_ent (n := n) hac hfac t ht]
          congr 1
          omega
        have x1 : twoS (strOfNums (builtL N l)) (2 + 4 * (i : Int)) = (N : Int) - (bytesL a + c.f1.size : Nat) := by
          have q0 := ent 0 (by omega)
          have q1 := ent 1 (by omega)
          simp only [ent4, List.getD_cons_zero, List.getD_cons_succ] at q0 q1
          unfold twoS
          rw [show (2 + 4 * (i : Int)) = ((2 + 4 * i + 0 : Nat) : Int) by omega, show ((2 + 4 * i + 0 : Nat) : Int) + 1 = ((2 + 4 * i + 1 : Nat) : Int) by omega, q0, q1]
          omega
        have x2 : twoS (strOfNums (builtL N l)) (4 + 4 * (i : Int)) = c.f1.size := by
          have q0 := ent 2 (by omega)
          have q1 := ent 3 (by omega)
          simp only [ent4, List.getD_cons_zero, List.getD_cons_succ] at q0 q1
          unfold twoS
          rw [show (4 + 4 * (i : Int)) = ((2 + 4 * i + 2 : Nat) : Int) by omega, show ((2 + 4 * i + 2 : Nat) : Int) + 1 = ((2 + 4 * i + 3 : Nat) : Int) by omega, q0, q1]
          omega
        refine ⟨a ++ [c], b, e, ?_, ?_, ?_, ?_⟩
        · intro x hx
          rcases List.mem_append.1 hx with hx | hx
          · have := h1 x hx; omega
          · simp only [List.mem_singleton] at hx; subst hx; omega
        · intro x hx
          have := (by rw [e] at h; exact h.append.2.2 c (by simp) x hx : c.f0 < x.f0)
          omega
        · rw [scanE, h3]
          simp only [x1, x2]
          rw [if_neg (by omega), if_neg (by omega), hln, heq, bytesL_append]
          have hb1 : bytesL [c] = c.f1.size := by simp [bytesL]
          rw [hb1]
        · simp only [cellsS, h4, x1, x2]
          rw [if_pos (by omega)]
          congr 1
          have hex : (strOfNums (builtL N l)).extract ((N : Int) - (bytesL a + c.f1.size : Nat)).toNat ((N : Int) - (bytesL a + c.f1.size : Nat) + (c.f1.size : Int)).toNat = c.f1 := by
            apply bytesOf_inj
            rw [bytesOf_extract _ _ _ (by rw [built_size h hf]; omega), bytesOf_strOfNums _ (built_range hN h hf)]
            have hbl2 : (builtL N l).length = N := by rw [builtL, bld_length h hf]
            apply ext_getD
            · rw [List.length_take, List.length_drop, hbl2, bytesOf_length]; omega
            · intro j hj
              rw [List.length_take, List.length_drop, hbl2] at hj
              have ej : j < c.f1.size := by omega
              have : (List.take (((N : Int) - (bytesL a + c.f1.size : Nat) + (c.f1.size : Int)).toNat - ((N : Int) - (bytesL a + c.f1.size : Nat)).toNat) (List.drop ((N : Int) - (bytesL a + c.f1.size : Nat)).toNat (builtL N l))).getD j 0 = (builtL N l).getD (N - bytesL a - c.f1.size + j) 0 := by
                rw [List.getD_eq_getElem?_getD, List.getElem?_take_of_lt (by omega), List.getElem?_drop, List.getD_eq_getElem?_getD]
                congr 2
                omega
              rw [this, hst _ (by right; rw [bytesL_append]; simp [bytesL]; omega), bld_data hac hfac j ej]
          rw [hex]
          cases c
          simp only at heq
          rw [heq]
      · -- no cell has this line
        have gap : ∀ t : Nat, t < 4 → bt (strOfNums (builtL N l)) ((2 + 4 * i + t : Nat) : Int) = 0 := by
          intro t ht
          rw [rd t (by omega), bld_one hac hfac _ (by left; omega)]
          have := needs_mono hac
          exact bld_gap ha (by omega) _ (by omega) (by omega)
        have x1 : twoS (strOfNums (builtL N l)) (2 + 4 * (i : Int)) = 0 := by
          unfold twoS
          rw [show (2 + 4 * (i : Int)) = ((2 + 4 * i + 0 : Nat) : Int) by omega, show ((2 + 4 * i + 0 : Nat) : Int) + 1 = ((2 + 4 * i + 1 : Nat) : Int) by omega, gap 0 (by omega), gap 1 (by omega)]
          rfl
        have x2 : twoS (strOfNums (builtL N l)) (4 + 4 * (i : Int)) = 0 := by
          unfold twoS
          rw [show (4 + 4 * (i : Int)) = ((2 + 4 * i + 2 : Nat) : Int) by omega, show ((2 + 4 * i + 2 : Nat) : Int) + 1 = ((2 + 4 * i + 3 : Nat) : Int) by omega, gap 2 (by omega), gap 3 (by omega)]
          rfl
        refine ⟨a, c :: b, hab, fun x hx => by have := h1 x hx; omega, ?_, ?_, ?_⟩
        · intro x hx
          rcases List.mem_cons.1 hx with rfl | hx
          · omega
          · have := (by rw [e] at h; exact h.append.2.2 c (by simp) x hx : c.f0 < x.f0)
            omega
        · rw [scanE, h3]
          simp only [x1, x2]
          rw [if_pos (by simp)]
        · simp only [cellsS, h4, x2]
          rw [if_neg (by omega)]
/-- The page of cells is valid and has these cells. -/
theorem built_valid {N : Nat} (h32 : 32 ≤ N) (hN : N ≤ 4096) (h8 : N % 8 = 0) {l : List S45} (h : CellsOk l) (hf : needsL l ≤ N) :
    wrongS (strOfNums (builtL N l)) = ((N : Int), 0) ∧ twoS (strOfNums (builtL N l)) 0 = lastL l ∧ cellsS (strOfNums (builtL N l)) (lastL l).toNat = l := by
  have h0 := lastL_nonneg h
  obtain ⟨n, hn⟩ : ∃ n : Nat, lastL l = n := ⟨(lastL l).toNat, by omega⟩
  have hsz := built_size h hf
  have h2 : twoS (strOfNums (builtL N l)) 0 = n := by
    have q0 : bt (strOfNums (builtL N l)) ((0 : Nat) : Int) = (n : Int) / 256 := by
      rw [built_bt (by omega) h hf 0, ← hn]; rfl
    have q1 : bt (strOfNums (builtL N l)) ((1 : Nat) : Int) = (n : Int) % 256 := by
      rw [built_bt (by omega) h hf 1, ← hn]; rfl
    unfold twoS
    rw [show (0 : Int) = ((0 : Nat) : Int) by rfl, show ((0 : Nat) : Int) + 1 = ((1 : Nat) : Int) by rfl, q0, q1]
    omega
  obtain ⟨a, b, hab, h1, h3, h4, h5⟩ := built_scan (by omega) h hf n hn n (Nat.le_refl n)
  have hb : b = [] := by
    cases hb : b.getLast? with
    | none => simpa using hb
    | some d =>
      have := h3 d (List.mem_of_getLast? hb)
      have e : lastL l = d.f0 := by rw [hab]; simp [lastL, List.getLast?_append, hb]
      omega
  subst hb
  rw [List.append_nil] at hab
  subst hab
  have hnf : 2 + 4 * (n : Int) + bytesL l ≤ N := by unfold needsL at hf; omega
  refine ⟨?_, by rw [h2, hn], by rw [hn, Int.toNat_natCast]; exact h5⟩
  unfold wrongS
  rw [hsz, if_pos ⟨h32, hN, h8⟩, h2, if_neg (by omega), Int.toNat_natCast]
  have he : entriesS (strOfNums (builtL N l)) n = .ok ((N : Int) - bytesL l) := by
    unfold entriesS
    rw [h4, hn]
    simp
  rw [he]
  have hz : ∀ (k j : Nat), N ≤ k + j + bytesL l → 2 + 4 * n ≤ j → firstNZ (strOfNums (builtL N l)) ((N : Int) - bytesL l) j = none := by
    intro k
    induction k with
    | zero => intro j hk hj; rw [firstNZ, if_neg (by omega)]
    | succ k ih =>
      intro j hk hj
      rw [firstNZ]
      split
      · rename_i hlt
        rw [if_neg (by
          rw [built_bt (by omega) h hf, builtL, bld_gap h hf j (by omega) (by omega)]; simp), ih (j + 1) (by omega) (by omega)]
      · rfl
  simp only [hz N (2 + 4 * n) (by omega) (by omega)]

end Go.Proofs.Ytemglmcddaeedaa.PA

namespace Go.Proofs.Ytemglmcddaeedaa.PA
open Go.RowKit Go.Proofs.YtemglmcddaeedaaW.PrintWords Go.Proofs.YtemglmcddaeedaaW.PrintLast Go.Proofs.YtemglmcddaeedaaW.PrintMore
attribute [local go_sem] max2_int min2_int max_two min_two max_three min_three max_four min_four   -- for this text's walks alone
set_option linter.unusedVariables false
set_option linter.unusedSimpArgs false

/-! ### page_line: function 52 -/
def page_line.f (a0 : Int) : Option (Bool) := if a0 ≥ 1 then (some (decide (a0 ≤ 200))) else (some false)
set_option maxHeartbeats 8000000 in
set_option maxRecDepth 100000 in
theorem page_line.calls (a0 : Int) (r : Bool) (w : World) (h : page_line.f a0 = some r) :
    Calls Try.prog 52 #[.int .i64 a0] w fun e w' => e = .returned (.bool r) ∧ Drawn0 w w' := by
  have H : (if a0 ≥ 1 then (some (decide (a0 ≤ 200))) else (some false)) = some r := h
  clear h
  by_cases c2 : a0 ≥ 1
  · rw [if_pos c2] at H
    have c2b0 : decide (1 ≤ a0) = true := decide_eq_true c2
    clear c2
    obtain rfl := Option.some.inj H
    go_enter Try.func52, Try.ntmps52
    go_wp2
    go_ret
    exact ⟨by first | rfl | (simp; done) | (simp [*]; done), by repeat (first | exact Drawn0.refl _ | apply Drawn0.step)⟩
  · rw [if_neg c2] at H
    have c2b0 : decide (1 ≤ a0) = false := decide_eq_false c2
    clear c2
    obtain rfl := Option.some.inj H
    go_enter Try.func52, Try.ntmps52
    go_wp2
    go_ret
    exact ⟨by first | rfl | (simp; done) | (simp [*]; done), by repeat (first | exact Drawn0.refl _ | apply Drawn0.step)⟩

end Go.Proofs.Ytemglmcddaeedaa.PA

namespace Go.Proofs.Ytemglmcddaeedaa.PA
open Go.RowKit Go.Proofs.YtemglmcddaeedaaW.PrintWords Go.Proofs.YtemglmcddaeedaaW.PrintLast Go.Proofs.YtemglmcddaeedaaW.PrintMore
attribute [local go_sem] max2_int min2_int max_two min_two max_three min_three max_four min_four   -- for this text's walks alone
set_option linter.unusedVariables false
set_option linter.unusedSimpArgs false

/-! ### page_size: function 53 -/
def page_size.f (a0 : Int) : Option (Bool) := if a0 ≥ 32 then (if a0 ≤ 4096 then (some ((Int.tmod a0 8) == 0)) else (some false)) else (some false)
set_option maxHeartbeats 8000000 in
set_option maxRecDepth 100000 in
theorem page_size.calls (a0 : Int) (r : Bool) (w : World) (h : page_size.f a0 = some r) :
    Calls Try.prog 53 #[.int .i64 a0] w fun e w' => e = .returned (.bool r) ∧ Drawn0 w w' := by
  have H : (if a0 ≥ 32 then (if a0 ≤ 4096 then (some ((Int.tmod a0 8) == 0)) else (some false)) else (some false)) = some r := h
  clear h
  by_cases c2 : a0 ≥ 32
  · rw [if_pos c2] at H
    have c2b0 : decide (32 ≤ a0) = true := decide_eq_true c2
    clear c2
    by_cases c3 : a0 ≤ 4096
    · rw [if_pos c3] at H
      have c3b0 : decide (a0 ≤ 4096) = true := decide_eq_true c3
      clear c3
      obtain rfl := Option.some.inj H
      go_enter Try.func53, Try.ntmps53
      go_wp2
      go_ret
      exact ⟨by first | rfl | (simp; done) | (simp [*]; done), by repeat (first | exact Drawn0.refl _ | apply Drawn0.step)⟩
    · rw [if_neg c3] at H
      have c3b0 : decide (a0 ≤ 4096) = false := decide_eq_false c3
      clear c3
      obtain rfl := Option.some.inj H
      go_enter Try.func53, Try.ntmps53
      go_wp2
      go_ret
      exact ⟨by first | rfl | (simp; done) | (simp [*]; done), by repeat (first | exact Drawn0.refl _ | apply Drawn0.step)⟩
  · rw [if_neg c2] at H
    have c2b0 : decide (32 ≤ a0) = false := decide_eq_false c2
    clear c2
    obtain rfl := Option.some.inj H
    go_enter Try.func53, Try.ntmps53
    go_wp2
    go_ret
    exact ⟨by first | rfl | (simp; done) | (simp [*]; done), by repeat (first | exact Drawn0.refl _ | apply Drawn0.step)⟩

end Go.Proofs.Ytemglmcddaeedaa.PA

namespace Go.Proofs.Ytemglmcddaeedaa.PA
open Go.RowKit Go.Proofs.YtemglmcddaeedaaW.PrintWords Go.Proofs.YtemglmcddaeedaaW.PrintLast Go.Proofs.YtemglmcddaeedaaW.PrintMore
attribute [local go_sem] max2_int min2_int max_two min_two max_three min_three max_four min_four   -- for this text's walks alone
set_option linter.unusedVariables false
set_option linter.unusedSimpArgs false

/-! ### laws: function 0 -/
section
variable {P : Program} {ops : Array Oper} {rest : List Oper} {o : Oper} {a : Act} {Q : Exit → Act → World → Prop}
theorem grown_setRow (w : World) (g : Nat) (cs : Array Value) : w.grownBy (w.setRow g cs) (some g) :=
  ⟨rfl, rfl, rfl, by simp [World.setRow], fun k _ hne => setRow_other w g k cs (fun e => hne (by rw [e]))⟩
theorem byteCells_nums (s : ByteArray) : Lib.byteCells s.data.toList = nums .u8 (bytesOf s) := by
  simp [Lib.byteCells, nums, bytesOf]
theorem nums_splice (bs cs : List Int) (off : Nat) : nums .u8 (splice bs off cs) = (nums .u8 bs).take off ++ nums .u8 cs ++ (nums .u8 bs).drop (off + cs.length) := by
  simp [splice, nums, List.map_take, List.map_drop]
/-- copy(row[off:], s), s a string, the row known whole. -/
theorem wpList_copy_str {w : World} (hgd : o.guard = none) (d s : Operand) (dT sT : TypeId)
    (ho : o.op = .call { callee := .builtin .copy, args := #[d, s], argTypes := #[dT, sT] }) (elem : TypeId) (hu : P.underlying dT = some (.slice elem)) (hsz : (P.info? elem).map (·.size) = some 1)
    (g off dLen dCap : Nat) (hd : a.eval d = .slice (some ⟨g, off, none⟩) dLen dCap) (str : ByteArray) (hs : a.eval s = .string str) (bs : List Int) (t : TypeId)
    (hg : w.heap[g]? = some (.cells (nums .u8 bs).toArray t (0, 0))) (hle : str.size ≤ dLen) (hfit : off + str.size ≤ bs.length)
    (h : ∀ w', Aside0 (w'.heap[g]? = some (.cells (nums .u8 (splice bs off (bytesOf str))).toArray t (0, 0))) → Aside0 (w.grownBy w' (some g)) → wpList P ops Q rest (a.put o.dst (goInt str.size)) w') :
    wpList P ops Q (o :: rest) a w := by
  have hrun := Lib.run_copy_row_string (P := P) w dT sT o.type elem g off dLen dCap str (nums .u8 bs).toArray t hu hsz hg hle (by simpa [nums] using hfit)
  refine wpList_plain hgd fun K hK => ?_
  unfold Oper.wp execOp
  simp only [ho, resolve, invoke, builtin, Sem.run_bind, Sem.run_pure, Result.andThen_ok, List.map_toArray, List.map_cons, List.map_nil, hd, hs, hrun]
  refine hK _ _ (h _ ⟨?_⟩ ⟨grown_setRow _ _ _⟩)
  rw [setRow_heap w g _ _ t _ hg, nums_splice, byteCells_nums, bytesOf_length]
theorem made_zer (m : Nat) : madeCells #[Value.int .u8 0] m = (nums .u8 (List.replicate m 0)).toArray := by
  apply Array.ext'
  apply List.ext_getElem
  · simp [nums, madeCells]
  · intro i h1 h2
    simp [nums, madeCells, Nat.mod_one]
end
/-- row[k:] of a row of one's own, ahead of its end. -/
theorem cut_own {P : Program} (t e : TypeId) (ht : P.underlying t = some (.slice e)) (hi : (P.info? e).map (·.size) = some 1) (g m T : Nat) (hT : T < m) :
    ∀ W : World, (Instr.slice t (.slice (some ⟨g, 0, none⟩) m m) (some (.int .i64 (T : Int))) none none).run P W = .ok (.slice (some ⟨g, T, none⟩) (m - T) (m - T)) W := by
  intro W
  obtain ⟨i, h1, h2⟩ := Option.map_eq_some_iff.1 hi
  rw [cut_from t e .i64 ht h1 1 h2 (some ⟨g, 0, none⟩) m m (T : Int) (by omega) (by omega) W, Int.toNat_natCast, if_neg (by omega)]
  simp only [Option.map_some, Nat.mul_one, add_plain]
theorem conv_row {P : Program} (src dst e : TypeId) (hs : P.underlying src = some (.slice e)) (he : P.underlying e = some (.int .u8)) (hd : P.underlying dst = some .string) (g n c : Nat) (bs : List Int) (t : TypeId) (w : World)
    (hg : w.heap[g]? = some (.cells (nums .u8 bs).toArray t (0, 0))) (hl : bs.length = n) : (convert src dst (.slice (some ⟨g, 0, none⟩) n c)).run P w = .ok (.string (strOfNums bs)) w := by
  refine run_convert_bytes_arg w src e hs he g 0 n c bs hl (fun i hi => ?_) dst hd
  rw [blk_cell hg]
  have : i < bs.length := by omega
  simp [nums, List.getD_eq_getElem?_getD, this]
/-- copy(row[off:], ys), ys a slice of bytes that is read. -/
theorem run_copy_nums {P : Program} {w : World} (dT sT ty elem : TypeId) (hu : P.underlying dT = some (.slice elem)) (hsz : (P.info? elem).map (·.size) = some 1)
    (g off dLen dCap : Nat) (A : Option Addr) (k c : Nat) (bs ys : List Int) (t : TypeId) (hg : w.heap[g]? = some (.cells (nums .u8 bs).toArray t (0, 0)))
    (hr : Kd.C (Kd.int .u8) w A k ys) (hle : k ≤ dLen) (hfit : off + k ≤ bs.length) :
    ∃ w', (Builtin.copy_ #[dT, sT] ty #[.slice (some ⟨g, off, none⟩) dLen dCap, .slice A k c]).run P w = .ok (goInt k) w' ∧
      w'.heap[g]? = some (.cells (nums .u8 (splice bs off ys)).toArray t (0, 0)) ∧ w.grownBy w' (some g) := by
  obtain ⟨h1, _, h3⟩ := Kd.reads_of_C (enc := Value.int .u8) (d := (0 : Int)) (h1 := fun _ => rfl) hr
  rcases Nat.eq_zero_or_pos k with h0 | hp
  · subst h0
    obtain rfl : ys = [] := List.eq_nil_of_length_eq_zero h1
    refine ⟨w, run_copy_none w dT sT ty elem _ A dLen dCap 0 c hu hsz (by simp), by simpa [splice] using hg, World.grownBy.refl w _⟩
  · obtain ⟨ad, rfl, hc⟩ := h3 hp
    have hrun := run_copy_row (P := P) w dT sT ty elem g off dLen dCap ad k c (nums .u8 bs).toArray t (nums .u8 ys) hu hsz hg (by rw [nums_length, h1]; exact (Nat.min_eq_left hle).symm)
      (fun j v hj => by
        have hjl : j < ys.length := by
          rcases Nat.lt_or_ge j ys.length with h | h
          · exact h
          · rw [List.getElem?_eq_none (by rw [nums_length]; exact h)] at hj; cases hj
        rw [hc j (by omega), ← hj]
        simp [nums, List.getD_eq_getElem?_getD, hjl])
      (by simp [nums]; omega) (by intro v hv; simp only [nums, List.mem_map] at hv; obtain ⟨q, _, rfl⟩ := hv; rfl)
    rw [nums_length, h1] at hrun
    refine ⟨_, hrun, ?_, grown_setRow _ _ _⟩
    rw [setRow_heap w g _ _ t _ hg, nums_splice, h1]
theorem step_copy_nums {P : Program} {ops : Array Oper} {o : Oper} {a : Act} {w : World} {K : Act → World → Prop} {Q : Exit → Act → World → Prop} {E : Prop} (hgd : o.guard = none) (d s : Operand) (dT sT : TypeId)
    (ho : o.op = .call { callee := .builtin .copy, args := #[d, s], argTypes := #[dT, sT] }) (elem : TypeId) (hu : P.underlying dT = some (.slice elem)) (hsz : (P.info? elem).map (·.size) = some 1)
    (g off dLen dCap : Nat) (hd : a.eval d = .slice (some ⟨g, off, none⟩) dLen dCap) (A : Option Addr) (k c : Nat) (hs : a.eval s = .slice A k c) (bs ys : List Int) (t : TypeId)
    (hg : w.heap[g]? = some (.cells (nums .u8 bs).toArray t (0, 0))) (hr : Kd.C (Kd.int .u8) w A k ys) (hle : k ≤ dLen) (hfit : off + k ≤ bs.length)
    (h : ∀ w', Aside0 (w'.heap[g]? = some (.cells (nums .u8 (splice bs off ys)).toArray t (0, 0))) → Aside0 (w.grownBy w' (some g)) → K (a.put o.dst (goInt k)) w') :
    if Region.wanted o (yielded ops a.tmps) = true then Oper.wp P o a w K Q else E := by
  obtain ⟨w', hrun, h1, h2⟩ := run_copy_nums (P := P) dT sT o.type elem hu hsz g off dLen dCap A k c bs ys t hg hr hle hfit
  have hw : Region.wanted o (yielded ops a.tmps) = true := by simp [Region.wanted, hgd]
  rw [if_pos hw]
  unfold Oper.wp execOp
  simp only [ho, resolve, invoke, builtin, Sem.run_bind, Sem.run_pure, Result.andThen_ok, List.map_toArray, List.map_cons, List.map_nil, hd, hs, hrun]
  exact h _ ⟨h1⟩ ⟨h2⟩
theorem wpList_copy_nums {P : Program} {ops : Array Oper} {rest : List Oper} {o : Oper} {a : Act} {w : World} {Q : Exit → Act → World → Prop} (hgd : o.guard = none) (d s : Operand) (dT sT : TypeId)
    (ho : o.op = .call { callee := .builtin .copy, args := #[d, s], argTypes := #[dT, sT] }) (elem : TypeId) (hu : P.underlying dT = some (.slice elem)) (hsz : (P.info? elem).map (·.size) = some 1)
    (g off dLen dCap : Nat) (hd : a.eval d = .slice (some ⟨g, off, none⟩) dLen dCap) (A : Option Addr) (k c : Nat) (hs : a.eval s = .slice A k c) (bs ys : List Int) (t : TypeId)
    (hg : w.heap[g]? = some (.cells (nums .u8 bs).toArray t (0, 0))) (hr : Kd.C (Kd.int .u8) w A k ys) (hle : k ≤ dLen) (hfit : off + k ≤ bs.length)
    (h : ∀ w', Aside0 (w'.heap[g]? = some (.cells (nums .u8 (splice bs off ys)).toArray t (0, 0))) → Aside0 (w.grownBy w' (some g)) → wpList P ops Q rest (a.put o.dst (goInt k)) w') :
    wpList P ops Q (o :: rest) a w :=
  wpList_step fun K hK => step_copy_nums hgd d s dT sT ho elem hu hsz g off dLen dCap hd A k c hs bs ys t hg hr hle hfit (fun w' h1 h2 => hK _ _ (h w' h1 h2))
theorem step_copy_str {P : Program} {ops : Array Oper} {o : Oper} {a : Act} {w : World} {K : Act → World → Prop} {Q : Exit → Act → World → Prop} {E : Prop} (hgd : o.guard = none) (d s : Operand) (dT sT : TypeId)
    (ho : o.op = .call { callee := .builtin .copy, args := #[d, s], argTypes := #[dT, sT] }) (elem : TypeId) (hu : P.underlying dT = some (.slice elem)) (hsz : (P.info? elem).map (·.size) = some 1)
    (g off dLen dCap : Nat) (hd : a.eval d = .slice (some ⟨g, off, none⟩) dLen dCap) (str : ByteArray) (hs : a.eval s = .string str) (bs : List Int) (t : TypeId)
    (hg : w.heap[g]? = some (.cells (nums .u8 bs).toArray t (0, 0))) (hle : str.size ≤ dLen) (hfit : off + str.size ≤ bs.length)
    (h : ∀ w', Aside0 (w'.heap[g]? = some (.cells (nums .u8 (splice bs off (bytesOf str))).toArray t (0, 0))) → Aside0 (w.grownBy w' (some g)) → K (a.put o.dst (goInt str.size)) w') :
    if Region.wanted o (yielded ops a.tmps) = true then Oper.wp P o a w K Q else E := by
  have hrun := Lib.run_copy_row_string (P := P) w dT sT o.type elem g off dLen dCap str (nums .u8 bs).toArray t hu hsz hg hle (by simpa [nums] using hfit)
  have hw : Region.wanted o (yielded ops a.tmps) = true := by simp [Region.wanted, hgd]
  rw [if_pos hw]
  unfold Oper.wp execOp
  simp only [ho, resolve, invoke, builtin, Sem.run_bind, Sem.run_pure, Result.andThen_ok, List.map_toArray, List.map_cons, List.map_nil, hd, hs, hrun]
  refine h _ ⟨?_⟩ ⟨grown_setRow _ _ _⟩
  rw [setRow_heap w g _ _ t _ hg, nums_splice, byteCells_nums, bytesOf_length]

end Go.Proofs.Ytemglmcddaeedaa.PA

namespace Go.Proofs.Ytemglmcddaeedaa.PA
open Go.RowKit Go.Proofs.YtemglmcddaeedaaW.PrintWords Go.Proofs.YtemglmcddaeedaaW.PrintLast Go.Proofs.YtemglmcddaeedaaW.PrintMore
attribute [local go_sem] max2_int min2_int max_two min_two max_three min_three max_four min_four   -- for this text's walks alone
set_option linter.unusedVariables false
set_option linter.unusedSimpArgs false

/-! ### page_putrow: function 0 -/
theorem grown_set (w : World) (g j : Nat) (u : Value) : w.grownBy (w.setCell ⟨g, j, none⟩ u) (some g) :=
  ⟨rfl, rfl, rfl, by simp [World.setCell], fun k _ hne => Below.heap_setCell w _ u k (fun e => hne (by rw [e]))⟩
theorem put_row (g n c : Nat) (bs : List Int) (at_ v : Int) (w : World) (hg : w.heap[g]? = some (.cells (nums .u8 bs).toArray 5 (0, 0))) (hlen : bs.length = n) (h0 : 0 ≤ at_) (h1 : at_ + 1 < n) (hn : n ≤ 100000) (hv0 : 0 ≤ v) (hv1 : v ≤ 65535) :
    Calls Try.prog 103 #[.slice (some ⟨g, 0, none⟩) n c, .int .i64 at_, .int .i64 v] w fun e w' => e = .returned (.tuple #[]) ∧
      w'.heap[g]? = some (.cells (nums .u8 ((bs.set at_.toNat (v / 256)).set (at_.toNat + 1) (v % 256))).toArray 5 (0, 0)) ∧ w.grownBy w' (some g) := by
  obtain ⟨k, rfl⟩ := Int.eq_ofNat_of_zero_le h0
  simp only [Int.toNat_natCast]
  have hk : k < bs.length := by omega
  have hk1 : k + 1 < bs.length := by omega
  have c0 := blk_cell hg k
  have c1 := blk_cell hg (k + 1)
  have f0 := blk_frozen hg k
  have f1 := blk_frozen hg (k + 1)
  simp only [nums, List.getElem?_toArray, List.getElem?_map, List.getElem?_eq_getElem hk, List.getElem?_eq_getElem hk1, Option.map_some] at c0 c1
  have HG := Aside0.mk hg
  clear hg
  have e1 : v / 256 % 256 = v / 256 := by omega
  go_enter Try.func103, Try.ntmps103
  go_wp2
  go_end0
  have hs := blk_set (blk_set HG.out k (.int .u8 (v / 256))) (k + 1) (.int .u8 (v % 256))
  have hn1 : ∀ (i : Nat) (x : Int) (l : List Int), (nums .u8 l).toArray.setIfInBounds i (.int .u8 x) = (nums .u8 (l.set i x)).toArray := by
    intro i x l; simp [nums, List.map_set]
  rw [hn1, hn1] at hs
  have hgb : w.grownBy ((w.setCell ⟨g, k, none⟩ (.int .u8 (v / 256))).setCell ⟨g, k + 1, none⟩ (.int .u8 (v % 256))) (some g) :=
    (grown_set _ _ _ _).trans (grown_set _ _ _ _)
  refine ⟨rfl, ?_, ?_⟩
  · exact hs
  · exact hgb

end Go.Proofs.Ytemglmcddaeedaa.PA

namespace Go.Proofs.Ytemglmcddaeedaa.PA
open Go.RowKit Go.Proofs.YtemglmcddaeedaaW.PrintWords Go.Proofs.YtemglmcddaeedaaW.PrintLast Go.Proofs.YtemglmcddaeedaaW.PrintMore
attribute [local go_sem] max2_int min2_int max_two min_two max_three min_three max_four min_four   -- for this text's walks alone
set_option linter.unusedVariables false
set_option linter.unusedSimpArgs false

/-! ### page_needs: function 102 -/
def page_needs.ok (l : List S45) : Prop := 0 ≤ lastL l ∧ lastL l ≤ 1000 ∧ bytesL l ≤ 1000000000000
instance page_needs.okDec (l : List S45) : Decidable (page_needs.ok l) := by unfold page_needs.ok; infer_instance
def page_needs.f (l0 : List S45) : Option Int := if page_needs.ok l0 then some (needsL l0) else none
set_option maxHeartbeats 8000000 in
set_option maxRecDepth 100000 in
theorem page_needs.calls (A0 : Option Addr) (c0 : Nat) (l0 : List S45) (r : Int) (w : World) (hr0 : Kd.C k45 w A0 l0.length l0) (hc0 : l0.length ≤ c0) (h : page_needs.f l0 = some r) :
    Calls Try.prog 102 #[.slice A0 l0.length c0] w fun e w' => e = .returned (.int .i64 r) ∧ Below w.heap.size w w' := by
  have hu45 := Try.underlying45
  unfold page_needs.f at h
  split at h
  rotate_left
  · cases h
  rename_i hok
  obtain rfl := Option.some.inj h
  obtain ⟨hl0, hl1, hb⟩ := hok
  have HR0 := Aside0.mk hr0
  have hlen : l0.length ≤ 9223372036854775807 := Kd.C_max hr0
  have HB := Aside0.mk (Below.refl w.heap.size w)
  clear hr0 hc0
  by_cases hz : 0 < l0.length
  · have HL := Aside0.mk (lastL_rd l0 hz)
    have hz' : (0 : Int) < l0.length := by omega
    obtain ⟨ad, e1, hx0, hx1⟩ := at_T45 HR0.out ((l0.length : Int) - 1) (by omega) (by omega)
    cases e1
    have e2 : ((l0.length : Int) - 1).toNat = l0.length - 1 := by omega
    rw [e2] at hx0
    rw [← HL.out] at hx0
    obtain ⟨L, hL⟩ : ∃ L, lastL l0 = L := ⟨_, rfl⟩
    rw [hL] at hl0 hl1 hx0
    have HL2 := Aside0.mk hL
    clear hL hx1 e2
    go_enter Try.func102, Try.ntmps102
    go_wp2
    go_loopw [3, 21] (fun v3 v21 wr => ∃ i : Nat, i ≤ l0.length ∧ v3 = .int .i64 (2 + 4 * L + (bytesL (l0.take i) : Int)) ∧ v21 = .int .i64 (i : Int) ∧ Aside0 (Below w.heap.size w wr))
      (fun _ v21 _ => l0.length - (intOf v21).toNat)
    case atStart => exact ⟨0, by omega, by simp [bytesL], by simp, HB⟩
    case round =>
      obtain ⟨i, hi, rfl, rfl, HB⟩ := hrel
      by_cases hlt : i < l0.length
      · obtain ⟨ad2, e2, hy0, hy1⟩ := at_T45 HR0.out (i : Int) (by omega) (by omega)
        cases e2
        rw [rd_get l0 i hlt] at hy0 hy1
        replace hy0 := (HB.out.cell (World.block_lt_of_cell? w _ hy0)).trans hy0
        replace hy1 := (HB.out.cell (World.block_lt_of_cell? w _ hy1)).trans hy1
        simp only [Int.toNat_natCast] at hy0 hy1
        have hs := bytesL_take_succ l0 i hlt
        have hs2 := bytesL_take_le l0 (i + 1)
        have HS := Aside0.mk hs
        have hb2 : bytesL (l0.take i) + l0[i].f1.size ≤ 1000000000000 := by omega
        clear hs hs2
        go_wp2
        go_roundw
        case rel => exact ⟨i + 1, by omega, by rw [HS.out]; go_num, by go_num, ⟨(below_alloc HB.out _)⟩⟩
        case measure => simp [intOf]; omega
      · go_wp2
        go_ret
        refine ⟨ret_int ?_, HB.out⟩
        rw [needsL, HL2.out, List.take_of_length_le (by omega)]
  · obtain rfl : l0 = [] := List.eq_nil_of_length_eq_zero (by omega)
    go_enter Try.func102, Try.ntmps102
    go_wp2
    go_loopw [3, 21] (fun v3 v21 wr => v3 = .int .i64 2 ∧ v21 = .int .i64 0 ∧ wr = w) (fun _ _ _ => 0)
    case atStart => exact ⟨rfl, rfl, rfl⟩
    case round =>
      obtain ⟨rfl, rfl, rfl⟩ := hrel
      go_wp2
      go_ret
      exact ⟨ret_int (by rfl), HB.out⟩

end Go.Proofs.Ytemglmcddaeedaa.PA

namespace Go.Proofs.Ytemglmcddaeedaa.PA
open Go.RowKit Go.Proofs.YtemglmcddaeedaaW.PrintWords Go.Proofs.YtemglmcddaeedaaW.PrintLast Go.Proofs.YtemglmcddaeedaaW.PrintMore
attribute [local go_sem] max2_int min2_int max_two min_two max_three min_three max_four min_four   -- for this text's walks alone
set_option linter.unusedVariables false
set_option linter.unusedSimpArgs false

/-! ### page_filled: function 54 -/
def page_filled.ok (n : Int) (l : List S45) : Prop := 32 ≤ n ∧ n ≤ 4096 ∧ CellsOk l ∧ bytesL l ≤ 1000000000000
instance page_filled.okDec (n : Int) (l : List S45) : Decidable (page_filled.ok n l) := by unfold page_filled.ok; infer_instance
def page_filled.f (a0 : Int) (l1 : List S45) : Option (ByteArray × Int) :=
  if page_filled.ok a0 l1 then (if needsL l1 > a0 then some (⟨#[]⟩, 13) else some (strOfNums (builtL a0.toNat l1), 0)) else none
theorem needs_f {l : List S45} (h : CellsOk l) (hb : bytesL l ≤ 1000000000000) : page_needs.f l = some (needsL l) := by
  have := lastL_nonneg h
  rw [page_needs.f, if_pos ⟨this.1, by omega, hb⟩]
set_option maxHeartbeats 8000000 in
set_option maxRecDepth 100000 in
theorem page_filled.calls (a0 : Int) (A1 : Option Addr) (c1 : Nat) (l1 : List S45) (r1 : ByteArray) (r2 : Int) (w : World) (hr1 : Kd.C k45 w A1 l1.length l1) (hc1 : l1.length ≤ c1) (h : page_filled.f a0 l1 = some (r1, r2)) :
    Calls Try.prog 54 #[.int .i64 a0, .slice A1 l1.length c1] w fun e w' => e = .returned (.tuple #[.string r1, .int .i64 r2]) ∧ Below w.heap.size w w' := by
  have hu45 := Try.underlying45
  unfold page_filled.f at h
  split at h
  rotate_left
  · cases h
  rename_i hok
  obtain ⟨hn0, hn1, hcl, hb⟩ := hok
  have HF := Aside0.mk (needs_f hcl hb)
  have HCL := Aside0.mk hcl
  have HR := Aside0.mk hr1
  have HC := Aside0.mk hc1
  have hlen : l1.length ≤ 9223372036854775807 := Kd.C_max hr1
  have hnd : 0 ≤ needsL l1 := by have := lastL_nonneg hcl; unfold needsL; omega
  obtain ⟨nd, hN⟩ : ∃ nd, needsL l1 = nd := ⟨_, rfl⟩
  rw [hN] at h hnd
  have HN := Aside0.mk hN
  have hl1 := lastL_nonneg hcl
  clear hr1 hc1 hcl hN
  obtain ⟨m, rfl⟩ := Int.eq_ofNat_of_zero_le (show 0 ≤ a0 by omega)
  by_cases hbig : nd > (m : Int)
  · rw [if_pos hbig] at h
    obtain ⟨rfl, rfl⟩ := Prod.mk.inj (Option.some.inj h)
    clear h
    go_enter Try.func54, Try.ntmps54
    go_wp2_with (go_at_call 102; refine (page_needs.calls A1 c1 l1 nd _ HR.out HC.out (by rw [HF.out, HN.out])).mono ?_; rintro e w1 ⟨rfl, hb1⟩)
    go_ret2
    exact ⟨rfl, hb1⟩
  · rw [if_neg hbig] at h
    obtain ⟨rfl, rfl⟩ := Prod.mk.inj (Option.some.inj h)
    clear h
    obtain ⟨Z, hZ⟩ : ∃ Z, (nums .u8 (zer m)).toArray = Z := ⟨_, rfl⟩
    have hmk : ∀ W : World, (Instr.makeSlice 27 (.int .i64 (m : Int)) (.int .i64 (m : Int))).run Try.prog W = .ok (.slice (some ⟨W.heap.size, 0, none⟩) m m) (W.alloc (.cells Z 5)) := by
      intro W
      rw [← hZ, zer, ← made_zer]
      exact print_make (P := Try.prog) 27 5 .u8 1 Try.underlying27 (by kernel_rfl) (by decide) m (by omega) W
    have HZ := Aside0.mk hZ
    clear hZ
    by_cases hz : 0 < l1.length
    · have HL := Aside0.mk (lastL_rd l1 hz)
      have hz' : (0 : Int) < l1.length := by omega
      obtain ⟨L, hL⟩ : ∃ L, lastL l1 = L := ⟨_, rfl⟩
      have HL2 := Aside0.mk hL
      rw [hL] at hl1
      obtain ⟨ad, e1, hx0, hx1⟩ := at_T45 HR.out ((l1.length : Int) - 1) (by omega) (by omega)
      cases e1
      have e2 : ((l1.length : Int) - 1).toNat = l1.length - 1 := by omega
      rw [e2, ← HL.out, hL] at hx0
      clear hL hx1 e2
      go_enter Try.func54, Try.ntmps54
      go_wp2_with (go_at_call 102; refine (page_needs.calls (some ad) c1 l1 nd _ HR.out HC.out (by rw [HF.out, HN.out])).mono ?_; rintro e w1 ⟨rfl, hb1⟩; have hx2 := (hb1.cell (World.block_lt_of_cell? w _ hx0)).trans hx0; have hx3 := World.block_lt_of_cell? w1 _ hx2)
      have hg0 : (w1.alloc (.cells Z 5)).heap[w1.heap.size]? = some (.cells (nums .u8 (zer m)).toArray 5 (0, 0)) := by rw [HZ.out]; exact blk_new _ _
      refine (put_row w1.heap.size m m (zer m) 0 L _ hg0 (by simp [zer]) (by omega) (by omega) (by omega) (by omega) (by omega)).mono ?_
      rintro e w2 ⟨rfl, hg2, hgb2⟩
      clear hg0
      have HB2 := Aside0.mk ((below_alloc hb1 (.cells Z 5)).grown hgb2 (by have := hb1.size; simp; omega) (by intro k hk; cases hk; exact hb1.size))
      clear hx2 hx3
      have hbld : ((zer m).set (0 : Int).toNat (L / 256)).set ((0 : Int).toNat + 1) (L % 256) = bld m L [] := by
        rw [bld_nil _ _ (by omega), show m = (m - 2) + 1 + 1 by omega]
        simp [zer, twoL, List.replicate_succ]
      rw [hbld] at hg2
      have HG2 := Aside0.mk hg2
      obtain ⟨g, hgg⟩ : ∃ g, w1.heap.size = g := ⟨_, rfl⟩
      rw [hgg] at HG2
      have hgl : w.heap.size ≤ g := by rw [← hgg]; exact hb1.size
      simp only [hgg]
      clear hgb2 hbld hg2 hgg hmk hb1
      go_wp2
      go_loopw [7, 32] (fun v7 v32 wr => ∃ i : Nat, i ≤ l1.length ∧ v7 = .int .i64 ((m : Int) - (bytesL (l1.take i) : Int)) ∧ v32 = .int .i64 (i : Int) ∧
          Aside0 (wr.heap[g]? = some (.cells (nums .u8 (bld m L (l1.take i))).toArray 5 (0, 0))) ∧ Aside0 (Below w.heap.size w wr))
        (fun _ v32 _ => l1.length - (intOf v32).toNat)
      case atStart => exact ⟨0, by omega, by simp [bytesL], by simp, by simpa using HG2, HB2⟩
      case round =>
        clear HG2 HB2
        obtain ⟨i, hi, rfl, rfl, HG, HB⟩ := hrel
        by_cases hlt : i < l1.length
        · obtain ⟨hnt, hct⟩ := needs_take HCL.out i hlt
          obtain ⟨P, q, hP1, hP2, hP3, hP4⟩ := bld_step (N := m) (n := L) hct (by rw [HN.out] at hnt; omega)
          have hci := hct.append.2.1.head
          obtain ⟨ad2, e2, hy0, hy1⟩ := at_T45 HR.out (i : Int) (by omega) (by omega)
          cases e2
          rw [rd_get l1 i hlt] at hy0 hy1
          replace hy0 := (HB.out.cell (World.block_lt_of_cell? w _ hy0)).trans hy0
          replace hy1 := (HB.out.cell (World.block_lt_of_cell? w _ hy1)).trans hy1
          simp only [Int.toNat_natCast] at hy0 hy1
          have hbt := bytesL_take_succ l1 i hlt
          have HBT := Aside0.mk hbt
          have HT := Aside0.mk (take_snoc l1 i hlt)
          obtain ⟨X, hX⟩ : ∃ X, l1[i] = X := ⟨_, rfl⟩
          rw [hX] at hP1 hP2 hP3 hP4 hci hy0 hy1 HBT HT
          obtain ⟨B, hB⟩ : ∃ B, bytesL (l1.take i) = B := ⟨_, rfl⟩
          rw [hB] at hP2 hP4 HBT
          simp only [hB]
          rw [hP3] at HG
          have HBB0 := Aside0.mk hB
          have HP1 := Aside0.mk hP1
          have HP4 := Aside0.mk hP4
          have hPl : (P.length : Int) = 4 * X.f0 - 2 := by omega
          have hq : (P.length : Int) + 4 + q + X.f1.size + B = m := by omega
          have HPL := Aside0.mk hPl
          have HQ := Aside0.mk hq
          have hb1 : 4 * X.f0 + 2 + X.f1.size + B ≤ m := by omega
          have hb2 : (0 : Int) < X.f1.size := by omega
          have hB0 : (0 : Int) ≤ B := by omega
          obtain ⟨hx1, hx2, hx3⟩ := hci
          clear hbt hnt hct hP1 hP2 hP3 hP4 hX hB hPl hq
          go_wp2
          obtain ⟨T, hT⟩ : ∃ T : Nat, (m : Int) - B - X.f1.size = T := ⟨((m : Int) - B - X.f1.size).toNat, by omega⟩
          rw [hT]
          have HT2 := Aside0.mk hT
          have hTm : (T : Int) + X.f1.size ≤ m := by omega
          have hT0 : 4 * X.f0 + 2 ≤ (T : Int) := by omega
          clear hT hb1
          obtain ⟨b, hb⟩ : ∃ b, wr.heap.size = b := ⟨_, rfl⟩
          have hgb : g < b := by rw [← hb]; exact blk_lt HG.out
          obtain ⟨W, hW⟩ : ∃ W, wr.alloc (.cells #[.int .i64 X.f0, .string X.f1] 45) = W := ⟨_, rfl⟩
          have hbb : W.heap[b]? = some (.cells #[.int .i64 X.f0, .string X.f1] 45 (0, 0)) := by rw [← hW, ← hb]; exact blk_new _ _
          have hG2 := blk_alloc HG.out (.cells #[.int .i64 X.f0, .string X.f1] 45)
          rw [hW] at hG2
          have HG2 := Aside0.mk hG2
          have HB2 := Aside0.mk (show Below w.heap.size w W by rw [← hW]; exact below_alloc HB.out _)
          have hc0 := blk_cell hbb 0
          have hc1 := blk_cell hbb 1
          simp only [List.getElem?_toArray, List.getElem?_cons_zero, List.getElem?_cons_succ] at hc0 hc1
          simp only [hb, hW]
          have HBB := Aside0.mk hbb
          clear hb hW hbb HG HB hy0 hy1 hG2
          have hsl := cut_own (P := Try.prog) 27 5 Try.underlying27 (by kernel_rfl) g m T (by omega)
          go_still_tail 5, (by kernel_rfl)
          clear hsl hc0 hc1
          have hbs : (P ++ (zer 4 ++ (zer q ++ (zer X.f1.size ++ (foldB m (l1.take i)).2)))).length = m := by
            have h1 := HP1.out
            have h2 := HQ.out
            have h5 := HBB0.out
            have h3 := (foldB_len (N := m) (show CellsOk (l1.take i) from (by have h4 := HCL.out; rw [← List.take_append_drop i l1] at h4; exact h4.append.1))).2
            simp only [List.length_append, zer, List.length_replicate]
            omega
          have HBS := Aside0.mk hbs
          refine wpList_copy_str rfl (.tmp 43) (.tmp 45) 27 9 rfl 5 Try.underlying27 (by kernel_rfl) g T (m - T) (m - T) rfl X.f1 rfl _ 5 HG2.out (by omega) (by rw [hbs]; omega) ?_
          intro w3 HG3 hgb3
          have HB3 := Aside0.mk ((show Below w.heap.size w _ from HB2.out.drew).grown hgb3.out HB2.out.size (by intro k hk; cases hk; exact hgl))
          have hbb3 := (hgb3.out.block b (blk_lt HBB.out) (by intro e; cases e; omega)).trans HBB.out
          have hc0 := blk_cell hbb3 0
          have hc1 := blk_cell hbb3 1
          simp only [List.getElem?_toArray, List.getElem?_cons_zero, List.getElem?_cons_succ] at hc0 hc1
          have HBB3 := Aside0.mk hbb3
          clear hbb3 hgb3 HG2 HB2 HBB hbs
          -- the row behind the copy
          have hs1 : splice (P ++ (zer 4 ++ (zer q ++ (zer X.f1.size ++ (foldB m (l1.take i)).2)))) T (bytesOf X.f1) = P ++ (zer 4 ++ (zer q ++ (bytesOf X.f1 ++ (foldB m (l1.take i)).2))) := by
            have h1 : (P ++ (zer 4 ++ zer q)).length = T := by
              have h1 := HP1.out
              have h2 := HQ.out
              have h5 := HT2.out
              simp only [List.length_append, zer, List.length_replicate]
              omega
            have h2 := splice_at (P ++ (zer 4 ++ zer q)) (zer X.f1.size) (foldB m (l1.take i)).2 (bytesOf X.f1) (by rw [bytesOf_length, zer, List.length_replicate])
            rw [h1] at h2
            simpa [List.append_assoc] using h2
          have hG3 := HG3.out
          rw [hs1] at hG3
          clear hs1 HG3
          have hlen3 : (P ++ (zer 4 ++ (zer q ++ (bytesOf X.f1 ++ (foldB m (l1.take i)).2)))).length = m := by
            have h1 := HBS.out
            simp only [List.length_append, zer, List.length_replicate, bytesOf_length] at h1 ⊢
            omega
          have HG3 := Aside0.mk hG3
          have HL3 := Aside0.mk hlen3
          clear hG3 hlen3
          go_wp2_with fail
          have hat : (2 + 4 * (X.f0 - 1)).toNat = P.length := by have h1 := HP1.out; omega
          have HAT := Aside0.mk hat
          clear hat
          refine (put_row g m m _ (2 + 4 * (X.f0 - 1)) T w3 HG3.out HL3.out (by omega) (by omega) (by omega) (by omega) (by omega)).mono ?_
          rintro e w4 ⟨rfl, hG4, hgb4⟩
          rw [HAT.out, show zer 4 = (0 : Int) :: 0 :: [0, 0] from rfl] at hG4
          simp only [List.cons_append, List.nil_append] at hG4
          rw [set2_at _ _ _ _ _ _ _ rfl] at hG4
          have HB4 := Aside0.mk (HB3.out.grown hgb4 HB3.out.size (by intro k hk; cases hk; exact hgl))
          have hbb4 := (hgb4.block b (blk_lt HBB3.out) (by intro e; cases e; omega)).trans HBB3.out
          have hc0 := blk_cell hbb4 0
          have hc1 := blk_cell hbb4 1
          simp only [List.getElem?_toArray, List.getElem?_cons_zero, List.getElem?_cons_succ] at hc0 hc1
          have HG4 := Aside0.mk hG4
          have HBB4 := Aside0.mk hbb4
          have hlen4 : (P ++ ((T : Int) / 256 :: (T : Int) % 256 :: 0 :: 0 :: (zer q ++ (bytesOf X.f1 ++ (foldB m (l1.take i)).2)))).length = m := by
            have h1 := HL3.out
            simp only [List.length_append, zer, List.length_replicate, bytesOf_length, List.length_cons] at h1 ⊢
            omega
          have HL4 := Aside0.mk hlen4
          clear hG4 hgb4 hbb4 hlen4 HG3 HL3 HB3
          go_wp2_with fail
          have hat2 : (2 + 4 * (X.f0 - 1) + 2).toNat = P.length + 2 := by have h1 := HAT.out; omega
          have HAT2 := Aside0.mk hat2
          clear hat2
          refine (put_row g m m _ (2 + 4 * (X.f0 - 1) + 2) X.f1.size w4 HG4.out HL4.out (by omega) (by omega) (by omega) (by omega) (by omega)).mono ?_
          rintro e w5 ⟨rfl, hG5, hgb5⟩
          have e5 : P ++ ((T : Int) / 256 :: (T : Int) % 256 :: 0 :: 0 :: (zer q ++ (bytesOf X.f1 ++ (foldB m (l1.take i)).2))) = (P ++ [(T : Int) / 256, (T : Int) % 256]) ++ (0 :: 0 :: (zer q ++ (bytesOf X.f1 ++ (foldB m (l1.take i)).2))) := by simp
          rw [HAT2.out, e5, set2_at _ _ _ _ _ _ _ (by simp)] at hG5
          have e6 : (P ++ [(T : Int) / 256, (T : Int) % 256]) ++ ((X.f1.size : Int) / 256 :: (X.f1.size : Int) % 256 :: (zer q ++ (bytesOf X.f1 ++ (foldB m (l1.take i)).2))) = bld m L (l1.take (i + 1)) := by
            have h1 := HT2.out
            rw [HT.out, HP4.out, show (m : Int) - ((B + X.f1.size : Nat) : Int) = T by omega]
            simp [ent4]
          rw [e6] at hG5
          have HB5 := Aside0.mk (HB4.out.grown hgb5 HB4.out.size (by intro k hk; cases hk; exact hgl))
          have HG5 := Aside0.mk hG5
          clear hG5 hgb5 e5 e6 hc0 hc1
          have hbn : ((m : Int) - (bytesL (l1.take (i + 1)) : Int)) = T := by rw [HBT.out]; have h1 := HT2.out; omega
          have HBN := Aside0.mk hbn
          clear hbn
          go_wp2
          go_roundw
          case rel => exact ⟨i + 1, by omega, by rw [HBN.out], by go_num, HG5, HB5⟩
          case measure => simp [intOf]; omega
        · have hil : l1.take i = l1 := List.take_of_length_le (by omega)
          have hG := HG.out
          rw [hil] at hG
          have hnl : needsL l1 ≤ (m : Int) := by rw [HN.out]; exact hbig
          have hcv := conv_row (P := Try.prog) 27 9 5 Try.underlying27 Try.underlying5 Try.underlying9 g m m (bld m L l1) 5 wr hG (bld_length HCL.out hnl)
          clear hil hG hnl
          go_wp2
          go_ret2
          exact ⟨by rw [builtL, HL2.out, Int.toNat_natCast]; rfl, HB.out⟩
    · obtain rfl : l1 = [] := List.eq_nil_of_length_eq_zero (by omega)
      go_enter Try.func54, Try.ntmps54
      go_wp2_with (go_at_call 102; refine (page_needs.calls A1 c1 [] nd _ HR.out HC.out (by rw [HF.out, HN.out])).mono ?_; rintro e w1 ⟨rfl, hb1⟩)
      go_loopw [7, 32] (fun v7 v32 wr => v7 = .int .i64 (m : Int) ∧ v32 = .int .i64 0 ∧ wr = w1.alloc (.cells Z 5)) (fun _ _ _ => 0)
      case atStart => exact ⟨rfl, rfl, rfl⟩
      case round =>
        obtain ⟨rfl, rfl, rfl⟩ := hrel
        have hg0 : (w1.alloc (.cells Z 5)).heap[w1.heap.size]? = some (.cells (nums .u8 (zer m)).toArray 5 (0, 0)) := by rw [HZ.out]; exact blk_new _ _
        have hcv := conv_row (P := Try.prog) 27 9 5 Try.underlying27 Try.underlying5 Try.underlying9 w1.heap.size m m (zer m) 5 _ hg0 (by simp [zer])
        clear hg0
        go_wp2
        go_ret2
        refine ⟨?_, below_alloc hb1 _⟩
        have e : builtL m [] = zer m := by
          rw [builtL, bld_nil _ _ (by omega), show m = (m - 2) + 1 + 1 by omega]
          simp [zer, twoL, lastL, List.replicate_succ]
        rw [Int.toNat_natCast, e]; rfl

end Go.Proofs.Ytemglmcddaeedaa.PA

namespace Go.Proofs.Ytemglmcddaeedaa.PA
open Go.RowKit Go.Proofs.YtemglmcddaeedaaW.PrintWords Go.Proofs.YtemglmcddaeedaaW.PrintLast Go.Proofs.YtemglmcddaeedaaW.PrintMore
attribute [local go_sem] max2_int min2_int max_two min_two max_three min_three max_four min_four   -- for this text's walks alone
set_option linter.unusedVariables false
set_option linter.unusedSimpArgs false

/-! ### page_Fill: function 17 -/
def page_Fill.l0 : Nat → Int → List (S45) → List (S45) → Int → Int → Option (ByteArray × Int)
  | 0, _, _, _, _, _ => none
  | k + 1, x0, x1, x8, x9, x10 => if x10 < x9 then (if 0 ≤ x10 then (if x10 < (x8.length : Int) then ((page_line.f ((rd_T45 x8 x10).f0)).bind fun t125 => (if t125 = true then (if ((rd_T45 x8 x10).f1).toList = ([] : List UInt8) then (some ((⟨#[]⟩ : ByteArray), 1)) else (if x10 > 0 then (if 0 ≤ (wrap64 (x10 - 1)) then (if (wrap64 (x10 - 1)) < (x1.length : Int) then (if ((rd_T45 x1 (wrap64 (x10 - 1))).f0) ≥ ((rd_T45 x8 x10).f0) then (some ((⟨#[]⟩ : ByteArray), 1)) else (page_Fill.l0 k x0 x1 x8 x9 (wrap64 (x10 + 1)))) else (none)) else (none)) else (page_Fill.l0 k x0 x1 x8 x9 (wrap64 (x10 + 1))))) else (some ((⟨#[]⟩ : ByteArray), 1)))) else (none)) else (none)) else ((page_size.f x0).bind fun t127 => (if t127 = true then ((page_filled.f x0 x1).bind fun bt128 => (some (bt128.1, bt128.2))) else (some ((⟨#[]⟩ : ByteArray), 7))))
def page_Fill.f (k : Nat) (a0 : Int) (l1 : List (S45)) : Option (ByteArray × Int) := page_Fill.l0 k a0 l1 l1 (l1.length : Int) 0
theorem page_Fill.mono_l : ∀ k, (∀ y0 y1 y2 y3 y4, LeO (page_Fill.l0 k y0 y1 y2 y3 y4) (page_Fill.l0 (k + 1) y0 y1 y2 y3 y4))
  | 0 => fun _ _ _ _ _ r h => by simp [page_Fill.l0] at h
  | k + 1 => by
    have ih0 := page_Fill.mono_l k
    · intro y0 y1 y2 y3 y4
      unfold page_Fill.l0
      repeat' first
      | (with_reducible exact ih0 _ _ _ _ _)
      | (with_reducible exact LeO.refl _)
      | (with_reducible exact LeO.none _)
      | (with_reducible refine LeO.ite ?_ ?_)
      | (with_reducible refine LeO.bind ?_ (fun _ => ?_))
      | exact ih0 _ _ _ _ _
      | exact LeO.none _
      | refine LeO.ite ?_ ?_
      | refine LeO.bind ?_ (fun _ => ?_)
theorem page_Fill.mono : ∀ a0 a1 k, LeO (page_Fill.f k a0 a1) (page_Fill.f (k + 1) a0 a1) := by
  intro a0 a1 k
  have ih0 := page_Fill.mono_l k
  unfold page_Fill.f
  repeat' first
      | (with_reducible exact ih0 _ _ _ _ _)
      | (with_reducible exact LeO.refl _)
      | (with_reducible exact LeO.none _)
      | (with_reducible refine LeO.ite ?_ ?_)
      | (with_reducible refine LeO.bind ?_ (fun _ => ?_))
      | exact ih0 _ _ _ _ _
      | exact LeO.none _
      | refine LeO.ite ?_ ?_
      | refine LeO.bind ?_ (fun _ => ?_)
set_option maxHeartbeats 8000000 in
set_option maxRecDepth 100000 in
theorem page_Fill.calls (k : Nat) (a0 : Int) (A1 : Option Addr) (c1 : Nat) (l1 : List (S45)) (r1 : ByteArray) (r2 : Int) (w : World) (hr1 : Kd.C k45 w A1 l1.length l1) (hc1 : l1.length ≤ c1) (h : page_Fill.f k a0 l1 = some (r1, r2)) :
    Calls Try.prog 17 #[.int .i64 a0, .slice A1 l1.length c1] w fun e w' => e = .returned (.tuple #[.string r1, .int .i64 r2]) ∧ Below w.heap.size w w' := by
  have hu45 := Try.underlying45
  have HR1 := Aside0.mk hr1
  have HC1 := Aside0.mk hc1
  clear hr1 hc1
  have HB := Aside0.mk (Below.refl w.heap.size w)
  have H : (page_Fill.l0 k a0 l1 l1 (l1.length : Int) 0) = some (r1, r2) := h
  clear h
  have H' := Aside0.mk H
  clear H
  go_enter Try.func17, Try.ntmps17
  go_wp2
  repeat (go_quiet (fail); try go_wp2)
  go_loopg [10] k (fun kq v10 w' => ∃ (x10_1 : Int), v10 = .int .i64 x10_1 ∧ Aside0 (page_Fill.l0 kq a0 l1 l1 (l1.length : Int) x10_1 = some (r1, r2)) ∧ Aside0 (kq ≤ k) ∧ Aside0 (Below w.heap.size w w'))
  case atStart => exact ⟨(0), (by first | rfl | (simp; done) | (simp [*]; done)), H', ⟨Nat.le_refl _⟩, ⟨by repeat (first | (with_reducible first | exact HB.out | apply below_alloc | apply pw_below_drewN | apply below_drew1) | exact HB.out)⟩⟩
  case round =>
    clear H'
    try clear c1
    try clear p2
    obtain ⟨x10_1, rfl, HA, HK1, HB⟩ := hrel
    cases gk with
    | zero => exact absurd HA.out (by simp [page_Fill.l0])
    | succ k1 =>
      have H := HA.out
      clear HA
      simp only [page_Fill.l0] at H
      by_cases c3 : x10_1 < (l1.length : Int)
      · rw [if_pos c3] at H
        have c3b0 : decide (x10_1 < (l1.length : Int)) = true := decide_eq_true c3
        clear c3
        by_cases c4 : 0 ≤ x10_1
        · rw [if_pos c4] at H
          have c4b0 : decide (0 ≤ x10_1) = true := decide_eq_true c4
          clear c4
          by_cases c5 : x10_1 < (l1.length : Int)
          · rw [if_pos c5] at H
            have c5b0 : decide (x10_1 < (l1.length : Int)) = true := decide_eq_true c5
            clear c5
            replace H := Option.bind_eq_some_iff.mp H
            obtain ⟨t125, A60, H⟩ := H
            replace H : (if t125 = true then (if ((rd_T45 l1 x10_1).f1).toList = ([] : List UInt8) then (some ((⟨#[]⟩ : ByteArray), 1)) else (if x10_1 > 0 then (if 0 ≤ (wrap64 (x10_1 - 1)) then (if (wrap64 (x10_1 - 1)) < (l1.length : Int) then (if ((rd_T45 l1 (wrap64 (x10_1 - 1))).f0) ≥ ((rd_T45 l1 x10_1).f0) then (some ((⟨#[]⟩ : ByteArray), 1)) else (page_Fill.l0 k1 a0 l1 l1 (l1.length : Int) (wrap64 (x10_1 + 1)))) else (none)) else (none)) else (page_Fill.l0 k1 a0 l1 l1 (l1.length : Int) (wrap64 (x10_1 + 1))))) else (some ((⟨#[]⟩ : ByteArray), 1))) = some (r1, r2) := H
            have A6 := Aside0.mk A60
            clear A60
            by_cases c7 : t125 = true
            · subst c7
              have H1 : (if ((rd_T45 l1 x10_1).f1).toList = ([] : List UInt8) then (some ((⟨#[]⟩ : ByteArray), 1)) else (if x10_1 > 0 then (if 0 ≤ (wrap64 (x10_1 - 1)) then (if (wrap64 (x10_1 - 1)) < (l1.length : Int) then (if ((rd_T45 l1 (wrap64 (x10_1 - 1))).f0) ≥ ((rd_T45 l1 x10_1).f0) then (some ((⟨#[]⟩ : ByteArray), 1)) else (page_Fill.l0 k1 a0 l1 l1 (l1.length : Int) (wrap64 (x10_1 + 1)))) else (none)) else (none)) else (page_Fill.l0 k1 a0 l1 l1 (l1.length : Int) (wrap64 (x10_1 + 1))))) = some (r1, r2) := by rw [if_pos rfl] at H; exact H
              clear H
              have H := H1
              clear H1
              by_cases c8 : ((rd_T45 l1 x10_1).f1).toList = ([] : List UInt8)
              · rw [if_pos c8] at H
                have c8b0 : (((rd_T45 l1 x10_1).f1).toList == ([] : List UInt8)) = true := beq_iff_eq.mpr c8
                have c8b1 : (((rd_T45 l1 x10_1).f1).toList != ([] : List UInt8)) = false := bne_eq_false_iff_eq.mpr c8
                clear c8
                simp only [Option.some.injEq, Prod.mk.injEq] at H
                obtain ⟨rfl, rfl⟩ := H
                have p123 : 0 ≤ (x10_1 : Int) := of_decide_eq_true (by first | (with_reducible assumption) | assumption)
                have q123 : x10_1 < (l1.length : Int) := of_decide_eq_true (by first | (with_reducible assumption) | assumption)
                obtain ⟨ad123, e123, hx123_0, hx123_1⟩ := at_T45 HR1.out x10_1 p123 q123
                cases e123
                replace hx123_0 := (HB.out.cell (World.block_lt_of_cell? w _ hx123_0)).trans hx123_0
                replace hx123_1 := (HB.out.cell (World.block_lt_of_cell? w _ hx123_1)).trans hx123_1
                replace p123 := eq_true p123
                replace q123 := eq_true q123
                go_wp2_with (first | ((with_reducible refine gate_dst (N := 7) rfl ?_); refine box_event ?hg (N := 7) ?hd (cs := #[.int .i64 0, .string (⟨#[]⟩ : ByteArray)]) (t := 45) ?hr ?_; (case hd => rfl); (case hg => rfl); (case hr => first | (go_simp; done) | (go_simp; rfl)); intro gb124 hg w9 hbox hb; have n0_ := Aside0.mk (below_step (by repeat (first | (with_reducible first | exact HB.out | apply below_alloc | apply pw_below_drewN | apply below_drew1) | exact HB.out)) hb); have n1_ := Aside0.mk (hbox); have n2_ := Aside0.mk ((by rw [hg]; exact (below_size (by repeat (first | (with_reducible first | exact HB.out | apply below_alloc | apply pw_below_drewN | apply below_drew1) | exact HB.out))) : w.heap.size ≤ gb124)); have n3_ := Aside0.mk ((by rw [hg]; exact (below_size (by repeat (first | (with_reducible first | exact HB.out | apply below_alloc | apply pw_below_drewN | apply below_drew1) | exact HB.out))) : w.heap.size ≤ gb124)); clear HB; have HB := n0_; have BK124 := n1_; have GW124 := n2_; have GE124 := n3_; clear n0_ n1_ n2_ n3_; clear hb hbox hg; have hcz10_0 : w9.cell? ⟨gb124, 0, none⟩ = some (.int .i64 0) := (blk_cell BK124.out 0).trans rfl; have hcz10_1 : w9.cell? ⟨gb124, 1, none⟩ = some (.string (⟨#[]⟩ : ByteArray)) := (blk_cell BK124.out 1).trans rfl; have hfz10_0 := blk_frozen BK124.out 0; have hfz10_1 := blk_frozen BK124.out 1) | (go_at_call 52; (with_reducible refine (page_line.calls ((rd_T45 l1 x10_1).f0) true _ A6.out).mono ?_); rintro e w' ⟨rfl, ⟨nd, rfl⟩⟩; (try first | exact ⟨rfl, _, World.drewN_drewN _ _ _⟩ | exact ⟨rfl, _, Eq.trans (World.drewN_drewN _ _ _) (congrArg (World.drewN _) (Nat.add_assoc _ _ _))⟩)))
                repeat (go_quiet (first | ((with_reducible refine gate_dst (N := 7) rfl ?_); refine box_event ?hg (N := 7) ?hd (cs := #[.int .i64 0, .string (⟨#[]⟩ : ByteArray)]) (t := 45) ?hr ?_; (case hd => rfl); (case hg => rfl); (case hr => first | (go_simp; done) | (go_simp; rfl)); intro gb124 hg w9 hbox hb; have n0_ := Aside0.mk (below_step (by repeat (first | (with_reducible first | exact HB.out | apply below_alloc | apply pw_below_drewN | apply below_drew1) | exact HB.out)) hb); have n1_ := Aside0.mk (hbox); have n2_ := Aside0.mk ((by rw [hg]; exact (below_size (by repeat (first | (with_reducible first | exact HB.out | apply below_alloc | apply pw_below_drewN | apply below_drew1) | exact HB.out))) : w.heap.size ≤ gb124)); have n3_ := Aside0.mk ((by rw [hg]; exact (below_size (by repeat (first | (with_reducible first | exact HB.out | apply below_alloc | apply pw_below_drewN | apply below_drew1) | exact HB.out))) : w.heap.size ≤ gb124)); clear HB; have HB := n0_; have BK124 := n1_; have GW124 := n2_; have GE124 := n3_; clear n0_ n1_ n2_ n3_; clear hb hbox hg; have hcz10_0 : w9.cell? ⟨gb124, 0, none⟩ = some (.int .i64 0) := (blk_cell BK124.out 0).trans rfl; have hcz10_1 : w9.cell? ⟨gb124, 1, none⟩ = some (.string (⟨#[]⟩ : ByteArray)) := (blk_cell BK124.out 1).trans rfl; have hfz10_0 := blk_frozen BK124.out 0; have hfz10_1 := blk_frozen BK124.out 1) | (go_at_call 52; (with_reducible refine (page_line.calls ((rd_T45 l1 x10_1).f0) true _ A6.out).mono ?_); rintro e w' ⟨rfl, ⟨nd, rfl⟩⟩; (try first | exact ⟨rfl, _, World.drewN_drewN _ _ _⟩ | exact ⟨rfl, _, Eq.trans (World.drewN_drewN _ _ _) (congrArg (World.drewN _) (Nat.add_assoc _ _ _))⟩))); try go_wp2_with (first | ((with_reducible refine gate_dst (N := 7) rfl ?_); refine box_event ?hg (N := 7) ?hd (cs := #[.int .i64 0, .string (⟨#[]⟩ : ByteArray)]) (t := 45) ?hr ?_; (case hd => rfl); (case hg => rfl); (case hr => first | (go_simp; done) | (go_simp; rfl)); intro gb124 hg w9 hbox hb; have n0_ := Aside0.mk (below_step (by repeat (first | (with_reducible first | exact HB.out | apply below_alloc | apply pw_below_drewN | apply below_drew1) | exact HB.out)) hb); have n1_ := Aside0.mk (hbox); have n2_ := Aside0.mk ((by rw [hg]; exact (below_size (by repeat (first | (with_reducible first | exact HB.out | apply below_alloc | apply pw_below_drewN | apply below_drew1) | exact HB.out))) : w.heap.size ≤ gb124)); have n3_ := Aside0.mk ((by rw [hg]; exact (below_size (by repeat (first | (with_reducible first | exact HB.out | apply below_alloc | apply pw_below_drewN | apply below_drew1) | exact HB.out))) : w.heap.size ≤ gb124)); clear HB; have HB := n0_; have BK124 := n1_; have GW124 := n2_; have GE124 := n3_; clear n0_ n1_ n2_ n3_; clear hb hbox hg; have hcz10_0 : w9.cell? ⟨gb124, 0, none⟩ = some (.int .i64 0) := (blk_cell BK124.out 0).trans rfl; have hcz10_1 : w9.cell? ⟨gb124, 1, none⟩ = some (.string (⟨#[]⟩ : ByteArray)) := (blk_cell BK124.out 1).trans rfl; have hfz10_0 := blk_frozen BK124.out 0; have hfz10_1 := blk_frozen BK124.out 1) | (go_at_call 52; (with_reducible refine (page_line.calls ((rd_T45 l1 x10_1).f0) true _ A6.out).mono ?_); rintro e w' ⟨rfl, ⟨nd, rfl⟩⟩; (try first | exact ⟨rfl, _, World.drewN_drewN _ _ _⟩ | exact ⟨rfl, _, Eq.trans (World.drewN_drewN _ _ _) (congrArg (World.drewN _) (Nat.add_assoc _ _ _))⟩))))
                go_ret2
                exact ⟨by first | rfl | (simp [errW_none, errW_some] <;> rfl) | (simp [*, errW_none, errW_some] <;> rfl), by repeat (first | (with_reducible first | exact HB.out | apply below_alloc | apply pw_below_drewN | apply below_drew1 | refine below_set ?_ GE124.out) | exact HB.out)⟩
              · rw [if_neg c8] at H
                have c8b0 : (((rd_T45 l1 x10_1).f1).toList == ([] : List UInt8)) = false := beq_eq_false_iff_ne.mpr c8
                have c8b1 : (((rd_T45 l1 x10_1).f1).toList != ([] : List UInt8)) = true := bne_iff_ne.mpr c8
                by_cases c11 : x10_1 > 0
                · rw [if_pos c11] at H
                  have c11b0 : decide (0 < x10_1) = true := decide_eq_true c11
                  clear c11
                  obtain ⟨ji12, hji12⟩ : ∃ j_ : Int, (wrap64 (x10_1 - 1)) = j_ := ⟨_, rfl⟩
                  replace H : (if 0 ≤ (ji12) then (if (ji12) < (l1.length : Int) then (if ((rd_T45 l1 (ji12)).f0) ≥ ((rd_T45 l1 x10_1).f0) then (some ((⟨#[]⟩ : ByteArray), 1)) else (page_Fill.l0 k1 a0 l1 l1 (l1.length : Int) (wrap64 (x10_1 + 1)))) else (none)) else (none)) = some (r1, r2) := by first | (rw [hji12] at H; exact H) | (simp only [hji12] at H ⊢; exact H)
                  (try rw [hji12] at A6)
                  have hji12w : (IntKind.i64.wrap (x10_1 - 1)) = ji12 := (i64_w _).trans hji12
                  by_cases c13 : 0 ≤ (ji12)
                  · rw [if_pos c13] at H
                    have c13b0 : decide (0 ≤ (ji12)) = true := decide_eq_true c13
                    clear c13
                    by_cases c14 : (ji12) < (l1.length : Int)
                    · rw [if_pos c14] at H
                      have c14b0 : decide ((ji12) < (l1.length : Int)) = true := decide_eq_true c14
                      clear c14
                      by_cases c15 : ((rd_T45 l1 (ji12)).f0) ≥ ((rd_T45 l1 x10_1).f0)
                      · rw [if_pos c15] at H
                        have c15b0 : decide (((rd_T45 l1 x10_1).f0) ≤ ((rd_T45 l1 (ji12)).f0)) = true := decide_eq_true c15
                        clear c15
                        simp only [Option.some.injEq, Prod.mk.injEq] at H
                        obtain ⟨rfl, rfl⟩ := H
                        have p123 : 0 ≤ (x10_1 : Int) := of_decide_eq_true (by first | (with_reducible assumption) | assumption)
                        have q123 : x10_1 < (l1.length : Int) := of_decide_eq_true (by first | (with_reducible assumption) | assumption)
                        obtain ⟨ad123, e123, hx123_0, hx123_1⟩ := at_T45 HR1.out x10_1 p123 q123
                        cases e123
                        replace hx123_0 := (HB.out.cell (World.block_lt_of_cell? w _ hx123_0)).trans hx123_0
                        replace hx123_1 := (HB.out.cell (World.block_lt_of_cell? w _ hx123_1)).trans hx123_1
                        replace p123 := eq_true p123
                        replace q123 := eq_true q123
                        go_wp2_with (first | ((with_reducible refine gate_dst (N := 7) rfl ?_); refine box_event ?hg (N := 7) ?hd (cs := #[.int .i64 0, .string (⟨#[]⟩ : ByteArray)]) (t := 45) ?hr ?_; (case hd => rfl); (case hg => rfl); (case hr => first | (go_simp; done) | (go_simp; rfl)); intro gb124 hg w16 hbox hb; have n0_ := Aside0.mk (below_step (by repeat (first | (with_reducible first | exact HB.out | apply below_alloc | apply pw_below_drewN | apply below_drew1) | exact HB.out)) hb); have n1_ := Aside0.mk (hbox); have n2_ := Aside0.mk ((by rw [hg]; exact (below_size (by repeat (first | (with_reducible first | exact HB.out | apply below_alloc | apply pw_below_drewN | apply below_drew1) | exact HB.out))) : w.heap.size ≤ gb124)); have n3_ := Aside0.mk ((by rw [hg]; exact (below_size (by repeat (first | (with_reducible first | exact HB.out | apply below_alloc | apply pw_below_drewN | apply below_drew1) | exact HB.out))) : w.heap.size ≤ gb124)); clear HB; have HB := n0_; have BK124 := n1_; have GW124 := n2_; have GE124 := n3_; clear n0_ n1_ n2_ n3_; clear hb hbox hg; have hcz17_0 : w16.cell? ⟨gb124, 0, none⟩ = some (.int .i64 0) := (blk_cell BK124.out 0).trans rfl; have hcz17_1 : w16.cell? ⟨gb124, 1, none⟩ = some (.string (⟨#[]⟩ : ByteArray)) := (blk_cell BK124.out 1).trans rfl; have hfz17_0 := blk_frozen BK124.out 0; have hfz17_1 := blk_frozen BK124.out 1) | (go_at_call 52; (with_reducible refine (page_line.calls ((rd_T45 l1 x10_1).f0) true _ A6.out).mono ?_); rintro e w' ⟨rfl, ⟨nd, rfl⟩⟩; (try first | exact ⟨rfl, _, World.drewN_drewN _ _ _⟩ | exact ⟨rfl, _, Eq.trans (World.drewN_drewN _ _ _) (congrArg (World.drewN _) (Nat.add_assoc _ _ _))⟩); have p126 : 0 ≤ ((ji12) : Int) := of_decide_eq_true (by first | (with_reducible assumption) | assumption); have q126 : (ji12) < (l1.length : Int) := of_decide_eq_true (by first | (with_reducible assumption) | assumption); obtain ⟨ad126, e126, hx126_0, hx126_1⟩ := at_T45 HR1.out (ji12) p126 q126; obtain rfl : ad123 = ad126 := (by injection e126); have hn126_0 : ad123.block ≠ gb124 := Nat.ne_of_lt (Nat.lt_of_lt_of_le (by have := World.block_lt_of_cell? _ _ hx126_0; first | rwa [add_block] at this | exact this) GW124.out); have hn126_1 : ad123.block ≠ gb124 := Nat.ne_of_lt (Nat.lt_of_lt_of_le (by have := World.block_lt_of_cell? _ _ hx126_0; first | rwa [add_block] at this | exact this) GW124.out); replace hx126_0 := (HB.out.cell (World.block_lt_of_cell? w _ hx126_0)).trans hx126_0; replace hx126_1 := (HB.out.cell (World.block_lt_of_cell? w _ hx126_1)).trans hx126_1; replace hx126_0 := (cell_far (p := ⟨gb124, 0, none⟩) (by first | (rw [add_block]; exact hn126_0) | (show (Addr.add _ _).block ≠ _; rw [add_block]; exact hn126_0) | exact hn126_0) (.int .i64 ((rd_T45 l1 x10_1).f0))).trans hx126_0; replace hx126_1 := (cell_far (p := ⟨gb124, 0, none⟩) (by first | (rw [add_block]; exact hn126_0) | (show (Addr.add _ _).block ≠ _; rw [add_block]; exact hn126_0) | exact hn126_0) (.int .i64 ((rd_T45 l1 x10_1).f0))).trans hx126_1; replace hx126_0 := (cell_far (p := ⟨gb124, 1, none⟩) (by first | (rw [add_block]; exact hn126_1) | (show (Addr.add _ _).block ≠ _; rw [add_block]; exact hn126_1) | exact hn126_1) (.string ((rd_T45 l1 x10_1).f1))).trans hx126_0; replace hx126_1 := (cell_far (p := ⟨gb124, 1, none⟩) (by first | (rw [add_block]; exact hn126_1) | (show (Addr.add _ _).block ≠ _; rw [add_block]; exact hn126_1) | exact hn126_1) (.string ((rd_T45 l1 x10_1).f1))).trans hx126_1; (try have hy126_0 := fun (n_ : Nat) => (show ((((w16.drewN n_).setCell ⟨gb124, 0, none⟩ (.int .i64 ((rd_T45 l1 x10_1).f0))).setCell ⟨gb124, 1, none⟩ (.string ((rd_T45 l1 x10_1).f1)))).cell? _ = some _ from hx126_0)); (try have hy126_1 := fun (n_ : Nat) => (show ((((w16.drewN n_).setCell ⟨gb124, 0, none⟩ (.int .i64 ((rd_T45 l1 x10_1).f0))).setCell ⟨gb124, 1, none⟩ (.string ((rd_T45 l1 x10_1).f1)))).cell? _ = some _ from hx126_1)); clear hn126_0; clear hn126_1; replace p126 := eq_true p126; replace q126 := eq_true q126))
                        repeat (go_quiet (first | ((with_reducible refine gate_dst (N := 7) rfl ?_); refine box_event ?hg (N := 7) ?hd (cs := #[.int .i64 0, .string (⟨#[]⟩ : ByteArray)]) (t := 45) ?hr ?_; (case hd => rfl); (case hg => rfl); (case hr => first | (go_simp; done) | (go_simp; rfl)); intro gb124 hg w16 hbox hb; have n0_ := Aside0.mk (below_step (by repeat (first | (with_reducible first | exact HB.out | apply below_alloc | apply pw_below_drewN | apply below_drew1) | exact HB.out)) hb); have n1_ := Aside0.mk (hbox); have n2_ := Aside0.mk ((by rw [hg]; exact (below_size (by repeat (first | (with_reducible first | exact HB.out | apply below_alloc | apply pw_below_drewN | apply below_drew1) | exact HB.out))) : w.heap.size ≤ gb124)); have n3_ := Aside0.mk ((by rw [hg]; exact (below_size (by repeat (first | (with_reducible first | exact HB.out | apply below_alloc | apply pw_below_drewN | apply below_drew1) | exact HB.out))) : w.heap.size ≤ gb124)); clear HB; have HB := n0_; have BK124 := n1_; have GW124 := n2_; have GE124 := n3_; clear n0_ n1_ n2_ n3_; clear hb hbox hg; have hcz17_0 : w16.cell? ⟨gb124, 0, none⟩ = some (.int .i64 0) := (blk_cell BK124.out 0).trans rfl; have hcz17_1 : w16.cell? ⟨gb124, 1, none⟩ = some (.string (⟨#[]⟩ : ByteArray)) := (blk_cell BK124.out 1).trans rfl; have hfz17_0 := blk_frozen BK124.out 0; have hfz17_1 := blk_frozen BK124.out 1) | (go_at_call 52; (with_reducible refine (page_line.calls ((rd_T45 l1 x10_1).f0) true _ A6.out).mono ?_); rintro e w' ⟨rfl, ⟨nd, rfl⟩⟩; (try first | exact ⟨rfl, _, World.drewN_drewN _ _ _⟩ | exact ⟨rfl, _, Eq.trans (World.drewN_drewN _ _ _) (congrArg (World.drewN _) (Nat.add_assoc _ _ _))⟩); have p126 : 0 ≤ ((ji12) : Int) := of_decide_eq_true (by first | (with_reducible assumption) | assumption); have q126 : (ji12) < (l1.length : Int) := of_decide_eq_true (by first | (with_reducible assumption) | assumption); obtain ⟨ad126, e126, hx126_0, hx126_1⟩ := at_T45 HR1.out (ji12) p126 q126; obtain rfl : ad123 = ad126 := (by injection e126); have hn126_0 : ad123.block ≠ gb124 := Nat.ne_of_lt (Nat.lt_of_lt_of_le (by have := World.block_lt_of_cell? _ _ hx126_0; first | rwa [add_block] at this | exact this) GW124.out); have hn126_1 : ad123.block ≠ gb124 := Nat.ne_of_lt (Nat.lt_of_lt_of_le (by have := World.block_lt_of_cell? _ _ hx126_0; first | rwa [add_block] at this | exact this) GW124.out); replace hx126_0 := (HB.out.cell (World.block_lt_of_cell? w _ hx126_0)).trans hx126_0; replace hx126_1 := (HB.out.cell (World.block_lt_of_cell? w _ hx126_1)).trans hx126_1; replace hx126_0 := (cell_far (p := ⟨gb124, 0, none⟩) (by first | (rw [add_block]; exact hn126_0) | (show (Addr.add _ _).block ≠ _; rw [add_block]; exact hn126_0) | exact hn126_0) (.int .i64 ((rd_T45 l1 x10_1).f0))).trans hx126_0; replace hx126_1 := (cell_far (p := ⟨gb124, 0, none⟩) (by first | (rw [add_block]; exact hn126_0) | (show (Addr.add _ _).block ≠ _; rw [add_block]; exact hn126_0) | exact hn126_0) (.int .i64 ((rd_T45 l1 x10_1).f0))).trans hx126_1; replace hx126_0 := (cell_far (p := ⟨gb124, 1, none⟩) (by first | (rw [add_block]; exact hn126_1) | (show (Addr.add _ _).block ≠ _; rw [add_block]; exact hn126_1) | exact hn126_1) (.string ((rd_T45 l1 x10_1).f1))).trans hx126_0; replace hx126_1 := (cell_far (p := ⟨gb124, 1, none⟩) (by first | (rw [add_block]; exact hn126_1) | (show (Addr.add _ _).block ≠ _; rw [add_block]; exact hn126_1) | exact hn126_1) (.string ((rd_T45 l1 x10_1).f1))).trans hx126_1; (try have hy126_0 := fun (n_ : Nat) => (show ((((w16.drewN n_).setCell ⟨gb124, 0, none⟩ (.int .i64 ((rd_T45 l1 x10_1).f0))).setCell ⟨gb124, 1, none⟩ (.string ((rd_T45 l1 x10_1).f1)))).cell? _ = some _ from hx126_0)); (try have hy126_1 := fun (n_ : Nat) => (show ((((w16.drewN n_).setCell ⟨gb124, 0, none⟩ (.int .i64 ((rd_T45 l1 x10_1).f0))).setCell ⟨gb124, 1, none⟩ (.string ((rd_T45 l1 x10_1).f1)))).cell? _ = some _ from hx126_1)); clear hn126_0; clear hn126_1; replace p126 := eq_true p126; replace q126 := eq_true q126)); try go_wp2_with (first | ((with_reducible refine gate_dst (N := 7) rfl ?_); refine box_event ?hg (N := 7) ?hd (cs := #[.int .i64 0, .string (⟨#[]⟩ : ByteArray)]) (t := 45) ?hr ?_; (case hd => rfl); (case hg => rfl); (case hr => first | (go_simp; done) | (go_simp; rfl)); intro gb124 hg w16 hbox hb; have n0_ := Aside0.mk (below_step (by repeat (first | (with_reducible first | exact HB.out | apply below_alloc | apply pw_below_drewN | apply below_drew1) | exact HB.out)) hb); have n1_ := Aside0.mk (hbox); have n2_ := Aside0.mk ((by rw [hg]; exact (below_size (by repeat (first | (with_reducible first | exact HB.out | apply below_alloc | apply pw_below_drewN | apply below_drew1) | exact HB.out))) : w.heap.size ≤ gb124)); have n3_ := Aside0.mk ((by rw [hg]; exact (below_size (by repeat (first | (with_reducible first | exact HB.out | apply below_alloc | apply pw_below_drewN | apply below_drew1) | exact HB.out))) : w.heap.size ≤ gb124)); clear HB; have HB := n0_; have BK124 := n1_; have GW124 := n2_; have GE124 := n3_; clear n0_ n1_ n2_ n3_; clear hb hbox hg; have hcz17_0 : w16.cell? ⟨gb124, 0, none⟩ = some (.int .i64 0) := (blk_cell BK124.out 0).trans rfl; have hcz17_1 : w16.cell? ⟨gb124, 1, none⟩ = some (.string (⟨#[]⟩ : ByteArray)) := (blk_cell BK124.out 1).trans rfl; have hfz17_0 := blk_frozen BK124.out 0; have hfz17_1 := blk_frozen BK124.out 1) | (go_at_call 52; (with_reducible refine (page_line.calls ((rd_T45 l1 x10_1).f0) true _ A6.out).mono ?_); rintro e w' ⟨rfl, ⟨nd, rfl⟩⟩; (try first | exact ⟨rfl, _, World.drewN_drewN _ _ _⟩ | exact ⟨rfl, _, Eq.trans (World.drewN_drewN _ _ _) (congrArg (World.drewN _) (Nat.add_assoc _ _ _))⟩); have p126 : 0 ≤ ((ji12) : Int) := of_decide_eq_true (by first | (with_reducible assumption) | assumption); have q126 : (ji12) < (l1.length : Int) := of_decide_eq_true (by first | (with_reducible assumption) | assumption); obtain ⟨ad126, e126, hx126_0, hx126_1⟩ := at_T45 HR1.out (ji12) p126 q126; obtain rfl : ad123 = ad126 := (by injection e126); have hn126_0 : ad123.block ≠ gb124 := Nat.ne_of_lt (Nat.lt_of_lt_of_le (by have := World.block_lt_of_cell? _ _ hx126_0; first | rwa [add_block] at this | exact this) GW124.out); have hn126_1 : ad123.block ≠ gb124 := Nat.ne_of_lt (Nat.lt_of_lt_of_le (by have := World.block_lt_of_cell? _ _ hx126_0; first | rwa [add_block] at this | exact this) GW124.out); replace hx126_0 := (HB.out.cell (World.block_lt_of_cell? w _ hx126_0)).trans hx126_0; replace hx126_1 := (HB.out.cell (World.block_lt_of_cell? w _ hx126_1)).trans hx126_1; replace hx126_0 := (cell_far (p := ⟨gb124, 0, none⟩) (by first | (rw [add_block]; exact hn126_0) | (show (Addr.add _ _).block ≠ _; rw [add_block]; exact hn126_0) | exact hn126_0) (.int .i64 ((rd_T45 l1 x10_1).f0))).trans hx126_0; replace hx126_1 := (cell_far (p := ⟨gb124, 0, none⟩) (by first | (rw [add_block]; exact hn126_0) | (show (Addr.add _ _).block ≠ _; rw [add_block]; exact hn126_0) | exact hn126_0) (.int .i64 ((rd_T45 l1 x10_1).f0))).trans hx126_1; replace hx126_0 := (cell_far (p := ⟨gb124, 1, none⟩) (by first | (rw [add_block]; exact hn126_1) | (show (Addr.add _ _).block ≠ _; rw [add_block]; exact hn126_1) | exact hn126_1) (.string ((rd_T45 l1 x10_1).f1))).trans hx126_0; replace hx126_1 := (cell_far (p := ⟨gb124, 1, none⟩) (by first | (rw [add_block]; exact hn126_1) | (show (Addr.add _ _).block ≠ _; rw [add_block]; exact hn126_1) | exact hn126_1) (.string ((rd_T45 l1 x10_1).f1))).trans hx126_1; (try have hy126_0 := fun (n_ : Nat) => (show ((((w16.drewN n_).setCell ⟨gb124, 0, none⟩ (.int .i64 ((rd_T45 l1 x10_1).f0))).setCell ⟨gb124, 1, none⟩ (.string ((rd_T45 l1 x10_1).f1)))).cell? _ = some _ from hx126_0)); (try have hy126_1 := fun (n_ : Nat) => (show ((((w16.drewN n_).setCell ⟨gb124, 0, none⟩ (.int .i64 ((rd_T45 l1 x10_1).f0))).setCell ⟨gb124, 1, none⟩ (.string ((rd_T45 l1 x10_1).f1)))).cell? _ = some _ from hx126_1)); clear hn126_0; clear hn126_1; replace p126 := eq_true p126; replace q126 := eq_true q126)))
                        go_ret2
                        exact ⟨by first | rfl | (simp [errW_none, errW_some] <;> rfl) | (simp only [← hji12]; first | rfl | (simp [errW_none, errW_some] <;> rfl)) | (simp [*, errW_none, errW_some] <;> rfl), by repeat (first | (with_reducible first | exact HB.out | apply below_alloc | apply pw_below_drewN | apply below_drew1 | refine below_set ?_ GE124.out) | exact HB.out)⟩
                      · rw [if_neg c15] at H
                        have c15b0 : decide (((rd_T45 l1 x10_1).f0) ≤ ((rd_T45 l1 (ji12)).f0)) = false := decide_eq_false c15
                        clear c15
                        have H' := Aside0.mk H
                        clear H
                        have p123 : 0 ≤ (x10_1 : Int) := of_decide_eq_true (by first | (with_reducible assumption) | assumption)
                        have q123 : x10_1 < (l1.length : Int) := of_decide_eq_true (by first | (with_reducible assumption) | assumption)
                        obtain ⟨ad123, e123, hx123_0, hx123_1⟩ := at_T45 HR1.out x10_1 p123 q123
                        cases e123
                        replace hx123_0 := (HB.out.cell (World.block_lt_of_cell? w _ hx123_0)).trans hx123_0
                        replace hx123_1 := (HB.out.cell (World.block_lt_of_cell? w _ hx123_1)).trans hx123_1
                        replace p123 := eq_true p123
                        replace q123 := eq_true q123
                        go_wp2_with (first | ((with_reducible refine gate_dst (N := 7) rfl ?_); refine box_event ?hg (N := 7) ?hd (cs := #[.int .i64 0, .string (⟨#[]⟩ : ByteArray)]) (t := 45) ?hr ?_; (case hd => rfl); (case hg => rfl); (case hr => first | (go_simp; done) | (go_simp; rfl)); intro gb124 hg w18 hbox hb; have n0_ := Aside0.mk (below_step (by repeat (first | (with_reducible first | exact HB.out | apply below_alloc | apply pw_below_drewN | apply below_drew1) | exact HB.out)) hb); have n1_ := Aside0.mk (hbox); have n2_ := Aside0.mk ((by rw [hg]; exact (below_size (by repeat (first | (with_reducible first | exact HB.out | apply below_alloc | apply pw_below_drewN | apply below_drew1) | exact HB.out))) : w.heap.size ≤ gb124)); have n3_ := Aside0.mk ((by rw [hg]; exact (below_size (by repeat (first | (with_reducible first | exact HB.out | apply below_alloc | apply pw_below_drewN | apply below_drew1) | exact HB.out))) : w.heap.size ≤ gb124)); clear HB; have HB := n0_; have BK124 := n1_; have GW124 := n2_; have GE124 := n3_; clear n0_ n1_ n2_ n3_; clear hb hbox hg; have hcz19_0 : w18.cell? ⟨gb124, 0, none⟩ = some (.int .i64 0) := (blk_cell BK124.out 0).trans rfl; have hcz19_1 : w18.cell? ⟨gb124, 1, none⟩ = some (.string (⟨#[]⟩ : ByteArray)) := (blk_cell BK124.out 1).trans rfl; have hfz19_0 := blk_frozen BK124.out 0; have hfz19_1 := blk_frozen BK124.out 1) | (go_at_call 52; (with_reducible refine (page_line.calls ((rd_T45 l1 x10_1).f0) true _ A6.out).mono ?_); rintro e w' ⟨rfl, ⟨nd, rfl⟩⟩; (try first | exact ⟨rfl, _, World.drewN_drewN _ _ _⟩ | exact ⟨rfl, _, Eq.trans (World.drewN_drewN _ _ _) (congrArg (World.drewN _) (Nat.add_assoc _ _ _))⟩); have p126 : 0 ≤ ((ji12) : Int) := of_decide_eq_true (by first | (with_reducible assumption) | assumption); have q126 : (ji12) < (l1.length : Int) := of_decide_eq_true (by first | (with_reducible assumption) | assumption); obtain ⟨ad126, e126, hx126_0, hx126_1⟩ := at_T45 HR1.out (ji12) p126 q126; obtain rfl : ad123 = ad126 := (by injection e126); have hn126_0 : ad123.block ≠ gb124 := Nat.ne_of_lt (Nat.lt_of_lt_of_le (by have := World.block_lt_of_cell? _ _ hx126_0; first | rwa [add_block] at this | exact this) GW124.out); have hn126_1 : ad123.block ≠ gb124 := Nat.ne_of_lt (Nat.lt_of_lt_of_le (by have := World.block_lt_of_cell? _ _ hx126_0; first | rwa [add_block] at this | exact this) GW124.out); replace hx126_0 := (HB.out.cell (World.block_lt_of_cell? w _ hx126_0)).trans hx126_0; replace hx126_1 := (HB.out.cell (World.block_lt_of_cell? w _ hx126_1)).trans hx126_1; replace hx126_0 := (cell_far (p := ⟨gb124, 0, none⟩) (by first | (rw [add_block]; exact hn126_0) | (show (Addr.add _ _).block ≠ _; rw [add_block]; exact hn126_0) | exact hn126_0) (.int .i64 ((rd_T45 l1 x10_1).f0))).trans hx126_0; replace hx126_1 := (cell_far (p := ⟨gb124, 0, none⟩) (by first | (rw [add_block]; exact hn126_0) | (show (Addr.add _ _).block ≠ _; rw [add_block]; exact hn126_0) | exact hn126_0) (.int .i64 ((rd_T45 l1 x10_1).f0))).trans hx126_1; replace hx126_0 := (cell_far (p := ⟨gb124, 1, none⟩) (by first | (rw [add_block]; exact hn126_1) | (show (Addr.add _ _).block ≠ _; rw [add_block]; exact hn126_1) | exact hn126_1) (.string ((rd_T45 l1 x10_1).f1))).trans hx126_0; replace hx126_1 := (cell_far (p := ⟨gb124, 1, none⟩) (by first | (rw [add_block]; exact hn126_1) | (show (Addr.add _ _).block ≠ _; rw [add_block]; exact hn126_1) | exact hn126_1) (.string ((rd_T45 l1 x10_1).f1))).trans hx126_1; (try have hy126_0 := fun (n_ : Nat) => (show ((((w18.drewN n_).setCell ⟨gb124, 0, none⟩ (.int .i64 ((rd_T45 l1 x10_1).f0))).setCell ⟨gb124, 1, none⟩ (.string ((rd_T45 l1 x10_1).f1)))).cell? _ = some _ from hx126_0)); (try have hy126_1 := fun (n_ : Nat) => (show ((((w18.drewN n_).setCell ⟨gb124, 0, none⟩ (.int .i64 ((rd_T45 l1 x10_1).f0))).setCell ⟨gb124, 1, none⟩ (.string ((rd_T45 l1 x10_1).f1)))).cell? _ = some _ from hx126_1)); clear hn126_0; clear hn126_1; replace p126 := eq_true p126; replace q126 := eq_true q126))
                        repeat (go_quiet (first | ((with_reducible refine gate_dst (N := 7) rfl ?_); refine box_event ?hg (N := 7) ?hd (cs := #[.int .i64 0, .string (⟨#[]⟩ : ByteArray)]) (t := 45) ?hr ?_; (case hd => rfl); (case hg => rfl); (case hr => first | (go_simp; done) | (go_simp; rfl)); intro gb124 hg w18 hbox hb; have n0_ := Aside0.mk (below_step (by repeat (first | (with_reducible first | exact HB.out | apply below_alloc | apply pw_below_drewN | apply below_drew1) | exact HB.out)) hb); have n1_ := Aside0.mk (hbox); have n2_ := Aside0.mk ((by rw [hg]; exact (below_size (by repeat (first | (with_reducible first | exact HB.out | apply below_alloc | apply pw_below_drewN | apply below_drew1) | exact HB.out))) : w.heap.size ≤ gb124)); have n3_ := Aside0.mk ((by rw [hg]; exact (below_size (by repeat (first | (with_reducible first | exact HB.out | apply below_alloc | apply pw_below_drewN | apply below_drew1) | exact HB.out))) : w.heap.size ≤ gb124)); clear HB; have HB := n0_; have BK124 := n1_; have GW124 := n2_; have GE124 := n3_; clear n0_ n1_ n2_ n3_; clear hb hbox hg; have hcz19_0 : w18.cell? ⟨gb124, 0, none⟩ = some (.int .i64 0) := (blk_cell BK124.out 0).trans rfl; have hcz19_1 : w18.cell? ⟨gb124, 1, none⟩ = some (.string (⟨#[]⟩ : ByteArray)) := (blk_cell BK124.out 1).trans rfl; have hfz19_0 := blk_frozen BK124.out 0; have hfz19_1 := blk_frozen BK124.out 1) | (go_at_call 52; (with_reducible refine (page_line.calls ((rd_T45 l1 x10_1).f0) true _ A6.out).mono ?_); rintro e w' ⟨rfl, ⟨nd, rfl⟩⟩; (try first | exact ⟨rfl, _, World.drewN_drewN _ _ _⟩ | exact ⟨rfl, _, Eq.trans (World.drewN_drewN _ _ _) (congrArg (World.drewN _) (Nat.add_assoc _ _ _))⟩); have p126 : 0 ≤ ((ji12) : Int) := of_decide_eq_true (by first | (with_reducible assumption) | assumption); have q126 : (ji12) < (l1.length : Int) := of_decide_eq_true (by first | (with_reducible assumption) | assumption); obtain ⟨ad126, e126, hx126_0, hx126_1⟩ := at_T45 HR1.out (ji12) p126 q126; obtain rfl : ad123 = ad126 := (by injection e126); have hn126_0 : ad123.block ≠ gb124 := Nat.ne_of_lt (Nat.lt_of_lt_of_le (by have := World.block_lt_of_cell? _ _ hx126_0; first | rwa [add_block] at this | exact this) GW124.out); have hn126_1 : ad123.block ≠ gb124 := Nat.ne_of_lt (Nat.lt_of_lt_of_le (by have := World.block_lt_of_cell? _ _ hx126_0; first | rwa [add_block] at this | exact this) GW124.out); replace hx126_0 := (HB.out.cell (World.block_lt_of_cell? w _ hx126_0)).trans hx126_0; replace hx126_1 := (HB.out.cell (World.block_lt_of_cell? w _ hx126_1)).trans hx126_1; replace hx126_0 := (cell_far (p := ⟨gb124, 0, none⟩) (by first | (rw [add_block]; exact hn126_0) | (show (Addr.add _ _).block ≠ _; rw [add_block]; exact hn126_0) | exact hn126_0) (.int .i64 ((rd_T45 l1 x10_1).f0))).trans hx126_0; replace hx126_1 := (cell_far (p := ⟨gb124, 0, none⟩) (by first | (rw [add_block]; exact hn126_0) | (show (Addr.add _ _).block ≠ _; rw [add_block]; exact hn126_0) | exact hn126_0) (.int .i64 ((rd_T45 l1 x10_1).f0))).trans hx126_1; replace hx126_0 := (cell_far (p := ⟨gb124, 1, none⟩) (by first | (rw [add_block]; exact hn126_1) | (show (Addr.add _ _).block ≠ _; rw [add_block]; exact hn126_1) | exact hn126_1) (.string ((rd_T45 l1 x10_1).f1))).trans hx126_0; replace hx126_1 := (cell_far (p := ⟨gb124, 1, none⟩) (by first | (rw [add_block]; exact hn126_1) | (show (Addr.add _ _).block ≠ _; rw [add_block]; exact hn126_1) | exact hn126_1) (.string ((rd_T45 l1 x10_1).f1))).trans hx126_1; (try have hy126_0 := fun (n_ : Nat) => (show ((((w18.drewN n_).setCell ⟨gb124, 0, none⟩ (.int .i64 ((rd_T45 l1 x10_1).f0))).setCell ⟨gb124, 1, none⟩ (.string ((rd_T45 l1 x10_1).f1)))).cell? _ = some _ from hx126_0)); (try have hy126_1 := fun (n_ : Nat) => (show ((((w18.drewN n_).setCell ⟨gb124, 0, none⟩ (.int .i64 ((rd_T45 l1 x10_1).f0))).setCell ⟨gb124, 1, none⟩ (.string ((rd_T45 l1 x10_1).f1)))).cell? _ = some _ from hx126_1)); clear hn126_0; clear hn126_1; replace p126 := eq_true p126; replace q126 := eq_true q126)); try go_wp2_with (first | ((with_reducible refine gate_dst (N := 7) rfl ?_); refine box_event ?hg (N := 7) ?hd (cs := #[.int .i64 0, .string (⟨#[]⟩ : ByteArray)]) (t := 45) ?hr ?_; (case hd => rfl); (case hg => rfl); (case hr => first | (go_simp; done) | (go_simp; rfl)); intro gb124 hg w18 hbox hb; have n0_ := Aside0.mk (below_step (by repeat (first | (with_reducible first | exact HB.out | apply below_alloc | apply pw_below_drewN | apply below_drew1) | exact HB.out)) hb); have n1_ := Aside0.mk (hbox); have n2_ := Aside0.mk ((by rw [hg]; exact (below_size (by repeat (first | (with_reducible first | exact HB.out | apply below_alloc | apply pw_below_drewN | apply below_drew1) | exact HB.out))) : w.heap.size ≤ gb124)); have n3_ := Aside0.mk ((by rw [hg]; exact (below_size (by repeat (first | (with_reducible first | exact HB.out | apply below_alloc | apply pw_below_drewN | apply below_drew1) | exact HB.out))) : w.heap.size ≤ gb124)); clear HB; have HB := n0_; have BK124 := n1_; have GW124 := n2_; have GE124 := n3_; clear n0_ n1_ n2_ n3_; clear hb hbox hg; have hcz19_0 : w18.cell? ⟨gb124, 0, none⟩ = some (.int .i64 0) := (blk_cell BK124.out 0).trans rfl; have hcz19_1 : w18.cell? ⟨gb124, 1, none⟩ = some (.string (⟨#[]⟩ : ByteArray)) := (blk_cell BK124.out 1).trans rfl; have hfz19_0 := blk_frozen BK124.out 0; have hfz19_1 := blk_frozen BK124.out 1) | (go_at_call 52; (with_reducible refine (page_line.calls ((rd_T45 l1 x10_1).f0) true _ A6.out).mono ?_); rintro e w' ⟨rfl, ⟨nd, rfl⟩⟩; (try first | exact ⟨rfl, _, World.drewN_drewN _ _ _⟩ | exact ⟨rfl, _, Eq.trans (World.drewN_drewN _ _ _) (congrArg (World.drewN _) (Nat.add_assoc _ _ _))⟩); have p126 : 0 ≤ ((ji12) : Int) := of_decide_eq_true (by first | (with_reducible assumption) | assumption); have q126 : (ji12) < (l1.length : Int) := of_decide_eq_true (by first | (with_reducible assumption) | assumption); obtain ⟨ad126, e126, hx126_0, hx126_1⟩ := at_T45 HR1.out (ji12) p126 q126; obtain rfl : ad123 = ad126 := (by injection e126); have hn126_0 : ad123.block ≠ gb124 := Nat.ne_of_lt (Nat.lt_of_lt_of_le (by have := World.block_lt_of_cell? _ _ hx126_0; first | rwa [add_block] at this | exact this) GW124.out); have hn126_1 : ad123.block ≠ gb124 := Nat.ne_of_lt (Nat.lt_of_lt_of_le (by have := World.block_lt_of_cell? _ _ hx126_0; first | rwa [add_block] at this | exact this) GW124.out); replace hx126_0 := (HB.out.cell (World.block_lt_of_cell? w _ hx126_0)).trans hx126_0; replace hx126_1 := (HB.out.cell (World.block_lt_of_cell? w _ hx126_1)).trans hx126_1; replace hx126_0 := (cell_far (p := ⟨gb124, 0, none⟩) (by first | (rw [add_block]; exact hn126_0) | (show (Addr.add _ _).block ≠ _; rw [add_block]; exact hn126_0) | exact hn126_0) (.int .i64 ((rd_T45 l1 x10_1).f0))).trans hx126_0; replace hx126_1 := (cell_far (p := ⟨gb124, 0, none⟩) (by first | (rw [add_block]; exact hn126_0) | (show (Addr.add _ _).block ≠ _; rw [add_block]; exact hn126_0) | exact hn126_0) (.int .i64 ((rd_T45 l1 x10_1).f0))).trans hx126_1; replace hx126_0 := (cell_far (p := ⟨gb124, 1, none⟩) (by first | (rw [add_block]; exact hn126_1) | (show (Addr.add _ _).block ≠ _; rw [add_block]; exact hn126_1) | exact hn126_1) (.string ((rd_T45 l1 x10_1).f1))).trans hx126_0; replace hx126_1 := (cell_far (p := ⟨gb124, 1, none⟩) (by first | (rw [add_block]; exact hn126_1) | (show (Addr.add _ _).block ≠ _; rw [add_block]; exact hn126_1) | exact hn126_1) (.string ((rd_T45 l1 x10_1).f1))).trans hx126_1; (try have hy126_0 := fun (n_ : Nat) => (show ((((w18.drewN n_).setCell ⟨gb124, 0, none⟩ (.int .i64 ((rd_T45 l1 x10_1).f0))).setCell ⟨gb124, 1, none⟩ (.string ((rd_T45 l1 x10_1).f1)))).cell? _ = some _ from hx126_0)); (try have hy126_1 := fun (n_ : Nat) => (show ((((w18.drewN n_).setCell ⟨gb124, 0, none⟩ (.int .i64 ((rd_T45 l1 x10_1).f0))).setCell ⟨gb124, 1, none⟩ (.string ((rd_T45 l1 x10_1).f1)))).cell? _ = some _ from hx126_1)); clear hn126_0; clear hn126_1; replace p126 := eq_true p126; replace q126 := eq_true q126)))
                        go_roundg k1
                        case measure => have := HK1.out; omega
                        case rel => exact ⟨(wrap64 (x10_1 + 1)), (by first | rfl | (simp; done) | (simp [*]; done)), H', ⟨by have := HK1.out; omega⟩, ⟨by repeat (first | (with_reducible first | exact HB.out | apply below_alloc | apply pw_below_drewN | apply below_drew1 | refine below_set ?_ GE124.out) | exact HB.out)⟩⟩
                    · rw [if_neg c14] at H
                      exact absurd H (by simp)
                  · rw [if_neg c13] at H
                    exact absurd H (by simp)
                · rw [if_neg c11] at H
                  have c11b0 : decide (0 < x10_1) = false := decide_eq_false c11
                  clear c11
                  have H' := Aside0.mk H
                  clear H
                  have p123 : 0 ≤ (x10_1 : Int) := of_decide_eq_true (by first | (with_reducible assumption) | assumption)
                  have q123 : x10_1 < (l1.length : Int) := of_decide_eq_true (by first | (with_reducible assumption) | assumption)
                  obtain ⟨ad123, e123, hx123_0, hx123_1⟩ := at_T45 HR1.out x10_1 p123 q123
                  cases e123
                  replace hx123_0 := (HB.out.cell (World.block_lt_of_cell? w _ hx123_0)).trans hx123_0
                  replace hx123_1 := (HB.out.cell (World.block_lt_of_cell? w _ hx123_1)).trans hx123_1
                  replace p123 := eq_true p123
                  replace q123 := eq_true q123
                  go_wp2_with (first | ((with_reducible refine gate_dst (N := 7) rfl ?_); refine box_event ?hg (N := 7) ?hd (cs := #[.int .i64 0, .string (⟨#[]⟩ : ByteArray)]) (t := 45) ?hr ?_; (case hd => rfl); (case hg => rfl); (case hr => first | (go_simp; done) | (go_simp; rfl)); intro gb124 hg w20 hbox hb; have n0_ := Aside0.mk (below_step (by repeat (first | (with_reducible first | exact HB.out | apply below_alloc | apply pw_below_drewN | apply below_drew1) | exact HB.out)) hb); have n1_ := Aside0.mk (hbox); have n2_ := Aside0.mk ((by rw [hg]; exact (below_size (by repeat (first | (with_reducible first | exact HB.out | apply below_alloc | apply pw_below_drewN | apply below_drew1) | exact HB.out))) : w.heap.size ≤ gb124)); have n3_ := Aside0.mk ((by rw [hg]; exact (below_size (by repeat (first | (with_reducible first | exact HB.out | apply below_alloc | apply pw_below_drewN | apply below_drew1) | exact HB.out))) : w.heap.size ≤ gb124)); clear HB; have HB := n0_; have BK124 := n1_; have GW124 := n2_; have GE124 := n3_; clear n0_ n1_ n2_ n3_; clear hb hbox hg; have hcz21_0 : w20.cell? ⟨gb124, 0, none⟩ = some (.int .i64 0) := (blk_cell BK124.out 0).trans rfl; have hcz21_1 : w20.cell? ⟨gb124, 1, none⟩ = some (.string (⟨#[]⟩ : ByteArray)) := (blk_cell BK124.out 1).trans rfl; have hfz21_0 := blk_frozen BK124.out 0; have hfz21_1 := blk_frozen BK124.out 1) | (go_at_call 52; (with_reducible refine (page_line.calls ((rd_T45 l1 x10_1).f0) true _ A6.out).mono ?_); rintro e w' ⟨rfl, ⟨nd, rfl⟩⟩; (try first | exact ⟨rfl, _, World.drewN_drewN _ _ _⟩ | exact ⟨rfl, _, Eq.trans (World.drewN_drewN _ _ _) (congrArg (World.drewN _) (Nat.add_assoc _ _ _))⟩)))
                  repeat (go_quiet (first | ((with_reducible refine gate_dst (N := 7) rfl ?_); refine box_event ?hg (N := 7) ?hd (cs := #[.int .i64 0, .string (⟨#[]⟩ : ByteArray)]) (t := 45) ?hr ?_; (case hd => rfl); (case hg => rfl); (case hr => first | (go_simp; done) | (go_simp; rfl)); intro gb124 hg w20 hbox hb; have n0_ := Aside0.mk (below_step (by repeat (first | (with_reducible first | exact HB.out | apply below_alloc | apply pw_below_drewN | apply below_drew1) | exact HB.out)) hb); have n1_ := Aside0.mk (hbox); have n2_ := Aside0.mk ((by rw [hg]; exact (below_size (by repeat (first | (with_reducible first | exact HB.out | apply below_alloc | apply pw_below_drewN | apply below_drew1) | exact HB.out))) : w.heap.size ≤ gb124)); have n3_ := Aside0.mk ((by rw [hg]; exact (below_size (by repeat (first | (with_reducible first | exact HB.out | apply below_alloc | apply pw_below_drewN | apply below_drew1) | exact HB.out))) : w.heap.size ≤ gb124)); clear HB; have HB := n0_; have BK124 := n1_; have GW124 := n2_; have GE124 := n3_; clear n0_ n1_ n2_ n3_; clear hb hbox hg; have hcz21_0 : w20.cell? ⟨gb124, 0, none⟩ = some (.int .i64 0) := (blk_cell BK124.out 0).trans rfl; have hcz21_1 : w20.cell? ⟨gb124, 1, none⟩ = some (.string (⟨#[]⟩ : ByteArray)) := (blk_cell BK124.out 1).trans rfl; have hfz21_0 := blk_frozen BK124.out 0; have hfz21_1 := blk_frozen BK124.out 1) | (go_at_call 52; (with_reducible refine (page_line.calls ((rd_T45 l1 x10_1).f0) true _ A6.out).mono ?_); rintro e w' ⟨rfl, ⟨nd, rfl⟩⟩; (try first | exact ⟨rfl, _, World.drewN_drewN _ _ _⟩ | exact ⟨rfl, _, Eq.trans (World.drewN_drewN _ _ _) (congrArg (World.drewN _) (Nat.add_assoc _ _ _))⟩))); try go_wp2_with (first | ((with_reducible refine gate_dst (N := 7) rfl ?_); refine box_event ?hg (N := 7) ?hd (cs := #[.int .i64 0, .string (⟨#[]⟩ : ByteArray)]) (t := 45) ?hr ?_; (case hd => rfl); (case hg => rfl); (case hr => first | (go_simp; done) | (go_simp; rfl)); intro gb124 hg w20 hbox hb; have n0_ := Aside0.mk (below_step (by repeat (first | (with_reducible first | exact HB.out | apply below_alloc | apply pw_below_drewN | apply below_drew1) | exact HB.out)) hb); have n1_ := Aside0.mk (hbox); have n2_ := Aside0.mk ((by rw [hg]; exact (below_size (by repeat (first | (with_reducible first | exact HB.out | apply below_alloc | apply pw_below_drewN | apply below_drew1) | exact HB.out))) : w.heap.size ≤ gb124)); have n3_ := Aside0.mk ((by rw [hg]; exact (below_size (by repeat (first | (with_reducible first | exact HB.out | apply below_alloc | apply pw_below_drewN | apply below_drew1) | exact HB.out))) : w.heap.size ≤ gb124)); clear HB; have HB := n0_; have BK124 := n1_; have GW124 := n2_; have GE124 := n3_; clear n0_ n1_ n2_ n3_; clear hb hbox hg; have hcz21_0 : w20.cell? ⟨gb124, 0, none⟩ = some (.int .i64 0) := (blk_cell BK124.out 0).trans rfl; have hcz21_1 : w20.cell? ⟨gb124, 1, none⟩ = some (.string (⟨#[]⟩ : ByteArray)) := (blk_cell BK124.out 1).trans rfl; have hfz21_0 := blk_frozen BK124.out 0; have hfz21_1 := blk_frozen BK124.out 1) | (go_at_call 52; (with_reducible refine (page_line.calls ((rd_T45 l1 x10_1).f0) true _ A6.out).mono ?_); rintro e w' ⟨rfl, ⟨nd, rfl⟩⟩; (try first | exact ⟨rfl, _, World.drewN_drewN _ _ _⟩ | exact ⟨rfl, _, Eq.trans (World.drewN_drewN _ _ _) (congrArg (World.drewN _) (Nat.add_assoc _ _ _))⟩))))
                  go_roundg k1
                  case measure => have := HK1.out; omega
                  case rel => exact ⟨(wrap64 (x10_1 + 1)), (by first | rfl | (simp; done) | (simp [*]; done)), H', ⟨by have := HK1.out; omega⟩, ⟨by repeat (first | (with_reducible first | exact HB.out | apply below_alloc | apply pw_below_drewN | apply below_drew1 | refine below_set ?_ GE124.out) | exact HB.out)⟩⟩
            · replace c7 := Bool.eq_false_iff.mpr c7
              subst c7
              have H1 : (some ((⟨#[]⟩ : ByteArray), 1)) = some (r1, r2) := by rw [if_neg (show ¬ (false = true) by decide)] at H; exact H
              clear H
              have H := H1
              clear H1
              simp only [Option.some.injEq, Prod.mk.injEq] at H
              obtain ⟨rfl, rfl⟩ := H
              have p123 : 0 ≤ (x10_1 : Int) := of_decide_eq_true (by first | (with_reducible assumption) | assumption)
              have q123 : x10_1 < (l1.length : Int) := of_decide_eq_true (by first | (with_reducible assumption) | assumption)
              obtain ⟨ad123, e123, hx123_0, hx123_1⟩ := at_T45 HR1.out x10_1 p123 q123
              cases e123
              replace hx123_0 := (HB.out.cell (World.block_lt_of_cell? w _ hx123_0)).trans hx123_0
              replace hx123_1 := (HB.out.cell (World.block_lt_of_cell? w _ hx123_1)).trans hx123_1
              replace p123 := eq_true p123
              replace q123 := eq_true q123
              go_wp2_with (first | ((with_reducible refine gate_dst (N := 7) rfl ?_); refine box_event ?hg (N := 7) ?hd (cs := #[.int .i64 0, .string (⟨#[]⟩ : ByteArray)]) (t := 45) ?hr ?_; (case hd => rfl); (case hg => rfl); (case hr => first | (go_simp; done) | (go_simp; rfl)); intro gb124 hg w22 hbox hb; have n0_ := Aside0.mk (below_step (by repeat (first | (with_reducible first | exact HB.out | apply below_alloc | apply pw_below_drewN | apply below_drew1) | exact HB.out)) hb); have n1_ := Aside0.mk (hbox); have n2_ := Aside0.mk ((by rw [hg]; exact (below_size (by repeat (first | (with_reducible first | exact HB.out | apply below_alloc | apply pw_below_drewN | apply below_drew1) | exact HB.out))) : w.heap.size ≤ gb124)); have n3_ := Aside0.mk ((by rw [hg]; exact (below_size (by repeat (first | (with_reducible first | exact HB.out | apply below_alloc | apply pw_below_drewN | apply below_drew1) | exact HB.out))) : w.heap.size ≤ gb124)); clear HB; have HB := n0_; have BK124 := n1_; have GW124 := n2_; have GE124 := n3_; clear n0_ n1_ n2_ n3_; clear hb hbox hg; have hcz23_0 : w22.cell? ⟨gb124, 0, none⟩ = some (.int .i64 0) := (blk_cell BK124.out 0).trans rfl; have hcz23_1 : w22.cell? ⟨gb124, 1, none⟩ = some (.string (⟨#[]⟩ : ByteArray)) := (blk_cell BK124.out 1).trans rfl; have hfz23_0 := blk_frozen BK124.out 0; have hfz23_1 := blk_frozen BK124.out 1) | (go_at_call 52; (with_reducible refine (page_line.calls ((rd_T45 l1 x10_1).f0) false _ A6.out).mono ?_); rintro e w' ⟨rfl, ⟨nd, rfl⟩⟩; (try first | exact ⟨rfl, _, World.drewN_drewN _ _ _⟩ | exact ⟨rfl, _, Eq.trans (World.drewN_drewN _ _ _) (congrArg (World.drewN _) (Nat.add_assoc _ _ _))⟩)))
              repeat (go_quiet (first | ((with_reducible refine gate_dst (N := 7) rfl ?_); refine box_event ?hg (N := 7) ?hd (cs := #[.int .i64 0, .string (⟨#[]⟩ : ByteArray)]) (t := 45) ?hr ?_; (case hd => rfl); (case hg => rfl); (case hr => first | (go_simp; done) | (go_simp; rfl)); intro gb124 hg w22 hbox hb; have n0_ := Aside0.mk (below_step (by repeat (first | (with_reducible first | exact HB.out | apply below_alloc | apply pw_below_drewN | apply below_drew1) | exact HB.out)) hb); have n1_ := Aside0.mk (hbox); have n2_ := Aside0.mk ((by rw [hg]; exact (below_size (by repeat (first | (with_reducible first | exact HB.out | apply below_alloc | apply pw_below_drewN | apply below_drew1) | exact HB.out))) : w.heap.size ≤ gb124)); have n3_ := Aside0.mk ((by rw [hg]; exact (below_size (by repeat (first | (with_reducible first | exact HB.out | apply below_alloc | apply pw_below_drewN | apply below_drew1) | exact HB.out))) : w.heap.size ≤ gb124)); clear HB; have HB := n0_; have BK124 := n1_; have GW124 := n2_; have GE124 := n3_; clear n0_ n1_ n2_ n3_; clear hb hbox hg; have hcz23_0 : w22.cell? ⟨gb124, 0, none⟩ = some (.int .i64 0) := (blk_cell BK124.out 0).trans rfl; have hcz23_1 : w22.cell? ⟨gb124, 1, none⟩ = some (.string (⟨#[]⟩ : ByteArray)) := (blk_cell BK124.out 1).trans rfl; have hfz23_0 := blk_frozen BK124.out 0; have hfz23_1 := blk_frozen BK124.out 1) | (go_at_call 52; (with_reducible refine (page_line.calls ((rd_T45 l1 x10_1).f0) false _ A6.out).mono ?_); rintro e w' ⟨rfl, ⟨nd, rfl⟩⟩; (try first | exact ⟨rfl, _, World.drewN_drewN _ _ _⟩ | exact ⟨rfl, _, Eq.trans (World.drewN_drewN _ _ _) (congrArg (World.drewN _) (Nat.add_assoc _ _ _))⟩))); try go_wp2_with (first | ((with_reducible refine gate_dst (N := 7) rfl ?_); refine box_event ?hg (N := 7) ?hd (cs := #[.int .i64 0, .string (⟨#[]⟩ : ByteArray)]) (t := 45) ?hr ?_; (case hd => rfl); (case hg => rfl); (case hr => first | (go_simp; done) | (go_simp; rfl)); intro gb124 hg w22 hbox hb; have n0_ := Aside0.mk (below_step (by repeat (first | (with_reducible first | exact HB.out | apply below_alloc | apply pw_below_drewN | apply below_drew1) | exact HB.out)) hb); have n1_ := Aside0.mk (hbox); have n2_ := Aside0.mk ((by rw [hg]; exact (below_size (by repeat (first | (with_reducible first | exact HB.out | apply below_alloc | apply pw_below_drewN | apply below_drew1) | exact HB.out))) : w.heap.size ≤ gb124)); have n3_ := Aside0.mk ((by rw [hg]; exact (below_size (by repeat (first | (with_reducible first | exact HB.out | apply below_alloc | apply pw_below_drewN | apply below_drew1) | exact HB.out))) : w.heap.size ≤ gb124)); clear HB; have HB := n0_; have BK124 := n1_; have GW124 := n2_; have GE124 := n3_; clear n0_ n1_ n2_ n3_; clear hb hbox hg; have hcz23_0 : w22.cell? ⟨gb124, 0, none⟩ = some (.int .i64 0) := (blk_cell BK124.out 0).trans rfl; have hcz23_1 : w22.cell? ⟨gb124, 1, none⟩ = some (.string (⟨#[]⟩ : ByteArray)) := (blk_cell BK124.out 1).trans rfl; have hfz23_0 := blk_frozen BK124.out 0; have hfz23_1 := blk_frozen BK124.out 1) | (go_at_call 52; (with_reducible refine (page_line.calls ((rd_T45 l1 x10_1).f0) false _ A6.out).mono ?_); rintro e w' ⟨rfl, ⟨nd, rfl⟩⟩; (try first | exact ⟨rfl, _, World.drewN_drewN _ _ _⟩ | exact ⟨rfl, _, Eq.trans (World.drewN_drewN _ _ _) (congrArg (World.drewN _) (Nat.add_assoc _ _ _))⟩))))
              go_ret2
              exact ⟨by first | rfl | (simp [errW_none, errW_some] <;> rfl) | (simp [*, errW_none, errW_some] <;> rfl), by repeat (first | (with_reducible first | exact HB.out | apply below_alloc | apply pw_below_drewN | apply below_drew1 | refine below_set ?_ GE124.out) | exact HB.out)⟩
          · rw [if_neg c5] at H
            exact absurd H (by simp)
        · rw [if_neg c4] at H
          exact absurd H (by simp)
      · rw [if_neg c3] at H
        have c3b0 : decide (x10_1 < (l1.length : Int)) = false := decide_eq_false c3
        clear c3
        replace H := Option.bind_eq_some_iff.mp H
        obtain ⟨t127, A240, H⟩ := H
        replace H : (if t127 = true then ((page_filled.f a0 l1).bind fun bt128 => (some (bt128.1, bt128.2))) else (some ((⟨#[]⟩ : ByteArray), 7))) = some (r1, r2) := H
        have A24 := Aside0.mk A240
        clear A240
        by_cases c25 : t127 = true
        · subst c25
          have H1 : ((page_filled.f a0 l1).bind fun bt128 => (some (bt128.1, bt128.2))) = some (r1, r2) := by rw [if_pos rfl] at H; exact H
          clear H
          have H := H1
          clear H1
          replace H := Option.bind_eq_some_iff.mp H
          obtain ⟨⟨t128, t129⟩, A260, H⟩ := H
          replace H : (some (t128, t129)) = some (r1, r2) := H
          have A26 := Aside0.mk A260
          clear A260
          simp only [Option.some.injEq, Prod.mk.injEq] at H
          obtain ⟨rfl, rfl⟩ := H
          go_wp2_with (first | (go_at_call 53; (with_reducible refine (page_size.calls a0 true _ A24.out).mono ?_); rintro e w' ⟨rfl, ⟨nd, rfl⟩⟩; (try first | exact ⟨rfl, _, World.drewN_drewN _ _ _⟩ | exact ⟨rfl, _, Eq.trans (World.drewN_drewN _ _ _) (congrArg (World.drewN _) (Nat.add_assoc _ _ _))⟩)) | (go_at_call 54; (with_reducible refine (page_filled.calls a0 _ _ l1 t128 t129 _ ?side1 ?side2 A26.out).mono ?_); (case side1 => repeat (first | exact (Kd.C_below HR1.out (by repeat (first | (with_reducible first | exact HB.out | apply below_alloc | apply pw_below_drewN | apply below_drew1) | exact HB.out))) | (with_reducible refine Kd.C_alloc ?_ _) | (with_reducible refine Kd.C_drewN ?_ _) | (with_reducible refine Kd.C_drew ?_))); (case side2 => exact HC1.out); rintro e w27 ⟨rfl, hb⟩; have n0_ := Aside0.mk (below_step (by repeat (first | (with_reducible first | exact HB.out | apply below_alloc | apply pw_below_drewN | apply below_drew1) | exact HB.out)) hb); clear HB; have HB := n0_; clear n0_; (try clear hb); (try clear hb2); (try clear hk); (try clear hi)))
          repeat (go_quiet (first | (go_at_call 53; (with_reducible refine (page_size.calls a0 true _ A24.out).mono ?_); rintro e w' ⟨rfl, ⟨nd, rfl⟩⟩; (try first | exact ⟨rfl, _, World.drewN_drewN _ _ _⟩ | exact ⟨rfl, _, Eq.trans (World.drewN_drewN _ _ _) (congrArg (World.drewN _) (Nat.add_assoc _ _ _))⟩)) | (go_at_call 54; (with_reducible refine (page_filled.calls a0 _ _ l1 t128 t129 _ ?side1 ?side2 A26.out).mono ?_); (case side1 => repeat (first | exact (Kd.C_below HR1.out (by repeat (first | (with_reducible first | exact HB.out | apply below_alloc | apply pw_below_drewN | apply below_drew1) | exact HB.out))) | (with_reducible refine Kd.C_alloc ?_ _) | (with_reducible refine Kd.C_drewN ?_ _) | (with_reducible refine Kd.C_drew ?_))); (case side2 => exact HC1.out); rintro e w27 ⟨rfl, hb⟩; have n0_ := Aside0.mk (below_step (by repeat (first | (with_reducible first | exact HB.out | apply below_alloc | apply pw_below_drewN | apply below_drew1) | exact HB.out)) hb); clear HB; have HB := n0_; clear n0_; (try clear hb); (try clear hb2); (try clear hk); (try clear hi))); try go_wp2_with (first | (go_at_call 53; (with_reducible refine (page_size.calls a0 true _ A24.out).mono ?_); rintro e w' ⟨rfl, ⟨nd, rfl⟩⟩; (try first | exact ⟨rfl, _, World.drewN_drewN _ _ _⟩ | exact ⟨rfl, _, Eq.trans (World.drewN_drewN _ _ _) (congrArg (World.drewN _) (Nat.add_assoc _ _ _))⟩)) | (go_at_call 54; (with_reducible refine (page_filled.calls a0 _ _ l1 t128 t129 _ ?side1 ?side2 A26.out).mono ?_); (case side1 => repeat (first | exact (Kd.C_below HR1.out (by repeat (first | (with_reducible first | exact HB.out | apply below_alloc | apply pw_below_drewN | apply below_drew1) | exact HB.out))) | (with_reducible refine Kd.C_alloc ?_ _) | (with_reducible refine Kd.C_drewN ?_ _) | (with_reducible refine Kd.C_drew ?_))); (case side2 => exact HC1.out); rintro e w27 ⟨rfl, hb⟩; have n0_ := Aside0.mk (below_step (by repeat (first | (with_reducible first | exact HB.out | apply below_alloc | apply pw_below_drewN | apply below_drew1) | exact HB.out)) hb); clear HB; have HB := n0_; clear n0_; (try clear hb); (try clear hb2); (try clear hk); (try clear hi))))
          go_ret2
          exact ⟨by first | rfl | (simp [errW_none, errW_some] <;> rfl) | (simp [*, errW_none, errW_some] <;> rfl), by repeat (first | (with_reducible first | exact HB.out | apply below_alloc | apply pw_below_drewN | apply below_drew1) | exact HB.out)⟩
        · replace c25 := Bool.eq_false_iff.mpr c25
          subst c25
          have H1 : (some ((⟨#[]⟩ : ByteArray), 7)) = some (r1, r2) := by rw [if_neg (show ¬ (false = true) by decide)] at H; exact H
          clear H
          have H := H1
          clear H1
          simp only [Option.some.injEq, Prod.mk.injEq] at H
          obtain ⟨rfl, rfl⟩ := H
          go_wp2_with (first | (go_at_call 53; (with_reducible refine (page_size.calls a0 false _ A24.out).mono ?_); rintro e w' ⟨rfl, ⟨nd, rfl⟩⟩; (try first | exact ⟨rfl, _, World.drewN_drewN _ _ _⟩ | exact ⟨rfl, _, Eq.trans (World.drewN_drewN _ _ _) (congrArg (World.drewN _) (Nat.add_assoc _ _ _))⟩)))
          repeat (go_quiet (first | (go_at_call 53; (with_reducible refine (page_size.calls a0 false _ A24.out).mono ?_); rintro e w' ⟨rfl, ⟨nd, rfl⟩⟩; (try first | exact ⟨rfl, _, World.drewN_drewN _ _ _⟩ | exact ⟨rfl, _, Eq.trans (World.drewN_drewN _ _ _) (congrArg (World.drewN _) (Nat.add_assoc _ _ _))⟩))); try go_wp2_with (first | (go_at_call 53; (with_reducible refine (page_size.calls a0 false _ A24.out).mono ?_); rintro e w' ⟨rfl, ⟨nd, rfl⟩⟩; (try first | exact ⟨rfl, _, World.drewN_drewN _ _ _⟩ | exact ⟨rfl, _, Eq.trans (World.drewN_drewN _ _ _) (congrArg (World.drewN _) (Nat.add_assoc _ _ _))⟩))))
          go_ret2
          exact ⟨by first | rfl | (simp [errW_none, errW_some] <;> rfl) | (simp [*, errW_none, errW_some] <;> rfl), by repeat (first | (with_reducible first | exact HB.out | apply below_alloc | apply pw_below_drewN | apply below_drew1) | exact HB.out)⟩

end Go.Proofs.Ytemglmcddaeedaa.PA

namespace Go.Proofs.Ytemglmcddaeedaa.PA
open Go.RowKit Go.Proofs.YtemglmcddaeedaaW.PrintWords Go.Proofs.YtemglmcddaeedaaW.PrintLast Go.Proofs.YtemglmcddaeedaaW.PrintMore
attribute [local go_sem] max2_int min2_int max_two min_two max_three min_three max_four min_four   -- for this text's walks alone
set_option linter.unusedVariables false
set_option linter.unusedSimpArgs false

/-! ### page_New: function 15 -/
def page_New.f (k : Nat) (a0 : Int) : Option (ByteArray × Int) := (page_Fill.f k a0 ([] : List (S45))).bind fun bt157 => (some (bt157.1, bt157.2))
theorem page_New.mono : ∀ a0 k, LeO (page_New.f k a0) (page_New.f (k + 1) a0) := by
  intro a0 k
  unfold page_New.f
  repeat' first
      | (with_reducible exact page_Fill.mono _ _ _)
      | (with_reducible exact LeO.refl _)
      | (with_reducible exact LeO.none _)
      | (with_reducible refine LeO.ite ?_ ?_)
      | (with_reducible refine LeO.bind ?_ (fun _ => ?_))
      | exact page_Fill.mono _ _ _
      | exact LeO.none _
      | refine LeO.ite ?_ ?_
      | refine LeO.bind ?_ (fun _ => ?_)
set_option maxHeartbeats 8000000 in
set_option maxRecDepth 100000 in
theorem page_New.calls (k : Nat) (a0 : Int) (r1 : ByteArray) (r2 : Int) (w : World) (h : page_New.f k a0 = some (r1, r2)) :
    Calls Try.prog 15 #[.int .i64 a0] w fun e w' => e = .returned (.tuple #[.string r1, .int .i64 r2]) ∧ Below w.heap.size w w' := by
  have HB := Aside0.mk (Below.refl w.heap.size w)
  have H : ((page_Fill.f k a0 ([] : List (S45))).bind fun bt157 => (some (bt157.1, bt157.2))) = some (r1, r2) := h
  clear h
  replace H := Option.bind_eq_some_iff.mp H
  obtain ⟨⟨t157, t158⟩, A20, H⟩ := H
  replace H : (some (t157, t158)) = some (r1, r2) := H
  have A2 := Aside0.mk A20
  clear A20
  simp only [Option.some.injEq, Prod.mk.injEq] at H
  obtain ⟨rfl, rfl⟩ := H
  go_enter Try.func15, Try.ntmps15
  go_wp2_with (first | ((with_reducible refine gate_callee (f := 17) rfl ?_); refine goesL_ (some 5) rfl rfl Try.func17 (by kernel_rfl) rfl #[.int .i64 a0, .slice none 0 0] rfl (by (try simp only [List.map_toArray, List.map_cons, List.map_nil]); first | done | rfl | (simp only [List.length_drop, List.length_take]; rfl)) ?_; (refine (page_Fill.calls k a0 _ _ ([] : List (S45)) t157 t158 _ ?side1 ?side2 A2.out).mono ?_); (case side1 => exact Kd.C_nil _ _); (case side2 => exact Nat.le_refl _); rintro e w3 ⟨rfl, hb⟩; refine ⟨_, rfl, ?_⟩; have n0_ := Aside0.mk (below_step (by repeat (first | (with_reducible first | exact HB.out | apply below_alloc | apply pw_below_drewN | apply below_drew1) | exact HB.out)) hb); clear HB; have HB := n0_; clear n0_; (try clear hb); (try clear hb2); (try clear hk); (try clear hi)))
  go_ret2
  exact ⟨by first | rfl | (simp [errW_none, errW_some] <;> rfl) | (simp [*, errW_none, errW_some] <;> rfl), by repeat (first | (with_reducible first | exact HB.out | apply below_alloc | apply pw_below_drewN | apply below_drew1) | exact HB.out)⟩

end Go.Proofs.Ytemglmcddaeedaa.PA

namespace Go.Proofs.Ytemglmcddaeedaa.PA
open Go.RowKit Go.Proofs.YtemglmcddaeedaaW.PrintWords Go.Proofs.YtemglmcddaeedaaW.PrintLast Go.Proofs.YtemglmcddaeedaaW.PrintMore
attribute [local go_sem] max2_int min2_int max_two min_two max_three min_three max_four min_four   -- for this text's walks alone
set_option linter.unusedVariables false
set_option linter.unusedSimpArgs false

/-! ### rf: function 0 -/
/-! #### a range over a function, at the wide fence, panics let in -/
section
variable {P : Program}
/-- What a round of the loop whose record is rec does with the i-th values: it goes on, it says 'no more', or it panics. -/
def RoundOf (P : Program) (l : Nat) (rec : Loop) (v : Array Value) (W : World) (R : Ending → World → Prop) : Prop :=
  RoundIn Fence.wide 0 P l rec.fn ((rec.params.zip v).foldl (fun tmps (t, a) => tmps.setIfInBounds t a) rec.tmps) rec.assign rec.body W R
def unitV : Value := .tuple #[]
/-- An iterator: it hands over xs in their order; it only draws between two rounds. Kp: what it reads. -/
def IterC (P : Program) (gf : Nat) (lb : Array Value) (np : Nat) (xs : List (Array Value)) (Kp : World → Prop) : Prop :=
  ∀ (l : Nat) (rec : Loop) (J : Nat → World → Prop) (R : Ending → World → Prop) (W : World), rec.params.size = np →
    (∀ i W m, J i W → J i (W.drewN m)) → (∀ i W, J i W → Kp W) → (∀ i W, J i W → W.heap[l]? = some (.loop rec)) →
    (∀ e W m, R e W → R e (W.drewN m)) →
    (∀ i v W, xs[i]? = some v → J i W → RoundOf P l rec v W fun e W' =>
      (∃ go : Bool, e = .returned (.bool go) ∧ (go = true → J (i + 1) W') ∧ (go = false → R (.returned unitV) W')) ∨ (∃ ch, e = .panicked ch ∧ R (.panicked ch) W')) →
    (∀ W, J xs.length W → R (.returned unitV) W) → J 0 W →
    CallsIn Fence.wide 0 P gf (#[.func (.yield l) #[] #[]] ++ lb) W R
theorem callsIn_wide_any {n m : Nat} {f : FuncId} {args : Array Value} {w : World} {R : Ending → World → Prop} (h : CallsIn Fence.wide n P f args w R) : CallsIn Fence.wide m P f args w R :=
  callsIn_wide.2 (callsIn_wide.1 h)
theorem roundIn_wide_any {n m : Nat} {l : Nat} {f : FuncId} {tmps : Array Value} {assign body : Code} {w : World} {R : Ending → World → Prop} (h : RoundIn Fence.wide n P l f tmps assign body w R) : RoundIn Fence.wide m P l f tmps assign body w R :=
  ⟨h.1, fun c cs _ => h.2 c cs (room_wide _)⟩
/-! A body's walk in frames of functions that there are: a panic out of a round is let through by these alone. -/
def wpX (P : Program) (c : Code) (Q : Exit → Act → World → Prop) (a : Act) (w : World) : Prop :=
  ∀ (b : Frame) (k : List Item) (cs : List Frame), b.roundOf = none → (∃ fn, P.funcs[b.fn]? = some fn) →
    ∃ e a' w', Q e a' w' ∧ ArrivesIn (Machine.fenced P Fence.wide) P (lone (b.atR a (.code c :: k)) cs w) b k cs e a' w'
variable {Q : Exit → Act → World → Prop} {a : Act} {w : World}
theorem wpX_of_wp {c : Code} (h : c.wp P Q a w) : wpX P c Q a w := fun b k cs hro _ => (wpIn_wide (n := 0)).2 h b k cs hro trivial (room_wide _)
theorem wpX_seq {x y : Code} (h : wpX P x (Exit.then (wpX P y Q) Q) a w) : wpX P (.seq x y) Q a w := by
  intro b k cs hro hb
  have h0 : (lone (b.atR a (.code (.seq x y) :: k)) cs w).fenced P Fence.wide := fenced_wide _ _
  obtain ⟨e, a₁, w₁, hq, harr⟩ := h b (.code y :: k) cs hro hb
  cases e with
  | normal =>
    obtain ⟨e₂, a₂, w₂, hq₂, harr₂⟩ := hq b k cs hro hb
    exact ⟨e₂, a₂, w₂, hq₂, .of_steps (.head h0 stepR_seq harr) harr₂⟩
  | exit id => exact ⟨_, a₁, w₁, hq, .of_steps (.one h0 stepR_seq) (.pass (x := .code y) rfl (fun _ _ => .inl (by simp)) harr)⟩
  | goto l => exact ⟨_, a₁, w₁, hq, .of_steps (.one h0 stepR_seq) (.pass (x := .code y) rfl (fun _ _ => .inl (by simp)) harr)⟩
  | ret => exact ⟨_, a₁, w₁, hq, .of_steps (.one h0 stepR_seq) (.pass (x := .code y) rfl (fun _ _ => .inl (by simp)) harr)⟩
  | panic ch => exact ⟨_, a₁, w₁, hq, .of_steps (.one h0 stepR_seq) (.pass (x := .code y) rfl (fun _ _ => .inl (by simp)) harr)⟩
  | outgrown => exact ⟨_, a₁, w₁, hq, .of_steps (.one h0 stepR_seq) (.pass (x := .code y) rfl (fun _ _ => .inl (by simp)) harr)⟩
/-- The first half walked plainly. -/
theorem wpX_seq_k {x y : Code} (h : ∀ K : Act → World → Prop, (∀ a w, wpX P y Q a w → K a w) → x.wp P (Exit.then K Q) a w) : wpX P (.seq x y) Q a w :=
  wpX_seq (wpX_of_wp (h _ fun _ _ h => h))
theorem wpX_seq_x {x y : Code} (h : ∀ K : Act → World → Prop, (∀ a w, wpX P y Q a w → K a w) → wpX P x (Exit.then K Q) a w) : wpX P (.seq x y) Q a w :=
  wpX_seq (h _ fun _ _ h => h)
theorem wpX_block {id : Nat} {c : Code} (h : wpX P c (Exit.inBlock id Q) a w) : wpX P (.block id c) Q a w := by
  intro b k cs hro hb
  have h0 : (lone (b.atR a (.code (.block id c) :: k)) cs w).fenced P Fence.wide := fenced_wide _ _
  have hn : b.roundOf.isSome = true → False := fun h => by rw [hro] at h; cases h
  obtain ⟨e, a₁, w₁, hq, harr⟩ := h b (.inBlock id :: k) cs hro hb
  cases e with
  | normal => exact ⟨.normal, a₁, w₁, hq, .head h0 stepR_block (StepsIn.trans harr (.one (fenced_wide _ _) stepR_inBlock))⟩
  | exit id' =>
    by_cases hid : id' = id
    · simp only [Exit.inBlock, hid, if_true] at hq
      exact ⟨.normal, a₁, w₁, hq, .head h0 stepR_block (harr.1 k (by simp [exitTo, hid]))⟩
    · simp only [Exit.inBlock, hid, if_false] at hq
      have this : (id == id') = false := by simp; exact fun h => hid h.symm
      have hx : exitTo id' (.inBlock id :: k) = exitTo id' k := by simp [exitTo, this]
      exact ⟨.exit id', a₁, w₁, hq, fun k' hk => .head h0 stepR_block (harr.1 k' (by rw [hx]; exact hk)), fun hr' => (hn hr').elim⟩
  | goto l =>
    have hx : gotoIn l (.inBlock id :: k) = gotoIn l k := by simp [gotoIn]
    exact ⟨.goto l, a₁, w₁, hq, fun k' hk => .head h0 stepR_block (harr.1 k' (by rw [hx]; exact hk)), fun hr' => (hn hr').elim⟩
  | ret => exact ⟨.ret, a₁, w₁, hq, fun h => let ⟨t, s⟩ := harr.1 h; ⟨t, .head h0 stepR_block s⟩, fun hr' => (hn hr').elim⟩
  | panic ch => obtain ⟨t, s⟩ := harr; exact ⟨.panic ch, a₁, w₁, hq, t, .head h0 stepR_block s⟩
  | outgrown => exact ⟨.outgrown, a₁, w₁, hq, harr.imp (fun h => h) (Outgrown.of_steps (.one stepR_block))⟩
/-- How the body of a round is left. -/
def roundEnd (l D : Nat) (Ig : World → Prop) (Ix : Code → World → Prop) (Ip : List PanicEntry → World → Prop) (W : World) (e : Exit) (a' : Act) (W' : World) : Prop :=
  W'.heap[l]? = W.heap[l]? ∧ W'.heap[D]? = W.heap[D]? ∧ match e with
    | .normal => Ig W'
    | .ret => Ix .ret W'
    | .exit id => Ix (.exit id) W'
    | .goto t => Ix (.goto t) W'
    | .panic ch => a'.defers = [] ∧ Ip ch W'
    | .outgrown => False
/-- One round, panics let through. -/
theorem roundIn_of_wpInP {l : Nat} {f : FuncId} {fn : Func} {tmps : Array Value} {assign body : Code} {w : World} {R : Ending → World → Prop} (hf : P.funcs[f]? = some fn)
    (h : assign.wpIn (Fence.wide.inRound l) 0 P (Exit.then (fun a₁ w₁ => ∃ w₂, (Instr.beginRound l).run P w₁ = .ok () w₂ ∧
      body.wpIn (Fence.wide.inRound l) 0 P (fun e a' w' => match e with | .panic ch => a'.defers = [] ∧ R (.panicked ch) w' | e => roundPost P l R e a' w') a₁ w₂) (fun _ _ _ => False)) { tmps := tmps, defers := [] } w) :
    RoundIn Fence.wide 0 P l f tmps assign body w R := by
  refine ⟨trivial, fun c cs hr => ?_⟩
  let b : Frame := { (default : Frame) with fn := f, kind := .normal, roundOf := some l }
  have hb0 : Frame.round l f tmps assign body .normal = b.atR { tmps := tmps, defers := [] } [.code assign, .beginRound, .code body] := by
    simp [Frame.round, Frame.atR, b]
  have hr' : (Fence.wide.inRound l).room ((c :: cs).length + 1 + 0) := hr
  have hF' : (Fence.wide.inRound l).fn b.fn := trivial
  obtain ⟨e, a₁, w₁, hq, harr⟩ := h b [.beginRound, .code body] (c :: cs) rfl hF' hr'
  rw [← hb0] at harr
  cases e with
  | normal =>
    obtain ⟨w₂, hbr, hbody⟩ := hq
    have s1 : StepsIn (Machine.fenced P (Fence.wide.inRound l)) P (lone (b.atR a₁ [.beginRound, .code body]) (c :: cs) w₁) (lone (b.atR a₁ [.code body]) (c :: cs) w₂) :=
      .one (fenced_calm (fr := b.atR a₁ [.beginRound, .code body]) hF' hr' rfl) (stepR_beginRound rfl hbr)
    obtain ⟨e₂, a₂, w₃, hq₂, harr₂⟩ := hbody b [] (c :: cs) rfl hF' hr'
    cases e₂ with
    | normal =>
      obtain ⟨v, w₄, hend, hR⟩ := hq₂
      exact ⟨.returned v, w₄, hR, (StepsIn.trans harr s1).trans (StepsIn.trans harr₂ (.one (fenced_calm (fr := b.atR a₂ []) hF' hr' rfl) (stepR_round_end rfl rfl hend)))⟩
    | ret =>
      obtain ⟨v, w₄, hend, hR⟩ := hq₂
      obtain ⟨k₁, hs⟩ := harr₂.2 rfl
      exact ⟨.returned v, w₄, hR, (StepsIn.trans harr s1).trans (StepsIn.trans hs (.one (fenced_calm (fr := b.atR a₂ (.code .ret :: k₁)) hF' hr' rfl) (stepR_round_ret rfl rfl hend)))⟩
    | exit id =>
      obtain ⟨v, w₄, hend, hR⟩ := hq₂
      obtain ⟨k₁, hk, hs⟩ := harr₂.2 rfl rfl
      exact ⟨.returned v, w₄, hR, (StepsIn.trans harr s1).trans (StepsIn.trans hs (.one (fenced_calm (fr := b.atR a₂ (.code (.exit id) :: k₁)) hF' hr' rfl) (stepR_round_exit rfl rfl hk hend)))⟩
    | goto t =>
      obtain ⟨v, w₄, hend, hR⟩ := hq₂
      obtain ⟨k₁, hk, hs⟩ := harr₂.2 rfl rfl
      exact ⟨.returned v, w₄, hR, (StepsIn.trans harr s1).trans (StepsIn.trans hs (.one (fenced_calm (fr := b.atR a₂ (.code (.goto t) :: k₁)) hF' hr' rfl) (stepR_round_goto rfl rfl hk hend)))⟩
    | panic chain =>
      obtain ⟨hd, hR⟩ := hq₂
      obtain ⟨todo, hs⟩ := harr₂
      have hl : ({ b.atR a₂ todo with mode := .panicking chain } : Frame).leaving P w₃ (.panicked chain) := ⟨rfl, hd, fn, hf⟩
      exact ⟨.panicked chain, w₃, hR, (StepsIn.trans harr s1).trans (StepsIn.trans hs (.one (fenced_leaving (n := 0) hF' hr' hl) (step_leave_panicked hl)))⟩
    | outgrown => exact hq₂.elim
  | exit id => exact hq.elim
  | goto t => exact hq.elim
  | ret => exact hq.elim
  | panic chain => exact hq.elim
  | outgrown => exact hq.elim
/-- The statement 'for .. := range g { .. }', at an outermost loop, for a frame of a function that there is. -/
theorem wpX_range {g : Operand} {ps : Array Tmp} {assign body : Code} {gf : Nat} {lb : Array Value} {xs : List (Array Value)} {Kp : World → Prop}
    (hg : a.eval g = .func (.func gf) #[] lb) (eg : ∀ args w, (callFunc gf args).run P w = .ok (.enter gf args) w) (hit : IterC P gf lb ps.size xs Kp) (hsz : ∀ v ∈ xs, v.size = ps.size)
    (I : Nat → World → Prop) (A : Nat → Act → World → Prop) (Ix : Code → World → Prop) (Ip : List PanicEntry → World → Prop)
    (hI : ∀ i W o o', I i W → W.heap[w.heap.size + 1]? = some (.loop o') → I i (W.putObj (w.heap.size + 1) (.loop o)))
    (hA : ∀ i a₁ W o o', A i a₁ W → W.heap[w.heap.size + 1]? = some (.loop o') → A i a₁ (W.putObj (w.heap.size + 1) (.loop o)))
    (hIx : ∀ c W o o', Ix c W → W.heap[w.heap.size + 1]? = some (.loop o') → Ix c (W.putObj (w.heap.size + 1) (.loop o)))
    (hId : ∀ i W m, I i W → I i (W.drewN m)) (hIxd : ∀ c W m, Ix c W → Ix c (W.drewN m)) (hIpd : ∀ c W m, Ip c W → Ip c (W.drewN m))
    (hK : ∀ i W, I i W → Kp W)
    (h0 : ∀ rec, I 0 ((w.alloc (.deferred (some []))).alloc (.loop rec)))
    (hassign : ∀ i v W, xs[i]? = some v → I i W → w.heap.size + 1 < W.heap.size →
      assign.wpIn (Fence.wide.inRound (w.heap.size + 1)) 0 P (Exit.then (fun a₁ w₁ => A i a₁ w₁ ∧ w₁.heap[w.heap.size + 1]? = W.heap[w.heap.size + 1]? ∧ w₁.heap[w.heap.size]? = W.heap[w.heap.size]?) (fun _ _ _ => False))
        { tmps := (ps.zip v).foldl (fun t (p, v) => t.setIfInBounds p v) a.tmps, defers := [] } W)
    (hbody : ∀ i v a₁ W, xs[i]? = some v → A i a₁ W → w.heap.size + 1 < W.heap.size →
      body.wpIn (Fence.wide.inRound (w.heap.size + 1)) 0 P (roundEnd (w.heap.size + 1) w.heap.size (I (i + 1)) Ix Ip W) a₁ W)
    (hdone : ∀ W, I xs.length W → W.heap[w.heap.size]? = some (.deferred (some [])) → Q .normal { a with defers := { target := .collected w.heap.size, args := #[] } :: a.defers } W)
    (hstop : ∀ c W, Ix c W → W.heap[w.heap.size]? = some (.deferred (some [])) → wpX P c Q { a with defers := { target := .collected w.heap.size, args := #[] } :: a.defers } W)
    (hpanic : ∀ ch W, Ip ch W → W.heap[w.heap.size]? = some (.deferred (some [])) → Q (.panic ch) { a with defers := { target := .collected w.heap.size, args := #[] } :: a.defers } W) :
    wpX P (.rangeFunc g ps assign body) Q a w := by
  intro b k cs hro ⟨fnr, hfn⟩
  obtain ⟨rec, hrec⟩ : ∃ rec : LoopState → Option Code → Loop, rec = fun st pe => { state := st, pending := pe, fn := b.fn, tmps := a.tmps, params := ps, assign, body, defers := w.heap.size } := ⟨_, rfl⟩
  obtain ⟨W1, hW1⟩ : ∃ W1, (w.alloc (.deferred (some []))).alloc (.loop (rec .ready none)) = W1 := ⟨_, rfl⟩
  have hL1 : W1.heap[w.heap.size + 1]? = some (.loop (rec .ready none)) := by
    rw [← hW1]; have := World.alloc_heap_new (w.alloc (.deferred (some []))) (.loop (rec .ready none)); rwa [World.size_alloc] at this
  have hK1 : W1.heap[w.heap.size]? = some (.deferred (some [])) := by
    rw [← hW1]; exact (Below.heap_alloc _ _ _ (by simp)).trans (World.alloc_heap_new w _)
  have he : (Instr.enterLoop b.fn a.tmps ps assign body b.roundOf).run P w = .ok (w.heap.size + 1, [{ target := .collected w.heap.size, args := #[] }]) W1 := by
    rw [hro, ← hW1, hrec]; exact run_enterLoop_outer _ _ _ _ _
  have hres : (resolve a.eval (rangeCall g (w.heap.size + 1)) 0).run P W1 = .ok { target := .fn (.func gf) lb, args := #[.func (.yield (w.heap.size + 1)) #[] #[]] } W1 := by
    simp only [resolve, hg]
    simp [go_sem]
  have hinv : (invoke (Target.fn (.func gf) lb) #[.func (.yield (w.heap.size + 1)) #[] #[]]).run P W1 = .ok (.enter gf (#[.func (.yield (w.heap.size + 1)) #[] #[]] ++ lb)) W1 := by
    simp [invoke, go_sem, eg]
  have henter := stepR_rangeFunc (P := P) (b := b) (a := a) (k := k) (cs := cs) (w := w) he hres hinv
  have fin : ∀ (o : Loop) (W3 : World), W3.heap[w.heap.size + 1]? = some (.loop o) → W3.heap[w.heap.size]? = some (.deferred (some [])) → ∀ o',
      (W3.putObj (w.heap.size + 1) (.loop o')).heap[w.heap.size + 1]? = some (.loop o') ∧ (W3.putObj (w.heap.size + 1) (.loop o')).heap[w.heap.size]? = some (.deferred (some [])) := fun o W3 h1 h2 o' =>
    ⟨World.putObj_heap_same (Array.getElem?_eq_some_iff.1 h1).1, (World.putObj_heap_other (by omega)).trans h2⟩
  have hcall := hit (w.heap.size + 1) (rec .ready none)
    (fun i W => I i W ∧ W.heap[w.heap.size + 1]? = some (.loop (rec .ready none)) ∧ W.heap[w.heap.size]? = some (.deferred (some [])))
    (fun e W => W.heap[w.heap.size]? = some (.deferred (some [])) ∧ match e with
      | .returned v => (I xs.length W ∧ W.heap[w.heap.size + 1]? = some (.loop (rec .ready none))) ∨ (∃ c, Ix c W ∧ W.heap[w.heap.size + 1]? = some (.loop (rec .done (some c))))
      | .panicked ch => Ip ch W
      | .outgrown => False) W1 (by rw [hrec])
    (fun i W m h => ⟨hId i W m h.1, h.2.1, h.2.2⟩) (fun i W h => hK i W h.1) (fun i W h => h.2.1)
    (fun e W m h => ⟨h.1, by
      cases e with
      | returned v => rcases h.2 with ⟨h1, h2⟩ | ⟨c, h1, h2⟩
                      · exact .inl ⟨hId _ _ m h1, h2⟩
                      · exact .inr ⟨c, hIxd _ _ m h1, h2⟩
      | panicked ch => exact hIpd _ _ m h.2
      | outgrown => exact h.2⟩)
    (fun i v W hv ⟨hi, hl, hk⟩ => by
      have hlt : w.heap.size + 1 < W.heap.size := (Array.getElem?_eq_some_iff.1 hl).1
      have hfn' : P.funcs[(rec .ready none).fn]? = some fnr := by rw [hrec]; exact hfn
      refine roundIn_of_wpInP hfn' ?_
      have hrt : (rec .ready none).tmps = a.tmps := by rw [hrec]
      have hrp : (rec .ready none).params = ps := by rw [hrec]
      have hra : (rec .ready none).assign = assign := by rw [hrec]
      have hrb : (rec .ready none).body = body := by rw [hrec]
      rw [hrt, hrp, hra, hrb]
      refine wpIn_mono (hassign i v W hv hi hlt) ?_
      rintro e a₁ w₁ hq
      cases e with
      | normal =>
        obtain ⟨ha₁, hl₁, hk₁⟩ := hq
        have hl1 : w₁.heap[w.heap.size + 1]? = some (.loop (rec .ready none)) := hl₁.trans hl
        have hk1 : w₁.heap[w.heap.size]? = some (.deferred (some [])) := hk₁.trans hk
        refine ⟨_, run_beginRound hl1 (by rw [hrec]), ?_⟩
        obtain ⟨f1, f2⟩ := fin _ _ hl1 hk1 { rec .ready none with state := .busy }
        refine wpIn_mono (hbody i v a₁ _ hv (hA i a₁ w₁ _ _ ha₁ hl1) (by simpa using (Array.getElem?_eq_some_iff.1 hl1).1)) ?_
        rintro e₂ a₂ w₂ ⟨hl2, hk2, hq₂⟩
        have hl3 := hl2.trans f1
        have hk3 := hk2.trans f2
        have hend : ∀ jump, (Instr.endRound (w.heap.size + 1) jump).run P w₂ = .ok (.bool jump.isNone) (w₂.putObj (w.heap.size + 1) (.loop (rec (if jump.isNone then .ready else .done) jump))) := fun jump => by
          have := run_endRound (P := P) jump hl3
          rw [hrec] at this ⊢
          exact this
        have hf := fun jump => fin _ _ hl3 hk3 (rec (if Option.isNone jump then LoopState.ready else .done) jump)
        cases e₂ with
        | normal => exact ⟨_, _, hend none, .inl ⟨true, rfl, fun _ => ⟨hI _ _ _ _ hq₂ hl3, (hf none).1, (hf none).2⟩, by simp⟩⟩
        | ret => exact ⟨_, _, hend (some .ret), .inl ⟨false, rfl, by simp, fun _ => ⟨(hf (some .ret)).2, .inr ⟨.ret, hIx _ _ _ _ hq₂ hl3, (hf (some .ret)).1⟩⟩⟩⟩
        | exit id => exact ⟨_, _, hend (some (.exit id)), .inl ⟨false, rfl, by simp, fun _ => ⟨(hf (some (.exit id))).2, .inr ⟨.exit id, hIx _ _ _ _ hq₂ hl3, (hf (some (.exit id))).1⟩⟩⟩⟩
        | goto t => exact ⟨_, _, hend (some (.goto t)), .inl ⟨false, rfl, by simp, fun _ => ⟨(hf (some (.goto t))).2, .inr ⟨.goto t, hIx _ _ _ _ hq₂ hl3, (hf (some (.goto t))).1⟩⟩⟩⟩
        | panic ch => exact ⟨hq₂.1, .inr ⟨ch, rfl, hk3, hq₂.2⟩⟩
        | outgrown => exact hq₂.elim
      | exit id => exact hq.elim
      | goto t => exact hq.elim
      | ret => exact hq.elim
      | panic chain => exact hq.elim
      | outgrown => exact hq.elim)
    (fun W ⟨hi, hl, hk⟩ => ⟨hk, .inl ⟨hi, hl⟩⟩) ⟨by rw [← hW1]; exact h0 _, hL1, hK1⟩
  obtain ⟨e, w₃, fr, hR, hsteps, hfnx, hleave⟩ := hcall.2 (b.atR { a with defers := [{ target := .collected w.heap.size, args := #[] }] ++ a.defers } (.inRangeFunc (w.heap.size + 1) :: k) :: cs) (room_wide _)
  obtain ⟨hk3, hR⟩ := hR
  have h0' : (lone (b.atR a (.code (.rangeFunc g ps assign body) :: k)) cs w).fenced P Fence.wide := fenced_wide _ _
  cases e with
  | outgrown => exact hR.elim
  | returned v =>
    have back : ∀ (jump : Option Code) (w₄ : World), (Instr.endLoop (w.heap.size + 1)).run P w₃ = .ok jump w₄ →
        StepsIn (Machine.fenced P Fence.wide) P (lone (b.atR a (.code (.rangeFunc g ps assign body) :: k)) cs w) (lone (b.atR { a with defers := [{ target := .collected w.heap.size, args := #[] }] ++ a.defers } ((jump.map Item.code).toList ++ k)) cs w₄) := fun jump w₄ hend => by
      refine .head h0' henter (StepsIn.trans hsteps (.head (fenced_wide _ _) ?_ (.one (fenced_wide _ _) (stepR_endRangeFunc hend))))
      rw [← finish_atR_inRangeFunc (w.heap.size + 1) v]; exact step_leave_returned hleave
    rcases hR with ⟨hi, hl⟩ | ⟨c, hi, hl⟩
    · have hend := run_endLoop (P := P) hl (by rw [hrec]; simp)
      have hp : (rec .ready none).pending = none := by rw [hrec]
      rw [hp] at hend
      exact ⟨.normal, _, _, hdone _ (hI _ _ _ _ hi hl) ((World.putObj_heap_other (by omega)).trans hk3), back none _ hend⟩
    · have hend := run_endLoop (P := P) hl (by rw [hrec]; simp)
      have hp : (rec .done (some c)).pending = some c := by rw [hrec]
      rw [hp] at hend
      obtain ⟨e', a'', w₅, hq, harr⟩ := hstop c _ (hIx _ _ _ _ hi hl) ((World.putObj_heap_other (by omega)).trans hk3) b k cs hro ⟨fnr, hfn⟩
      exact ⟨e', a'', w₅, hq, .of_steps (back (some c) _ hend) harr⟩
  | panicked chain =>
    refine ⟨.panic chain, _, w₃, hpanic chain _ hR hk3, .inRangeFunc (w.heap.size + 1) :: k, .head h0' henter (StepsIn.trans hsteps (.one (fenced_wide _ _) ?_))⟩
    rw [← Frame.raise_atR]; exact step_leave_panicked hleave
/-- A function's contract from its body, the body holding a range over a function. -/
theorem calls_of_wpX {f : FuncId} {fn : Func} {c : Code} {args : Array Value} {w : World} {R : Ending → World → Prop}
    (hf : P.funcs[f]? = some fn) (hb : fn.body = some c)
    (h : wpX P c (bodyPostM Fence.wide 0 P fn R) { tmps := args ++ Array.replicate (fn.ntmps - args.size) undef, defers := [] } w) : Calls P f args w R := by
  refine (callsIn_wide (n := 0)).1 ⟨trivial, fun cs hr => ?_⟩
  let b : Frame := { (default : Frame) with fn := f, kind := .normal, roundOf := none }
  have henter : Frame.enter P f args .normal =
      b.atR { tmps := args ++ Array.replicate (fn.ntmps - args.size) undef, defers := [] } [.code c] := by
    simp [Frame.enter, Frame.atR, hf, hb, b]
  obtain ⟨e, a', w', hq, harr⟩ := h b [] cs rfl ⟨fn, hf⟩
  rw [← henter] at harr
  cases e with
  | normal =>
    obtain ⟨e', w'', fr', hR, hs, hfn, hl⟩ := leaves_stepsInM a'.defers .returning w' { b.atR a' [] with mode := .returning } cs rfl rfl rfl hf rfl trivial hr hq
    exact ⟨e', w'', fr', hR, ComesIn.of_steps (StepsIn.trans harr (.one (fenced_wide _ _) (stepR_end rfl))) hs, hfn, hl⟩
  | ret =>
    obtain ⟨todo, hs₀⟩ := harr.1 rfl
    obtain ⟨e', w'', fr', hR, hs, hfn, hl⟩ := leaves_stepsInM a'.defers .returning w' { b.atR a' todo with mode := .returning } cs rfl rfl rfl hf rfl trivial hr hq
    exact ⟨e', w'', fr', hR, ComesIn.of_steps hs₀ hs, hfn, hl⟩
  | panic chain =>
    obtain ⟨todo, hs₀⟩ := harr
    obtain ⟨e', w'', fr', hR, hs, hfn, hl⟩ := leaves_stepsInM a'.defers (.panicking chain) w' { b.atR a' todo with mode := .panicking chain } cs rfl rfl rfl hf rfl trivial hr hq
    exact ⟨e', w'', fr', hR, ComesIn.of_steps hs₀ hs, hfn, hl⟩
  | exit id => exact hq.elim
  | goto l => exact hq.elim
  | outgrown => exact ⟨.outgrown, w', b, hq, harr.resolve_left (by simp [b]), rfl, trivial⟩
/-! A region of a round that draws its order and only reads: walked once, in the order of the text. -/
theorem wpIn_of_quiet_round {C : World → Prop} {o : Oper} {a : Act} {l n : Nat} {K : Act → Prop} {K' : Act → World → Prop} {Q' : Exit → Act → World → Prop} {w : World} (hd : ∀ c, o.op ≠ .defer c) (hw : C w)
    (h : ∀ a w', C w' → K a → K' a w') (hh : o.quiet P a C K) : o.wpIn (Fence.wide.inRound l) n P a w K' Q' := by
  obtain ⟨v, h1, h2⟩ := hh
  have h3 := h1 w hw
  refine ⟨fun _ _ => trivial, ?_⟩
  rw [Oper.semAt_eq _ _ _ hd]
  unfold Oper.quietAt at h3
  generalize (execOp a.eval o).run P w = r at *
  cases r with
  | ok m w' =>
    cases m <;> simp only [Oper.quietUpon] at h3 <;> simp only [Oper.uponIn]
    case value u => obtain ⟨e1, e2⟩ := h3; rw [e1, e2]; exact h _ _ hw h2
    case skip => obtain ⟨e1, e2⟩ := h3; rw [e1, ← e2]; exact h _ _ hw h2
    case enter f args =>
      obtain ⟨e1, hc⟩ := h3
      rw [e1]
      refine ⟨fun hx => (by cases hx), ?_⟩
      have := (callsIn_wide (n := n - 1)).2 hc
      exact this.mono fun e w'' ⟨he, hw''⟩ => by subst he; exact h _ _ hw'' h2
  | halt x w' => simp only [Oper.quietUpon] at h3
def noDefer (ops : List Oper) : Bool := ops.all fun o => match o.op with | .defer _ => false | _ => true
theorem noDefer_spec {ops : List Oper} (h : noDefer ops = true) {i : Nat} {o : Oper} (ho : ops[i]? = some o) : ∀ c, o.op ≠ .defer c := by
  intro c hc
  have := List.all_eq_true.1 h o (List.mem_of_getElem? ho)
  rw [hc] at this
  cases this
theorem wpAnyIn_of_quiet_round {C : World → Prop} {md : Region.Mode} {ops : List Oper} {l n : Nat} {Q : Act → Prop} {Q' : Exit → Act → World → Prop} (hd : noDefer ops = true) (hQ : ∀ a w, C w → Q a → Q' .normal a w) :
    ∀ (fuel : Nat) (listed : Array Bool) (a : Act) (w : World), C w → wpAnyQ P md ops.toArray C Q fuel listed a → wpAnyIn (Fence.wide.inRound l) n P md ops.toArray Q' fuel listed a w
  | 0, _, _, _, hw, h => ⟨h.1, hQ _ _ hw h.2⟩
  | fuel + 1, listed, a, w, hw, h => ⟨fun h0 => hQ _ _ hw (h.1 h0), fun i hi => by
      have hq := h.2 i hi
      unfold qOp at hq
      unfold wpOpIn
      split
      · rename_i ho; simp only [ho] at hq; exact wpAnyIn_of_quiet_round hd hQ fuel _ _ _ hw hq
      · rename_i o ho
        simp only [ho] at hq
        split
        · rename_i hw'; simp only [hw', if_true] at hq
          exact wpIn_of_quiet_round (noDefer_spec hd (by simpa using ho)) hw (fun a' w' hw'' => wpAnyIn_of_quiet_round hd hQ fuel _ a' w' hw'') hq
        · rename_i hw'; simp only [hw'] at hq; exact ⟨fun _ _ => trivial, wpAnyIn_of_quiet_round hd hQ fuel _ _ _ hw hq⟩⟩
theorem round_region_quiet {id l n : Nat} {ops : List Oper} (hm : P.follows .mixedOrders = true) (hB : Region.lexB .any ops.toArray = true) (hd : noDefer ops = true)
    (h : wpQuiet P ops.toArray (fun w' => ∃ n, w' = w.drewN n) (fun a' => ∀ w', (∃ n, w' = w.drewN n) → Q .normal a' w') ops a) : (Code.region id ops.toArray true).wpIn (Fence.wide.inRound l) n P Q a w := by
  simp only [Region.lexB, Bool.and_eq_true] at hB
  refine wpIn_region_any hm (wpAnyIn_of_quiet_round (C := fun w' => ∃ n, w' = w.drewN n) (Q := fun a' => ∀ w', (∃ n, w' = w.drewN n) → Q .normal a' w') hd (fun _ w' hw' h => h w' hw') _ _ _ _ ⟨1, rfl⟩ ?_)
  have := wpAnyQ_lex (C := fun w' => ∃ n, w' = w.drewN n) (md := .any) hB.1 ops 0 (Array.replicate ops.toArray.size false) a (by simp) (by simpa using hB.2) h
  simpa using this
end
section
variable {P : Program} {Q : Exit → Act → World → Prop} {a : Act} {w : World}
theorem wpIn_hideN {F : Fence} {n : Nat} {c : Code} (hn : ∀ a w, ¬ Q .outgrown a w)
    (h : ∀ Q', Aside0 (∀ e a w, Q e a w → Q' e a w) → Aside0 (∀ a w, ¬ Q' .outgrown a w) → c.wpIn F n P Q' a w) : c.wpIn F n P Q a w := h Q (Aside0.mk fun _ _ _ h => h) (Aside0.mk hn)
theorem wpIn_of_wp_round {o : Oper} {l n : Nat} {K : Act → World → Prop} (hd : ∀ c, o.op ≠ .defer c) (h : o.wp P a w K Q) : o.wpIn (Fence.wide.inRound l) n P a w K Q := by
  refine ⟨fun _ _ => trivial, ?_⟩
  rw [Oper.semAt_eq _ _ _ hd]
  unfold Oper.wp at h
  generalize (execOp a.eval o).run P w = r at *
  cases r with
  | ok m w' =>
    cases m <;> simp only [Oper.upon] at h <;> simp only [Oper.uponIn]
    case value u => exact h
    case skip => exact h
    case defer d => exact h
    case enter f args => exact ⟨fun hx => (by cases hx), (callsIn_wide (n := n - 1)).2 h⟩
    case row row args => exact ⟨fun hx => (by cases hx), fun c cs _ => let ⟨v, w', r, s⟩ := h c cs; ⟨v, w', r, stepsIn_wide.2 s⟩⟩
  | halt x w' =>
    cases x <;> simp only [Oper.upon] at h <;> simp only [Oper.uponIn]
    exact h
theorem round_any {md : Region.Mode} {ops : List Oper} {l n : Nat} (hd : noDefer ops = true) (hno : ∀ a w, ¬ Q .outgrown a w) :
    ∀ (fuel : Nat) (listed : Array Bool) (a : Act) (w : World), wpAny P md ops.toArray Q fuel listed a w → wpAnyIn (Fence.wide.inRound l) n P md ops.toArray Q fuel listed a w
  | 0, _, _, _, h => h
  | fuel + 1, listed, a, w, h => ⟨h.1, fun i hi => by
      have hq := h.2 i hi
      unfold wpOp at hq
      unfold wpOpIn
      split
      · rename_i ho; simp only [ho] at hq; exact round_any hd hno fuel _ _ _ hq
      · rename_i o ho
        simp only [ho] at hq
        split
        · rename_i hw'
          simp only [hw', if_true] at hq
          have hdo := noDefer_spec hd (i := i) (o := o) (by simpa using ho)
          rcases hq with hq | ⟨_, a', w', hq⟩
          · exact Oper.wpIn_mono (fun a' w' h' => round_any hd hno fuel _ _ _ h') (wpIn_of_wp_round hdo hq)
          · exact (hno _ _ hq).elim
        · rename_i hw'; simp only [hw'] at hq; exact ⟨fun _ _ => trivial, round_any hd hno fuel _ _ _ hq⟩⟩
/-- A region of a round that draws its order: any order, by the plain rules. -/
theorem round_region_any {id l n : Nat} {ops : List Oper} (hm : P.follows .mixedOrders = true) (hd : noDefer ops = true) (hno : ∀ a w, ¬ Q .outgrown a w)
    (h : wpAny P .any ops.toArray Q ops.toArray.size (Array.replicate ops.toArray.size false) a { w with drawn := w.drawn + 1 }) : (Code.region id ops.toArray true).wpIn (Fence.wide.inRound l) n P Q a w :=
  wpIn_region_any hm (round_any hd hno _ _ _ _ h)
end

end Go.Proofs.Ytemglmcddaeedaa.PA

namespace Go.Proofs.Ytemglmcddaeedaa.PA
open Go.RowKit Go.Proofs.YtemglmcddaeedaaW.PrintWords Go.Proofs.YtemglmcddaeedaaW.PrintLast Go.Proofs.YtemglmcddaeedaaW.PrintMore
attribute [local go_sem] max2_int min2_int max_two min_two max_three min_three max_four min_four   -- for this text's walks alone
set_option linter.unusedVariables false
set_option linter.unusedSimpArgs false

/-! ### page_slots: function 0 -/
attribute [local go_sem] Oper.semAt_some
/-- The entry of line i + 1. -/
def slotV (p : ByteArray) (i : Nat) : Array Value := #[.agg #[.int .i64 ((i : Int) + 1), .int .i64 (twoS p (2 + 4 * (i : Int))), .int .i64 (twoS p (4 + 4 * (i : Int)))]]
set_option maxHeartbeats 4000000 in
set_option maxRecDepth 100000 in
theorem slots1_iter (p : ByteArray) (n : Nat) (hn : twoS p 0 = n) (hs : 2 + 4 * n ≤ p.size) (hs2 : p.size ≤ 100000) (b : Nat) :
    IterC Try.prog 125 #[.pointer (some ⟨b, 0, none⟩)] 1 ((List.range n).map (slotV p)) (fun W => W.cell? ⟨b, 0, none⟩ = some (.string p)) := by
  intro l rec J R W hps hJd hJK hJl hRd hround hdone h0
  have HN := Aside0.mk hn
  have HJd := Aside0.mk hJd
  have HJK := Aside0.mk hJK
  have HJl := Aside0.mk hJl
  have HRd := Aside0.mk hRd
  have HR := Aside0.mk hround
  have HD := Aside0.mk hdone
  have HPS := Aside0.mk hps
  clear hn hJd hJK hJl hRd hround hdone hps
  have hb := HJK.out 0 W h0
  have H0 := Aside0.mk h0
  clear h0
  refine callsIn_of_wp Try.func125 rfl trivial ?_ rfl
  simp only [Try.ntmps125, List.size_toArray, List.length_cons, List.length_nil, Nat.reduceAdd, Nat.reduceSub, Array.replicate_succ, Array.replicate_zero, List.push_toArray, List.append_toArray, List.nil_append, List.cons_append]
  gi_wp2_with fail
  refine ⟨trivial, rfl, ?_⟩
  refine (callsIn_wide.2 (page_count.calls p n _ (by rw [← HN.out]; exact page_count_f p (by omega) (by omega)))).mono ?_
  rintro e w' ⟨rfl, ⟨nd, rfl⟩⟩
  have H1 := Aside0.mk (HJd.out 0 W nd H0.out)
  clear H0
  gi_wp2_with fail
  gi_loopw [7] (fun v7 wr => ∃ i : Nat, i ≤ n ∧ v7 = .int .i64 (i : Int) ∧ Aside0 (J i wr)) (fun v7 _ => n - (intOf v7).toNat)
  case atStart => exact ⟨0, by omega, by simp, H1⟩
  case round =>
    clear H1 hb
    obtain ⟨i, hi, rfl, HI⟩ := hrel
    by_cases hlt : i < n
    · have hb := HJK.out i wr HI.out
      have hl := HJl.out i wr HI.out
      have hlt' : (i : Int) < n := by omega
      gi_wp2_with fail
      have t1 := page_two_f p (2 + 4 * (i : Int)) (by omega) (by omega) (by omega)
      have t2 := page_two_f p (4 + 4 * (i : Int)) (by omega) (by omega) (by omega)
      have T1 := Aside0.mk t1
      have T2 := Aside0.mk t2
      clear t1 t2
      have hx1 : IntKind.i64.wrap ((i : Int) + 1) = (i : Int) + 1 := IntWalk.i64_in _ (by omega)
      have hx2 : IntKind.i64.wrap (2 + 4 * (i : Int) + 2) = 4 + 4 * (i : Int) := (IntWalk.i64_in _ (by omega)).trans (by omega)
      have hv : ((List.range n).map (slotV p))[i]? = some (slotV p i) := by simp [hlt]
      have hr := fun m => HR.out i (slotV p i) (wr.drewN m) hv (HJd.out i wr m HI.out)
      have hy : ∀ m, (Instr.yield l (slotV p i)).run Try.prog (wr.drewN m) = .ok (.round l rec.fn ((rec.params.zip (slotV p i)).foldl (fun tmps (t, a) => tmps.setIfInBounds t a) rec.tmps) rec.assign rec.body) (wr.drewN m) :=
        fun m => run_yield hl (by rw [HPS.out]; rfl)
      obtain ⟨tm, htm⟩ : ∃ tm, ((rec.params.zip (slotV p i)).foldl (fun tmps (t, a) => tmps.setIfInBounds t a) rec.tmps) = tm := ⟨_, rfl⟩
      simp only [RoundOf, htm] at hr
      rw [htm] at hy
      unfold slotV at hy
      have HR1 := Aside0.mk hr
      clear hr htm hv hl
      have hmo : Try.prog.follows .mixedOrders = true := by kernel_rfl
      gi_region_with_o (first
        | (refine ⟨trivial, rfl, ?_⟩; gi_at_call 105; first
            | ((with_reducible refine (callsIn_wide.2 (page_two.calls p (2 + 4 * (i : Int)) _ _ T1.out)).mono ?_); rintro e w' ⟨rfl, ⟨nd, rfl⟩⟩)
            | ((with_reducible refine (callsIn_wide.2 (page_two.calls p (4 + 4 * (i : Int)) _ _ T2.out)).mono ?_); rintro e w' ⟨rfl, ⟨nd, rfl⟩⟩))
        | (with_reducible refine ⟨rfl, ?_⟩; (with_reducible refine (HR1.out _).mono ?_); rintro e W3 (⟨go, rfl, hJ3, hR3⟩ | ⟨ch, rfl, hR3⟩); rotate_left; (simp +zetaDelta only [Exit.then, Exit.inBlock, bodyPost]; exact ⟨trivial, hR3⟩)))
      all_goals
        cases go
        · gi_wp2_with fail
          refine bodyPost_ret (results_none rfl _ _ _) rfl (hR3 (by first | rfl | trivial))
        · have HJ4 := Aside0.mk (hJ3 rfl)
          clear hJ3 hR3
          gi_wp2_with fail
          go_roundw
          case rel => exact ⟨i + 1, by omega, by go_num, HJ4⟩
          case measure => simp [intOf]; omega
    · gi_wp2_with fail
      go_end0
      exact HD.out _ (by have h1 : i = n := by omega
                         subst h1; simpa using HI.out)

end Go.Proofs.Ytemglmcddaeedaa.PA

namespace Go.Proofs.Ytemglmcddaeedaa.PA
open Go.RowKit Go.Proofs.YtemglmcddaeedaaW.PrintWords Go.Proofs.YtemglmcddaeedaaW.PrintLast Go.Proofs.YtemglmcddaeedaaW.PrintMore
attribute [local go_sem] max2_int min2_int max_two min_two max_three min_three max_four min_four   -- for this text's walks alone
set_option linter.unusedVariables false
set_option linter.unusedSimpArgs false

/-! ### page_entries: function 0 -/
attribute [local go_sem] Oper.semAt_some
theorem wpIn_hide {P : Program} {F : Fence} {n : Nat} {c : Code} {Q : Exit → Act → World → Prop} {a : Act} {w : World}
    (h : ∀ Q', Aside0 (∀ e a w, Q e a w → Q' e a w) → c.wpIn F n P Q' a w) : c.wpIn F n P Q a w := h Q (Aside0.mk fun _ _ _ h => h)
theorem leavesM_ret {P : Program} {fn : Func} {tmps : Array Value} {R : Ending → World → Prop} {v : Value} {W : World} {D : Nat} (hD : W.heap[D]? = some (.deferred (some [])))
    (hr : ∀ W', (results fn tmps).run P W' = .ok v W') (hR : R (.returned v) (W.putObj D (.deferred none))) : LeavesInM Fence.wide 0 P fn tmps R [{ target := .collected D, args := #[] }] .returning W :=
  ⟨by simp, .inl ⟨D, _, rfl, run_takeDeferred hD, v, hr _, hR⟩⟩
theorem leavesM_panic {P : Program} {fn : Func} {tmps : Array Value} {R : Ending → World → Prop} {ch : List PanicEntry} {W : World} {D : Nat} (hD : W.heap[D]? = some (.deferred (some [])))
    (hR : R (.panicked ch) (W.putObj D (.deferred none))) : LeavesInM Fence.wide 0 P fn tmps R [{ target := .collected D, args := #[] }] (.panicking ch) W :=
  ⟨by simp, .inl ⟨D, _, rfl, run_takeDeferred hD, hR⟩⟩
theorem below_putObj {B : Nat} {w W : World} (h : Below B w W) {r : Nat} (hr : B ≤ r) (o : Obj) : Below B w (W.putObj r o) :=
  ⟨h.os, h.tape, h.output, by simpa using h.size, fun k hk => (World.putObj_heap_other (by omega)).trans (h.block k hk)⟩
theorem blk_putObj {W : World} {g r : Nat} {o o' : Obj} (h : W.heap[g]? = some o) (hne : g ≠ r) : (W.putObj r o').heap[g]? = some o :=
  (World.putObj_heap_other hne).trans h
theorem page_slots_calls (p : ByteArray) (w : World) : Calls Try.prog 106 #[.string p] w fun e w' => e = .returned (.func (.func 125) #[] #[.pointer (some ⟨w.heap.size, 0, none⟩)]) ∧ w' = w.alloc (.cells #[.string p] 9) := by
  go_enter Try.func106, Try.ntmps106
  go_wp2_with fail
  go_ret
  exact ⟨rfl, rfl⟩
set_option maxHeartbeats 4000000 in
set_option maxRecDepth 100000 in
theorem page_entries_calls (p : ByteArray) (n : Nat) (hn : twoS p 0 = n) (hs : 2 + 4 * n ≤ p.size) (hs2 : p.size ≤ 100000) (w : World) :
    Calls Try.prog 58 #[.string p] w fun e w' => Below w.heap.size w w' ∧ match entriesS p n with
      | .ok top => e = .returned (.int .i64 top)
      | .error a => e = .panicked [{ v := .iface 70 (.agg #[.int .i64 a, .int .i64 12]), recovered := false }] := by
  refine calls_of_wpX Try.func58 rfl ?_
  simp only [Try.ntmps58, List.size_toArray, List.length_cons, List.length_nil, Nat.reduceAdd, Nat.reduceSub, Array.replicate_succ, Array.replicate_zero, List.push_toArray, List.append_toArray, List.nil_append, List.cons_append]
  obtain ⟨R, hR⟩ : ∃ R : Ending → World → Prop, (fun e w' => Below w.heap.size w w' ∧ match entriesS p n with
      | .ok top => e = .returned (.int .i64 top)
      | .error a => e = .panicked [{ v := .iface 70 (.agg #[.int .i64 a, .int .i64 12]), recovered := false }]) = R := ⟨_, rfl⟩
  rw [hR]
  have HR := Aside0.mk hR
  clear hR
  refine wpX_seq_k ?_
  intro K hK
  go_wp2_with fail
  refine wpX_seq_k ?_
  intro K hK
  go_wp2_with fail
  refine wpX_seq_k ?_
  intro K hK
  go_wp2_with fail
  refine wpX_seq_x ?_
  intro K0 hK0
  refine wpX_seq_k ?_
  intro K hK
  go_wp2_with (go_at_call 106; refine (page_slots_calls p _).mono ?_; rintro e w1 ⟨rfl, rfl⟩)
  obtain ⟨g, hg⟩ : ∃ g, w.heap.size = g := ⟨_, rfl⟩
  obtain ⟨W0, hW⟩ : ∃ W, ((((w.alloc (.cells #[.string p] 9)).alloc (.cells #[.int .i64 p.size] 3)).alloc (.cells #[.int .i64 0] 3)).alloc (.cells #[.string p] 9)) = W := ⟨_, rfl⟩
  have hsz : W0.heap.size = g + 4 := by rw [← hW, ← hg]; simp
  have hB0 : Below w.heap.size w W0 := by rw [← hW]; exact below_alloc (below_alloc (below_alloc (below_alloc (Below.refl _ w) _) _) _) _
  have h1 : W0.heap[g]? = some (.cells #[.string p] 9) := by rw [← hW, ← hg]; exact blk_alloc (blk_alloc (blk_alloc (blk_new _ _) _) _) _
  have h2 : W0.heap[g + 1]? = some (.cells #[.int .i64 p.size] 3) := by rw [← hW, ← hg]; have := blk_alloc (blk_alloc (blk_new (w.alloc (.cells #[.string p] 9)) (.cells #[.int .i64 p.size] 3)) (.cells #[.int .i64 0] 3)) (.cells #[.string p] 9); simpa using this
  have h3 : W0.heap[g + 2]? = some (.cells #[.int .i64 0] 3) := by rw [← hW, ← hg]; have := blk_alloc (blk_new ((w.alloc (.cells #[.string p] 9)).alloc (.cells #[.int .i64 p.size] 3)) (.cells #[.int .i64 0] 3)) (.cells #[.string p] 9); simpa using this
  have h4 : W0.heap[g + 3]? = some (.cells #[.string p] 9) := by rw [← hW, ← hg]; have := (blk_new (((w.alloc (.cells #[.string p] 9)).alloc (.cells #[.int .i64 p.size] 3)).alloc (.cells #[.int .i64 0] 3)) (.cells #[.string p] 9)); simpa using this
  simp only [hg, hW, Nat.add_assoc, Nat.reduceAdd]
  rw [hg] at HR hB0
  clear hW
  refine wpX_block ?_
  refine wpX_range (gf := 125) (lb := #[.pointer (some ⟨g + 3, 0, none⟩)]) (xs := (List.range n).map (slotV p)) (Kp := fun W => W.cell? ⟨g + 3, 0, none⟩ = some (.string p)) rfl (fun _ _ => rfl) (slots1_iter p n hn hs hs2 _) (by simp [slotV])
    (fun i W => ∃ top last, scanE p n i = .ok (top, last) ∧ Below g w W ∧ W.heap[g]? = some (.cells #[.string p] 9) ∧ W.heap[g + 1]? = some (.cells #[.int .i64 top] 3) ∧ W.heap[g + 2]? = some (.cells #[.int .i64 last] 3) ∧ W.heap[g + 3]? = some (.cells #[.string p] 9))
    (fun i a₁ W => ∃ top last b, scanE p n i = .ok (top, last) ∧ Below g w W ∧ W.heap[g]? = some (.cells #[.string p] 9) ∧ W.heap[g + 1]? = some (.cells #[.int .i64 top] 3) ∧ W.heap[g + 2]? = some (.cells #[.int .i64 last] 3) ∧ W.heap[g + 3]? = some (.cells #[.string p] 9) ∧ g + 5 < b ∧
      W.heap[b]? = some (.cells #[.int .i64 ((i : Int) + 1), .int .i64 (twoS p (2 + 4 * (i : Int))), .int .i64 (twoS p (4 + 4 * (i : Int)))] 76) ∧
      a₁ = { tmps := #[.string p, .pointer (some ⟨g, 0, none⟩), .int .i64 0, .pointer (some ⟨g + 1, 0, none⟩), .pointer (some ⟨g + 2, 0, none⟩), .pointer (some ⟨b, 0, none⟩), undef, .string p, .int .i64 p.size, .string p, .func (.func 125) #[] #[.pointer (some ⟨g + 3, 0, none⟩)], (slotV p i)[0]!] ++ Array.replicate 53 undef, defers := [] })
    (fun _ _ => False)
    (fun ch W => ∃ a, scanE p n n = .error a ∧ ch = [{ v := .iface 70 (.agg #[.int .i64 a, .int .i64 12]), recovered := false }] ∧ Below g w W)
    ?_ ?_ ?_ ?_ ?_ ?_ ?_ ?_ ?_ ?_ ?_ ?_ ?_
  all_goals try simp only [hsz, Nat.add_assoc, Nat.reduceAdd]
  case refine_1 =>
    rintro i W o o' ⟨top, last, e1, e2, e3, e4, e5, e6⟩ -
    exact ⟨top, last, e1, below_putObj e2 (by omega) _, blk_putObj e3 (by omega), blk_putObj e4 (by omega), blk_putObj e5 (by omega), blk_putObj e6 (by omega)⟩
  case refine_2 =>
    rintro i a₁ W o o' ⟨top, last, b, e1, e2, e3, e4, e5, e6, e7, e8, e9⟩ -
    exact ⟨top, last, b, e1, below_putObj e2 (by omega) _, blk_putObj e3 (by omega), blk_putObj e4 (by omega), blk_putObj e5 (by omega), blk_putObj e6 (by omega), e7, blk_putObj e8 (by omega), e9⟩
  case refine_3 => exact fun _ _ _ _ h => h.elim
  case refine_4 =>
    rintro i W m ⟨top, last, e1, e2, e3, e4, e5, e6⟩
    exact ⟨top, last, e1, pw_below_drewN e2 m, e3, e4, e5, e6⟩
  case refine_5 => exact fun _ _ _ h => h.elim
  case refine_6 =>
    rintro ch W m ⟨a, e1, e2, e3⟩
    exact ⟨a, e1, e2, pw_below_drewN e3 m⟩
  case refine_7 =>
    rintro i W ⟨top, last, e1, e2, e3, e4, e5, e6⟩
    exact (blk_cell e6 0).trans rfl
  case refine_8 =>
    intro rec
    exact ⟨_, _, rfl, hg ▸ below_alloc (hg ▸ below_alloc (hg ▸ hB0) _) _, blk_alloc (blk_alloc h1 _) _, blk_alloc (blk_alloc h2 _) _, blk_alloc (blk_alloc h3 _) _, blk_alloc (blk_alloc h4 _) _⟩
  case refine_9 =>
    rintro i v W hv ⟨top, last, e1, e2, e3, e4, e5, e6⟩ hlt
    refine wpIn_hide ?_
    intro Q HQ
    have HR1 := Aside0.mk (And.intro HQ.out hv)
    clear HQ hv
    have hvv : v = slotV p i := by
      have := HR1.out.2
      simp only [List.getElem?_map, List.getElem?_range] at this
      rcases List.getElem?_eq_some_iff.1 HR1.out.2 with ⟨q1, q2⟩
      rw [← q2]; simp
    subst hvv
    unfold slotV
    simp only [List.zip_toArray, List.zip_cons_cons, List.zip_nil_right, List.size_toArray, List.length_cons, List.length_nil, Nat.reduceAdd, List.foldl_toArray', List.foldl_cons, List.foldl_nil]
    gi_wp2_with fail
    refine HR1.out.1 _ _ _ ⟨⟨top, last, W.heap.size, e1, hg ▸ below_alloc (hg ▸ e2) _, blk_alloc e3 _, blk_alloc e4 _, blk_alloc e5 _, blk_alloc e6 _, hlt, blk_new _ _, ?_⟩, ?_, ?_⟩
    · simp [Array.replicate_succ, slotV]
    · exact Below.heap_alloc _ _ _ hlt
    · exact Below.heap_alloc _ _ _ (by omega)
  case refine_10 =>
    rintro i v a₁ W hv ⟨top, last, b, e1, e2, e3, e4, e5, e6, e7, e8, rfl⟩ hlt
    clear hK0 HR h1 h2 h3 h4 hB0 hsz
    simp only [Array.replicate_succ, Array.replicate_zero, List.push_toArray, List.append_toArray, List.nil_append, List.cons_append]
    refine wpIn_hide ?_
    intro Q HQ
    have E1 := Aside0.mk e1
    have E2 := Aside0.mk e2
    have c1 := (blk_cell e3 0).trans rfl
    have c2 := (blk_cell e4 0).trans rfl
    have c3 := (blk_cell e5 0).trans rfl
    have f2 := blk_frozen e4 0
    have f3 := blk_frozen e5 0
    have c5 := (blk_cell e8 0).trans rfl
    have c6 := (blk_cell e8 1).trans rfl
    have c7 := (blk_cell e8 2).trans rfl
    have HB := Aside0.mk (And.intro e4 (And.intro e5 (And.intro e3 e6)))
    have hi : i < n := by
      have := (List.getElem?_eq_some_iff.1 hv).1
      simpa using this
    have hi' : (i : Int) < n := by omega
    have hi0 : (0 : Int) ≤ i := by omega
    have hn' : (n : Int) ≤ 30000 := by omega
    have ht := scanE_range p n i top last e1
    have ht' : top ≤ 100000 := by omega
    have ht0 := ht.1
    have hS : scanE p n (i + 1) = if twoS p (2 + 4 * (i : Int)) = 0 ∧ twoS p (4 + 4 * (i : Int)) = 0 then .ok (top, last)
      else if twoS p (4 + 4 * (i : Int)) = 0 ∨ twoS p (2 + 4 * (i : Int)) ≠ top - twoS p (4 + 4 * (i : Int)) ∨ twoS p (2 + 4 * (i : Int)) < 2 + 4 * (n : Int) then .error (2 + 4 * (i : Int))
      else .ok (twoS p (2 + 4 * (i : Int)), (i : Int) + 1) := by rw [scanE, e1]
    clear e1 e2 e3 e4 e5 e6 e8 ht
    simp only [slotV]
    have hx := twoS_range p (2 + 4 * (i : Int))
    have hy := twoS_range p (4 + 4 * (i : Int))
    obtain ⟨x, HX⟩ : ∃ x, twoS p (2 + 4 * (i : Int)) = x := ⟨_, rfl⟩
    obtain ⟨y, HY⟩ : ∃ y, twoS p (4 + 4 * (i : Int)) = y := ⟨_, rfl⟩
    simp only [HX] at hx c6 hS ⊢
    simp only [HY] at hy c7 hS ⊢
    clear hv HX HY
    have hw1 : IntKind.i64.wrap (2 + 4 * (i : Int)) = 2 + 4 * (i : Int) := IntWalk.i64_in _ (by omega)
    have hw2 : IntKind.i64.wrap (top - y) = top - y := IntWalk.i64_in _ (by omega)
    have hw3 : IntKind.i64.wrap (2 + 4 * (n : Int)) = 2 + 4 * (n : Int) := IntWalk.i64_in _ (by omega)
    have hw4 : IntKind.i64.wrap (4 * (n : Int)) = 4 * (n : Int) := IntWalk.i64_in _ (by omega)
    have hmo : Try.prog.follows .mixedOrders = true := by kernel_rfl
    have HC := Aside0.mk (page_count_f p (by omega) (by omega))
    rw [hn] at HC
    have HS := Aside0.mk hS
    clear hS
    by_cases hy0 : y = 0
    · by_cases hx0 : x = 0
      · subst hx0 hy0
        gi_wp2_with fail
        refine HQ.out _ _ _ ⟨rfl, rfl, top, last, HS.out.trans (by simp), E2.out, HB.out.2.2.1, HB.out.1, HB.out.2.1, HB.out.2.2.2⟩
      · subst hy0
        gi_wp2_with fail
        refine round_region_quiet hmo (by kernel_rfl) (by kernel_rfl) ?_
        repeat (go_big_quiet_step (fail))
        refine wpQuiet_nil ?_
        rintro _ ⟨nq, rfl⟩
        all_goals gi_wp2_with fail
        all_goals refine HQ.out _ _ _ ⟨rfl, rfl, rfl, 2 + 4 * (i : Int), scanE_error p n (i + 1) n (by omega) _ (HS.out.trans (by simp [hx0])), rfl, by first | exact E2.out | exact pw_below_drewN E2.out _⟩
    · have hb1 : (y == 0) = false := by simp [hy0]
      by_cases hxy : x = top - y
      · have hb2 : (x != top - y) = false := by simp [hxy]
        by_cases hlo : x < 2 + 4 * (n : Int)
        · have HS1 := Aside0.mk (scanE_error p n (i + 1) n (by omega) _ (HS.out.trans (by rw [if_neg (by simp [hy0]), if_pos (by simp [hlo])])))
          have HXY := Aside0.mk hxy
          clear hxy HS
          rcases Decidable.em (x = 0) with hx0 | hx0
          all_goals first | subst hx0 | skip
          all_goals gi_wp2_with fail
          all_goals refine round_region_quiet hmo (by kernel_rfl) (by kernel_rfl) ?_
          all_goals repeat (go_big_quiet_step ((go_at_call 57; refine (page_count.calls p n _ HC.out).mono ?_; rintro e w' ⟨rfl, ⟨m, rfl⟩⟩; exact ⟨rfl, _, World.drewN_drewN ..⟩)))
          all_goals refine wpQuiet_nil ?_
          all_goals rintro _ ⟨nq, rfl⟩
          all_goals gi_wp2_with fail
          all_goals refine HQ.out _ _ _ ⟨rfl, rfl, rfl, 2 + 4 * (i : Int), HS1.out, rfl, by first | exact E2.out | exact pw_below_drewN E2.out _⟩
        · have hx1 : ¬ x = 0 := by omega
          have HS2 := Aside0.mk (show scanE p n (i + 1) = .ok (top - y, (i : Int) + 1) from HS.out.trans (by rw [if_neg (by omega), if_neg (by omega), hxy]))
          gi_wp2_with fail
          refine round_region_quiet hmo (by kernel_rfl) (by kernel_rfl) ?_
          repeat (go_big_quiet_step ((go_at_call 57; refine (page_count.calls p n _ HC.out).mono ?_; rintro e w' ⟨rfl, ⟨m, rfl⟩⟩; exact ⟨rfl, _, World.drewN_drewN ..⟩)))
          refine wpQuiet_nil ?_
          rintro _ ⟨nq, rfl⟩
          gi_wp2_with fail
          gi_region_with_o (fail)
          all_goals
            refine HQ.out _ _ _ ⟨?_, ?_, top - y, (i : Int) + 1, HS2.out, ?_, ?_, ?_, ?_, ?_⟩
            · exact (Below.heap_setCell _ _ _ _ (by simp)).trans (Below.heap_setCell _ _ _ _ (by simp))
            · exact (Below.heap_setCell _ _ _ _ (by simp)).trans (Below.heap_setCell _ _ _ _ (by simp))
            · exact ((pw_below_drewN E2.out _).setCell (by simp) _).setCell (by simp) _
            · exact blk_far (blk_far (blk_drewN HB.out.2.2.1 _) (by simp) _) (by simp) _
            · exact blk_far (blk_set (blk_drewN HB.out.1 _) 0 _) (by simp) _
            · exact blk_set (blk_far (blk_drewN HB.out.2.1 _) (by simp) _) 0 _
            · exact blk_far (blk_far (blk_drewN HB.out.2.2.2 _) (by simp) _) (by simp) _
      · have hb2 : (x != top - y) = true := by simp [hxy]
        have HS1 := Aside0.mk (scanE_error p n (i + 1) n (by omega) _ (HS.out.trans (by rw [if_neg (by simp [hy0]), if_pos (by simp [hxy])])))
        clear hxy HS
        rcases Decidable.em (x = 0) with hx0 | hx0
        all_goals first | subst hx0 | skip
        all_goals gi_wp2_with fail
        all_goals refine round_region_quiet hmo (by kernel_rfl) (by kernel_rfl) ?_
        all_goals repeat (go_big_quiet_step (fail))
        all_goals refine wpQuiet_nil ?_
        all_goals rintro _ ⟨nq, rfl⟩
        all_goals gi_wp2_with fail
        all_goals refine HQ.out _ _ _ ⟨rfl, rfl, rfl, 2 + 4 * (i : Int), HS1.out, rfl, by first | exact E2.out | exact pw_below_drewN E2.out _⟩
  case refine_11 =>
    rintro W ⟨top, last, e1, e2, e3, e4, e5, e6⟩ hD
    refine hK0 _ _ ?_
    clear hK0
    refine wpX_of_wp ?_
    have hts := scanE_range p n _ top last e1
    have c1 := (blk_cell e3 0).trans rfl
    have c2 := (blk_cell e4 0).trans rfl
    have c3 := (blk_cell e5 0).trans rfl
    have HC := Aside0.mk (page_count_f p (by omega) (by omega))
    rw [hn] at HC
    have HB := Aside0.mk e2
    have HS := Aside0.mk e1
    have HD := Aside0.mk hD
    clear e1 e2 e3 e4 e5 e6 hD h1 h2 h3 h4
    by_cases hll : last < n
    · go_wp2_with fail
      go_quiet ((go_at_call 57; refine (page_count.calls p n _ HC.out).mono ?_; rintro e w' ⟨rfl, ⟨m, rfl⟩⟩; exact ⟨rfl, _, World.drewN_drewN ..⟩))
      go_wp2_with ((go_at_call 57; refine (page_count.calls p n _ HC.out).mono ?_; rintro e w' ⟨rfl, ⟨nd, rfl⟩⟩))
      refine leavesM_panic HD.out ?_
      rw [← HR.out]
      refine ⟨below_putObj (pw_below_drewN HB.out _) (by omega) _, ?_⟩
      have h8 := HS.out
      simp only [List.length_map, List.length_range] at h8
      simp only [entriesS, h8, if_pos hll]
    · go_wp2_with fail
      go_quiet ((go_at_call 57; refine (page_count.calls p n _ HC.out).mono ?_; rintro e w' ⟨rfl, ⟨m, rfl⟩⟩; exact ⟨rfl, _, World.drewN_drewN ..⟩))
      go_wp2_with ((go_at_call 57; refine (page_count.calls p n _ HC.out).mono ?_; rintro e w' ⟨rfl, ⟨nd, rfl⟩⟩))
      refine leavesM_ret HD.out (fun _ => results_tmp rfl _ _ _) ?_
      rw [← HR.out]
      refine ⟨below_putObj (pw_below_drewN HB.out _) (by omega) _, ?_⟩
      have h8 := HS.out
      simp only [List.length_map, List.length_range] at h8
      simp only [entriesS, h8, if_neg (show ¬ last < (n : Int) by omega)]
      rfl
  case refine_12 => exact fun _ _ h => h.elim
  case refine_13 =>
    rintro ch W ⟨a, e1, rfl, e3⟩ hD
    refine leavesM_panic hD ?_
    rw [← HR.out]
    refine ⟨below_putObj e3 (by omega) _, ?_⟩
    simp only [entriesS, e1]

end Go.Proofs.Ytemglmcddaeedaa.PA

namespace Go.Proofs.Ytemglmcddaeedaa.PA
open Go.RowKit Go.Proofs.YtemglmcddaeedaaW.PrintWords Go.Proofs.YtemglmcddaeedaaW.PrintLast Go.Proofs.YtemglmcddaeedaaW.PrintMore
attribute [local go_sem] max2_int min2_int max_two min_two max_three min_three max_four min_four   -- for this text's walks alone
set_option linter.unusedVariables false
set_option linter.unusedSimpArgs false

/-! ### page_Wrong: function 19 -/
def page_Wrong.f (a0 : ByteArray) : Option (Int × Int) := if a0.size ≤ 100000 then some (wrongS a0) else none
/-- A region whose first operation is 'recover()', in a deferred call of a frame that panics. -/
theorem wpList_hide {P : Program} {ops : Array Oper} {l : List Oper} {a : Act} {w : World} {Q : Exit → Act → World → Prop}
    (h : ∀ K, Aside0 (∀ e a w, Q e a w → K e a w) → wpList P ops K l a w) : wpList P ops Q l a w := h Q (Aside0.mk fun _ _ _ h => h)
theorem wp_hide {P : Program} {c : Code} {a : Act} {w : World} {Q : Exit → Act → World → Prop}
    (h : ∀ K, Aside0 (∀ e a w, Q e a w → K e a w) → c.wp P K a w) : c.wp P Q a w := h Q (Aside0.mk fun _ _ _ h => h)
theorem wpS_recover {P : Program} {id : Nat} {o : Oper} {l : List Oper} {a : Act} {cs cs' : List Frame} {w : World} {v : Value} {Q : Exit → Act → List Frame → World → Prop}
    (hw : Region.wanted o (yielded (o :: l).toArray a.tmps) = true) (hr : (execOp a.eval o).run P w = .ok .recover w) (hrec : recoverD cs = some (v, cs'))
    (h : wpList P (o :: l).toArray (fun e a w => Q e a cs' w) l (a.put o.dst v) w) : (Code.region id (o :: l).toArray false).wpS P Q a cs w := by
  intro b k hb hro
  have ho : (o :: l).toArray[0]? = some o := by simp
  have hk : (b.at a (.inRegion (o :: l).toArray (0 :: List.range' 1 l.length) :: k)).kind = .deferred := hb
  have htr := tryRecover_deferred hk cs
  rw [← wpOps_eq_wpList l 1 (by intro j; rw [List.getElem?_toArray, Nat.add_comm, List.getElem?_cons_succ])] at h
  obtain ⟨e, a', w', hq, harr⟩ := wp_ops _ _ _ h b k cs'
  have hfin : ∀ v, (b.at a (.inRegion (o :: l).toArray (0 :: List.range' 1 l.length) :: k)).finish v = b.at (a.put o.dst v) (.inRegion (o :: l).toArray (List.range' 1 l.length) :: k) := by
    intro v; rw [Frame.finish_at, ho]; rfl
  have hrg : List.range (o :: l).toArray.size = 0 :: List.range' 1 l.length := by
    rw [List.range_eq_range']; simp [List.range'_succ]
  have hsr := step_region (P := P) (b := b) (a := a) (k := k) (cs := cs) (w := w) (ops := (o :: l).toArray) (id := id)
  rw [hrg] at hsr
  refine ⟨e, a', cs', w', hq, .of_steps (.head hsr (.one (step_lone_go ?_))) harr⟩
  rw [stepG_op ho hw, ← hfin]
  simp only [Frame.at] at htr ⊢
  simp [stepG.apply, hr, htr, hrec]
/-- .. of a frame that returns: it yields nil. -/
theorem wpS_recover_idle {P : Program} {id : Nat} {o : Oper} {l : List Oper} {a : Act} {cs : List Frame} {w : World} {Q : Exit → Act → List Frame → World → Prop}
    (hw : Region.wanted o (yielded (o :: l).toArray a.tmps) = true) (hr : (execOp a.eval o).run P w = .ok .recover w) (hrec : recoverD cs = none)
    (h : wpList P (o :: l).toArray (fun e a w => Q e a cs w) l (a.put o.dst .nilIface) w) : (Code.region id (o :: l).toArray false).wpS P Q a cs w := by
  intro b k hb hro
  have ho : (o :: l).toArray[0]? = some o := by simp
  have hk : (b.at a (.inRegion (o :: l).toArray (0 :: List.range' 1 l.length) :: k)).kind = .deferred := hb
  have htr := tryRecover_deferred hk cs
  rw [← wpOps_eq_wpList l 1 (by intro j; rw [List.getElem?_toArray, Nat.add_comm, List.getElem?_cons_succ])] at h
  obtain ⟨e, a', w', hq, harr⟩ := wp_ops _ _ _ h b k cs
  have hfin : ∀ v, (b.at a (.inRegion (o :: l).toArray (0 :: List.range' 1 l.length) :: k)).finish v = b.at (a.put o.dst v) (.inRegion (o :: l).toArray (List.range' 1 l.length) :: k) := by
    intro v; rw [Frame.finish_at, ho]; rfl
  have hrg : List.range (o :: l).toArray.size = 0 :: List.range' 1 l.length := by
    rw [List.range_eq_range']; simp [List.range'_succ]
  have hsr := step_region (P := P) (b := b) (a := a) (k := k) (cs := cs) (w := w) (ops := (o :: l).toArray) (id := id)
  rw [hrg] at hsr
  refine ⟨e, a', cs, w', hq, .of_steps (.head hsr (.one (step_lone_go ?_))) harr⟩
  rw [stepG_op ho hw, ← hfin]
  simp only [Frame.at] at htr ⊢
  simp [stepG.apply, hr, htr, hrec]
set_option maxHeartbeats 4000000 in
set_option maxRecDepth 100000 in
/-- The recovering closure, entered while the page is told wrong. -/
theorem wrong1_panics (g : Nat) (x0 : Int) (e0 : Int) (a e : Int) (w : World) (h1 : w.heap[g]? = some (.cells #[.int .i64 x0] 3)) (h2 : w.heap[g + 1]? = some (.cells #[.int .i64 e0] 28)) :
    CallsD Try.prog 56 #[.pointer (some ⟨g, 0, none⟩), .pointer (some ⟨g + 1, 0, none⟩)] (.panicking [{ v := .iface 70 (.agg #[.int .i64 a, .int .i64 e]), recovered := false }]) w fun en u' w' =>
      en = .returned (.tuple #[]) ∧ u' = .panicking [{ v := .iface 70 (.agg #[.int .i64 a, .int .i64 e]), recovered := true }] ∧
      w'.heap[g]? = some (.cells #[.int .i64 a] 3) ∧ w'.heap[g + 1]? = some (.cells #[.int .i64 e] 28) ∧ (∀ w0, Below g w0 w → Below g w0 w') := by
  refine callsD_of_wpS Try.func56 rfl fun c₀ cs hu => ?_
  simp only [Try.ntmps56, List.size_toArray, List.length_cons, List.length_nil, Nat.reduceAdd, Nat.reduceSub, Array.replicate_succ, Array.replicate_zero, List.push_toArray, List.append_toArray, List.nil_append, List.cons_append]
  have hta : ∀ x W, (Instr.typeAssert (.iface 70 x) 20 70 true).run Try.prog W = .ok (.tuple #[x, .bool true]) W := fun _ _ => by kernel_rfl
  have c1 := (blk_cell h1 0).trans rfl
  have c2 := (blk_cell h2 0).trans rfl
  have f1 := blk_frozen h1 0
  have f2 := blk_frozen h2 0
  apply wpS_seq
  refine wpS_recover (v := .iface 70 (.agg #[.int .i64 a, .int .i64 e])) rfl rfl (by simp only [recoverD, hu]; rfl) ?_
  refine wpList_hide ?_
  intro K HK
  dsimp only [Act.put]
  repeat go_step
  refine HK.out _ _ _ ?_
  clear HK K hta c1 c2 f1 f2
  refine wpS_of_wp ?_
  have hB : ∀ w0, Below g w0 w → Below g w0 (w.alloc (.cells #[.int .i64 a, .int .i64 e] 70)) := fun w0 hb => ⟨hb.os, hb.tape, hb.output, by have := hb.size; simp; omega, fun k hk => (Below.heap_alloc _ _ _ (by have := blk_lt h1; omega)).trans (hb.block k hk)⟩
  have h3 := blk_new w (.cells #[.int .i64 a, .int .i64 e] 70)
  have hl := blk_lt h2
  replace h1 := blk_alloc h1 (.cells #[.int .i64 a, .int .i64 e] 70)
  replace h2 := blk_alloc h2 (.cells #[.int .i64 a, .int .i64 e] 70)
  obtain ⟨b, hb⟩ : ∃ b, w.heap.size = b := ⟨_, rfl⟩
  obtain ⟨W, hW⟩ : ∃ W, w.alloc (.cells #[.int .i64 a, .int .i64 e] 70) = W := ⟨_, rfl⟩
  rw [hW] at h1 h2 h3 hB
  rw [hb] at h3 hl
  simp only [hb, hW]
  clear hb hW
  have c1 := (blk_cell h1 0).trans rfl
  have c2 := (blk_cell h2 0).trans rfl
  have c3 := (blk_cell h3 0).trans rfl
  have c4 := (blk_cell h3 1).trans rfl
  have f1 := blk_frozen h1 0
  have f2 := blk_frozen h2 0
  have HH := Aside0.mk (And.intro h1 (And.intro h2 (And.intro hB hu)))
  clear h1 h2 h3 hB hu
  refine wp_hide ?_
  intro K HK
  go_wp2_with fail
  go_region
  all_goals
    refine HK.out _ _ _ ?_
    obtain ⟨h1, h2, hB, hu⟩ := HH.out
    refine ⟨rfl, _, rfl, _, results_none rfl _ _ _, rfl, rfl, ?_, ?_, ?_⟩
    · exact blk_far (blk_set (blk_drew h1) 0 _) (by simp) _
    · exact blk_set (blk_far (blk_drew h2) (by simp) _) 0 _
    · exact fun w0 hw0 => (((hB w0 hw0).drew).setCell (Nat.le_refl g) _).setCell (Nat.le_succ g) _
set_option maxHeartbeats 4000000 in
set_option maxRecDepth 100000 in
/-- .. entered while Wrong returns. -/
theorem wrong1_idle (p q : Option Addr) (w : World) :
    CallsD Try.prog 56 #[.pointer p, .pointer q] .returning w fun en u' w' =>
      en = .returned (.tuple #[]) ∧ u' = .returning ∧ ∃ o, w' = w.alloc o := by
  refine callsD_of_wpS Try.func56 rfl fun c₀ cs hu => ?_
  simp only [Try.ntmps56, List.size_toArray, List.length_cons, List.length_nil, Nat.reduceAdd, Nat.reduceSub, Array.replicate_succ, Array.replicate_zero, List.push_toArray, List.append_toArray, List.nil_append, List.cons_append]
  have hta : ∀ W, (Instr.typeAssert .nilIface 20 70 true).run Try.prog W = .ok (.tuple #[.agg #[.int .i64 0, .int .i64 0], .bool false]) W := fun _ => by kernel_rfl
  apply wpS_seq
  refine wpS_recover_idle rfl rfl (by simp only [recoverD, hu]) ?_
  refine wpList_hide ?_
  intro K HK
  dsimp only [Act.put]
  repeat go_step
  refine HK.out _ _ _ ?_
  clear HK K hta
  refine wpS_of_wp ?_
  refine wp_hide ?_
  intro K HK
  go_wp2_with fail
  refine HK.out _ _ _ ?_
  refine ⟨rfl, .returning, ?_, _, results_none rfl _ _ _, rfl, rfl, _, rfl⟩
  cases c₀
  cases hu
  rfl
set_option maxRecDepth 100000 in
theorem wrong_leaves_panic (g : Nat) (tm : Array Value) (t2 : tm[2]?.getD undef = .pointer (some ⟨g, 0, none⟩)) (t3 : tm[3]?.getD undef = .pointer (some ⟨g + 1, 0, none⟩)) (w0 W : World) (x0 e0 a e : Int)
    (b1 : W.heap[g]? = some (.cells #[.int .i64 x0] 3)) (b2 : W.heap[g + 1]? = some (.cells #[.int .i64 e0] 28)) (hb : Below g w0 W) (R : Ending → World → Prop)
    (hR : ∀ W', Below g w0 W' → R (.returned (.tuple #[.int .i64 a, .int .i64 e])) W') :
    Leaves Try.prog Try.f19 tm R [{ target := .fn (.func 56) #[.pointer (some ⟨g, 0, none⟩), .pointer (some ⟨g + 1, 0, none⟩)], args := #[] }] (.panicking [{ v := .iface 70 (.agg #[.int .i64 a, .int .i64 e]), recovered := false }]) W := by
  refine leaves_cons (f := 56) (args := #[.pointer (some ⟨g, 0, none⟩), .pointer (some ⟨g + 1, 0, none⟩)]) (by simp) (by simp [go_sem]) ?_
  refine (wrong1_panics g x0 e0 a e W b1 b2).mono ?_
  rintro en u' W' ⟨rfl, rfl, h1, h2, hB⟩
  have c1 : W'.cell? ⟨g, 0, none⟩ = some (.int .i64 a) := (blk_cell h1 0).trans rfl
  have c2 : W'.cell? ⟨g + 1, 0, none⟩ = some (.int .i64 e) := (blk_cell h2 0).trans rfl
  refine ⟨_, ?_, hR _ (hB w0 hb)⟩
  simp [results, Try.results19, go_sem, c1, c2, t2, t3]
set_option maxRecDepth 100000 in
theorem wrong_leaves_ret (g : Nat) (tm : Array Value) (t2 : tm[2]?.getD undef = .pointer (some ⟨g, 0, none⟩)) (t3 : tm[3]?.getD undef = .pointer (some ⟨g + 1, 0, none⟩)) (w0 W : World) (a e : Int)
    (b1 : W.heap[g]? = some (.cells #[.int .i64 a] 3)) (b2 : W.heap[g + 1]? = some (.cells #[.int .i64 e] 28)) (hb : Below g w0 W) (hg : w0.heap.size = g) (R : Ending → World → Prop)
    (hR : ∀ W', Below g w0 W' → R (.returned (.tuple #[.int .i64 a, .int .i64 e])) W') :
    Leaves Try.prog Try.f19 tm R [{ target := .fn (.func 56) #[.pointer (some ⟨g, 0, none⟩), .pointer (some ⟨g + 1, 0, none⟩)], args := #[] }] .returning W := by
  refine leaves_cons (f := 56) (args := #[.pointer (some ⟨g, 0, none⟩), .pointer (some ⟨g + 1, 0, none⟩)]) (by simp) (by simp [go_sem]) ?_
  refine (wrong1_idle _ _ W).mono ?_
  rintro en u' W' ⟨rfl, rfl, o, rfl⟩
  have c1 : (W.alloc o).cell? ⟨g, 0, none⟩ = some (.int .i64 a) := (World.cell?_alloc_lt _ _ _ (blk_lt b1)).trans ((blk_cell b1 0).trans rfl)
  have c2 : (W.alloc o).cell? ⟨g + 1, 0, none⟩ = some (.int .i64 e) := (World.cell?_alloc_lt _ _ _ (blk_lt b2)).trans ((blk_cell b2 0).trans rfl)
  refine ⟨_, ?_, hR _ (hg ▸ below_alloc (hg ▸ hb) o)⟩
  simp [results, Try.results19, go_sem, c1, c2, t2, t3]
theorem page_size_f (n : Nat) (hn : n ≤ 100000) : page_size.f n = some (decide (32 ≤ n ∧ n ≤ 4096 ∧ n % 8 = 0)) := by
  unfold page_size.f
  split
  · split
    · have h1 : (Int.tmod (n : Int) 8) = ((n % 8 : Nat) : Int) := by rw [Int.tmod_eq_emod_of_nonneg (by omega)]; omega
      rw [h1]
      congr 1
      by_cases h : n % 8 = 0
      · rw [h]; simp; omega
      · have : ¬ ((n % 8 : Nat) : Int) = 0 := by omega
        rw [decide_eq_false (by omega)]
        simpa using this
    · rw [decide_eq_false (by omega)]
  · rw [decide_eq_false (by omega)]
set_option maxHeartbeats 4000000 in
set_option maxRecDepth 100000 in
theorem page_Wrong.calls (a0 : ByteArray) (r1 r2 : Int) (w : World) (h : page_Wrong.f a0 = some (r1, r2)) :
    Calls Try.prog 19 #[.string a0] w fun e w' => e = .returned (.tuple #[.int .i64 r1, .int .i64 r2]) ∧ Below w.heap.size w w' := by
  unfold page_Wrong.f at h
  split at h
  rotate_left
  · cases h
  rename_i hsz
  have h := Option.some.inj h
  have HX := Aside0.mk h
  clear h
  obtain ⟨g, hg⟩ : ∃ g, w.heap.size = g := ⟨_, rfl⟩
  have hB0 : ∀ v v' t t', Below g w ((w.alloc (.cells #[v] t)).alloc (.cells #[v'] t')) := fun v v' t t' => by rw [← hg]; exact below_alloc (below_alloc (Below.refl _ w) _) _
  have HP1 := Aside0.mk (hB0 (.int .i64 0) (.int .i64 0) 3 28)
  clear hB0
  have h1 : ((w.alloc (.cells #[.int .i64 0] 3)).alloc (.cells #[.int .i64 0] 28)).heap[g]? = some (.cells #[.int .i64 0] 3) := by rw [← hg]; exact blk_alloc (blk_new _ _) _
  have h2 : ((w.alloc (.cells #[.int .i64 0] 3)).alloc (.cells #[.int .i64 0] 28)).heap[g + 1]? = some (.cells #[.int .i64 0] 28) := by
    rw [← hg]; have := blk_new (w.alloc (.cells #[.int .i64 0] 3)) (.cells #[.int .i64 0] 28); simpa using this
  obtain ⟨W, hW⟩ : ∃ W, (w.alloc (.cells #[.int .i64 0] 3)).alloc (.cells #[.int .i64 0] 28) = W := ⟨_, rfl⟩
  rw [hW] at h1 h2 HP1
  have HZ := Aside0.mk (page_size_f a0.size hsz)
  have HH := Aside0.mk (And.intro h1 h2)
  clear h1 h2
  go_enter_defers Try.func19, Try.ntmps19
  refine wp_hide ?_
  intro K HK
  by_cases hok : 32 ≤ a0.size ∧ a0.size ≤ 4096 ∧ a0.size % 8 = 0
  · have hf := HZ.out
    rw [decide_eq_true hok] at hf
    have HF := Aside0.mk hf
    clear hf
    obtain ⟨hk1, hk2, hk3⟩ := hok
    have hcn := twoS_range a0 0
    obtain ⟨n, hn⟩ : ∃ n : Nat, twoS a0 0 = n := ⟨(twoS a0 0).toNat, by omega⟩
    have hcf := page_count_f a0 (by omega) (by omega)
    have HX2 := Aside0.mk hn
    rw [hn] at hcf hcn
    have HC := Aside0.mk hcf
    clear hcf
    have hn2 : (n : Int) ≤ 65535 := hcn.2
    by_cases hbig : n > 200 ∨ 2 + 4 * n > a0.size
    · by_cases hb1 : (n : Int) > 200
      all_goals go_wp2_with (first
        | (go_at_call 53; refine (page_size.calls _ _ _ HF.out).mono ?_; rintro e w' ⟨rfl, ⟨nd, rfl⟩⟩; simp only [hg, hW])
        | (go_at_call 57; refine (page_count.calls _ _ _ HC.out).mono ?_; rintro e w' ⟨rfl, ⟨nd2, rfl⟩⟩))
      all_goals
        refine HK.out _ _ _ ?_
        rw [hg]
        refine wrong_leaves_panic g _ (by rfl) (by rfl) w (W.drewN (nd + nd2)) 0 0 0 12 (blk_drewN HH.out.1 _) (blk_drewN HH.out.2 _) (pw_below_drewN HP1.out _) _ ?_
        intro W' hb
        have hx := HX.out
        unfold wrongS at hx
        rw [if_pos ⟨hk1, hk2, hk3⟩, HX2.out, if_pos (by omega)] at hx
        cases hx
        exact ⟨rfl, hb⟩
    · obtain ⟨hb1, hb2⟩ : ¬ ((n : Int) > 200) ∧ 2 + 4 * (n : Int) ≤ a0.size := by omega
      have HE := Aside0.mk (fun w => page_entries_calls a0 n HX2.out (by omega) hsz w)
      cases he : entriesS a0 n with
      | error a =>
        go_wp2_with (first
          | (go_at_call 53; refine (page_size.calls _ _ _ HF.out).mono ?_; rintro e w' ⟨rfl, ⟨nd, rfl⟩⟩; simp only [hg, hW])
          | (go_at_call 57; refine (page_count.calls _ _ _ HC.out).mono ?_; rintro e w' ⟨rfl, ⟨nd2, rfl⟩⟩)
          | (go_at_call 58; refine (HE.out _).mono ?_; rw [he]; rintro e w' ⟨hbe, rfl⟩))
        refine HK.out _ _ _ ?_
        rw [hg]
        refine wrong_leaves_panic g _ (by rfl) (by rfl) w w' 0 0 a 12 (blk_below (blk_drewN HH.out.1 _) hbe) (blk_below (blk_drewN HH.out.2 _) hbe) (below_then (pw_below_drewN HP1.out _) (Nat.le_of_lt (blk_lt HH.out.1)) hbe) _ ?_
        intro W' hb
        have hx := HX.out
        unfold wrongS at hx
        rw [if_pos ⟨hk1, hk2, hk3⟩, HX2.out, if_neg (by omega), Int.toNat_natCast, he] at hx
        cases hx
        exact ⟨rfl, hb⟩
      | ok top =>
        go_wp2_with (first
          | (go_at_call 53; refine (page_size.calls _ _ _ HF.out).mono ?_; rintro e w' ⟨rfl, ⟨nd, rfl⟩⟩; simp only [hg, hW])
          | (go_at_call 57; refine (page_count.calls _ _ _ HC.out).mono ?_; rintro e w' ⟨rfl, ⟨nd2, rfl⟩⟩)
          | (go_at_call 58; refine (HE.out _).mono ?_; rw [he]; rintro e w' ⟨hbe, rfl⟩))
        have ht := entriesS_top a0 n top he
        have hw1 := blk_below (blk_drewN HH.out.1 _) hbe
        have hw2 := blk_below (blk_drewN HH.out.2 _) hbe
        have hw3 := below_then (pw_below_drewN HP1.out _) (Nat.le_of_lt (blk_lt HH.out.1)) hbe
        have HW := Aside0.mk (And.intro hw1 (And.intro hw2 hw3))
        have c1 := (blk_cell hw1 0).trans rfl
        have c2 := (blk_cell hw2 0).trans rfl
        have f1 := blk_frozen hw1 0
        have f2 := blk_frozen hw2 0
        have hx := HX.out
        unfold wrongS at hx
        rw [if_pos ⟨hk1, hk2, hk3⟩, HX2.out, if_neg (by omega), Int.toNat_natCast, he] at hx
        have HX3 := Aside0.mk hx
        clear hx hw1 hw2 hw3 hbe he HE HX
        go_loopw [5] (fun v5 wr => ∃ i : Int, v5 = .int .i64 i ∧ 0 ≤ i ∧ i ≤ a0.size ∧ Aside0 (firstNZ a0 top i.toNat = firstNZ a0 top (2 + 4 * n)) ∧ wr = w') (fun v5 _ => a0.size - (intOf v5).toNat)
        case atStart => exact ⟨2 + 4 * n, by simp, by omega, by omega, Aside0.mk (by congr 1), rfl⟩
        case round =>
          obtain ⟨i, rfl, hi0, hi, HF1, rfl⟩ := hrel
          by_cases hlt : i < top
          · have hx5 := bt_at a0 i
            have p5 := eq_true hi0
            have q5 := eq_true (show i < (a0.size : Int) by omega)
            by_cases hz : bt a0 i = 0
            · have hst := HF1.out
              rw [firstNZ, if_pos (by omega), if_neg (by rw [Int.toNat_of_nonneg hi0]; simp [hz])] at hst
              have HF2 := Aside0.mk hst
              clear hst
              rw [hz] at hx5
              go_wp2_with fail
              go_roundw
              case rel => exact ⟨i + 1, rfl, by omega, by omega, Aside0.mk (by rw [show (i + 1).toNat = i.toNat + 1 by omega]; exact HF2.out), trivial⟩
              case measure => simp [intOf]; omega
            · have hst := HF1.out
              rw [firstNZ, if_pos (by omega), if_pos (by rw [Int.toNat_of_nonneg hi0]; simpa using hz)] at hst
              have HF2 := Aside0.mk hst
              clear hst
              go_wp2_with fail
              refine HK.out _ _ _ ?_
              rw [hg]
              refine wrong_leaves_panic g _ (by rfl) (by rfl) w wr 0 0 i 12 HW.out.1 HW.out.2.1 HW.out.2.2 _ ?_
              intro W' hb
              have hx := HX3.out
              simp only [← HF2.out] at hx
              rw [Int.toNat_of_nonneg hi0] at hx
              cases hx
              exact ⟨rfl, hb⟩
          · have hst := HF1.out
            rw [firstNZ, if_neg (by omega)] at hst
            have HF2 := Aside0.mk hst
            clear hst
            go_wp2_with fail
            refine HK.out _ _ _ ?_
            rw [hg]
            refine wrong_leaves_ret g _ (by rfl) (by rfl) w _ a0.size 0 (blk_far (blk_set HW.out.1 0 _) (by simp) _) (blk_set (blk_far HW.out.2.1 (by simp) _) 0 _) ((HW.out.2.2.setCell (Nat.le_refl g) _).setCell (Nat.le_succ g) _) hg _ ?_
            intro W' hb
            have hx := HX3.out
            simp only [← HF2.out] at hx
            cases hx
            exact ⟨rfl, hb⟩
  · have hf := HZ.out
    rw [decide_eq_false hok] at hf
    have HF := Aside0.mk hf
    clear hf
    go_wp2_with ((go_at_call 53; refine (page_size.calls _ _ _ HF.out).mono ?_; rintro e w' ⟨rfl, ⟨nd, rfl⟩⟩; simp only [hg, hW]))
    refine HK.out _ _ _ ?_
    rw [hg]
    refine wrong_leaves_panic g _ (by rfl) (by rfl) w (W.drewN nd) 0 0 0 11 (blk_drewN HH.out.1 _) (blk_drewN HH.out.2 _) (pw_below_drewN HP1.out _) _ ?_
    intro W' hb
    have hx := HX.out
    unfold wrongS at hx
    rw [if_neg hok] at hx
    cases hx
    exact ⟨rfl, hb⟩

end Go.Proofs.Ytemglmcddaeedaa.PA

namespace Go.Proofs.Ytemglmcddaeedaa.PA
open Go.RowKit Go.Proofs.YtemglmcddaeedaaW.PrintWords Go.Proofs.YtemglmcddaeedaaW.PrintLast Go.Proofs.YtemglmcddaeedaaW.PrintMore
attribute [local go_sem] max2_int min2_int max_two min_two max_three min_three max_four min_four   -- for this text's walks alone
set_option linter.unusedVariables false
set_option linter.unusedSimpArgs false

/-! ### page_Valid: function 21 -/
def page_Valid.f (a0 : ByteArray) : Option (Bool) := (page_Wrong.f a0).bind fun bt136 => (some (bt136.2 == 0))
set_option maxHeartbeats 8000000 in
set_option maxRecDepth 100000 in
theorem page_Valid.calls (a0 : ByteArray) (r : Bool) (w : World) (h : page_Valid.f a0 = some r) :
    Calls Try.prog 21 #[.string a0] w fun e w' => e = .returned (.bool r) ∧ Below w.heap.size w w' := by
  have HB := Aside0.mk (Below.refl w.heap.size w)
  have H : ((page_Wrong.f a0).bind fun bt136 => (some (bt136.2 == 0))) = some r := h
  clear h
  replace H := Option.bind_eq_some_iff.mp H
  obtain ⟨⟨t136, t137⟩, A20, H⟩ := H
  replace H : (some (t137 == 0)) = some r := H
  have A2 := Aside0.mk A20
  clear A20
  obtain rfl := Option.some.inj H
  go_enter Try.func21, Try.ntmps21
  go_wp2_with (first | ((with_reducible refine gate_callee (f := 19) rfl ?_); refine goesL_ (some 7) rfl rfl Try.func19 (by kernel_rfl) rfl #[.string a0] rfl (by (try simp only [List.map_toArray, List.map_cons, List.map_nil]); first | done | rfl | (simp only [List.length_drop, List.length_take]; rfl)) ?_; (with_reducible refine (page_Wrong.calls a0 t136 t137 _ A2.out).mono ?_); rintro e w3 ⟨rfl, hb⟩; refine ⟨_, rfl, ?_⟩; have n0_ := Aside0.mk (below_step (by repeat (first | (with_reducible first | exact HB.out | apply below_alloc | apply pw_below_drewN | apply below_drew1) | exact HB.out)) hb); clear HB; have HB := n0_; clear n0_; (try clear hb); (try clear hb2); (try clear hk); (try clear hi)))
  go_ret
  exact ⟨by first | rfl | (simp [errW_none, errW_some] <;> rfl) | (simp [*, errW_none, errW_some] <;> rfl), by repeat (first | (with_reducible first | exact HB.out | apply below_alloc | apply pw_below_drewN | apply below_drew1) | exact HB.out)⟩

end Go.Proofs.Ytemglmcddaeedaa.PA

namespace Go.Proofs.Ytemglmcddaeedaa.PA
open Go.RowKit Go.Proofs.YtemglmcddaeedaaW.PrintWords Go.Proofs.YtemglmcddaeedaaW.PrintLast Go.Proofs.YtemglmcddaeedaaW.PrintMore
attribute [local go_sem] max2_int min2_int max_two min_two max_three min_three max_four min_four   -- for this text's walks alone
set_option linter.unusedVariables false
set_option linter.unusedSimpArgs false

/-! ### page_vcall: function 0 -/
theorem valid_call (p : ByteArray) (h : p.size ≤ 100000) : page_Valid.f p = some (decide (validS p)) := by
  unfold page_Valid.f page_Wrong.f validS
  rw [if_pos h, Option.bind_some]
  congr 1

end Go.Proofs.Ytemglmcddaeedaa.PA

namespace Go.Proofs.Ytemglmcddaeedaa.PA
open Go.RowKit Go.Proofs.YtemglmcddaeedaaW.PrintWords Go.Proofs.YtemglmcddaeedaaW.PrintLast Go.Proofs.YtemglmcddaeedaaW.PrintMore
attribute [local go_sem] max2_int min2_int max_two min_two max_three min_three max_four min_four   -- for this text's walks alone
set_option linter.unusedVariables false
set_option linter.unusedSimpArgs false

/-! ### page_cells1: function 0 -/
set_option maxHeartbeats 4000000 in
set_option maxRecDepth 100000 in
theorem page_cells1_calls (p : ByteArray) (b : Nat) (ln off len : Int) (h0 : 0 ≤ off) (h1 : 0 ≤ len) (h2 : off + len ≤ p.size) (h3 : p.size ≤ 100000) (w : World) (hb : w.heap[b]? = some (.cells #[.string p] 9)) :
    Calls Try.prog 99 #[.agg #[.int .i64 ln, .int .i64 off, .int .i64 len], .pointer (some ⟨b, 0, none⟩)] w fun e w' => e = .returned (.agg #[.int .i64 ln, .string (p.extract off.toNat (off + len).toNat)]) ∧ Below w.heap.size w w' := by
  have hlt := blk_lt hb
  have hb' := blk_alloc (blk_alloc hb (.cells #[.int .i64 ln, .int .i64 off, .int .i64 len] 76)) (.cells #[.int .i64 0, .string ⟨#[]⟩] 45)
  have hc := blk_alloc (blk_new w (.cells #[.int .i64 ln, .int .i64 off, .int .i64 len] 76)) (.cells #[.int .i64 0, .string ⟨#[]⟩] 45)
  have hd := blk_new (w.alloc (.cells #[.int .i64 ln, .int .i64 off, .int .i64 len] 76)) (.cells #[.int .i64 0, .string ⟨#[]⟩] 45)
  have hB := below_alloc (below_alloc (Below.refl _ w) (.cells #[.int .i64 ln, .int .i64 off, .int .i64 len] 76)) (.cells #[.int .i64 0, .string ⟨#[]⟩] 45)
  obtain ⟨W, hW⟩ : ∃ W, (w.alloc (.cells #[.int .i64 ln, .int .i64 off, .int .i64 len] 76)).alloc (.cells #[.int .i64 0, .string ⟨#[]⟩] 45) = W := ⟨_, rfl⟩
  obtain ⟨g, hg⟩ : ∃ g, w.heap.size = g := ⟨_, rfl⟩
  simp only [World.size_alloc] at hd
  rw [hW] at hb' hc hd hB
  rw [hg] at hc hd hB hlt
  clear hb
  have HB := Aside0.mk (And.intro hd hB)
  have c1 := (blk_cell hb' 0).trans rfl
  have c2 := (blk_cell hc 0).trans rfl
  have c3 := (blk_cell hc 1).trans rfl
  have c4 := (blk_cell hc 2).trans rfl
  have c5 := (blk_cell hd 0).trans rfl
  have c6 := (blk_cell hd 1).trans rfl
  have f5 := blk_frozen hd 0
  have f6 := blk_frozen hd 1
  clear hb' hc hd hB
  have hx := IntWalk.i64_in (off + len) (by omega)
  have p1 := eq_true h0
  have p2 := eq_true (show off ≤ off + len by omega)
  have p3 := eq_true h2
  go_enter Try.func99, Try.ntmps99
  go_wp2_with fail
  go_still_tail 12, (by kernel_rfl)
  repeat go_step
  have k1 := blk_set (blk_set (blk_drew HB.out.1) 0 (.int .i64 ln)) 1 (.string (p.extract off.toNat (off + len).toNat))
  obtain ⟨W3, hW3⟩ : ∃ W3, ((W.setCell ⟨g + 1, 0, none⟩ (.int .i64 ln)).setCell ⟨g + 1, 1, none⟩ (.string (p.extract off.toNat (off + len).toNat))).drew = W3 := ⟨_, rfl⟩
  have d1 : W3.cell? ⟨g + 1, 0, none⟩ = some (.int .i64 ln) := by rw [← hW3]; exact (blk_cell k1 0).trans rfl
  have d2 : W3.cell? ⟨g + 1, 1, none⟩ = some (.string (p.extract off.toNat (off + len).toNat)) := by rw [← hW3]; exact (blk_cell k1 1).trans rfl
  have d3 : Below g w W3 := by rw [← hW3]; exact ((HB.out.2.drew).setCell (Nat.le_succ g) _).setCell (Nat.le_succ g) _
  rw [hW3]
  refine ⟨rfl, .agg #[.int .i64 ln, .string (p.extract off.toNat (off + len).toNat)], ?_, rfl, hg ▸ d3⟩
  simp [results, Try.results99, go_sem, d1, d2]

end Go.Proofs.Ytemglmcddaeedaa.PA

namespace Go.Proofs.Ytemglmcddaeedaa.PA
open Go.RowKit Go.Proofs.YtemglmcddaeedaaW.PrintWords Go.Proofs.YtemglmcddaeedaaW.PrintLast Go.Proofs.YtemglmcddaeedaaW.PrintMore
attribute [local go_sem] max2_int min2_int max_two min_two max_three min_three max_four min_four   -- for this text's walks alone
set_option linter.unusedVariables false
set_option linter.unusedSimpArgs false

/-! ### page_gcell: function 0 -/
attribute [local go_sem] Oper.semAt_some
theorem R_is_slice {α : Type} {d : Kd α} {e : Nat} {w : World} {base : Nat} {ok : Nat → Prop} {v : Value} {xs : List α} (h : Kd.R d e w base ok v xs) : ∃ A n c, v = .slice A n c := by
  obtain ⟨_, inner, ho, _⟩ := h
  rcases ho.2 with ⟨rfl, _⟩ | ⟨g, cap, cur, rfl, _⟩
  · exact ⟨_, _, _, rfl⟩
  · exact ⟨_, _, _, rfl⟩
set_option maxHeartbeats 4000000 in
set_option maxRecDepth 100000 in
theorem page_gcell_calls (p : ByteArray) (n : Nat) (hn : twoS p 0 = n) (hs : 2 + 4 * n ≤ p.size) (hs2 : p.size ≤ 100000) (pb : Nat) (w : World) (hpb : w.heap[pb]? = some (.cells #[.string p] 9))
    (hgood : ∀ i : Nat, i < n → 0 < twoS p (4 + 4 * (i : Int)) → twoS p (2 + 4 * (i : Int)) + twoS p (4 + 4 * (i : Int)) ≤ p.size) :
    Calls Try.prog 98 #[.string p, .func (.func 99) #[] #[.pointer (some ⟨pb, 0, none⟩)]] w fun e w' => ∃ v, e = .returned v ∧ Kd.R k45 45 w' w.heap.size (fun _ => True) v (cellsS p n) ∧ Below w.heap.size w w' := by
  refine calls_of_wpX Try.func98 rfl ?_
  simp only [Try.ntmps98, List.size_toArray, List.length_cons, List.length_nil, Nat.reduceAdd, Nat.reduceSub, Array.replicate_succ, Array.replicate_zero, List.push_toArray, List.append_toArray, List.nil_append, List.cons_append]
  obtain ⟨R, hR⟩ : ∃ R : Ending → World → Prop, (fun e w' => ∃ v, e = .returned v ∧ Kd.R k45 45 w' w.heap.size (fun _ => True) v (cellsS p n) ∧ Below w.heap.size w w') = R := ⟨_, rfl⟩
  rw [hR]
  have HR := Aside0.mk hR
  clear hR
  refine wpX_seq_k ?_
  intro K hK
  go_wp2_with fail
  refine wpX_seq_k ?_
  intro K hK
  go_wp2_with fail
  refine wpX_seq_x ?_
  intro K0 hK0
  refine wpX_seq_k ?_
  intro K hK
  go_wp2_with (go_at_call 106; refine (page_slots_calls p _).mono ?_; rintro e w1 ⟨rfl, rfl⟩)
  obtain ⟨g, hg⟩ : ∃ g, w.heap.size = g := ⟨_, rfl⟩
  obtain ⟨W0, hW⟩ : ∃ W, (((w.alloc (.cells #[.func (.func 99) #[] #[.pointer (some ⟨pb, 0, none⟩)]] 121)).alloc (.cells #[.slice none 0 0] 22)).alloc (.cells #[.string p] 9)) = W := ⟨_, rfl⟩
  have hsz : W0.heap.size = g + 3 := by rw [← hW, ← hg]; simp
  have hB0 : Below w.heap.size w W0 := by rw [← hW]; exact below_alloc (below_alloc (below_alloc (Below.refl _ w) _) _) _
  have h1 : W0.heap[g]? = some (.cells #[.func (.func 99) #[] #[.pointer (some ⟨pb, 0, none⟩)]] 121) := by rw [← hW, ← hg]; exact blk_alloc (blk_alloc (blk_new _ _) _) _
  have h2 : W0.heap[g + 1]? = some (.cells #[.slice none 0 0] 22) := by
    rw [← hW, ← hg]; have := blk_alloc (blk_new (w.alloc (.cells #[.func (.func 99) #[] #[.pointer (some ⟨pb, 0, none⟩)]] 121)) (.cells #[.slice none 0 0] 22)) (.cells #[.string p] 9); simpa using this
  have h3 : W0.heap[g + 2]? = some (.cells #[.string p] 9) := by
    rw [← hW, ← hg]; have := blk_new ((w.alloc (.cells #[.func (.func 99) #[] #[.pointer (some ⟨pb, 0, none⟩)]] 121)).alloc (.cells #[.slice none 0 0] 22)) (.cells #[.string p] 9); simpa using this
  simp only [hg, hW, Nat.add_assoc, Nat.reduceAdd]
  rw [hg] at HR hB0
  have hplt : pb < g := by rw [← hg]; exact blk_lt hpb
  have HPB := Aside0.mk hpb
  clear hW hpb
  refine wpX_block ?_
  refine wpX_range (gf := 125) (lb := #[.pointer (some ⟨g + 2, 0, none⟩)]) (xs := (List.range n).map (slotV p)) (Kp := fun W => W.cell? ⟨g + 2, 0, none⟩ = some (.string p)) rfl (fun _ _ => rfl) (slots1_iter p n hn hs hs2 _) (by simp [slotV])
    (fun i W => ∃ v, Kd.R k45 45 W g (fun k => g + 4 < k) v (cellsS p i) ∧ Below g w W ∧ W.heap[g]? = some (.cells #[.func (.func 99) #[] #[.pointer (some ⟨pb, 0, none⟩)]] 121) ∧ W.heap[g + 1]? = some (.cells #[v] 22) ∧ W.heap[g + 2]? = some (.cells #[.string p] 9))
    (fun i a₁ W => ∃ v b, Kd.R k45 45 W g (fun k => g + 4 < k) v (cellsS p i) ∧ Below g w W ∧ W.heap[g]? = some (.cells #[.func (.func 99) #[] #[.pointer (some ⟨pb, 0, none⟩)]] 121) ∧ W.heap[g + 1]? = some (.cells #[v] 22) ∧ W.heap[g + 2]? = some (.cells #[.string p] 9) ∧ g + 4 < b ∧
      W.heap[b]? = some (.cells #[.int .i64 ((i : Int) + 1), .int .i64 (twoS p (2 + 4 * (i : Int))), .int .i64 (twoS p (4 + 4 * (i : Int)))] 76) ∧
      a₁ = { tmps := #[.string p, .func (.func 99) #[] #[.pointer (some ⟨pb, 0, none⟩)], undef, .pointer (some ⟨g, 0, none⟩), .slice none 0 0, .pointer (some ⟨g + 1, 0, none⟩), .pointer (some ⟨b, 0, none⟩), .string p, .func (.func 125) #[] #[.pointer (some ⟨g + 2, 0, none⟩)], .agg #[.int .i64 ((i : Int) + 1), .int .i64 (twoS p (2 + 4 * (i : Int))), .int .i64 (twoS p (4 + 4 * (i : Int)))]] ++ Array.replicate 10 undef, defers := [] })
    (fun _ _ => False) (fun _ _ => False)
    ?_ ?_ ?_ ?_ ?_ ?_ ?_ ?_ ?_ ?_ ?_ ?_ ?_
  all_goals try simp only [hsz, Nat.add_assoc, Nat.reduceAdd]
  case refine_1 =>
    rintro i W o o' ⟨v, e1, e2, e3, e4, e5⟩ -
    exact ⟨v, Kd.R_step e1 (fun k hk _ => World.putObj_heap_other (by omega)), below_putObj e2 (by omega) _, blk_putObj e3 (by omega), blk_putObj e4 (by omega), blk_putObj e5 (by omega)⟩
  case refine_2 =>
    rintro i a₁ W o o' ⟨v, b, e1, e2, e3, e4, e5, e7, e8, e9⟩ -
    exact ⟨v, b, Kd.R_step e1 (fun k hk _ => World.putObj_heap_other (by omega)), below_putObj e2 (by omega) _, blk_putObj e3 (by omega), blk_putObj e4 (by omega), blk_putObj e5 (by omega), e7, blk_putObj e8 (by omega), e9⟩
  case refine_3 => exact fun _ _ _ _ h => h.elim
  case refine_4 =>
    rintro i W m ⟨v, e1, e2, e3, e4, e5⟩
    exact ⟨v, Kd.R_drewN e1 m, pw_below_drewN e2 m, e3, e4, e5⟩
  case refine_5 => exact fun _ _ _ h => h.elim
  case refine_6 => exact fun _ _ _ h => h.elim
  case refine_7 =>
    rintro i W ⟨v, e1, e2, e3, e4, e5⟩
    exact (blk_cell e5 0).trans rfl
  case refine_8 =>
    intro rec
    exact ⟨_, Kd.R_nil _ _ _ _ _, hg ▸ below_alloc (hg ▸ below_alloc (hg ▸ hB0) _) _, blk_alloc (blk_alloc h1 _) _, blk_alloc (blk_alloc h2 _) _, blk_alloc (blk_alloc h3 _) _⟩
  case refine_9 =>
    rintro i v W hv ⟨v1, e1, e2, e3, e4, e5⟩ hlt
    refine wpIn_hide ?_
    intro Q HQ
    have HR1 := Aside0.mk (And.intro HQ.out hv)
    clear HQ hv
    have hvv : v = slotV p i := by
      rcases List.getElem?_eq_some_iff.1 HR1.out.2 with ⟨q1, q2⟩
      rw [← q2]; simp
    subst hvv
    unfold slotV
    simp only [List.zip_toArray, List.zip_cons_cons, List.zip_nil_right, List.size_toArray, List.length_cons, List.length_nil, Nat.reduceAdd, List.foldl_toArray', List.foldl_cons, List.foldl_nil]
    gi_wp2_with fail
    refine HR1.out.1 _ _ _ ⟨⟨v1, W.heap.size, Kd.R_alloc e1 _, hg ▸ below_alloc (hg ▸ e2) _, blk_alloc e3 _, blk_alloc e4 _, blk_alloc e5 _, hlt, blk_new _ _, ?_⟩, ?_, ?_⟩
    · simp [Array.replicate_succ]
    · exact Below.heap_alloc _ _ _ hlt
    · exact Below.heap_alloc _ _ _ (by omega)
  case refine_10 =>
    rintro i v a₁ W hv ⟨v1, b, e1, e2, e3, e4, e5, e7, e8, rfl⟩ hlt
    clear hK0 h1 h2 h3 hB0 hsz
    simp only [Array.replicate_succ, Array.replicate_zero, List.push_toArray, List.append_toArray, List.nil_append, List.cons_append]
    refine wpIn_hideN (by rintro a w ⟨_, _, h⟩; exact h) ?_
    intro Q HQ HN
    have HPB := HPB.out
    clear HR
    have hx := twoS_range p (2 + 4 * (i : Int))
    have hy := twoS_range p (4 + 4 * (i : Int))
    have hi : i < n := by
      have := (List.getElem?_eq_some_iff.1 hv).1
      simpa using this
    have hgd := hgood i hi
    have hlen := cellsS_length p i
    have hcs : cellsS p (i + 1) = if 0 < twoS p (4 + 4 * (i : Int)) then cellsS p i ++ [⟨(i : Int) + 1, p.extract (twoS p (2 + 4 * (i : Int))).toNat (twoS p (2 + 4 * (i : Int)) + twoS p (4 + 4 * (i : Int))).toNat⟩] else cellsS p i := rfl
    have c1 := (blk_cell e3 0).trans rfl
    have c2 := (blk_cell e4 0).trans rfl
    have c3 := (blk_cell e8 0).trans rfl
    have c4 := (blk_cell e8 1).trans rfl
    have c5 := (blk_cell e8 2).trans rfl
    have f2 := blk_frozen e4 0
    have hown := e1.1
    have HB := Aside0.mk (And.intro e1 (And.intro e2 (And.intro e3 (And.intro e4 e5))))
    have hblt := blk_lt e8
    have hbe := Below.block e2
    have hpbW : W.heap[pb]? = some (.cells #[.string p] 9) := (e2.block pb hplt).trans HPB
    have HP := Aside0.mk hpbW
    clear e1 e2 e3 e4 e5 e8 hgood hv hpbW hbe HPB
    obtain ⟨x, HX⟩ : ∃ x, twoS p (2 + 4 * (i : Int)) = x := ⟨_, rfl⟩
    obtain ⟨y, HY⟩ : ∃ y, twoS p (4 + 4 * (i : Int)) = y := ⟨_, rfl⟩
    simp only [HX, HY] at hx hy c4 c5 hgd hcs ⊢
    clear HX HY
    by_cases hy0 : 0 < y
    · rw [if_pos hy0] at hcs
      have HCS := Aside0.mk hcs
      replace hgd := hgd hy0
      clear hcs
      gi_wp2_with fail
      refine round_region_any (by kernel_rfl) (by kernel_rfl) (fun a w h => HN.out _ _ h) ?_
      change wpAny _ _ _ _ _ _ _ (World.drew _)
      all_goals first
        | refine wpAny_ready (rs := [0, 1, 2]) (by decide +kernel) (by simp) ?_
        | refine wpAny_ready (rs := [1, 2]) (by decide +kernel) (by simp) ?_
        | refine wpAny_ready (rs := [0, 2]) (by decide +kernel) (by simp) ?_
        | refine wpAny_ready (rs := [0, 1]) (by decide +kernel) (by simp) ?_
        | refine wpAny_ready (rs := [2]) (by decide +kernel) (by simp) ?_
        | refine wpAny_ready (rs := [1]) (by decide +kernel) (by simp) ?_
        | refine wpAny_ready (rs := [0, 3]) (by decide +kernel) (by simp) ?_
        | refine wpAny_ready (rs := [3]) (by decide +kernel) (by simp) ?_
        | refine wpAny_ready (rs := [0, 4]) (by decide +kernel) (by simp) ?_
        | refine wpAny_ready (rs := [4]) (by decide +kernel) (by simp) ?_
        | refine wpAny_ready (rs := [0]) (by decide +kernel) (by simp) ?_
        | refine wpAny_ready (rs := [5]) (by decide +kernel) (by simp) ?_
        | refine wpAny_ready (rs := [6]) (by decide +kernel) (by simp) ?_
      all_goals repeat' (first | exact AllReady.nil | refine AllReady.cons rfl (fun K hK => ?_) ?_)
      all_goals first
        | (go_simp
           first
           | (refine hK _ _ ?_
              clear hK K)
           | (go_at_call 99
              refine (page_cells1_calls p pb _ x y hx.1 (by omega) hgd hs2 _ (blk_drew HP.out)).mono ?_
              rintro e w' ⟨rfl, hcb⟩
              have g2 := blk_below (blk_drew HB.out.2.2.2.1) hcb
              have d1 := (blk_cell g2 0).trans rfl
              have d2 := blk_frozen g2 0
              have d5 := blk_lt g2
              have HW := Aside0.mk (And.intro (Kd.R_below (Kd.R_drew HB.out.1) hcb) (And.intro (below_then HB.out.2.1.drew (by have := hblt; simp; omega) hcb) (And.intro g2 (Nat.lt_of_lt_of_le hblt hcb.size))))
              have HW2 := Aside0.mk hcb
              clear g2 hcb
              refine hK _ _ ?_
              clear hK K))
      all_goals first
        | refine wpAny_ready (rs := [0, 1, 2]) (by decide +kernel) (by simp) ?_
        | refine wpAny_ready (rs := [1, 2]) (by decide +kernel) (by simp) ?_
        | refine wpAny_ready (rs := [0, 2]) (by decide +kernel) (by simp) ?_
        | refine wpAny_ready (rs := [0, 1]) (by decide +kernel) (by simp) ?_
        | refine wpAny_ready (rs := [2]) (by decide +kernel) (by simp) ?_
        | refine wpAny_ready (rs := [1]) (by decide +kernel) (by simp) ?_
        | refine wpAny_ready (rs := [0, 3]) (by decide +kernel) (by simp) ?_
        | refine wpAny_ready (rs := [3]) (by decide +kernel) (by simp) ?_
        | refine wpAny_ready (rs := [0, 4]) (by decide +kernel) (by simp) ?_
        | refine wpAny_ready (rs := [4]) (by decide +kernel) (by simp) ?_
        | refine wpAny_ready (rs := [0]) (by decide +kernel) (by simp) ?_
        | refine wpAny_ready (rs := [5]) (by decide +kernel) (by simp) ?_
        | refine wpAny_ready (rs := [6]) (by decide +kernel) (by simp) ?_
      all_goals repeat' (first | exact AllReady.nil | refine AllReady.cons rfl (fun K hK => ?_) ?_)
      all_goals first
        | (go_simp
           first
           | (refine hK _ _ ?_
              clear hK K)
           | (go_at_call 99
              refine (page_cells1_calls p pb _ x y hx.1 (by omega) hgd hs2 _ (blk_drew HP.out)).mono ?_
              rintro e w' ⟨rfl, hcb⟩
              have g2 := blk_below (blk_drew HB.out.2.2.2.1) hcb
              have d1 := (blk_cell g2 0).trans rfl
              have d2 := blk_frozen g2 0
              have d5 := blk_lt g2
              have HW := Aside0.mk (And.intro (Kd.R_below (Kd.R_drew HB.out.1) hcb) (And.intro (below_then HB.out.2.1.drew (by have := hblt; simp; omega) hcb) (And.intro g2 (Nat.lt_of_lt_of_le hblt hcb.size))))
              have HW2 := Aside0.mk hcb
              clear g2 hcb
              refine hK _ _ ?_
              clear hK K))
      all_goals first
        | refine wpAny_ready (rs := [0, 1, 2]) (by decide +kernel) (by simp) ?_
        | refine wpAny_ready (rs := [1, 2]) (by decide +kernel) (by simp) ?_
        | refine wpAny_ready (rs := [0, 2]) (by decide +kernel) (by simp) ?_
        | refine wpAny_ready (rs := [0, 1]) (by decide +kernel) (by simp) ?_
        | refine wpAny_ready (rs := [2]) (by decide +kernel) (by simp) ?_
        | refine wpAny_ready (rs := [1]) (by decide +kernel) (by simp) ?_
        | refine wpAny_ready (rs := [0, 3]) (by decide +kernel) (by simp) ?_
        | refine wpAny_ready (rs := [3]) (by decide +kernel) (by simp) ?_
        | refine wpAny_ready (rs := [0, 4]) (by decide +kernel) (by simp) ?_
        | refine wpAny_ready (rs := [4]) (by decide +kernel) (by simp) ?_
        | refine wpAny_ready (rs := [0]) (by decide +kernel) (by simp) ?_
        | refine wpAny_ready (rs := [5]) (by decide +kernel) (by simp) ?_
        | refine wpAny_ready (rs := [6]) (by decide +kernel) (by simp) ?_
      all_goals repeat' (first | exact AllReady.nil | refine AllReady.cons rfl (fun K hK => ?_) ?_)
      all_goals first
        | (go_simp
           first
           | (refine hK _ _ ?_
              clear hK K)
           | (go_at_call 99
              refine (page_cells1_calls p pb _ x y hx.1 (by omega) hgd hs2 _ (blk_drew HP.out)).mono ?_
              rintro e w' ⟨rfl, hcb⟩
              have g2 := blk_below (blk_drew HB.out.2.2.2.1) hcb
              have d1 := (blk_cell g2 0).trans rfl
              have d2 := blk_frozen g2 0
              have d5 := blk_lt g2
              have HW := Aside0.mk (And.intro (Kd.R_below (Kd.R_drew HB.out.1) hcb) (And.intro (below_then HB.out.2.1.drew (by have := hblt; simp; omega) hcb) (And.intro g2 (Nat.lt_of_lt_of_le hblt hcb.size))))
              have HW2 := Aside0.mk hcb
              clear g2 hcb
              refine hK _ _ ?_
              clear hK K))
      all_goals first
        | refine wpAny_ready (rs := [0, 1, 2]) (by decide +kernel) (by simp) ?_
        | refine wpAny_ready (rs := [1, 2]) (by decide +kernel) (by simp) ?_
        | refine wpAny_ready (rs := [0, 2]) (by decide +kernel) (by simp) ?_
        | refine wpAny_ready (rs := [0, 1]) (by decide +kernel) (by simp) ?_
        | refine wpAny_ready (rs := [2]) (by decide +kernel) (by simp) ?_
        | refine wpAny_ready (rs := [1]) (by decide +kernel) (by simp) ?_
        | refine wpAny_ready (rs := [0, 3]) (by decide +kernel) (by simp) ?_
        | refine wpAny_ready (rs := [3]) (by decide +kernel) (by simp) ?_
        | refine wpAny_ready (rs := [0, 4]) (by decide +kernel) (by simp) ?_
        | refine wpAny_ready (rs := [4]) (by decide +kernel) (by simp) ?_
        | refine wpAny_ready (rs := [0]) (by decide +kernel) (by simp) ?_
        | refine wpAny_ready (rs := [5]) (by decide +kernel) (by simp) ?_
        | refine wpAny_ready (rs := [6]) (by decide +kernel) (by simp) ?_
      all_goals repeat' (first | exact AllReady.nil | refine AllReady.cons rfl (fun K hK => ?_) ?_)
      all_goals first
        | (go_simp
           first
           | (refine hK _ _ ?_
              clear hK K)
           | (go_at_call 99
              refine (page_cells1_calls p pb _ x y hx.1 (by omega) hgd hs2 _ (blk_drew HP.out)).mono ?_
              rintro e w' ⟨rfl, hcb⟩
              have g2 := blk_below (blk_drew HB.out.2.2.2.1) hcb
              have d1 := (blk_cell g2 0).trans rfl
              have d2 := blk_frozen g2 0
              have d5 := blk_lt g2
              have HW := Aside0.mk (And.intro (Kd.R_below (Kd.R_drew HB.out.1) hcb) (And.intro (below_then HB.out.2.1.drew (by have := hblt; simp; omega) hcb) (And.intro g2 (Nat.lt_of_lt_of_le hblt hcb.size))))
              have HW2 := Aside0.mk hcb
              clear g2 hcb
              refine hK _ _ ?_
              clear hK K))
      all_goals first
        | refine wpAny_ready (rs := [0, 1, 2]) (by decide +kernel) (by simp) ?_
        | refine wpAny_ready (rs := [1, 2]) (by decide +kernel) (by simp) ?_
        | refine wpAny_ready (rs := [0, 2]) (by decide +kernel) (by simp) ?_
        | refine wpAny_ready (rs := [0, 1]) (by decide +kernel) (by simp) ?_
        | refine wpAny_ready (rs := [2]) (by decide +kernel) (by simp) ?_
        | refine wpAny_ready (rs := [1]) (by decide +kernel) (by simp) ?_
        | refine wpAny_ready (rs := [0, 3]) (by decide +kernel) (by simp) ?_
        | refine wpAny_ready (rs := [3]) (by decide +kernel) (by simp) ?_
        | refine wpAny_ready (rs := [0, 4]) (by decide +kernel) (by simp) ?_
        | refine wpAny_ready (rs := [4]) (by decide +kernel) (by simp) ?_
        | refine wpAny_ready (rs := [0]) (by decide +kernel) (by simp) ?_
        | refine wpAny_ready (rs := [5]) (by decide +kernel) (by simp) ?_
        | refine wpAny_ready (rs := [6]) (by decide +kernel) (by simp) ?_
      all_goals repeat' (first | exact AllReady.nil | refine AllReady.cons rfl (fun K hK => ?_) ?_)
      all_goals first
        | (go_simp
           first
           | (refine hK _ _ ?_
              clear hK K)
           | (go_at_call 99
              refine (page_cells1_calls p pb _ x y hx.1 (by omega) hgd hs2 _ (blk_drew HP.out)).mono ?_
              rintro e w' ⟨rfl, hcb⟩
              have g2 := blk_below (blk_drew HB.out.2.2.2.1) hcb
              have d1 := (blk_cell g2 0).trans rfl
              have d2 := blk_frozen g2 0
              have d5 := blk_lt g2
              have HW := Aside0.mk (And.intro (Kd.R_below (Kd.R_drew HB.out.1) hcb) (And.intro (below_then HB.out.2.1.drew (by have := hblt; simp; omega) hcb) (And.intro g2 (Nat.lt_of_lt_of_le hblt hcb.size))))
              have HW2 := Aside0.mk hcb
              clear g2 hcb
              refine hK _ _ ?_
              clear hK K))
      all_goals first
        | refine wpAny_ready (rs := [0, 1, 2]) (by decide +kernel) (by simp) ?_
        | refine wpAny_ready (rs := [1, 2]) (by decide +kernel) (by simp) ?_
        | refine wpAny_ready (rs := [0, 2]) (by decide +kernel) (by simp) ?_
        | refine wpAny_ready (rs := [0, 1]) (by decide +kernel) (by simp) ?_
        | refine wpAny_ready (rs := [2]) (by decide +kernel) (by simp) ?_
        | refine wpAny_ready (rs := [1]) (by decide +kernel) (by simp) ?_
        | refine wpAny_ready (rs := [0, 3]) (by decide +kernel) (by simp) ?_
        | refine wpAny_ready (rs := [3]) (by decide +kernel) (by simp) ?_
        | refine wpAny_ready (rs := [0, 4]) (by decide +kernel) (by simp) ?_
        | refine wpAny_ready (rs := [4]) (by decide +kernel) (by simp) ?_
        | refine wpAny_ready (rs := [0]) (by decide +kernel) (by simp) ?_
        | refine wpAny_ready (rs := [5]) (by decide +kernel) (by simp) ?_
        | refine wpAny_ready (rs := [6]) (by decide +kernel) (by simp) ?_
      all_goals repeat' (first | exact AllReady.nil | refine AllReady.cons rfl (fun K hK => ?_) ?_)
      all_goals first
        | (refine Kd.R_append_step k45 (w0 := w) g (by rfl) (.tmp 13) (.tmp 17) 22 45 (.agg #[.int .i64 0, .string ⟨#[]⟩]) 24 rfl Try.underlying22 info45 rfl (by decide) (by omega) v1 (cellsS p i) ⟨(i : Int) + 1, p.extract x.toNat (x + y).toNat⟩ [.int .i64 ((i : Int) + 1), .string (p.extract x.toNat (x + y).toNat)] (fun k => g + 4 < k) (fun _ => False) rfl rfl (k45_mkM _ _ _ _) (fun _ hk => hk.elim) ?aF ?aO ?aB ?aS ?aL ?_
           case aF => exact fun k hk => Nat.lt_of_lt_of_le (Nat.lt_trans e7 HW.out.2.2.2) hk
           case aO => exact HW.out.1
           case aB => exact HW.out.2.1
           case aS => exact Nat.le_of_lt (Nat.lt_trans (by omega) HW.out.2.2.2)
           case aL => omega
           intro v2 w2 hr2 hb2 hg2 hat2
           obtain ⟨A2, l2, c2_, rfl⟩ := R_is_slice hr2
           have g3 := blk_grown HW.out.2.2.1 hg2 (by intro h; have := hown _ h.symm; omega)
           have d3 := (blk_cell g3 0).trans rfl
           have d4 := blk_frozen g3 0
           have HZ := Aside0.mk (And.intro hr2 (And.intro hb2 (And.intro g3 (And.intro hg2 hat2))))
           clear hr2 hb2 g3 hg2 hat2
           refine hK _ _ ?_
           clear hK K)
      all_goals first
        | refine wpAny_ready (rs := [0, 1, 2]) (by decide +kernel) (by simp) ?_
        | refine wpAny_ready (rs := [1, 2]) (by decide +kernel) (by simp) ?_
        | refine wpAny_ready (rs := [0, 2]) (by decide +kernel) (by simp) ?_
        | refine wpAny_ready (rs := [0, 1]) (by decide +kernel) (by simp) ?_
        | refine wpAny_ready (rs := [2]) (by decide +kernel) (by simp) ?_
        | refine wpAny_ready (rs := [1]) (by decide +kernel) (by simp) ?_
        | refine wpAny_ready (rs := [0, 3]) (by decide +kernel) (by simp) ?_
        | refine wpAny_ready (rs := [3]) (by decide +kernel) (by simp) ?_
        | refine wpAny_ready (rs := [0, 4]) (by decide +kernel) (by simp) ?_
        | refine wpAny_ready (rs := [4]) (by decide +kernel) (by simp) ?_
        | refine wpAny_ready (rs := [0]) (by decide +kernel) (by simp) ?_
        | refine wpAny_ready (rs := [5]) (by decide +kernel) (by simp) ?_
        | refine wpAny_ready (rs := [6]) (by decide +kernel) (by simp) ?_
      all_goals repeat' (first | exact AllReady.nil | refine AllReady.cons rfl (fun K hK => ?_) ?_)
      all_goals
        go_simp
        refine hK _ _ ?_
        clear hK K
      all_goals refine wpAny_done (by decide +kernel) ?_ _
      all_goals
        refine HQ.out _ _ _ ⟨?_, ?_, .slice A2 l2 c2_, by rw [HCS.out]; exact Kd.R_far HZ.out.1 (fun k hk => by simp; omega) _, HZ.out.2.1.setCell (by simp) _, ?_, blk_set HZ.out.2.2.1 0 _, ?_⟩
        · exact (Below.heap_setCell _ _ _ _ (by simp)).trans ((HZ.out.2.2.2.1.block _ (Nat.lt_of_lt_of_le (by simpa using hlt) HW2.out.size) (by intro h; have := hown _ h.symm; omega)).trans (HW2.out.block _ (by simpa using hlt)))
        · exact (Below.heap_setCell _ _ _ _ (by simp)).trans ((HZ.out.2.2.2.1.block _ (Nat.lt_of_lt_of_le (show g + 3 < W.heap.size by omega) HW2.out.size) (by intro h; have := hown _ h.symm; omega)).trans (HW2.out.block _ (show g + 3 < W.heap.size by omega)))
        · exact blk_far (blk_grown (blk_below (blk_drew HB.out.2.2.1) HW2.out) HZ.out.2.2.2.1 (by intro h; have := hown _ h.symm; omega)) (by simp) _
        · exact blk_far (blk_grown (blk_below (blk_drew HB.out.2.2.2.2) HW2.out) HZ.out.2.2.2.1 (by intro h; have := hown _ h.symm; omega)) (by simp) _
    · rw [if_neg hy0] at hcs
      have HCS := Aside0.mk hcs
      clear hcs hgd
      gi_wp2_with fail
      refine HQ.out _ _ _ ⟨rfl, rfl, v1, by rw [HCS.out]; exact HB.out.1, HB.out.2.1, HB.out.2.2.1, HB.out.2.2.2.1, HB.out.2.2.2.2⟩
  case refine_11 =>
    rintro W ⟨v, e1, e2, e3, e4, e5⟩ hD
    refine hK0 _ _ ?_
    clear hK0
    refine wpX_of_wp ?_
    have c1 := (blk_cell e4 0).trans rfl
    have HB := Aside0.mk e2
    have HS := Aside0.mk e1
    have HD := Aside0.mk hD
    clear e1 e2 e3 e4 e5 hD h1 h2 h3
    go_wp2_with fail
    refine leavesM_ret HD.out (fun _ => results_tmp rfl _ _ _) ?_
    rw [← HR.out]
    have h8 := HS.out
    simp only [List.length_map, List.length_range] at h8
    exact ⟨v, rfl, Kd.R_mono (Kd.R_step h8 (fun k hk _ => World.putObj_heap_other (by omega))) (fun _ _ => trivial), below_putObj HB.out (by omega) _⟩
  case refine_12 => exact fun _ _ h => h.elim
  case refine_13 => exact fun _ _ h => h.elim

end Go.Proofs.Ytemglmcddaeedaa.PA

namespace Go.Proofs.Ytemglmcddaeedaa.PA
open Go.RowKit Go.Proofs.YtemglmcddaeedaaW.PrintWords Go.Proofs.YtemglmcddaeedaaW.PrintLast Go.Proofs.YtemglmcddaeedaaW.PrintMore
attribute [local go_sem] max2_int min2_int max_two min_two max_three min_three max_four min_four   -- for this text's walks alone
set_option linter.unusedVariables false
set_option linter.unusedSimpArgs false

/-! ### page_cells: function 49 -/
def page_cells.f (a0 : ByteArray) : Option (List S45) := if validS a0 then some (cellsS a0 (twoS a0 0).toNat) else none
set_option maxHeartbeats 4000000 in
set_option maxRecDepth 100000 in
theorem page_cells.calls (a0 : ByteArray) (r : List S45) (w : World) (h : page_cells.f a0 = some r) :
    Calls Try.prog 49 #[.string a0] w fun e w' => ∃ v0_ : Value, e = .returned (v0_) ∧ Kd.R k45 45 w' w.heap.size (fun _ => True) v0_ r ∧ Below w.heap.size w w' := by
  unfold page_cells.f at h
  split at h
  rotate_left
  · cases h
  rename_i hv
  obtain rfl := Option.some.inj h
  clear h
  obtain ⟨q1, q2, q3, q4, q5, top, q6, q7⟩ := validS_spec a0 hv
  have hr := twoS_range a0 0
  obtain ⟨n, hn⟩ : ∃ n : Nat, twoS a0 0 = n := ⟨(twoS a0 0).toNat, by omega⟩
  rw [hn, Int.toNat_natCast] at q6
  have hb := blk_new w (.cells #[.string a0] 9)
  have HG := Aside0.mk (page_gcell_calls a0 n hn (by omega) (by omega) w.heap.size (w.alloc (.cells #[.string a0] 9)) hb (fun i hi hy => (entriesS_good a0 n top q6 i hi hy).2))
  have HN := Aside0.mk hn
  clear hn hr q6 q7 hv hb
  go_enter Try.func49, Try.ntmps49
  go_wp2_with (go_at_call 98; refine HG.out.mono ?_; rintro e w' ⟨v, rfl, hr1, hb1⟩)
  go_ret
  rw [HN.out, Int.toNat_natCast]
  exact ⟨v, rfl, Kd.R_lower hr1 (by simp), below_then (below_alloc (Below.refl _ w) _) (by simp) hb1⟩

end Go.Proofs.Ytemglmcddaeedaa.PA

namespace Go.Proofs.Ytemglmcddaeedaa.PA
open Go.RowKit Go.Proofs.YtemglmcddaeedaaW.PrintWords Go.Proofs.YtemglmcddaeedaaW.PrintLast Go.Proofs.YtemglmcddaeedaaW.PrintMore
attribute [local go_sem] max2_int min2_int max_two min_two max_three min_three max_four min_four   -- for this text's walks alone
set_option linter.unusedVariables false
set_option linter.unusedSimpArgs false

/-! ### b_two: function 0 -/
/-! #### a page that is valid is the page of its cells -/
theorem getD_drop (l : List Int) (i j : Nat) : (l.drop i).getD j 0 = l.getD (i + j) 0 := by
  simp [List.getD_eq_getElem?_getD, List.getElem?_drop]
theorem take_four (l : List Int) (i : Nat) (h : i + 4 ≤ l.length) : l.take (i + 4) = l.take i ++ [l.getD i 0, l.getD (i + 1) 0, l.getD (i + 2) 0, l.getD (i + 3) 0] := by
  have e : ∀ j, j < l.length → l.take (j + 1) = l.take j ++ [l.getD j 0] := by
    intro j hj
    rw [List.take_succ_eq_append_getElem hj, List.getD_eq_getElem?_getD, List.getElem?_eq_getElem hj]
    rfl
  rw [show i + 4 = i + 1 + 1 + 1 + 1 by omega, e _ (by omega), e _ (by omega), e _ (by omega), e _ (by omega)]
  simp
theorem CellsOk.snoc {l : List S45} {c : S45} (h : CellsOk l) (hc : 1 ≤ c.f0 ∧ c.f0 ≤ 200 ∧ 0 < c.f1.size) (hl : lastL l < c.f0) : CellsOk (l ++ [c]) := by
  induction l with
  | nil => exact hc
  | cons d r ih =>
    cases r with
    | nil =>
      have : lastL [d] = d.f0 := by simp [lastL]
      exact ⟨h, by omega, hc⟩
    | cons e r =>
      have h1 : lastL (d :: e :: r) = lastL (e :: r) := by simp [lastL, List.getLast?_cons_cons]
      have := ih h.2.2 (by rw [← h1]; exact hl)
      exact ⟨h.1, h.2.1, this⟩
/-- What has been read behind i entries. -/
theorem scan_reads (p : ByteArray) (n : Nat) (hn : n ≤ 200) (hsz : 2 + 4 * n ≤ p.size) (i : Nat) (hi : i ≤ n) (top last : Int) (h : scanE p n i = .ok (top, last)) :
    CellsOk (cellsS p i) ∧ lastL (cellsS p i) = last ∧ last ≤ i ∧ top = p.size - bytesL (cellsS p i) ∧
      (foldB p.size (cellsS p i)).1 ++ zer (4 * i - 4 * last.toNat) = ((bytesOf p).drop 2).take (4 * i) ∧ (foldB p.size (cellsS p i)).2 = (bytesOf p).drop top.toNat := by
  induction i generalizing top last with
  | zero =>
    simp only [scanE] at h
    cases h
    refine ⟨trivial, rfl, by omega, by simp [cellsS, bytesL], by simp [cellsS, foldB, zer], ?_⟩
    simp only [cellsS, foldB, List.foldl_nil, Int.toNat_natCast]
    rw [List.drop_of_length_le (by rw [bytesOf_length]; omega)]
  | succ i ih =>
    simp only [scanE] at h
    cases hs : scanE p n i with
    | error a => rw [hs] at h; cases h
    | ok s =>
      obtain ⟨t, l⟩ := s
      have htop := scanE_top p n i t l hs
      have hrg := scanE_range p n i t l hs
      obtain ⟨i1, i2, i3, i4, i5, i6⟩ := ih (by omega) t l hs
      rw [hs] at h
      simp only at h
      have hx := twoS_range p (2 + 4 * (i : Int))
      have hy := twoS_range p (4 + 4 * (i : Int))
      have b0 := bt_range p (2 + 4 * (i : Int))
      have b1 := bt_range p (2 + 4 * (i : Int) + 1)
      have b2 := bt_range p (4 + 4 * (i : Int))
      have b3 := bt_range p (4 + 4 * (i : Int) + 1)
      have hlen : ((bytesOf p).drop 2).length = p.size - 2 := by rw [List.length_drop, bytesOf_length]
      have h4 := take_four ((bytesOf p).drop 2) (4 * i) (by omega)
      simp only [getD_drop, bytesOf_getD] at h4
      rw [show ((2 + 4 * i : Nat) : Int) = 2 + 4 * (i : Int) by omega, show ((2 + (4 * i + 1) : Nat) : Int) = 2 + 4 * (i : Int) + 1 by omega, show ((2 + (4 * i + 2) : Nat) : Int) = 4 + 4 * (i : Int) by omega, show ((2 + (4 * i + 3) : Nat) : Int) = 4 + 4 * (i : Int) + 1 by omega] at h4
      rw [show 4 * (i + 1) = 4 * i + 4 by omega, h4, ← i5]
      unfold twoS at h hx hy
      simp only [cellsS]
      unfold twoS
      generalize bt p (2 + 4 * (i : Int)) = c0 at *
      generalize bt p (2 + 4 * (i : Int) + 1) = c1 at *
      generalize bt p (4 + 4 * (i : Int)) = c2 at *
      generalize bt p (4 + 4 * (i : Int) + 1) = c3 at *
      split at h
      · rename_i hz
        cases h
        rw [if_neg (by omega)]
        refine ⟨i1, i2, by omega, i4, ?_, i6⟩
        rw [show c0 = 0 by omega, show c1 = 0 by omega, show c2 = 0 by omega, show c3 = 0 by omega]
        rw [List.append_assoc]
        congr 1
        rw [show (4 * i + 4 - 4 * last.toNat) = (4 * i - 4 * last.toNat) + 4 by omega, zer_add]
        rfl
      · split at h
        · cases h
        · rename_i hz hq
          cases h
          rw [if_pos (by omega)]
          have hex := extract_size p (256 * c0 + c1).toNat (256 * c0 + c1 + (256 * c2 + c3)).toNat (by omega)
          have hll : lastL (cellsS p i ++ [⟨(i : Int) + 1, p.extract (256 * c0 + c1).toNat (256 * c0 + c1 + (256 * c2 + c3)).toNat⟩]) = (i : Int) + 1 := lastL_snoc _ _
          refine ⟨i1.snoc ⟨by show 1 ≤ (i : Int) + 1; omega, by show (i : Int) + 1 ≤ 200; omega, by rw [hex]; omega⟩ (by rw [i2]; show l < (i : Int) + 1; omega), hll, by omega, ?_, ?_, ?_⟩
          · rw [bytesL_append]
            simp only [bytesL, List.map_cons, List.map_nil, List.sum_cons, List.sum_nil, hex] at i4 ⊢
            omega
          · rw [foldB_snoc]
            have hfl := foldB_len (N := p.size) i1
            simp only [stepB, i6, hex]
            rw [show (4 * i + 4 - 4 * ((i : Int) + 1).toNat) = 0 by omega]
            rw [show (4 * (((i : Int) + 1).toNat - 1) - (foldB p.size (cellsS p i)).1.length) = 4 * i - 4 * l.toNat by rw [i2] at hfl; omega]
            simp only [zer, List.replicate_zero, List.append_nil, List.append_assoc, List.length_drop, bytesOf_length]
            congr 2
            unfold ent4
            have e1 : (p.size : Int) - ((p.size - t.toNat + ((256 * c0 + c1 + (256 * c2 + c3)).toNat - (256 * c0 + c1).toNat) : Nat) : Int) = 256 * c0 + c1 := by omega
            have e2 : (((256 * c0 + c1 + (256 * c2 + c3)).toNat - (256 * c0 + c1).toNat : Nat) : Int) = 256 * c2 + c3 := by omega
            rw [e1, e2]
            simp only [List.cons.injEq, and_true]
            omega
          · rw [foldB_snoc]
            simp only [stepB, i6]
            rw [bytesOf_extract _ _ _ (by omega)]
            have : (bytesOf p).drop t.toNat = ((bytesOf p).drop (256 * c0 + c1).toNat).drop ((256 * c0 + c1 + (256 * c2 + c3)).toNat - (256 * c0 + c1).toNat) := by
              rw [List.drop_drop]; congr 1; omega
            rw [this, List.take_append_drop]
theorem firstNZ_none (p : ByteArray) (top : Int) (i : Nat) (h : firstNZ p top i = none) : ∀ j : Nat, i ≤ j → (j : Int) < top → bt p (j : Int) = 0 := by
  intro j hij hj
  obtain ⟨d, rfl⟩ := Nat.exists_eq_add_of_le hij
  clear hij
  induction d generalizing i with
  | zero =>
    rw [firstNZ, if_pos (by omega)] at h
    split at h
    · cases h
    · rename_i hz; simpa using hz
  | succ d ih =>
    rw [firstNZ, if_pos (by omega)] at h
    split at h
    · cases h
    · have := ih (i + 1) h (by omega)
      rw [show i + (d + 1) = i + 1 + d by omega]
      exact this
theorem valid_reads (p : ByteArray) (hv : validS p) :
    CellsOk (cellsS p (twoS p 0).toNat) ∧ needsL (cellsS p (twoS p 0).toNat) ≤ p.size ∧ lastL (cellsS p (twoS p 0).toNat) = twoS p 0 ∧ builtL p.size (cellsS p (twoS p 0).toNat) = bytesOf p := by
  obtain ⟨q1, q2, q3, q4, q5, top, q6, q7⟩ := validS_spec p hv
  have hr := twoS_range p 0
  obtain ⟨n, hn⟩ : ∃ n : Nat, twoS p 0 = n := ⟨(twoS p 0).toNat, by omega⟩
  rw [hn] at q4 q5 q6 q7 ⊢
  rw [Int.toNat_natCast] at q6 q7 ⊢
  unfold entriesS at q6
  cases hs : scanE p n n with
  | error a => rw [hs] at q6; cases q6
  | ok s =>
    obtain ⟨t, last⟩ := s
    rw [hs] at q6
    simp only at q6
    split at q6
    · cases q6
    · rename_i hl
      cases q6
      obtain ⟨i1, i2, i3, i4, i5, i6⟩ := scan_reads p n (by omega) (by omega) n (Nat.le_refl n) top last hs
      have htop := scanE_top p n n top last hs
      have hlast := scanE_last p n n top last hs
      have hrg := scanE_range p n n top last hs
      have hln : last = n := by omega
      subst hln
      generalize cellsS p n = A at *
      have hfl := foldB_len (N := p.size) i1
      have htb : 2 + 4 * (n : Int) ≤ top := by
        rcases hlast with h | h
        · exact h
        · have hA : A = [] := by
            cases hA : A with
            | nil => rfl
            | cons c r =>
              have hne : A ≠ [] := by rw [hA]; simp
              have h1 := i1.each (A.getLast hne) (List.getLast_mem hne)
              have h2 : lastL A = (A.getLast hne).f0 := by simp [lastL, List.getLast?_eq_some_getLast hne]
              omega
          rw [hA] at i4
          simp [bytesL] at i4
          omega
      refine ⟨i1, by unfold needsL; omega, i2, ?_⟩
      rw [Int.toNat_natCast, show 4 * n - 4 * n = 0 by omega] at i5
      simp only [zer, List.replicate_zero, List.append_nil] at i5
      unfold builtL bld
      rw [i2]
      have hz : zer (p.size - 2 - (foldB p.size A).1.length - (foldB p.size A).2.length) = ((bytesOf p).drop (2 + 4 * n)).take (top.toNat - (2 + 4 * n)) := by
        have hlen : p.size - 2 - (foldB p.size A).1.length - (foldB p.size A).2.length = top.toNat - (2 + 4 * n) := by omega
        rw [hlen]
        apply List.ext_getElem?
        intro j
        by_cases hj : j < top.toNat - (2 + 4 * n)
        · rw [List.getElem?_take_of_lt hj, List.getElem?_drop, bytesOf_get _ _ (by omega), zer, List.getElem?_replicate, if_pos hj]
          have := firstNZ_none p top (2 + 4 * n) q7 (2 + 4 * n + j) (by omega) (by omega)
          rw [this]
        · rw [List.getElem?_eq_none (by simp [zer]; omega), List.getElem?_eq_none (by rw [List.length_take]; omega)]
      rw [hz, i5, i6]
      have h2 : twoL (n : Int) = (bytesOf p).take 2 := by
        have b0 := bt_range p 0
        have b1 := bt_range p 1
        have e : (bytesOf p).take 2 = [bt p 0, bt p 1] := by
          apply List.ext_getElem?
          intro j
          match j with
          | 0 => rw [List.getElem?_take_of_lt (by omega), bytesOf_get _ _ (by omega)]; rfl
          | 1 => rw [List.getElem?_take_of_lt (by omega), bytesOf_get _ _ (by omega)]; rfl
          | j + 2 => rw [List.getElem?_eq_none (by rw [List.length_take]; omega)]; rfl
        rw [e]
        have : twoS p 0 = 256 * bt p 0 + bt p 1 := rfl
        unfold twoL
        simp only [List.cons.injEq, and_true]
        omega
      rw [h2]
      have e3 : (bytesOf p).drop top.toNat = ((bytesOf p).drop (2 + 4 * n)).drop (top.toNat - (2 + 4 * n)) := by rw [List.drop_drop]; congr 1; omega
      have e4 : (bytesOf p).drop (2 + 4 * n) = ((bytesOf p).drop 2).drop (4 * n) := by rw [List.drop_drop]
      rw [e3, List.take_append_drop, e4, List.take_append_drop, List.take_append_drop]
/-- A page that is valid is the page of its cells. -/
theorem valid_built (p : ByteArray) (hv : validS p) : strOfNums (builtL p.size (cellsS p (twoS p 0).toNat)) = p := by
  rw [(valid_reads p hv).2.2.2]
  exact strOfNums_bytesOf p

end Go.Proofs.Ytemglmcddaeedaa.PA

namespace Go.Proofs.Ytemglmcddaeedaa.PA
open Go.RowKit Go.Proofs.YtemglmcddaeedaaW.PrintWords Go.Proofs.YtemglmcddaeedaaW.PrintLast Go.Proofs.YtemglmcddaeedaaW.PrintMore
attribute [local go_sem] max2_int min2_int max_two min_two max_three min_three max_four min_four   -- for this text's walks alone
set_option linter.unusedVariables false
set_option linter.unusedSimpArgs false

/-! ### page_Free: function 25 -/
set_option maxRecDepth 100000 in
theorem quantities_calls (w : World) : Calls Try.prog 63 #[] w fun e w' => e = .returned (.agg #[.func (.func 107) #[] #[], .func (.func 108) #[] #[]]) ∧ Below w.heap.size w w' := by
  have hd := blk_new w (.cells #[.nilFunc, .nilFunc] 78)
  have hB := below_alloc (Below.refl _ w) (.cells #[.nilFunc, .nilFunc] 78)
  obtain ⟨W, hW⟩ : ∃ W, w.alloc (.cells #[.nilFunc, .nilFunc] 78) = W := ⟨_, rfl⟩
  obtain ⟨g, hg⟩ : ∃ g, w.heap.size = g := ⟨_, rfl⟩
  rw [hW] at hd hB
  rw [hg] at hd hB
  have HB := Aside0.mk (And.intro hd hB)
  have c5 := (blk_cell hd 0).trans rfl
  have c6 := (blk_cell hd 1).trans rfl
  have f5 := blk_frozen hd 0
  have f6 := blk_frozen hd 1
  have s1 : ∀ x p W, (store p (.func x #[] #[])).run Try.prog W = stored Try.prog W p (.func x #[] #[]) .plain := fun x p W => run_store Try.prog W p _ .plain rfl
  clear hd hB
  go_enter Try.func63, Try.ntmps63
  go_wp2_with fail
  have k1 := blk_set (blk_set HB.out.1 0 (.func (.func 107) #[] #[])) 1 (.func (.func 108) #[] #[])
  obtain ⟨W3, hW3⟩ : ∃ W3, ((W.setCell ⟨g, 0, none⟩ (.func (.func 107) #[] #[])).setCell ⟨g, 1, none⟩ (.func (.func 108) #[] #[])) = W3 := ⟨_, rfl⟩
  have d1 : W3.cell? ⟨g, 0, none⟩ = some (.func (.func 107) #[] #[]) := by rw [← hW3]; exact (blk_cell k1 0).trans rfl
  have d2 : W3.cell? ⟨g, 1, none⟩ = some (.func (.func 108) #[] #[]) := by rw [← hW3]; exact (blk_cell k1 1).trans rfl
  have d3 : Below g w W3 := by rw [← hW3]; exact (HB.out.2.setCell (Nat.le_refl g) _).setCell (Nat.le_refl g) _
  rw [hW3]
  refine ⟨rfl, .agg #[.func (.func 107) #[] #[], .func (.func 108) #[] #[]], ?_, rfl, hg ▸ d3⟩
  simp [results, Try.results63, go_sem, d1, d2]
def page_Free.f (a0 : ByteArray) : Option (Int × Int) := if a0.size ≤ 100000 then some (if validS a0 then ((a0.size : Int) - needsL (cellsS a0 (twoS a0 0).toNat), 0) else (0, 1)) else none
set_option maxRecDepth 100000 in
set_option maxHeartbeats 4000000 in
theorem quantities1_calls (n : Int) (A : Option Addr) (c : Nat) (l : List S45) (w : World) (hr : Kd.C k45 w A l.length l) (hc : l.length ≤ c) (hn : 0 ≤ n ∧ n ≤ 100000) (ho : CellsOk l) (hf : needsL l ≤ n) :
    Calls Try.prog 107 #[.int .i64 n, .slice A l.length c] w fun e w' => e = .returned (.int .i64 (n - needsL l)) ∧ Below w.heap.size w w' := by
  have h0 := lastL_nonneg ho
  have HF := Aside0.mk (needs_f ho (by unfold needsL at hf; omega))
  have HR := Aside0.mk hr
  clear hr
  have hnd : 0 ≤ needsL l := by unfold needsL; omega
  obtain ⟨nd, hN⟩ : ∃ nd, needsL l = nd := ⟨_, rfl⟩
  rw [hN] at HF hnd hf ⊢
  clear hN ho h0
  go_enter Try.func107, Try.ntmps107
  go_wp2_with (go_at_call 102; refine (page_needs.calls A c l nd _ HR.out hc HF.out).mono ?_; rintro e w1 ⟨rfl, hb1⟩)
  go_ret
  exact ⟨rfl, hb1⟩
set_option maxRecDepth 100000 in
set_option maxHeartbeats 4000000 in
theorem page_Free.calls (a0 : ByteArray) (r1 r2 : Int) (w : World) (h : page_Free.f a0 = some (r1, r2)) :
    Calls Try.prog 25 #[.string a0] w fun e w' => e = .returned (.tuple #[.int .i64 r1, .int .i64 r2]) ∧ Below w.heap.size w w' := by
  unfold page_Free.f at h
  split at h
  rotate_left
  · cases h
  rename_i hs
  have hv := valid_call a0 hs
  by_cases hval : validS a0
  · rw [if_pos hval] at h
    rw [decide_eq_true hval] at hv
    obtain ⟨rfl, rfl⟩ := Prod.mk.inj (Option.some.inj h)
    clear h
    obtain ⟨q1, q2, q3, q4, q5, _⟩ := validS_spec a0 hval
    obtain ⟨g1, g2, g3, g4⟩ := valid_reads a0 hval
    have hcf : page_cells.f a0 = some (cellsS a0 (twoS a0 0).toNat) := by unfold page_cells.f; rw [if_pos hval]
    generalize cellsS a0 (twoS a0 0).toNat = l at *
    have HC := Aside0.mk hcf
    have HV := Aside0.mk hv
    have HG := Aside0.mk (And.intro g1 g2)
    clear hv hval hcf g1 g2 g3 g4
    have hix : ∀ x y W, (Instr.index 78 (.agg #[x, y]) (.int .i64 0)).run Try.prog W = .ok x W := fun x y W => by kernel_rfl
    go_enter Try.func25, Try.ntmps25
    go_wp2_with (first
      | (go_at_call 21; refine (page_Valid.calls a0 true _ HV.out).mono ?_; rintro e w1 ⟨rfl, hb1⟩)
      | (go_at_call 63; refine (quantities_calls w1).mono ?_; rintro e w2 ⟨rfl, hb2⟩)
      | (go_at_call 49; refine (page_cells.calls a0 l w2 HC.out).mono ?_; rintro e w3 ⟨v, rfl, hr3, hb3⟩; obtain ⟨A, c, rfl, hcl, hC⟩ := Kd.R_reads hr3)
      | (go_at_call 107; refine (quantities1_calls a0.size A c l w3 hC hcl (by omega) HG.out.1 HG.out.2).mono ?_; rintro e w4 ⟨rfl, hb4⟩))
    go_ret2
    exact ⟨rfl, below_step (below_step (below_step hb1 hb2) hb3) hb4⟩
  · rw [if_neg hval] at h
    rw [decide_eq_false hval] at hv
    obtain ⟨rfl, rfl⟩ := Prod.mk.inj (Option.some.inj h)
    clear h
    have HV := Aside0.mk hv
    clear hv hval
    go_enter Try.func25, Try.ntmps25
    go_wp2_with (go_at_call 21; refine (page_Valid.calls a0 false _ HV.out).mono ?_; rintro e w1 ⟨rfl, hb1⟩)
    go_ret2
    exact ⟨rfl, hb1⟩

end Go.Proofs.Ytemglmcddaeedaa.PA

namespace Go.Proofs.Ytemglmcddaeedaa.PA
open Go.RowKit Go.Proofs.YtemglmcddaeedaaW.PrintWords Go.Proofs.YtemglmcddaeedaaW.PrintLast Go.Proofs.YtemglmcddaeedaaW.PrintMore
attribute [local go_sem] max2_int min2_int max_two min_two max_three min_three max_four min_four   -- for this text's walks alone
set_option linter.unusedVariables false
set_option linter.unusedSimpArgs false

/-! ### page_Next: function 27 -/
/-- The least free line of cells in order. -/
def leastL (l : List S45) : Int := l.foldl (fun n c => if c.f0 = n then n + 1 else n) 1
theorem leastL_snoc (l : List S45) (c : S45) : leastL (l ++ [c]) = if c.f0 = leastL l then leastL l + 1 else leastL l := by
  unfold leastL; rw [List.foldl_append]; rfl
theorem leastL_range (l : List S45) (i : Nat) (hi : i ≤ l.length) : 1 ≤ leastL (l.take i) ∧ leastL (l.take i) ≤ i + 1 := by
  induction i with
  | zero => simp [leastL]
  | succ i ih =>
    have := ih (by omega)
    rw [take_snoc l i (by omega), leastL_snoc]
    split <;> omega
def page_Next.f (a0 : ByteArray) : Option (Int × Int) := if a0.size ≤ 100000 then some (if validS a0 then (if leastL (cellsS a0 (twoS a0 0).toNat) > 200 then (0, 13) else (leastL (cellsS a0 (twoS a0 0).toNat), 0)) else (0, 1)) else none
set_option maxRecDepth 100000 in
set_option maxHeartbeats 4000000 in
theorem quantities2_calls (n : Int) (A : Option Addr) (c : Nat) (l : List S45) (w : World) (hr : Kd.C k45 w A l.length l) (hc : l.length ≤ c) (hl : l.length ≤ 100000) :
    Calls Try.prog 108 #[.int .i64 n, .slice A l.length c] w fun e w' => e = .returned (.int .i64 (leastL l)) ∧ Below w.heap.size w w' := by
  have HR := Aside0.mk hr
  clear hr
  have hl' : (l.length : Int) ≤ 100000 := by omega
  go_enter Try.func108, Try.ntmps108
  go_wp2_with fail
  go_loopw [5, 10] (fun v5 v10 wr => ∃ i : Nat, i ≤ l.length ∧ v5 = .int .i64 (leastL (l.take i)) ∧ v10 = .int .i64 (i : Int) ∧ Aside0 (Below w.heap.size w wr)) (fun _ v10 _ => l.length - (intOf v10).toNat)
  case atStart => exact ⟨0, by omega, by simp [leastL], by simp, Aside0.mk (Below.refl _ w)⟩
  case round =>
    obtain ⟨i, hi, rfl, rfl, HB⟩ := hrel
    by_cases hlt : i < l.length
    · obtain ⟨ad, e1, hy0, hy1⟩ := at_T45 HR.out (i : Int) (by omega) (by omega)
      cases e1
      rw [rd_get l i hlt] at hy0 hy1
      replace hy0 := (HB.out.cell (World.block_lt_of_cell? w _ hy0)).trans hy0
      replace hy1 := (HB.out.cell (World.block_lt_of_cell? w _ hy1)).trans hy1
      simp only [Int.toNat_natCast] at hy0 hy1
      have hrg := leastL_range l i (by omega)
      have hsn := leastL_snoc (l.take i) l[i]
      rw [← take_snoc l i hlt] at hsn
      have HS := Aside0.mk hsn
      clear hsn
      obtain ⟨X, hX⟩ : ∃ X, l[i] = X := ⟨_, rfl⟩
      rw [hX] at hy0 hy1 HS
      obtain ⟨M, hM⟩ : ∃ M, leastL (l.take i) = M := ⟨_, rfl⟩
      rw [hM] at HS hrg
      simp only [hM]
      clear hX hM
      have hlt' : (i : Int) < l.length := by omega
      by_cases hq : X.f0 = M
      · go_wp2_with fail
        go_roundw
        case rel => exact ⟨i + 1, by omega, by rw [HS.out, if_pos hq], by go_num, Aside0.mk (below_alloc HB.out _)⟩
        case measure => simp [intOf]; omega
      · go_wp2_with fail
        go_roundw
        case rel => exact ⟨i + 1, by omega, by rw [HS.out, if_neg hq], by go_num, Aside0.mk (below_alloc HB.out _)⟩
        case measure => simp [intOf]; omega
    · have hil : i = l.length := by omega
      subst hil
      rw [List.take_length]
      go_wp2_with fail
      go_ret
      exact ⟨rfl, HB.out⟩
set_option maxRecDepth 100000 in
set_option maxHeartbeats 4000000 in
theorem page_Next.calls (a0 : ByteArray) (r1 r2 : Int) (w : World) (h : page_Next.f a0 = some (r1, r2)) :
    Calls Try.prog 27 #[.string a0] w fun e w' => e = .returned (.tuple #[.int .i64 r1, .int .i64 r2]) ∧ Below w.heap.size w w' := by
  unfold page_Next.f at h
  split at h
  rotate_left
  · cases h
  rename_i hs
  have hv := valid_call a0 hs
  by_cases hval : validS a0
  · rw [if_pos hval] at h
    rw [decide_eq_true hval] at hv
    have h := Option.some.inj h
    obtain ⟨q1, q2, q3, q4, q5, _⟩ := validS_spec a0 hval
    have hcf : page_cells.f a0 = some (cellsS a0 (twoS a0 0).toNat) := by unfold page_cells.f; rw [if_pos hval]
    have hcl := cellsS_length a0 (twoS a0 0).toNat
    generalize cellsS a0 (twoS a0 0).toNat = l at *
    have hrg := leastL_range l l.length (Nat.le_refl _)
    rw [List.take_length] at hrg
    have HC := Aside0.mk hcf
    have HV := Aside0.mk hv
    have hl1 : l.length ≤ 100000 := by omega
    have hQ := fun A c w hC hc => quantities2_calls a0.size A c l w hC hc hl1
    obtain ⟨M, hM⟩ : ∃ M, leastL l = M := ⟨_, rfl⟩
    simp only [hM] at hQ h hrg
    have HQ := Aside0.mk hQ
    have HX := Aside0.mk h
    have hM1 : M ≤ 100000 := by omega
    clear hv hval hcf hQ h hM hcl
    have hix : ∀ x y W, (Instr.index 78 (.agg #[x, y]) (.int .i64 1)).run Try.prog W = .ok y W := fun x y W => by kernel_rfl
    by_cases hM2 : M > 200
    all_goals
      go_enter Try.func27, Try.ntmps27
      go_wp2_with (first
        | (go_at_call 21; refine (page_Valid.calls a0 true _ HV.out).mono ?_; rintro e w1 ⟨rfl, hb1⟩)
        | (go_at_call 63; refine (quantities_calls w1).mono ?_; rintro e w2 ⟨rfl, hb2⟩)
        | (go_at_call 49; refine (page_cells.calls a0 l w2 HC.out).mono ?_; rintro e w3 ⟨v, rfl, hr3, hb3⟩; obtain ⟨A, c, rfl, hcl, hC⟩ := Kd.R_reads hr3)
        | (go_at_call 108; refine (HQ.out A c w3 hC hcl).mono ?_; rintro e w4 ⟨rfl, hb4⟩))
      go_ret2
      have hx := HX.out
      first | rw [if_pos hM2] at hx | rw [if_neg (by omega)] at hx
      cases hx
      exact ⟨rfl, below_step (below_step (below_step hb1 hb2) hb3) hb4⟩
  · rw [if_neg hval] at h
    rw [decide_eq_false hval] at hv
    obtain ⟨rfl, rfl⟩ := Prod.mk.inj (Option.some.inj h)
    clear h
    have HV := Aside0.mk hv
    clear hv hval
    go_enter Try.func27, Try.ntmps27
    go_wp2_with (go_at_call 21; refine (page_Valid.calls a0 false _ HV.out).mono ?_; rintro e w1 ⟨rfl, hb1⟩)
    go_ret2
    exact ⟨rfl, hb1⟩

end Go.Proofs.Ytemglmcddaeedaa.PA
