/- Part of the proof: The law PageChanges of the page layer holds for every size, cells, line, other size and data: Get, Put, PutAt, Set, Drop and Resize are the reference's, and no other line changes. No condition. -/
import Derived.Test.YtemglmcddaeedaaPageChangesA
import Derived.ArgAppend
import Derived.Below
import Derived.BigQuiet
import Derived.ChangeOld
import Derived.Deep.AppendLies
import Derived.Deep.CutBlock
import Derived.Deep.DeepCutAuto
import Derived.Deep.Draws
import Derived.Deep.LoopGhost
import Derived.Deep.OwnRows
import Derived.Deep.QuietTactic
import Derived.Deep.RegionHeld3
import Derived.Deep.RegionLaw
import Derived.Deep.SlicePairs
import Derived.Defers
import Derived.DefersIn
import Derived.KernelRfl
import Derived.Laws.BitsLemmas
import Derived.Laws.BytesArg
import Derived.Laws.CopyOwn
import Derived.Laws.IdiomCopy
import Derived.Laws.MakeOwn
import Derived.Laws.OwnMore
import Derived.Laws.Rows
import Derived.Laws.Slices
import Derived.Lib.AppendStr
import Derived.Lib.AppendZerosOnto
import Derived.Lib.BufferWrite
import Derived.Lib.ConvBytes
import Derived.Lib.Hide
import Derived.Lib.Overlaps
import Derived.LoopIn
import Derived.LoopNIn
import Derived.Maps.AppendAt
import Derived.OpenShut
import Derived.OrdersHeld
import Derived.OwnWalk
import Derived.OwnWalkIn
import Derived.ProofKit
import Derived.RangeFuncBound
import Derived.RangeFuncCalls
import Derived.RangeFuncLeaves
import Derived.RangeFuncNested
import Derived.RangeFuncRecord
import Derived.Recover
import Derived.RecoverIn
import Derived.RowKit
import Derived.RowKit3
import Derived.Shelf.Abstract
import Derived.Shelf.RegionOpen
import Derived.ShutString
import Derived.SizedLaws
import Derived.StillTailTactics
import Derived.Tactics
import Derived.TacticsInMore
import Derived.Test.YtemglmcddaeedaaProg
import Derived.Test.YtemglmcddaeedaaRows
import Derived.Test.YtemglmcddaeedaaWApart
import Derived.Test.YtemglmcddaeedaaWArr
import Derived.Test.YtemglmcddaeedaaWAt
import Derived.Test.YtemglmcddaeedaaWEqStruct
import Derived.Test.YtemglmcddaeedaaWFoot
import Derived.Test.YtemglmcddaeedaaWFootNe
import Derived.Test.YtemglmcddaeedaaWFour
import Derived.Test.YtemglmcddaeedaaWGuard
import Derived.Test.YtemglmcddaeedaaWInv
import Derived.Test.YtemglmcddaeedaaWInvWords
import Derived.Test.YtemglmcddaeedaaWKept
import Derived.Test.YtemglmcddaeedaaWLast
import Derived.Test.YtemglmcddaeedaaWMore
import Derived.Test.YtemglmcddaeedaaWN
import Derived.Test.YtemglmcddaeedaaWNEv
import Derived.Test.YtemglmcddaeedaaWQPut
import Derived.Test.YtemglmcddaeedaaWRepsOne
import Derived.Test.YtemglmcddaeedaaWShare
import Derived.Test.YtemglmcddaeedaaWTab
import Derived.Test.YtemglmcddaeedaaWWords
import Derived.Test.YtemglmcddaeedaaWZeros
import Derived.WalkKit
import Derived.WalkLawsBesides
import Derived.WalkSpells
import Derived.WideLaws
namespace Go.Proofs.Ytemglmcddaeedaa.PA
open Go.RowKit Go.Proofs.YtemglmcddaeedaaW.PrintWords Go.Proofs.YtemglmcddaeedaaW.PrintLast Go.Proofs.YtemglmcddaeedaaW.PrintMore
attribute [local go_sem] max2_int min2_int max_two min_two max_three min_three max_four min_four   -- for this text's walks alone
set_option linter.unusedVariables false
set_option linter.unusedSimpArgs false

/-! ### b_two: function 0 -/
/-! #### a page that is valid is the page of its cells -/
theorem getD_drop (l : List Int) (i j : Nat) : (l.drop i).getD j 0 = l.getD (i + j) 0 := by
  simp [List.getD_eq_getElem?_getD, List.getElem?_drop]
theorem take_four (l : List Int) (i : Nat) (h : i + 4 ≤ l.length) : l.take (i + 4) = l.take i ++ [l.getD i 0, l.getD (i + 1) 0, l.getD (i + 2) 0, l.getD (i + 3) 0] := by
  have e : ∀ j, j < l.length → l.take (j + 1) = l.take j ++ [l.getD j 0] := by
    intro j hj
    rw [List.take_succ_eq_append_getElem hj, List.getD_eq_getElem?_getD, List.getElem?_eq_getElem hj]
    rfl
  rw [show i + 4 = i + 1 + 1 + 1 + 1 by omega, e _ (by omega), e _ (by omega), e _ (by omega), e _ (by omega)]
  simp
theorem CellsOk.snoc {l : List S45} {c : S45} (h : CellsOk l) (hc : 1 ≤ c.f0 ∧ c.f0 ≤ 200 ∧ 0 < c.f1.size) (hl : lastL l < c.f0) : CellsOk (l ++ [c]) := by
  induction l with
  | nil => exact hc
  | cons d r ih =>
    cases r with
    | nil =>
      have : lastL [d] = d.f0 := by simp [lastL]
      exact ⟨h, by omega, hc⟩
    | cons e r =>
      have h1 : lastL (d :: e :: r) = lastL (e :: r) := by simp [lastL, List.getLast?_cons_cons]
      have := ih h.2.2 (by rw [← h1]; exact hl)
      exact ⟨h.1, h.2.1, this⟩
/-- What has been read behind i entries. -/
theorem scan_reads (p : ByteArray) (n : Nat) (hn : n ≤ 200) (hsz : 2 + 4 * n ≤ p.size) (i : Nat) (hi : i ≤ n) (top last : Int) (h : scanE p n i = .ok (top, last)) :
    CellsOk (cellsS p i) ∧ lastL (cellsS p i) = last ∧ last ≤ i ∧ top = p.size - bytesL (cellsS p i) ∧
      (foldB p.size (cellsS p i)).1 ++ zer (4 * i - 4 * last.toNat) = ((bytesOf p).drop 2).take (4 * i) ∧ (foldB p.size (cellsS p i)).2 = (bytesOf p).drop top.toNat := by
  induction i generalizing top last with
  | zero =>
    simp only [scanE] at h
    cases h
    refine ⟨trivial, rfl, by omega, by simp [cellsS, bytesL], by simp [cellsS, foldB, zer], ?_⟩
    simp only [cellsS, foldB, List.foldl_nil, Int.toNat_natCast]
    rw [List.drop_of_length_le (by rw [bytesOf_length]; omega)]
  | succ i ih =>
    simp only [scanE] at h
    cases hs : scanE p n i with
    | error a => rw [hs] at h; cases h
    | ok s =>
      obtain ⟨t, l⟩ := s
      have htop := scanE_top p n i t l hs
      have hrg := scanE_range p n i t l hs
      obtain ⟨i1, i2, i3, i4, i5, i6⟩ := ih (by omega) t l hs
      rw [hs] at h
      simp only at h
      have hx := twoS_range p (2 + 4 * (i : Int))
      have hy := twoS_range p (4 + 4 * (i : Int))
      have b0 := bt_range p (2 + 4 * (i : Int))
      have b1 := bt_range p (2 + 4 * (i : Int) + 1)
      have b2 := bt_range p (4 + 4 * (i : Int))
      have b3 := bt_range p (4 + 4 * (i : Int) + 1)
      have hlen : ((bytesOf p).drop 2).length = p.size - 2 := by rw [List.length_drop, bytesOf_length]
      have h4 := take_four ((bytesOf p).drop 2) (4 * i) (by omega)
      simp only [getD_drop, bytesOf_getD] at h4
      rw [show ((2 + 4 * i : Nat) : Int) = 2 + 4 * (i : Int) by omega, show ((2 + (4 * i + 1) : Nat) : Int) = 2 + 4 * (i : Int) + 1 by omega, show ((2 + (4 * i + 2) : Nat) : Int) = 4 + 4 * (i : Int) by omega, show ((2 + (4 * i + 3) : Nat) : Int) = 4 + 4 * (i : Int) + 1 by omega] at h4
      rw [show 4 * (i + 1) = 4 * i + 4 by omega, h4, ← i5]
      unfold twoS at h hx hy
      simp only [cellsS]
      unfold twoS
      generalize bt p (2 + 4 * (i : Int)) = c0 at *
      generalize bt p (2 + 4 * (i : Int) + 1) = c1 at *
      generalize bt p (4 + 4 * (i : Int)) = c2 at *
      generalize bt p (4 + 4 * (i : Int) + 1) = c3 at *
      split at h
      · rename_i hz
        cases h
        rw [if_neg (by omega)]
        refine ⟨i1, i2, by omega, i4, ?_, i6⟩
        rw [show c0 = 0 by omega, show c1 = 0 by omega, show c2 = 0 by omega, show c3 = 0 by omega]
        rw [List.append_assoc]
        congr 1
        rw [show (4 * i + 4 - 4 * last.toNat) = (4 * i - 4 * last.toNat) + 4 by omega, zer_add]
        rfl
      · split at h
        · cases h
        · rename_i hz hq
          cases h
          rw [if_pos (by omega)]
          have hex := extract_size p (256 * c0 + c1).toNat (256 * c0 + c1 + (256 * c2 + c3)).toNat (by omega)
          have hll : lastL (cellsS p i ++ [⟨(i : Int) + 1, p.extract (256 * c0 + c1).toNat (256 * c0 + c1 + (256 * c2 + c3)).toNat⟩]) = (i : Int) + 1 := lastL_snoc _ _
          refine ⟨i1.snoc ⟨by show 1 ≤ (i : Int) + 1; omega, by show (i : Int) + 1 ≤ 200; omega, by rw [hex]; omega⟩ (by rw [i2]; show l < (i : Int) + 1; omega), hll, by omega, ?_, ?_, ?_⟩
          · rw [bytesL_append]
            simp only [bytesL, List.map_cons, List.map_nil, List.sum_cons, List.sum_nil, hex] at i4 ⊢
            omega
          · rw [foldB_snoc]
            have hfl := foldB_len (N := p.size) i1
            simp only [stepB, i6, hex]
            rw [show (4 * i + 4 - 4 * ((i : Int) + 1).toNat) = 0 by omega]
            rw [show (4 * (((i : Int) + 1).toNat - 1) - (foldB p.size (cellsS p i)).1.length) = 4 * i - 4 * l.toNat by rw [i2] at hfl; omega]
            simp only [zer, List.replicate_zero, List.append_nil, List.append_assoc, List.length_drop, bytesOf_length]
            congr 2
            unfold ent4
            have e1 : (p.size : Int) - ((p.size - t.toNat + ((256 * c0 + c1 + (256 * c2 + c3)).toNat - (256 * c0 + c1).toNat) : Nat) : Int) = 256 * c0 + c1 := by omega
            have e2 : (((256 * c0 + c1 + (256 * c2 + c3)).toNat - (256 * c0 + c1).toNat : Nat) : Int) = 256 * c2 + c3 := by omega
            rw [e1, e2]
            simp only [List.cons.injEq, and_true]
            omega
          · rw [foldB_snoc]
            simp only [stepB, i6]
            rw [bytesOf_extract _ _ _ (by omega)]
            have : (bytesOf p).drop t.toNat = ((bytesOf p).drop (256 * c0 + c1).toNat).drop ((256 * c0 + c1 + (256 * c2 + c3)).toNat - (256 * c0 + c1).toNat) := by
              rw [List.drop_drop]; congr 1; omega
            rw [this, List.take_append_drop]
theorem firstNZ_none (p : ByteArray) (top : Int) (i : Nat) (h : firstNZ p top i = none) : ∀ j : Nat, i ≤ j → (j : Int) < top → bt p (j : Int) = 0 := by
  intro j hij hj
  obtain ⟨d, rfl⟩ := Nat.exists_eq_add_of_le hij
  clear hij
  induction d generalizing i with
  | zero =>
    rw [firstNZ, if_pos (by omega)] at h
    split at h
    · cases h
    · rename_i hz; simpa using hz
  | succ d ih =>
    rw [firstNZ, if_pos (by omega)] at h
    split at h
    · cases h
    · have := ih (i + 1) h (by omega)
      rw [show i + (d + 1) = i + 1 + d by omega]
      exact this
theorem valid_reads (p : ByteArray) (hv : validS p) :
    CellsOk (cellsS p (twoS p 0).toNat) ∧ needsL (cellsS p (twoS p 0).toNat) ≤ p.size ∧ lastL (cellsS p (twoS p 0).toNat) = twoS p 0 ∧ builtL p.size (cellsS p (twoS p 0).toNat) = bytesOf p := by
  obtain ⟨q1, q2, q3, q4, q5, top, q6, q7⟩ := validS_spec p hv
  have hr := twoS_range p 0
  obtain ⟨n, hn⟩ : ∃ n : Nat, twoS p 0 = n := ⟨(twoS p 0).toNat, by omega⟩
  rw [hn] at q4 q5 q6 q7 ⊢
  rw [Int.toNat_natCast] at q6 q7 ⊢
  unfold entriesS at q6
  cases hs : scanE p n n with
  | error a => rw [hs] at q6; cases q6
  | ok s =>
    obtain ⟨t, last⟩ := s
    rw [hs] at q6
    simp only at q6
    split at q6
    · cases q6
    · rename_i hl
      cases q6
      obtain ⟨i1, i2, i3, i4, i5, i6⟩ := scan_reads p n (by omega) (by omega) n (Nat.le_refl n) top last hs
      have htop := scanE_top p n n top last hs
      have hlast := scanE_last p n n top last hs
      have hrg := scanE_range p n n top last hs
      have hln : last = n := by omega
      subst hln
      generalize cellsS p n = A at *
      have hfl := foldB_len (N := p.size) i1
      have htb : 2 + 4 * (n : Int) ≤ top := by
        rcases hlast with h | h
        · exact h
        · have hA : A = [] := by
            cases hA : A with
            | nil => rfl
            | cons c r =>
              have hne : A ≠ [] := by rw [hA]; simp
              have h1 := i1.each (A.getLast hne) (List.getLast_mem hne)
              have h2 : lastL A = (A.getLast hne).f0 := by simp [lastL, List.getLast?_eq_some_getLast hne]
              omega
          rw [hA] at i4
          simp [bytesL] at i4
          omega
      refine ⟨i1, by unfold needsL; omega, i2, ?_⟩
      rw [Int.toNat_natCast, show 4 * n - 4 * n = 0 by omega] at i5
      simp only [zer, List.replicate_zero, List.append_nil] at i5
      unfold builtL bld
      rw [i2]
      have hz : zer (p.size - 2 - (foldB p.size A).1.length - (foldB p.size A).2.length) = ((bytesOf p).drop (2 + 4 * n)).take (top.toNat - (2 + 4 * n)) := by
        have hlen : p.size - 2 - (foldB p.size A).1.length - (foldB p.size A).2.length = top.toNat - (2 + 4 * n) := by omega
        rw [hlen]
        apply List.ext_getElem?
        intro j
        by_cases hj : j < top.toNat - (2 + 4 * n)
        · rw [List.getElem?_take_of_lt hj, List.getElem?_drop, bytesOf_get _ _ (by omega), zer, List.getElem?_replicate, if_pos hj]
          have := firstNZ_none p top (2 + 4 * n) q7 (2 + 4 * n + j) (by omega) (by omega)
          rw [this]
        · rw [List.getElem?_eq_none (by simp [zer]; omega), List.getElem?_eq_none (by rw [List.length_take]; omega)]
      rw [hz, i5, i6]
      have h2 : twoL (n : Int) = (bytesOf p).take 2 := by
        have b0 := bt_range p 0
        have b1 := bt_range p 1
        have e : (bytesOf p).take 2 = [bt p 0, bt p 1] := by
          apply List.ext_getElem?
          intro j
          match j with
          | 0 => rw [List.getElem?_take_of_lt (by omega), bytesOf_get _ _ (by omega)]; rfl
          | 1 => rw [List.getElem?_take_of_lt (by omega), bytesOf_get _ _ (by omega)]; rfl
          | j + 2 => rw [List.getElem?_eq_none (by rw [List.length_take]; omega)]; rfl
        rw [e]
        have : twoS p 0 = 256 * bt p 0 + bt p 1 := rfl
        unfold twoL
        simp only [List.cons.injEq, and_true]
        omega
      rw [h2]
      have e3 : (bytesOf p).drop top.toNat = ((bytesOf p).drop (2 + 4 * n)).drop (top.toNat - (2 + 4 * n)) := by rw [List.drop_drop]; congr 1; omega
      have e4 : (bytesOf p).drop (2 + 4 * n) = ((bytesOf p).drop 2).drop (4 * n) := by rw [List.drop_drop]
      rw [e3, List.take_append_drop, e4, List.take_append_drop, List.take_append_drop]
/-- A page that is valid is the page of its cells. -/
theorem valid_built (p : ByteArray) (hv : validS p) : strOfNums (builtL p.size (cellsS p (twoS p 0).toNat)) = p := by
  rw [(valid_reads p hv).2.2.2]
  exact strOfNums_bytesOf p

end Go.Proofs.Ytemglmcddaeedaa.PA

namespace Go.Proofs.Ytemglmcddaeedaa.PA
open Go.RowKit Go.Proofs.YtemglmcddaeedaaW.PrintWords Go.Proofs.YtemglmcddaeedaaW.PrintLast Go.Proofs.YtemglmcddaeedaaW.PrintMore
attribute [local go_sem] max2_int min2_int max_two min_two max_three min_three max_four min_four   -- for this text's walks alone
set_option linter.unusedVariables false
set_option linter.unusedSimpArgs false

/-! ### rf: function 0 -/
/-! #### a range over a function, at the wide fence, panics let in -/
section
variable {P : Program}
/-- What a round of the loop whose record is rec does with the i-th values: it goes on, it says 'no more', or it panics. -/
def RoundOf (P : Program) (l : Nat) (rec : Loop) (v : Array Value) (W : World) (R : Ending → World → Prop) : Prop :=
  RoundIn Fence.wide 0 P l rec.fn ((rec.params.zip v).foldl (fun tmps (t, a) => tmps.setIfInBounds t a) rec.tmps) rec.assign rec.body W R
def unitV : Value := .tuple #[]
/-- An iterator: it hands over xs in their order; it only draws between two rounds. Kp: what it reads. -/
def IterC (P : Program) (gf : Nat) (lb : Array Value) (np : Nat) (xs : List (Array Value)) (Kp : World → Prop) : Prop :=
  ∀ (l : Nat) (rec : Loop) (J : Nat → World → Prop) (R : Ending → World → Prop) (W : World), rec.params.size = np →
    (∀ i W m, J i W → J i (W.drewN m)) → (∀ i W, J i W → Kp W) → (∀ i W, J i W → W.heap[l]? = some (.loop rec)) →
    (∀ e W m, R e W → R e (W.drewN m)) →
    (∀ i v W, xs[i]? = some v → J i W → RoundOf P l rec v W fun e W' =>
      (∃ go : Bool, e = .returned (.bool go) ∧ (go = true → J (i + 1) W') ∧ (go = false → R (.returned unitV) W')) ∨ (∃ ch, e = .panicked ch ∧ R (.panicked ch) W')) →
    (∀ W, J xs.length W → R (.returned unitV) W) → J 0 W →
    CallsIn Fence.wide 0 P gf (#[.func (.yield l) #[] #[]] ++ lb) W R
theorem callsIn_wide_any {n m : Nat} {f : FuncId} {args : Array Value} {w : World} {R : Ending → World → Prop} (h : CallsIn Fence.wide n P f args w R) : CallsIn Fence.wide m P f args w R :=
  callsIn_wide.2 (callsIn_wide.1 h)
theorem roundIn_wide_any {n m : Nat} {l : Nat} {f : FuncId} {tmps : Array Value} {assign body : Code} {w : World} {R : Ending → World → Prop} (h : RoundIn Fence.wide n P l f tmps assign body w R) : RoundIn Fence.wide m P l f tmps assign body w R :=
  ⟨h.1, fun c cs _ => h.2 c cs (room_wide _)⟩
/-! A body's walk in frames of functions that there are: a panic out of a round is let through by these alone. -/
def wpX (P : Program) (c : Code) (Q : Exit → Act → World → Prop) (a : Act) (w : World) : Prop :=
  ∀ (b : Frame) (k : List Item) (cs : List Frame), b.roundOf = none → (∃ fn, P.funcs[b.fn]? = some fn) →
    ∃ e a' w', Q e a' w' ∧ ArrivesIn (Machine.fenced P Fence.wide) P (lone (b.atR a (.code c :: k)) cs w) b k cs e a' w'
variable {Q : Exit → Act → World → Prop} {a : Act} {w : World}
theorem wpX_of_wp {c : Code} (h : c.wp P Q a w) : wpX P c Q a w := fun b k cs hro _ => (wpIn_wide (n := 0)).2 h b k cs hro trivial (room_wide _)
theorem wpX_seq {x y : Code} (h : wpX P x (Exit.then (wpX P y Q) Q) a w) : wpX P (.seq x y) Q a w := by
  intro b k cs hro hb
  have h0 : (lone (b.atR a (.code (.seq x y) :: k)) cs w).fenced P Fence.wide := fenced_wide _ _
  obtain ⟨e, a₁, w₁, hq, harr⟩ := h b (.code y :: k) cs hro hb
  cases e with
  | normal =>
    obtain ⟨e₂, a₂, w₂, hq₂, harr₂⟩ := hq b k cs hro hb
    exact ⟨e₂, a₂, w₂, hq₂, .of_steps (.head h0 stepR_seq harr) harr₂⟩
  | exit id => exact ⟨_, a₁, w₁, hq, .of_steps (.one h0 stepR_seq) (.pass (x := .code y) rfl (fun _ _ => .inl (by simp)) harr)⟩
  | goto l => exact ⟨_, a₁, w₁, hq, .of_steps (.one h0 stepR_seq) (.pass (x := .code y) rfl (fun _ _ => .inl (by simp)) harr)⟩
  | ret => exact ⟨_, a₁, w₁, hq, .of_steps (.one h0 stepR_seq) (.pass (x := .code y) rfl (fun _ _ => .inl (by simp)) harr)⟩
  | panic ch => exact ⟨_, a₁, w₁, hq, .of_steps (.one h0 stepR_seq) (.pass (x := .code y) rfl (fun _ _ => .inl (by simp)) harr)⟩
  | outgrown => exact ⟨_, a₁, w₁, hq, .of_steps (.one h0 stepR_seq) (.pass (x := .code y) rfl (fun _ _ => .inl (by simp)) harr)⟩
/-- The first half walked plainly. -/
theorem wpX_seq_k {x y : Code} (h : ∀ K : Act → World → Prop, (∀ a w, wpX P y Q a w → K a w) → x.wp P (Exit.then K Q) a w) : wpX P (.seq x y) Q a w :=
  wpX_seq (wpX_of_wp (h _ fun _ _ h => h))
theorem wpX_seq_x {x y : Code} (h : ∀ K : Act → World → Prop, (∀ a w, wpX P y Q a w → K a w) → wpX P x (Exit.then K Q) a w) : wpX P (.seq x y) Q a w :=
  wpX_seq (h _ fun _ _ h => h)
theorem wpX_block {id : Nat} {c : Code} (h : wpX P c (Exit.inBlock id Q) a w) : wpX P (.block id c) Q a w := by
  intro b k cs hro hb
  have h0 : (lone (b.atR a (.code (.block id c) :: k)) cs w).fenced P Fence.wide := fenced_wide _ _
  have hn : b.roundOf.isSome = true → False := fun h => by rw [hro] at h; cases h
  obtain ⟨e, a₁, w₁, hq, harr⟩ := h b (.inBlock id :: k) cs hro hb
  cases e with
  | normal => exact ⟨.normal, a₁, w₁, hq, .head h0 stepR_block (StepsIn.trans harr (.one (fenced_wide _ _) stepR_inBlock))⟩
  | exit id' =>
    by_cases hid : id' = id
    · simp only [Exit.inBlock, hid, if_true] at hq
      exact ⟨.normal, a₁, w₁, hq, .head h0 stepR_block (harr.1 k (by simp [exitTo, hid]))⟩
    · simp only [Exit.inBlock, hid, if_false] at hq
      have this : (id == id') = false := by simp; exact fun h => hid h.symm
      have hx : exitTo id' (.inBlock id :: k) = exitTo id' k := by simp [exitTo, this]
      exact ⟨.exit id', a₁, w₁, hq, fun k' hk => .head h0 stepR_block (harr.1 k' (by rw [hx]; exact hk)), fun hr' => (hn hr').elim⟩
  | goto l =>
    have hx : gotoIn l (.inBlock id :: k) = gotoIn l k := by simp [gotoIn]
    exact ⟨.goto l, a₁, w₁, hq, fun k' hk => .head h0 stepR_block (harr.1 k' (by rw [hx]; exact hk)), fun hr' => (hn hr').elim⟩
  | ret => exact ⟨.ret, a₁, w₁, hq, fun h => let ⟨t, s⟩ := harr.1 h; ⟨t, .head h0 stepR_block s⟩, fun hr' => (hn hr').elim⟩
  | panic ch => obtain ⟨t, s⟩ := harr; exact ⟨.panic ch, a₁, w₁, hq, t, .head h0 stepR_block s⟩
  | outgrown => exact ⟨.outgrown, a₁, w₁, hq, harr.imp (fun h => h) (Outgrown.of_steps (.one stepR_block))⟩
/-- How the body of a round is left. -/
def roundEnd (l D : Nat) (Ig : World → Prop) (Ix : Code → World → Prop) (Ip : List PanicEntry → World → Prop) (W : World) (e : Exit) (a' : Act) (W' : World) : Prop :=
  W'.heap[l]? = W.heap[l]? ∧ W'.heap[D]? = W.heap[D]? ∧ match e with
    | .normal => Ig W'
    | .ret => Ix .ret W'
    | .exit id => Ix (.exit id) W'
    | .goto t => Ix (.goto t) W'
    | .panic ch => a'.defers = [] ∧ Ip ch W'
    | .outgrown => False
/-- One round, panics let through. -/
theorem roundIn_of_wpInP {l : Nat} {f : FuncId} {fn : Func} {tmps : Array Value} {assign body : Code} {w : World} {R : Ending → World → Prop} (hf : P.funcs[f]? = some fn)
    (h : assign.wpIn (Fence.wide.inRound l) 0 P (Exit.then (fun a₁ w₁ => ∃ w₂, (Instr.beginRound l).run P w₁ = .ok () w₂ ∧
      body.wpIn (Fence.wide.inRound l) 0 P (fun e a' w' => match e with | .panic ch => a'.defers = [] ∧ R (.panicked ch) w' | e => roundPost P l R e a' w') a₁ w₂) (fun _ _ _ => False)) { tmps := tmps, defers := [] } w) :
    RoundIn Fence.wide 0 P l f tmps assign body w R := by
  refine ⟨trivial, fun c cs hr => ?_⟩
  let b : Frame := { (default : Frame) with fn := f, kind := .normal, roundOf := some l }
  have hb0 : Frame.round l f tmps assign body .normal = b.atR { tmps := tmps, defers := [] } [.code assign, .beginRound, .code body] := by
    simp [Frame.round, Frame.atR, b]
  have hr' : (Fence.wide.inRound l).room ((c :: cs).length + 1 + 0) := hr
  have hF' : (Fence.wide.inRound l).fn b.fn := trivial
  obtain ⟨e, a₁, w₁, hq, harr⟩ := h b [.beginRound, .code body] (c :: cs) rfl hF' hr'
  rw [← hb0] at harr
  cases e with
  | normal =>
    obtain ⟨w₂, hbr, hbody⟩ := hq
    have s1 : StepsIn (Machine.fenced P (Fence.wide.inRound l)) P (lone (b.atR a₁ [.beginRound, .code body]) (c :: cs) w₁) (lone (b.atR a₁ [.code body]) (c :: cs) w₂) :=
      .one (fenced_calm (fr := b.atR a₁ [.beginRound, .code body]) hF' hr' rfl) (stepR_beginRound rfl hbr)
    obtain ⟨e₂, a₂, w₃, hq₂, harr₂⟩ := hbody b [] (c :: cs) rfl hF' hr'
    cases e₂ with
    | normal =>
      obtain ⟨v, w₄, hend, hR⟩ := hq₂
      exact ⟨.returned v, w₄, hR, (StepsIn.trans harr s1).trans (StepsIn.trans harr₂ (.one (fenced_calm (fr := b.atR a₂ []) hF' hr' rfl) (stepR_round_end rfl rfl hend)))⟩
    | ret =>
      obtain ⟨v, w₄, hend, hR⟩ := hq₂
      obtain ⟨k₁, hs⟩ := harr₂.2 rfl
      exact ⟨.returned v, w₄, hR, (StepsIn.trans harr s1).trans (StepsIn.trans hs (.one (fenced_calm (fr := b.atR a₂ (.code .ret :: k₁)) hF' hr' rfl) (stepR_round_ret rfl rfl hend)))⟩
    | exit id =>
      obtain ⟨v, w₄, hend, hR⟩ := hq₂
      obtain ⟨k₁, hk, hs⟩ := harr₂.2 rfl rfl
      exact ⟨.returned v, w₄, hR, (StepsIn.trans harr s1).trans (StepsIn.trans hs (.one (fenced_calm (fr := b.atR a₂ (.code (.exit id) :: k₁)) hF' hr' rfl) (stepR_round_exit rfl rfl hk hend)))⟩
    | goto t =>
      obtain ⟨v, w₄, hend, hR⟩ := hq₂
      obtain ⟨k₁, hk, hs⟩ := harr₂.2 rfl rfl
      exact ⟨.returned v, w₄, hR, (StepsIn.trans harr s1).trans (StepsIn.trans hs (.one (fenced_calm (fr := b.atR a₂ (.code (.goto t) :: k₁)) hF' hr' rfl) (stepR_round_goto rfl rfl hk hend)))⟩
    | panic chain =>
      obtain ⟨hd, hR⟩ := hq₂
      obtain ⟨todo, hs⟩ := harr₂
      have hl : ({ b.atR a₂ todo with mode := .panicking chain } : Frame).leaving P w₃ (.panicked chain) := ⟨rfl, hd, fn, hf⟩
      exact ⟨.panicked chain, w₃, hR, (StepsIn.trans harr s1).trans (StepsIn.trans hs (.one (fenced_leaving (n := 0) hF' hr' hl) (step_leave_panicked hl)))⟩
    | outgrown => exact hq₂.elim
  | exit id => exact hq.elim
  | goto t => exact hq.elim
  | ret => exact hq.elim
  | panic chain => exact hq.elim
  | outgrown => exact hq.elim
/-- The statement 'for .. := range g { .. }', at an outermost loop, for a frame of a function that there is. -/
theorem wpX_range {g : Operand} {ps : Array Tmp} {assign body : Code} {gf : Nat} {lb : Array Value} {xs : List (Array Value)} {Kp : World → Prop}
    (hg : a.eval g = .func (.func gf) #[] lb) (eg : ∀ args w, (callFunc gf args).run P w = .ok (.enter gf args) w) (hit : IterC P gf lb ps.size xs Kp) (hsz : ∀ v ∈ xs, v.size = ps.size)
    (I : Nat → World → Prop) (A : Nat → Act → World → Prop) (Ix : Code → World → Prop) (Ip : List PanicEntry → World → Prop)
    (hI : ∀ i W o o', I i W → W.heap[w.heap.size + 1]? = some (.loop o') → I i (W.putObj (w.heap.size + 1) (.loop o)))
    (hA : ∀ i a₁ W o o', A i a₁ W → W.heap[w.heap.size + 1]? = some (.loop o') → A i a₁ (W.putObj (w.heap.size + 1) (.loop o)))
    (hIx : ∀ c W o o', Ix c W → W.heap[w.heap.size + 1]? = some (.loop o') → Ix c (W.putObj (w.heap.size + 1) (.loop o)))
    (hId : ∀ i W m, I i W → I i (W.drewN m)) (hIxd : ∀ c W m, Ix c W → Ix c (W.drewN m)) (hIpd : ∀ c W m, Ip c W → Ip c (W.drewN m))
    (hK : ∀ i W, I i W → Kp W)
    (h0 : ∀ rec, I 0 ((w.alloc (.deferred (some []))).alloc (.loop rec)))
    (hassign : ∀ i v W, xs[i]? = some v → I i W → w.heap.size + 1 < W.heap.size →
      assign.wpIn (Fence.wide.inRound (w.heap.size + 1)) 0 P (Exit.then (fun a₁ w₁ => A i a₁ w₁ ∧ w₁.heap[w.heap.size + 1]? = W.heap[w.heap.size + 1]? ∧ w₁.heap[w.heap.size]? = W.heap[w.heap.size]?) (fun _ _ _ => False))
        { tmps := (ps.zip v).foldl (fun t (p, v) => t.setIfInBounds p v) a.tmps, defers := [] } W)
    (hbody : ∀ i v a₁ W, xs[i]? = some v → A i a₁ W → w.heap.size + 1 < W.heap.size →
      body.wpIn (Fence.wide.inRound (w.heap.size + 1)) 0 P (roundEnd (w.heap.size + 1) w.heap.size (I (i + 1)) Ix Ip W) a₁ W)
    (hdone : ∀ W, I xs.length W → W.heap[w.heap.size]? = some (.deferred (some [])) → Q .normal { a with defers := { target := .collected w.heap.size, args := #[] } :: a.defers } W)
    (hstop : ∀ c W, Ix c W → W.heap[w.heap.size]? = some (.deferred (some [])) → wpX P c Q { a with defers := { target := .collected w.heap.size, args := #[] } :: a.defers } W)
    (hpanic : ∀ ch W, Ip ch W → W.heap[w.heap.size]? = some (.deferred (some [])) → Q (.panic ch) { a with defers := { target := .collected w.heap.size, args := #[] } :: a.defers } W) :
    wpX P (.rangeFunc g ps assign body) Q a w := by
  intro b k cs hro ⟨fnr, hfn⟩
  obtain ⟨rec, hrec⟩ : ∃ rec : LoopState → Option Code → Loop, rec = fun st pe => { state := st, pending := pe, fn := b.fn, tmps := a.tmps, params := ps, assign, body, defers := w.heap.size } := ⟨_, rfl⟩
  obtain ⟨W1, hW1⟩ : ∃ W1, (w.alloc (.deferred (some []))).alloc (.loop (rec .ready none)) = W1 := ⟨_, rfl⟩
  have hL1 : W1.heap[w.heap.size + 1]? = some (.loop (rec .ready none)) := by
    rw [← hW1]; have := World.alloc_heap_new (w.alloc (.deferred (some []))) (.loop (rec .ready none)); rwa [World.size_alloc] at this
  have hK1 : W1.heap[w.heap.size]? = some (.deferred (some [])) := by
    rw [← hW1]; exact (Below.heap_alloc _ _ _ (by simp)).trans (World.alloc_heap_new w _)
  have he : (Instr.enterLoop b.fn a.tmps ps assign body b.roundOf).run P w = .ok (w.heap.size + 1, [{ target := .collected w.heap.size, args := #[] }]) W1 := by
    rw [hro, ← hW1, hrec]; exact run_enterLoop_outer _ _ _ _ _
  have hres : (resolve a.eval (rangeCall g (w.heap.size + 1)) 0).run P W1 = .ok { target := .fn (.func gf) lb, args := #[.func (.yield (w.heap.size + 1)) #[] #[]] } W1 := by
    simp only [resolve, hg]
    simp [go_sem]
  have hinv : (invoke (Target.fn (.func gf) lb) #[.func (.yield (w.heap.size + 1)) #[] #[]]).run P W1 = .ok (.enter gf (#[.func (.yield (w.heap.size + 1)) #[] #[]] ++ lb)) W1 := by
    simp [invoke, go_sem, eg]
  have henter := stepR_rangeFunc (P := P) (b := b) (a := a) (k := k) (cs := cs) (w := w) he hres hinv
  have fin : ∀ (o : Loop) (W3 : World), W3.heap[w.heap.size + 1]? = some (.loop o) → W3.heap[w.heap.size]? = some (.deferred (some [])) → ∀ o',
      (W3.putObj (w.heap.size + 1) (.loop o')).heap[w.heap.size + 1]? = some (.loop o') ∧ (W3.putObj (w.heap.size + 1) (.loop o')).heap[w.heap.size]? = some (.deferred (some [])) := fun o W3 h1 h2 o' =>
    ⟨World.putObj_heap_same (Array.getElem?_eq_some_iff.1 h1).1, (World.putObj_heap_other (by omega)).trans h2⟩
  have hcall := hit (w.heap.size + 1) (rec .ready none)
    (fun i W => I i W ∧ W.heap[w.heap.size + 1]? = some (.loop (rec .ready none)) ∧ W.heap[w.heap.size]? = some (.deferred (some [])))
    (fun e W => W.heap[w.heap.size]? = some (.deferred (some [])) ∧ match e with
      | .returned v => (I xs.length W ∧ W.heap[w.heap.size + 1]? = some (.loop (rec .ready none))) ∨ (∃ c, Ix c W ∧ W.heap[w.heap.size + 1]? = some (.loop (rec .done (some c))))
      | .panicked ch => Ip ch W
      | .outgrown => False) W1 (by rw [hrec])
    (fun i W m h => ⟨hId i W m h.1, h.2.1, h.2.2⟩) (fun i W h => hK i W h.1) (fun i W h => h.2.1)
    (fun e W m h => ⟨h.1, by
      cases e with
      | returned v => rcases h.2 with ⟨h1, h2⟩ | ⟨c, h1, h2⟩
                      · exact .inl ⟨hId _ _ m h1, h2⟩
                      · exact .inr ⟨c, hIxd _ _ m h1, h2⟩
      | panicked ch => exact hIpd _ _ m h.2
      | outgrown => exact h.2⟩)
    (fun i v W hv ⟨hi, hl, hk⟩ => by
      have hlt : w.heap.size + 1 < W.heap.size := (Array.getElem?_eq_some_iff.1 hl).1
      have hfn' : P.funcs[(rec .ready none).fn]? = some fnr := by rw [hrec]; exact hfn
      refine roundIn_of_wpInP hfn' ?_
      have hrt : (rec .ready none).tmps = a.tmps := by rw [hrec]
      have hrp : (rec .ready none).params = ps := by rw [hrec]
      have hra : (rec .ready none).assign = assign := by rw [hrec]
      have hrb : (rec .ready none).body = body := by rw [hrec]
      rw [hrt, hrp, hra, hrb]
      refine wpIn_mono (hassign i v W hv hi hlt) ?_
      rintro e a₁ w₁ hq
      cases e with
      | normal =>
        obtain ⟨ha₁, hl₁, hk₁⟩ := hq
        have hl1 : w₁.heap[w.heap.size + 1]? = some (.loop (rec .ready none)) := hl₁.trans hl
        have hk1 : w₁.heap[w.heap.size]? = some (.deferred (some [])) := hk₁.trans hk
        refine ⟨_, run_beginRound hl1 (by rw [hrec]), ?_⟩
        obtain ⟨f1, f2⟩ := fin _ _ hl1 hk1 { rec .ready none with state := .busy }
        refine wpIn_mono (hbody i v a₁ _ hv (hA i a₁ w₁ _ _ ha₁ hl1) (by simpa using (Array.getElem?_eq_some_iff.1 hl1).1)) ?_
        rintro e₂ a₂ w₂ ⟨hl2, hk2, hq₂⟩
        have hl3 := hl2.trans f1
        have hk3 := hk2.trans f2
        have hend : ∀ jump, (Instr.endRound (w.heap.size + 1) jump).run P w₂ = .ok (.bool jump.isNone) (w₂.putObj (w.heap.size + 1) (.loop (rec (if jump.isNone then .ready else .done) jump))) := fun jump => by
          have := run_endRound (P := P) jump hl3
          rw [hrec] at this ⊢
          exact this
        have hf := fun jump => fin _ _ hl3 hk3 (rec (if Option.isNone jump then LoopState.ready else .done) jump)
        cases e₂ with
        | normal => exact ⟨_, _, hend none, .inl ⟨true, rfl, fun _ => ⟨hI _ _ _ _ hq₂ hl3, (hf none).1, (hf none).2⟩, by simp⟩⟩
        | ret => exact ⟨_, _, hend (some .ret), .inl ⟨false, rfl, by simp, fun _ => ⟨(hf (some .ret)).2, .inr ⟨.ret, hIx _ _ _ _ hq₂ hl3, (hf (some .ret)).1⟩⟩⟩⟩
        | exit id => exact ⟨_, _, hend (some (.exit id)), .inl ⟨false, rfl, by simp, fun _ => ⟨(hf (some (.exit id))).2, .inr ⟨.exit id, hIx _ _ _ _ hq₂ hl3, (hf (some (.exit id))).1⟩⟩⟩⟩
        | goto t => exact ⟨_, _, hend (some (.goto t)), .inl ⟨false, rfl, by simp, fun _ => ⟨(hf (some (.goto t))).2, .inr ⟨.goto t, hIx _ _ _ _ hq₂ hl3, (hf (some (.goto t))).1⟩⟩⟩⟩
        | panic ch => exact ⟨hq₂.1, .inr ⟨ch, rfl, hk3, hq₂.2⟩⟩
        | outgrown => exact hq₂.elim
      | exit id => exact hq.elim
      | goto t => exact hq.elim
      | ret => exact hq.elim
      | panic chain => exact hq.elim
      | outgrown => exact hq.elim)
    (fun W ⟨hi, hl, hk⟩ => ⟨hk, .inl ⟨hi, hl⟩⟩) ⟨by rw [← hW1]; exact h0 _, hL1, hK1⟩
  obtain ⟨e, w₃, fr, hR, hsteps, hfnx, hleave⟩ := hcall.2 (b.atR { a with defers := [{ target := .collected w.heap.size, args := #[] }] ++ a.defers } (.inRangeFunc (w.heap.size + 1) :: k) :: cs) (room_wide _)
  obtain ⟨hk3, hR⟩ := hR
  have h0' : (lone (b.atR a (.code (.rangeFunc g ps assign body) :: k)) cs w).fenced P Fence.wide := fenced_wide _ _
  cases e with
  | outgrown => exact hR.elim
  | returned v =>
    have back : ∀ (jump : Option Code) (w₄ : World), (Instr.endLoop (w.heap.size + 1)).run P w₃ = .ok jump w₄ →
        StepsIn (Machine.fenced P Fence.wide) P (lone (b.atR a (.code (.rangeFunc g ps assign body) :: k)) cs w) (lone (b.atR { a with defers := [{ target := .collected w.heap.size, args := #[] }] ++ a.defers } ((jump.map Item.code).toList ++ k)) cs w₄) := fun jump w₄ hend => by
      refine .head h0' henter (StepsIn.trans hsteps (.head (fenced_wide _ _) ?_ (.one (fenced_wide _ _) (stepR_endRangeFunc hend))))
      rw [← finish_atR_inRangeFunc (w.heap.size + 1) v]; exact step_leave_returned hleave
    rcases hR with ⟨hi, hl⟩ | ⟨c, hi, hl⟩
    · have hend := run_endLoop (P := P) hl (by rw [hrec]; simp)
      have hp : (rec .ready none).pending = none := by rw [hrec]
      rw [hp] at hend
      exact ⟨.normal, _, _, hdone _ (hI _ _ _ _ hi hl) ((World.putObj_heap_other (by omega)).trans hk3), back none _ hend⟩
    · have hend := run_endLoop (P := P) hl (by rw [hrec]; simp)
      have hp : (rec .done (some c)).pending = some c := by rw [hrec]
      rw [hp] at hend
      obtain ⟨e', a'', w₅, hq, harr⟩ := hstop c _ (hIx _ _ _ _ hi hl) ((World.putObj_heap_other (by omega)).trans hk3) b k cs hro ⟨fnr, hfn⟩
      exact ⟨e', a'', w₅, hq, .of_steps (back (some c) _ hend) harr⟩
  | panicked chain =>
    refine ⟨.panic chain, _, w₃, hpanic chain _ hR hk3, .inRangeFunc (w.heap.size + 1) :: k, .head h0' henter (StepsIn.trans hsteps (.one (fenced_wide _ _) ?_))⟩
    rw [← Frame.raise_atR]; exact step_leave_panicked hleave
/-- A function's contract from its body, the body holding a range over a function. -/
theorem calls_of_wpX {f : FuncId} {fn : Func} {c : Code} {args : Array Value} {w : World} {R : Ending → World → Prop}
    (hf : P.funcs[f]? = some fn) (hb : fn.body = some c)
    (h : wpX P c (bodyPostM Fence.wide 0 P fn R) { tmps := args ++ Array.replicate (fn.ntmps - args.size) undef, defers := [] } w) : Calls P f args w R := by
  refine (callsIn_wide (n := 0)).1 ⟨trivial, fun cs hr => ?_⟩
  let b : Frame := { (default : Frame) with fn := f, kind := .normal, roundOf := none }
  have henter : Frame.enter P f args .normal =
      b.atR { tmps := args ++ Array.replicate (fn.ntmps - args.size) undef, defers := [] } [.code c] := by
    simp [Frame.enter, Frame.atR, hf, hb, b]
  obtain ⟨e, a', w', hq, harr⟩ := h b [] cs rfl ⟨fn, hf⟩
  rw [← henter] at harr
  cases e with
  | normal =>
    obtain ⟨e', w'', fr', hR, hs, hfn, hl⟩ := leaves_stepsInM a'.defers .returning w' { b.atR a' [] with mode := .returning } cs rfl rfl rfl hf rfl trivial hr hq
    exact ⟨e', w'', fr', hR, ComesIn.of_steps (StepsIn.trans harr (.one (fenced_wide _ _) (stepR_end rfl))) hs, hfn, hl⟩
  | ret =>
    obtain ⟨todo, hs₀⟩ := harr.1 rfl
    obtain ⟨e', w'', fr', hR, hs, hfn, hl⟩ := leaves_stepsInM a'.defers .returning w' { b.atR a' todo with mode := .returning } cs rfl rfl rfl hf rfl trivial hr hq
    exact ⟨e', w'', fr', hR, ComesIn.of_steps hs₀ hs, hfn, hl⟩
  | panic chain =>
    obtain ⟨todo, hs₀⟩ := harr
    obtain ⟨e', w'', fr', hR, hs, hfn, hl⟩ := leaves_stepsInM a'.defers (.panicking chain) w' { b.atR a' todo with mode := .panicking chain } cs rfl rfl rfl hf rfl trivial hr hq
    exact ⟨e', w'', fr', hR, ComesIn.of_steps hs₀ hs, hfn, hl⟩
  | exit id => exact hq.elim
  | goto l => exact hq.elim
  | outgrown => exact ⟨.outgrown, w', b, hq, harr.resolve_left (by simp [b]), rfl, trivial⟩
/-! A region of a round that draws its order and only reads: walked once, in the order of the text. -/
theorem wpIn_of_quiet_round {C : World → Prop} {o : Oper} {a : Act} {l n : Nat} {K : Act → Prop} {K' : Act → World → Prop} {Q' : Exit → Act → World → Prop} {w : World} (hd : ∀ c, o.op ≠ .defer c) (hw : C w)
    (h : ∀ a w', C w' → K a → K' a w') (hh : o.quiet P a C K) : o.wpIn (Fence.wide.inRound l) n P a w K' Q' := by
  obtain ⟨v, h1, h2⟩ := hh
  have h3 := h1 w hw
  refine ⟨fun _ _ => trivial, ?_⟩
  rw [Oper.semAt_eq _ _ _ hd]
  unfold Oper.quietAt at h3
  generalize (execOp a.eval o).run P w = r at *
  cases r with
  | ok m w' =>
    cases m <;> simp only [Oper.quietUpon] at h3 <;> simp only [Oper.uponIn]
    case value u => obtain ⟨e1, e2⟩ := h3; rw [e1, e2]; exact h _ _ hw h2
    case skip => obtain ⟨e1, e2⟩ := h3; rw [e1, ← e2]; exact h _ _ hw h2
    case enter f args =>
      obtain ⟨e1, hc⟩ := h3
      rw [e1]
      refine ⟨fun hx => (by cases hx), ?_⟩
      have := (callsIn_wide (n := n - 1)).2 hc
      exact this.mono fun e w'' ⟨he, hw''⟩ => by subst he; exact h _ _ hw'' h2
  | halt x w' => simp only [Oper.quietUpon] at h3
def noDefer (ops : List Oper) : Bool := ops.all fun o => match o.op with | .defer _ => false | _ => true
theorem noDefer_spec {ops : List Oper} (h : noDefer ops = true) {i : Nat} {o : Oper} (ho : ops[i]? = some o) : ∀ c, o.op ≠ .defer c := by
  intro c hc
  have := List.all_eq_true.1 h o (List.mem_of_getElem? ho)
  rw [hc] at this
  cases this
theorem wpAnyIn_of_quiet_round {C : World → Prop} {md : Region.Mode} {ops : List Oper} {l n : Nat} {Q : Act → Prop} {Q' : Exit → Act → World → Prop} (hd : noDefer ops = true) (hQ : ∀ a w, C w → Q a → Q' .normal a w) :
    ∀ (fuel : Nat) (listed : Array Bool) (a : Act) (w : World), C w → wpAnyQ P md ops.toArray C Q fuel listed a → wpAnyIn (Fence.wide.inRound l) n P md ops.toArray Q' fuel listed a w
  | 0, _, _, _, hw, h => ⟨h.1, hQ _ _ hw h.2⟩
  | fuel + 1, listed, a, w, hw, h => ⟨fun h0 => hQ _ _ hw (h.1 h0), fun i hi => by
      have hq := h.2 i hi
      unfold qOp at hq
      unfold wpOpIn
      split
      · rename_i ho; simp only [ho] at hq; exact wpAnyIn_of_quiet_round hd hQ fuel _ _ _ hw hq
      · rename_i o ho
        simp only [ho] at hq
        split
        · rename_i hw'; simp only [hw', if_true] at hq
          exact wpIn_of_quiet_round (noDefer_spec hd (by simpa using ho)) hw (fun a' w' hw'' => wpAnyIn_of_quiet_round hd hQ fuel _ a' w' hw'') hq
        · rename_i hw'; simp only [hw'] at hq; exact ⟨fun _ _ => trivial, wpAnyIn_of_quiet_round hd hQ fuel _ _ _ hw hq⟩⟩
theorem round_region_quiet {id l n : Nat} {ops : List Oper} (hm : P.follows .mixedOrders = true) (hB : Region.lexB .any ops.toArray = true) (hd : noDefer ops = true)
    (h : wpQuiet P ops.toArray (fun w' => ∃ n, w' = w.drewN n) (fun a' => ∀ w', (∃ n, w' = w.drewN n) → Q .normal a' w') ops a) : (Code.region id ops.toArray true).wpIn (Fence.wide.inRound l) n P Q a w := by
  simp only [Region.lexB, Bool.and_eq_true] at hB
  refine wpIn_region_any hm (wpAnyIn_of_quiet_round (C := fun w' => ∃ n, w' = w.drewN n) (Q := fun a' => ∀ w', (∃ n, w' = w.drewN n) → Q .normal a' w') hd (fun _ w' hw' h => h w' hw') _ _ _ _ ⟨1, rfl⟩ ?_)
  have := wpAnyQ_lex (C := fun w' => ∃ n, w' = w.drewN n) (md := .any) hB.1 ops 0 (Array.replicate ops.toArray.size false) a (by simp) (by simpa using hB.2) h
  simpa using this
end
section
variable {P : Program} {Q : Exit → Act → World → Prop} {a : Act} {w : World}
theorem wpIn_hideN {F : Fence} {n : Nat} {c : Code} (hn : ∀ a w, ¬ Q .outgrown a w)
    (h : ∀ Q', Aside0 (∀ e a w, Q e a w → Q' e a w) → Aside0 (∀ a w, ¬ Q' .outgrown a w) → c.wpIn F n P Q' a w) : c.wpIn F n P Q a w := h Q (Aside0.mk fun _ _ _ h => h) (Aside0.mk hn)
theorem wpIn_of_wp_round {o : Oper} {l n : Nat} {K : Act → World → Prop} (hd : ∀ c, o.op ≠ .defer c) (h : o.wp P a w K Q) : o.wpIn (Fence.wide.inRound l) n P a w K Q := by
  refine ⟨fun _ _ => trivial, ?_⟩
  rw [Oper.semAt_eq _ _ _ hd]
  unfold Oper.wp at h
  generalize (execOp a.eval o).run P w = r at *
  cases r with
  | ok m w' =>
    cases m <;> simp only [Oper.upon] at h <;> simp only [Oper.uponIn]
    case value u => exact h
    case skip => exact h
    case defer d => exact h
    case enter f args => exact ⟨fun hx => (by cases hx), (callsIn_wide (n := n - 1)).2 h⟩
    case row row args => exact ⟨fun hx => (by cases hx), fun c cs _ => let ⟨v, w', r, s⟩ := h c cs; ⟨v, w', r, stepsIn_wide.2 s⟩⟩
  | halt x w' =>
    cases x <;> simp only [Oper.upon] at h <;> simp only [Oper.uponIn]
    exact h
theorem round_any {md : Region.Mode} {ops : List Oper} {l n : Nat} (hd : noDefer ops = true) (hno : ∀ a w, ¬ Q .outgrown a w) :
    ∀ (fuel : Nat) (listed : Array Bool) (a : Act) (w : World), wpAny P md ops.toArray Q fuel listed a w → wpAnyIn (Fence.wide.inRound l) n P md ops.toArray Q fuel listed a w
  | 0, _, _, _, h => h
  | fuel + 1, listed, a, w, h => ⟨h.1, fun i hi => by
      have hq := h.2 i hi
      unfold wpOp at hq
      unfold wpOpIn
      split
      · rename_i ho; simp only [ho] at hq; exact round_any hd hno fuel _ _ _ hq
      · rename_i o ho
        simp only [ho] at hq
        split
        · rename_i hw'
          simp only [hw', if_true] at hq
          have hdo := noDefer_spec hd (i := i) (o := o) (by simpa using ho)
          rcases hq with hq | ⟨_, a', w', hq⟩
          · exact Oper.wpIn_mono (fun a' w' h' => round_any hd hno fuel _ _ _ h') (wpIn_of_wp_round hdo hq)
          · exact (hno _ _ hq).elim
        · rename_i hw'; simp only [hw'] at hq; exact ⟨fun _ _ => trivial, round_any hd hno fuel _ _ _ hq⟩⟩
/-- A region of a round that draws its order: any order, by the plain rules. -/
theorem round_region_any {id l n : Nat} {ops : List Oper} (hm : P.follows .mixedOrders = true) (hd : noDefer ops = true) (hno : ∀ a w, ¬ Q .outgrown a w)
    (h : wpAny P .any ops.toArray Q ops.toArray.size (Array.replicate ops.toArray.size false) a { w with drawn := w.drawn + 1 }) : (Code.region id ops.toArray true).wpIn (Fence.wide.inRound l) n P Q a w :=
  wpIn_region_any hm (round_any hd hno _ _ _ _ h)
end

end Go.Proofs.Ytemglmcddaeedaa.PA

namespace Go.Proofs.Ytemglmcddaeedaa.PA
open Go.RowKit Go.Proofs.YtemglmcddaeedaaW.PrintWords Go.Proofs.YtemglmcddaeedaaW.PrintLast Go.Proofs.YtemglmcddaeedaaW.PrintMore
attribute [local go_sem] max2_int min2_int max_two min_two max_three min_three max_four min_four   -- for this text's walks alone
set_option linter.unusedVariables false
set_option linter.unusedSimpArgs false

/-! ### page_slots: function 0 -/
attribute [local go_sem] Oper.semAt_some
/-- The entry of line i + 1. -/
def slotV (p : ByteArray) (i : Nat) : Array Value := #[.agg #[.int .i64 ((i : Int) + 1), .int .i64 (twoS p (2 + 4 * (i : Int))), .int .i64 (twoS p (4 + 4 * (i : Int)))]]
set_option maxHeartbeats 4000000 in
set_option maxRecDepth 100000 in
theorem slots1_iter (p : ByteArray) (n : Nat) (hn : twoS p 0 = n) (hs : 2 + 4 * n ≤ p.size) (hs2 : p.size ≤ 100000) (b : Nat) :
    IterC Try.prog 125 #[.pointer (some ⟨b, 0, none⟩)] 1 ((List.range n).map (slotV p)) (fun W => W.cell? ⟨b, 0, none⟩ = some (.string p)) := by
  intro l rec J R W hps hJd hJK hJl hRd hround hdone h0
  have HN := Aside0.mk hn
  have HJd := Aside0.mk hJd
  have HJK := Aside0.mk hJK
  have HJl := Aside0.mk hJl
  have HRd := Aside0.mk hRd
  have HR := Aside0.mk hround
  have HD := Aside0.mk hdone
  have HPS := Aside0.mk hps
  clear hn hJd hJK hJl hRd hround hdone hps
  have hb := HJK.out 0 W h0
  have H0 := Aside0.mk h0
  clear h0
  refine callsIn_of_wp Try.func125 rfl trivial ?_ rfl
  simp only [Try.ntmps125, List.size_toArray, List.length_cons, List.length_nil, Nat.reduceAdd, Nat.reduceSub, Array.replicate_succ, Array.replicate_zero, List.push_toArray, List.append_toArray, List.nil_append, List.cons_append]
  gi_wp2_with fail
  refine ⟨trivial, rfl, ?_⟩
  refine (callsIn_wide.2 (page_count.calls p n _ (by rw [← HN.out]; exact page_count_f p (by omega) (by omega)))).mono ?_
  rintro e w' ⟨rfl, ⟨nd, rfl⟩⟩
  have H1 := Aside0.mk (HJd.out 0 W nd H0.out)
  clear H0
  gi_wp2_with fail
  gi_loopw [7] (fun v7 wr => ∃ i : Nat, i ≤ n ∧ v7 = .int .i64 (i : Int) ∧ Aside0 (J i wr)) (fun v7 _ => n - (intOf v7).toNat)
  case atStart => exact ⟨0, by omega, by simp, H1⟩
  case round =>
    clear H1 hb
    obtain ⟨i, hi, rfl, HI⟩ := hrel
    by_cases hlt : i < n
    · have hb := HJK.out i wr HI.out
      have hl := HJl.out i wr HI.out
      have hlt' : (i : Int) < n := by omega
      gi_wp2_with fail
      have t1 := page_two_f p (2 + 4 * (i : Int)) (by omega) (by omega) (by omega)
      have t2 := page_two_f p (4 + 4 * (i : Int)) (by omega) (by omega) (by omega)
      have T1 := Aside0.mk t1
      have T2 := Aside0.mk t2
      clear t1 t2
      have hx1 : IntKind.i64.wrap ((i : Int) + 1) = (i : Int) + 1 := IntWalk.i64_in _ (by omega)
      have hx2 : IntKind.i64.wrap (2 + 4 * (i : Int) + 2) = 4 + 4 * (i : Int) := (IntWalk.i64_in _ (by omega)).trans (by omega)
      have hv : ((List.range n).map (slotV p))[i]? = some (slotV p i) := by simp [hlt]
      have hr := fun m => HR.out i (slotV p i) (wr.drewN m) hv (HJd.out i wr m HI.out)
      have hy : ∀ m, (Instr.yield l (slotV p i)).run Try.prog (wr.drewN m) = .ok (.round l rec.fn ((rec.params.zip (slotV p i)).foldl (fun tmps (t, a) => tmps.setIfInBounds t a) rec.tmps) rec.assign rec.body) (wr.drewN m) :=
        fun m => run_yield hl (by rw [HPS.out]; rfl)
      obtain ⟨tm, htm⟩ : ∃ tm, ((rec.params.zip (slotV p i)).foldl (fun tmps (t, a) => tmps.setIfInBounds t a) rec.tmps) = tm := ⟨_, rfl⟩
      simp only [RoundOf, htm] at hr
      rw [htm] at hy
      unfold slotV at hy
      have HR1 := Aside0.mk hr
      clear hr htm hv hl
      have hmo : Try.prog.follows .mixedOrders = true := by kernel_rfl
      gi_region_with_o (first
        | (refine ⟨trivial, rfl, ?_⟩; gi_at_call 105; first
            | ((with_reducible refine (callsIn_wide.2 (page_two.calls p (2 + 4 * (i : Int)) _ _ T1.out)).mono ?_); rintro e w' ⟨rfl, ⟨nd, rfl⟩⟩)
            | ((with_reducible refine (callsIn_wide.2 (page_two.calls p (4 + 4 * (i : Int)) _ _ T2.out)).mono ?_); rintro e w' ⟨rfl, ⟨nd, rfl⟩⟩))
        | (with_reducible refine ⟨rfl, ?_⟩; (with_reducible refine (HR1.out _).mono ?_); rintro e W3 (⟨go, rfl, hJ3, hR3⟩ | ⟨ch, rfl, hR3⟩); rotate_left; (simp +zetaDelta only [Exit.then, Exit.inBlock, bodyPost]; exact ⟨trivial, hR3⟩)))
      all_goals
        cases go
        · gi_wp2_with fail
          refine bodyPost_ret (results_none rfl _ _ _) rfl (hR3 (by first | rfl | trivial))
        · have HJ4 := Aside0.mk (hJ3 rfl)
          clear hJ3 hR3
          gi_wp2_with fail
          go_roundw
          case rel => exact ⟨i + 1, by omega, by go_num, HJ4⟩
          case measure => simp [intOf]; omega
    · gi_wp2_with fail
      go_end0
      exact HD.out _ (by have h1 : i = n := by omega
                         subst h1; simpa using HI.out)

end Go.Proofs.Ytemglmcddaeedaa.PA

namespace Go.Proofs.Ytemglmcddaeedaa.PA
open Go.RowKit Go.Proofs.YtemglmcddaeedaaW.PrintWords Go.Proofs.YtemglmcddaeedaaW.PrintLast Go.Proofs.YtemglmcddaeedaaW.PrintMore
attribute [local go_sem] max2_int min2_int max_two min_two max_three min_three max_four min_four   -- for this text's walks alone
set_option linter.unusedVariables false
set_option linter.unusedSimpArgs false

/-! ### page_entries: function 0 -/
attribute [local go_sem] Oper.semAt_some
theorem wpIn_hide {P : Program} {F : Fence} {n : Nat} {c : Code} {Q : Exit → Act → World → Prop} {a : Act} {w : World}
    (h : ∀ Q', Aside0 (∀ e a w, Q e a w → Q' e a w) → c.wpIn F n P Q' a w) : c.wpIn F n P Q a w := h Q (Aside0.mk fun _ _ _ h => h)
theorem leavesM_ret {P : Program} {fn : Func} {tmps : Array Value} {R : Ending → World → Prop} {v : Value} {W : World} {D : Nat} (hD : W.heap[D]? = some (.deferred (some [])))
    (hr : ∀ W', (results fn tmps).run P W' = .ok v W') (hR : R (.returned v) (W.putObj D (.deferred none))) : LeavesInM Fence.wide 0 P fn tmps R [{ target := .collected D, args := #[] }] .returning W :=
  ⟨by simp, .inl ⟨D, _, rfl, run_takeDeferred hD, v, hr _, hR⟩⟩
theorem leavesM_panic {P : Program} {fn : Func} {tmps : Array Value} {R : Ending → World → Prop} {ch : List PanicEntry} {W : World} {D : Nat} (hD : W.heap[D]? = some (.deferred (some [])))
    (hR : R (.panicked ch) (W.putObj D (.deferred none))) : LeavesInM Fence.wide 0 P fn tmps R [{ target := .collected D, args := #[] }] (.panicking ch) W :=
  ⟨by simp, .inl ⟨D, _, rfl, run_takeDeferred hD, hR⟩⟩
theorem below_putObj {B : Nat} {w W : World} (h : Below B w W) {r : Nat} (hr : B ≤ r) (o : Obj) : Below B w (W.putObj r o) :=
  ⟨h.os, h.tape, h.output, by simpa using h.size, fun k hk => (World.putObj_heap_other (by omega)).trans (h.block k hk)⟩
theorem blk_putObj {W : World} {g r : Nat} {o o' : Obj} (h : W.heap[g]? = some o) (hne : g ≠ r) : (W.putObj r o').heap[g]? = some o :=
  (World.putObj_heap_other hne).trans h
theorem page_slots_calls (p : ByteArray) (w : World) : Calls Try.prog 106 #[.string p] w fun e w' => e = .returned (.func (.func 125) #[] #[.pointer (some ⟨w.heap.size, 0, none⟩)]) ∧ w' = w.alloc (.cells #[.string p] 9) := by
  go_enter Try.func106, Try.ntmps106
  go_wp2_with fail
  go_ret
  exact ⟨rfl, rfl⟩
set_option maxHeartbeats 4000000 in
set_option maxRecDepth 100000 in
theorem page_entries_calls (p : ByteArray) (n : Nat) (hn : twoS p 0 = n) (hs : 2 + 4 * n ≤ p.size) (hs2 : p.size ≤ 100000) (w : World) :
    Calls Try.prog 58 #[.string p] w fun e w' => Below w.heap.size w w' ∧ match entriesS p n with
      | .ok top => e = .returned (.int .i64 top)
      | .error a => e = .panicked [{ v := .iface 70 (.agg #[.int .i64 a, .int .i64 12]), recovered := false }] := by
  refine calls_of_wpX Try.func58 rfl ?_
  simp only [Try.ntmps58, List.size_toArray, List.length_cons, List.length_nil, Nat.reduceAdd, Nat.reduceSub, Array.replicate_succ, Array.replicate_zero, List.push_toArray, List.append_toArray, List.nil_append, List.cons_append]
  obtain ⟨R, hR⟩ : ∃ R : Ending → World → Prop, (fun e w' => Below w.heap.size w w' ∧ match entriesS p n with
      | .ok top => e = .returned (.int .i64 top)
      | .error a => e = .panicked [{ v := .iface 70 (.agg #[.int .i64 a, .int .i64 12]), recovered := false }]) = R := ⟨_, rfl⟩
  rw [hR]
  have HR := Aside0.mk hR
  clear hR
  refine wpX_seq_k ?_
  intro K hK
  go_wp2_with fail
  refine wpX_seq_k ?_
  intro K hK
  go_wp2_with fail
  refine wpX_seq_k ?_
  intro K hK
  go_wp2_with fail
  refine wpX_seq_x ?_
  intro K0 hK0
  refine wpX_seq_k ?_
  intro K hK
  go_wp2_with (go_at_call 106; refine (page_slots_calls p _).mono ?_; rintro e w1 ⟨rfl, rfl⟩)
  obtain ⟨g, hg⟩ : ∃ g, w.heap.size = g := ⟨_, rfl⟩
  obtain ⟨W0, hW⟩ : ∃ W, ((((w.alloc (.cells #[.string p] 9)).alloc (.cells #[.int .i64 p.size] 3)).alloc (.cells #[.int .i64 0] 3)).alloc (.cells #[.string p] 9)) = W := ⟨_, rfl⟩
  have hsz : W0.heap.size = g + 4 := by rw [← hW, ← hg]; simp
  have hB0 : Below w.heap.size w W0 := by rw [← hW]; exact below_alloc (below_alloc (below_alloc (below_alloc (Below.refl _ w) _) _) _) _
  have h1 : W0.heap[g]? = some (.cells #[.string p] 9) := by rw [← hW, ← hg]; exact blk_alloc (blk_alloc (blk_alloc (blk_new _ _) _) _) _
  have h2 : W0.heap[g + 1]? = some (.cells #[.int .i64 p.size] 3) := by rw [← hW, ← hg]; have := blk_alloc (blk_alloc (blk_new (w.alloc (.cells #[.string p] 9)) (.cells #[.int .i64 p.size] 3)) (.cells #[.int .i64 0] 3)) (.cells #[.string p] 9); simpa using this
  have h3 : W0.heap[g + 2]? = some (.cells #[.int .i64 0] 3) := by rw [← hW, ← hg]; have := blk_alloc (blk_new ((w.alloc (.cells #[.string p] 9)).alloc (.cells #[.int .i64 p.size] 3)) (.cells #[.int .i64 0] 3)) (.cells #[.string p] 9); simpa using this
  have h4 : W0.heap[g + 3]? = some (.cells #[.string p] 9) := by rw [← hW, ← hg]; have := (blk_new (((w.alloc (.cells #[.string p] 9)).alloc (.cells #[.int .i64 p.size] 3)).alloc (.cells #[.int .i64 0] 3)) (.cells #[.string p] 9)); simpa using this
  simp only [hg, hW, Nat.add_assoc, Nat.reduceAdd]
  rw [hg] at HR hB0
  clear hW
  refine wpX_block ?_
  refine wpX_range (gf := 125) (lb := #[.pointer (some ⟨g + 3, 0, none⟩)]) (xs := (List.range n).map (slotV p)) (Kp := fun W => W.cell? ⟨g + 3, 0, none⟩ = some (.string p)) rfl (fun _ _ => rfl) (slots1_iter p n hn hs hs2 _) (by simp [slotV])
    (fun i W => ∃ top last, scanE p n i = .ok (top, last) ∧ Below g w W ∧ W.heap[g]? = some (.cells #[.string p] 9) ∧ W.heap[g + 1]? = some (.cells #[.int .i64 top] 3) ∧ W.heap[g + 2]? = some (.cells #[.int .i64 last] 3) ∧ W.heap[g + 3]? = some (.cells #[.string p] 9))
    (fun i a₁ W => ∃ top last b, scanE p n i = .ok (top, last) ∧ Below g w W ∧ W.heap[g]? = some (.cells #[.string p] 9) ∧ W.heap[g + 1]? = some (.cells #[.int .i64 top] 3) ∧ W.heap[g + 2]? = some (.cells #[.int .i64 last] 3) ∧ W.heap[g + 3]? = some (.cells #[.string p] 9) ∧ g + 5 < b ∧
      W.heap[b]? = some (.cells #[.int .i64 ((i : Int) + 1), .int .i64 (twoS p (2 + 4 * (i : Int))), .int .i64 (twoS p (4 + 4 * (i : Int)))] 76) ∧
      a₁ = { tmps := #[.string p, .pointer (some ⟨g, 0, none⟩), .int .i64 0, .pointer (some ⟨g + 1, 0, none⟩), .pointer (some ⟨g + 2, 0, none⟩), .pointer (some ⟨b, 0, none⟩), undef, .string p, .int .i64 p.size, .string p, .func (.func 125) #[] #[.pointer (some ⟨g + 3, 0, none⟩)], (slotV p i)[0]!] ++ Array.replicate 53 undef, defers := [] })
    (fun _ _ => False)
    (fun ch W => ∃ a, scanE p n n = .error a ∧ ch = [{ v := .iface 70 (.agg #[.int .i64 a, .int .i64 12]), recovered := false }] ∧ Below g w W)
    ?_ ?_ ?_ ?_ ?_ ?_ ?_ ?_ ?_ ?_ ?_ ?_ ?_
  all_goals try simp only [hsz, Nat.add_assoc, Nat.reduceAdd]
  case refine_1 =>
    rintro i W o o' ⟨top, last, e1, e2, e3, e4, e5, e6⟩ -
    exact ⟨top, last, e1, below_putObj e2 (by omega) _, blk_putObj e3 (by omega), blk_putObj e4 (by omega), blk_putObj e5 (by omega), blk_putObj e6 (by omega)⟩
  case refine_2 =>
    rintro i a₁ W o o' ⟨top, last, b, e1, e2, e3, e4, e5, e6, e7, e8, e9⟩ -
    exact ⟨top, last, b, e1, below_putObj e2 (by omega) _, blk_putObj e3 (by omega), blk_putObj e4 (by omega), blk_putObj e5 (by omega), blk_putObj e6 (by omega), e7, blk_putObj e8 (by omega), e9⟩
  case refine_3 => exact fun _ _ _ _ h => h.elim
  case refine_4 =>
    rintro i W m ⟨top, last, e1, e2, e3, e4, e5, e6⟩
    exact ⟨top, last, e1, pw_below_drewN e2 m, e3, e4, e5, e6⟩
  case refine_5 => exact fun _ _ _ h => h.elim
  case refine_6 =>
    rintro ch W m ⟨a, e1, e2, e3⟩
    exact ⟨a, e1, e2, pw_below_drewN e3 m⟩
  case refine_7 =>
    rintro i W ⟨top, last, e1, e2, e3, e4, e5, e6⟩
    exact (blk_cell e6 0).trans rfl
  case refine_8 =>
    intro rec
    exact ⟨_, _, rfl, hg ▸ below_alloc (hg ▸ below_alloc (hg ▸ hB0) _) _, blk_alloc (blk_alloc h1 _) _, blk_alloc (blk_alloc h2 _) _, blk_alloc (blk_alloc h3 _) _, blk_alloc (blk_alloc h4 _) _⟩
  case refine_9 =>
    rintro i v W hv ⟨top, last, e1, e2, e3, e4, e5, e6⟩ hlt
    refine wpIn_hide ?_
    intro Q HQ
    have HR1 := Aside0.mk (And.intro HQ.out hv)
    clear HQ hv
    have hvv : v = slotV p i := by
      have := HR1.out.2
      simp only [List.getElem?_map, List.getElem?_range] at this
      rcases List.getElem?_eq_some_iff.1 HR1.out.2 with ⟨q1, q2⟩
      rw [← q2]; simp
    subst hvv
    unfold slotV
    simp only [List.zip_toArray, List.zip_cons_cons, List.zip_nil_right, List.size_toArray, List.length_cons, List.length_nil, Nat.reduceAdd, List.foldl_toArray', List.foldl_cons, List.foldl_nil]
    gi_wp2_with fail
    refine HR1.out.1 _ _ _ ⟨⟨top, last, W.heap.size, e1, hg ▸ below_alloc (hg ▸ e2) _, blk_alloc e3 _, blk_alloc e4 _, blk_alloc e5 _, blk_alloc e6 _, hlt, blk_new _ _, ?_⟩, ?_, ?_⟩
    · simp [Array.replicate_succ, slotV]
    · exact Below.heap_alloc _ _ _ hlt
    · exact Below.heap_alloc _ _ _ (by omega)
  case refine_10 =>
    rintro i v a₁ W hv ⟨top, last, b, e1, e2, e3, e4, e5, e6, e7, e8, rfl⟩ hlt
    clear hK0 HR h1 h2 h3 h4 hB0 hsz
    simp only [Array.replicate_succ, Array.replicate_zero, List.push_toArray, List.append_toArray, List.nil_append, List.cons_append]
    refine wpIn_hide ?_
    intro Q HQ
    have E1 := Aside0.mk e1
    have E2 := Aside0.mk e2
    have c1 := (blk_cell e3 0).trans rfl
    have c2 := (blk_cell e4 0).trans rfl
    have c3 := (blk_cell e5 0).trans rfl
    have f2 := blk_frozen e4 0
    have f3 := blk_frozen e5 0
    have c5 := (blk_cell e8 0).trans rfl
    have c6 := (blk_cell e8 1).trans rfl
    have c7 := (blk_cell e8 2).trans rfl
    have HB := Aside0.mk (And.intro e4 (And.intro e5 (And.intro e3 e6)))
    have hi : i < n := by
      have := (List.getElem?_eq_some_iff.1 hv).1
      simpa using this
    have hi' : (i : Int) < n := by omega
    have hi0 : (0 : Int) ≤ i := by omega
    have hn' : (n : Int) ≤ 30000 := by omega
    have ht := scanE_range p n i top last e1
    have ht' : top ≤ 100000 := by omega
    have ht0 := ht.1
    have hS : scanE p n (i + 1) = if twoS p (2 + 4 * (i : Int)) = 0 ∧ twoS p (4 + 4 * (i : Int)) = 0 then .ok (top, last)
      else if twoS p (4 + 4 * (i : Int)) = 0 ∨ twoS p (2 + 4 * (i : Int)) ≠ top - twoS p (4 + 4 * (i : Int)) ∨ twoS p (2 + 4 * (i : Int)) < 2 + 4 * (n : Int) then .error (2 + 4 * (i : Int))
      else .ok (twoS p (2 + 4 * (i : Int)), (i : Int) + 1) := by rw [scanE, e1]
    clear e1 e2 e3 e4 e5 e6 e8 ht
    simp only [slotV]
    have hx := twoS_range p (2 + 4 * (i : Int))
    have hy := twoS_range p (4 + 4 * (i : Int))
    obtain ⟨x, HX⟩ : ∃ x, twoS p (2 + 4 * (i : Int)) = x := ⟨_, rfl⟩
    obtain ⟨y, HY⟩ : ∃ y, twoS p (4 + 4 * (i : Int)) = y := ⟨_, rfl⟩
    simp only [HX] at hx c6 hS ⊢
    simp only [HY] at hy c7 hS ⊢
    clear hv HX HY
    have hw1 : IntKind.i64.wrap (2 + 4 * (i : Int)) = 2 + 4 * (i : Int) := IntWalk.i64_in _ (by omega)
    have hw2 : IntKind.i64.wrap (top - y) = top - y := IntWalk.i64_in _ (by omega)
    have hw3 : IntKind.i64.wrap (2 + 4 * (n : Int)) = 2 + 4 * (n : Int) := IntWalk.i64_in _ (by omega)
    have hw4 : IntKind.i64.wrap (4 * (n : Int)) = 4 * (n : Int) := IntWalk.i64_in _ (by omega)
    have hmo : Try.prog.follows .mixedOrders = true := by kernel_rfl
    have HC := Aside0.mk (page_count_f p (by omega) (by omega))
    rw [hn] at HC
    have HS := Aside0.mk hS
    clear hS
    by_cases hy0 : y = 0
    · by_cases hx0 : x = 0
      · subst hx0 hy0
        gi_wp2_with fail
        refine HQ.out _ _ _ ⟨rfl, rfl, top, last, HS.out.trans (by simp), E2.out, HB.out.2.2.1, HB.out.1, HB.out.2.1, HB.out.2.2.2⟩
      · subst hy0
        gi_wp2_with fail
        refine round_region_quiet hmo (by kernel_rfl) (by kernel_rfl) ?_
        repeat (go_big_quiet_step (fail))
        refine wpQuiet_nil ?_
        rintro _ ⟨nq, rfl⟩
        all_goals gi_wp2_with fail
        all_goals refine HQ.out _ _ _ ⟨rfl, rfl, rfl, 2 + 4 * (i : Int), scanE_error p n (i + 1) n (by omega) _ (HS.out.trans (by simp [hx0])), rfl, by first | exact E2.out | exact pw_below_drewN E2.out _⟩
    · have hb1 : (y == 0) = false := by simp [hy0]
      by_cases hxy : x = top - y
      · have hb2 : (x != top - y) = false := by simp [hxy]
        by_cases hlo : x < 2 + 4 * (n : Int)
        · have HS1 := Aside0.mk (scanE_error p n (i + 1) n (by omega) _ (HS.out.trans (by rw [if_neg (by simp [hy0]), if_pos (by simp [hlo])])))
          have HXY := Aside0.mk hxy
          clear hxy HS
          rcases Decidable.em (x = 0) with hx0 | hx0
          all_goals first | subst hx0 | skip
          all_goals gi_wp2_with fail
          all_goals refine round_region_quiet hmo (by kernel_rfl) (by kernel_rfl) ?_
          all_goals repeat (go_big_quiet_step ((go_at_call 57; refine (page_count.calls p n _ HC.out).mono ?_; rintro e w' ⟨rfl, ⟨m, rfl⟩⟩; exact ⟨rfl, _, World.drewN_drewN ..⟩)))
          all_goals refine wpQuiet_nil ?_
          all_goals rintro _ ⟨nq, rfl⟩
          all_goals gi_wp2_with fail
          all_goals refine HQ.out _ _ _ ⟨rfl, rfl, rfl, 2 + 4 * (i : Int), HS1.out, rfl, by first | exact E2.out | exact pw_below_drewN E2.out _⟩
        · have hx1 : ¬ x = 0 := by omega
          have HS2 := Aside0.mk (show scanE p n (i + 1) = .ok (top - y, (i : Int) + 1) from HS.out.trans (by rw [if_neg (by omega), if_neg (by omega), hxy]))
          gi_wp2_with fail
          refine round_region_quiet hmo (by kernel_rfl) (by kernel_rfl) ?_
          repeat (go_big_quiet_step ((go_at_call 57; refine (page_count.calls p n _ HC.out).mono ?_; rintro e w' ⟨rfl, ⟨m, rfl⟩⟩; exact ⟨rfl, _, World.drewN_drewN ..⟩)))
          refine wpQuiet_nil ?_
          rintro _ ⟨nq, rfl⟩
          gi_wp2_with fail
          gi_region_with_o (fail)
          all_goals
            refine HQ.out _ _ _ ⟨?_, ?_, top - y, (i : Int) + 1, HS2.out, ?_, ?_, ?_, ?_, ?_⟩
            · exact (Below.heap_setCell _ _ _ _ (by simp)).trans (Below.heap_setCell _ _ _ _ (by simp))
            · exact (Below.heap_setCell _ _ _ _ (by simp)).trans (Below.heap_setCell _ _ _ _ (by simp))
            · exact ((pw_below_drewN E2.out _).setCell (by simp) _).setCell (by simp) _
            · exact blk_far (blk_far (blk_drewN HB.out.2.2.1 _) (by simp) _) (by simp) _
            · exact blk_far (blk_set (blk_drewN HB.out.1 _) 0 _) (by simp) _
            · exact blk_set (blk_far (blk_drewN HB.out.2.1 _) (by simp) _) 0 _
            · exact blk_far (blk_far (blk_drewN HB.out.2.2.2 _) (by simp) _) (by simp) _
      · have hb2 : (x != top - y) = true := by simp [hxy]
        have HS1 := Aside0.mk (scanE_error p n (i + 1) n (by omega) _ (HS.out.trans (by rw [if_neg (by simp [hy0]), if_pos (by simp [hxy])])))
        clear hxy HS
        rcases Decidable.em (x = 0) with hx0 | hx0
        all_goals first | subst hx0 | skip
        all_goals gi_wp2_with fail
        all_goals refine round_region_quiet hmo (by kernel_rfl) (by kernel_rfl) ?_
        all_goals repeat (go_big_quiet_step (fail))
        all_goals refine wpQuiet_nil ?_
        all_goals rintro _ ⟨nq, rfl⟩
        all_goals gi_wp2_with fail
        all_goals refine HQ.out _ _ _ ⟨rfl, rfl, rfl, 2 + 4 * (i : Int), HS1.out, rfl, by first | exact E2.out | exact pw_below_drewN E2.out _⟩
  case refine_11 =>
    rintro W ⟨top, last, e1, e2, e3, e4, e5, e6⟩ hD
    refine hK0 _ _ ?_
    clear hK0
    refine wpX_of_wp ?_
    have hts := scanE_range p n _ top last e1
    have c1 := (blk_cell e3 0).trans rfl
    have c2 := (blk_cell e4 0).trans rfl
    have c3 := (blk_cell e5 0).trans rfl
    have HC := Aside0.mk (page_count_f p (by omega) (by omega))
    rw [hn] at HC
    have HB := Aside0.mk e2
    have HS := Aside0.mk e1
    have HD := Aside0.mk hD
    clear e1 e2 e3 e4 e5 e6 hD h1 h2 h3 h4
    by_cases hll : last < n
    · go_wp2_with fail
      go_quiet ((go_at_call 57; refine (page_count.calls p n _ HC.out).mono ?_; rintro e w' ⟨rfl, ⟨m, rfl⟩⟩; exact ⟨rfl, _, World.drewN_drewN ..⟩))
      go_wp2_with ((go_at_call 57; refine (page_count.calls p n _ HC.out).mono ?_; rintro e w' ⟨rfl, ⟨nd, rfl⟩⟩))
      refine leavesM_panic HD.out ?_
      rw [← HR.out]
      refine ⟨below_putObj (pw_below_drewN HB.out _) (by omega) _, ?_⟩
      have h8 := HS.out
      simp only [List.length_map, List.length_range] at h8
      simp only [entriesS, h8, if_pos hll]
    · go_wp2_with fail
      go_quiet ((go_at_call 57; refine (page_count.calls p n _ HC.out).mono ?_; rintro e w' ⟨rfl, ⟨m, rfl⟩⟩; exact ⟨rfl, _, World.drewN_drewN ..⟩))
      go_wp2_with ((go_at_call 57; refine (page_count.calls p n _ HC.out).mono ?_; rintro e w' ⟨rfl, ⟨nd, rfl⟩⟩))
      refine leavesM_ret HD.out (fun _ => results_tmp rfl _ _ _) ?_
      rw [← HR.out]
      refine ⟨below_putObj (pw_below_drewN HB.out _) (by omega) _, ?_⟩
      have h8 := HS.out
      simp only [List.length_map, List.length_range] at h8
      simp only [entriesS, h8, if_neg (show ¬ last < (n : Int) by omega)]
      rfl
  case refine_12 => exact fun _ _ h => h.elim
  case refine_13 =>
    rintro ch W ⟨a, e1, rfl, e3⟩ hD
    refine leavesM_panic hD ?_
    rw [← HR.out]
    refine ⟨below_putObj e3 (by omega) _, ?_⟩
    simp only [entriesS, e1]

end Go.Proofs.Ytemglmcddaeedaa.PA

namespace Go.Proofs.Ytemglmcddaeedaa.PA
open Go.RowKit Go.Proofs.YtemglmcddaeedaaW.PrintWords Go.Proofs.YtemglmcddaeedaaW.PrintLast Go.Proofs.YtemglmcddaeedaaW.PrintMore
attribute [local go_sem] max2_int min2_int max_two min_two max_three min_three max_four min_four   -- for this text's walks alone
set_option linter.unusedVariables false
set_option linter.unusedSimpArgs false

/-! ### page_Wrong: function 19 -/
def page_Wrong.f (a0 : ByteArray) : Option (Int × Int) := if a0.size ≤ 100000 then some (wrongS a0) else none
/-- A region whose first operation is 'recover()', in a deferred call of a frame that panics. -/
theorem wpList_hide {P : Program} {ops : Array Oper} {l : List Oper} {a : Act} {w : World} {Q : Exit → Act → World → Prop}
    (h : ∀ K, Aside0 (∀ e a w, Q e a w → K e a w) → wpList P ops K l a w) : wpList P ops Q l a w := h Q (Aside0.mk fun _ _ _ h => h)
theorem wp_hide {P : Program} {c : Code} {a : Act} {w : World} {Q : Exit → Act → World → Prop}
    (h : ∀ K, Aside0 (∀ e a w, Q e a w → K e a w) → c.wp P K a w) : c.wp P Q a w := h Q (Aside0.mk fun _ _ _ h => h)
theorem wpS_recover {P : Program} {id : Nat} {o : Oper} {l : List Oper} {a : Act} {cs cs' : List Frame} {w : World} {v : Value} {Q : Exit → Act → List Frame → World → Prop}
    (hw : Region.wanted o (yielded (o :: l).toArray a.tmps) = true) (hr : (execOp a.eval o).run P w = .ok .recover w) (hrec : recoverD cs = some (v, cs'))
    (h : wpList P (o :: l).toArray (fun e a w => Q e a cs' w) l (a.put o.dst v) w) : (Code.region id (o :: l).toArray false).wpS P Q a cs w := by
  intro b k hb hro
  have ho : (o :: l).toArray[0]? = some o := by simp
  have hk : (b.at a (.inRegion (o :: l).toArray (0 :: List.range' 1 l.length) :: k)).kind = .deferred := hb
  have htr := tryRecover_deferred hk cs
  rw [← wpOps_eq_wpList l 1 (by intro j; rw [List.getElem?_toArray, Nat.add_comm, List.getElem?_cons_succ])] at h
  obtain ⟨e, a', w', hq, harr⟩ := wp_ops _ _ _ h b k cs'
  have hfin : ∀ v, (b.at a (.inRegion (o :: l).toArray (0 :: List.range' 1 l.length) :: k)).finish v = b.at (a.put o.dst v) (.inRegion (o :: l).toArray (List.range' 1 l.length) :: k) := by
    intro v; rw [Frame.finish_at, ho]; rfl
  have hrg : List.range (o :: l).toArray.size = 0 :: List.range' 1 l.length := by
    rw [List.range_eq_range']; simp [List.range'_succ]
  have hsr := step_region (P := P) (b := b) (a := a) (k := k) (cs := cs) (w := w) (ops := (o :: l).toArray) (id := id)
  rw [hrg] at hsr
  refine ⟨e, a', cs', w', hq, .of_steps (.head hsr (.one (step_lone_go ?_))) harr⟩
  rw [stepG_op ho hw, ← hfin]
  simp only [Frame.at] at htr ⊢
  simp [stepG.apply, hr, htr, hrec]
/-- .. of a frame that returns: it yields nil. -/
theorem wpS_recover_idle {P : Program} {id : Nat} {o : Oper} {l : List Oper} {a : Act} {cs : List Frame} {w : World} {Q : Exit → Act → List Frame → World → Prop}
    (hw : Region.wanted o (yielded (o :: l).toArray a.tmps) = true) (hr : (execOp a.eval o).run P w = .ok .recover w) (hrec : recoverD cs = none)
    (h : wpList P (o :: l).toArray (fun e a w => Q e a cs w) l (a.put o.dst .nilIface) w) : (Code.region id (o :: l).toArray false).wpS P Q a cs w := by
  intro b k hb hro
  have ho : (o :: l).toArray[0]? = some o := by simp
  have hk : (b.at a (.inRegion (o :: l).toArray (0 :: List.range' 1 l.length) :: k)).kind = .deferred := hb
  have htr := tryRecover_deferred hk cs
  rw [← wpOps_eq_wpList l 1 (by intro j; rw [List.getElem?_toArray, Nat.add_comm, List.getElem?_cons_succ])] at h
  obtain ⟨e, a', w', hq, harr⟩ := wp_ops _ _ _ h b k cs
  have hfin : ∀ v, (b.at a (.inRegion (o :: l).toArray (0 :: List.range' 1 l.length) :: k)).finish v = b.at (a.put o.dst v) (.inRegion (o :: l).toArray (List.range' 1 l.length) :: k) := by
    intro v; rw [Frame.finish_at, ho]; rfl
  have hrg : List.range (o :: l).toArray.size = 0 :: List.range' 1 l.length := by
    rw [List.range_eq_range']; simp [List.range'_succ]
  have hsr := step_region (P := P) (b := b) (a := a) (k := k) (cs := cs) (w := w) (ops := (o :: l).toArray) (id := id)
  rw [hrg] at hsr
  refine ⟨e, a', cs, w', hq, .of_steps (.head hsr (.one (step_lone_go ?_))) harr⟩
  rw [stepG_op ho hw, ← hfin]
  simp only [Frame.at] at htr ⊢
  simp [stepG.apply, hr, htr, hrec]
set_option maxHeartbeats 4000000 in
set_option maxRecDepth 100000 in
/-- The recovering closure, entered while the page is told wrong. -/
theorem wrong1_panics (g : Nat) (x0 : Int) (e0 : Int) (a e : Int) (w : World) (h1 : w.heap[g]? = some (.cells #[.int .i64 x0] 3)) (h2 : w.heap[g + 1]? = some (.cells #[.int .i64 e0] 28)) :
    CallsD Try.prog 56 #[.pointer (some ⟨g, 0, none⟩), .pointer (some ⟨g + 1, 0, none⟩)] (.panicking [{ v := .iface 70 (.agg #[.int .i64 a, .int .i64 e]), recovered := false }]) w fun en u' w' =>
      en = .returned (.tuple #[]) ∧ u' = .panicking [{ v := .iface 70 (.agg #[.int .i64 a, .int .i64 e]), recovered := true }] ∧
      w'.heap[g]? = some (.cells #[.int .i64 a] 3) ∧ w'.heap[g + 1]? = some (.cells #[.int .i64 e] 28) ∧ (∀ w0, Below g w0 w → Below g w0 w') := by
  refine callsD_of_wpS Try.func56 rfl fun c₀ cs hu => ?_
  simp only [Try.ntmps56, List.size_toArray, List.length_cons, List.length_nil, Nat.reduceAdd, Nat.reduceSub, Array.replicate_succ, Array.replicate_zero, List.push_toArray, List.append_toArray, List.nil_append, List.cons_append]
  have hta : ∀ x W, (Instr.typeAssert (.iface 70 x) 20 70 true).run Try.prog W = .ok (.tuple #[x, .bool true]) W := fun _ _ => by kernel_rfl
  have c1 := (blk_cell h1 0).trans rfl
  have c2 := (blk_cell h2 0).trans rfl
  have f1 := blk_frozen h1 0
  have f2 := blk_frozen h2 0
  apply wpS_seq
  refine wpS_recover (v := .iface 70 (.agg #[.int .i64 a, .int .i64 e])) rfl rfl (by simp only [recoverD, hu]; rfl) ?_
  refine wpList_hide ?_
  intro K HK
  dsimp only [Act.put]
  repeat go_step
  refine HK.out _ _ _ ?_
  clear HK K hta c1 c2 f1 f2
  refine wpS_of_wp ?_
  have hB : ∀ w0, Below g w0 w → Below g w0 (w.alloc (.cells #[.int .i64 a, .int .i64 e] 70)) := fun w0 hb => ⟨hb.os, hb.tape, hb.output, by have := hb.size; simp; omega, fun k hk => (Below.heap_alloc _ _ _ (by have := blk_lt h1; omega)).trans (hb.block k hk)⟩
  have h3 := blk_new w (.cells #[.int .i64 a, .int .i64 e] 70)
  have hl := blk_lt h2
  replace h1 := blk_alloc h1 (.cells #[.int .i64 a, .int .i64 e] 70)
  replace h2 := blk_alloc h2 (.cells #[.int .i64 a, .int .i64 e] 70)
  obtain ⟨b, hb⟩ : ∃ b, w.heap.size = b := ⟨_, rfl⟩
  obtain ⟨W, hW⟩ : ∃ W, w.alloc (.cells #[.int .i64 a, .int .i64 e] 70) = W := ⟨_, rfl⟩
  rw [hW] at h1 h2 h3 hB
  rw [hb] at h3 hl
  simp only [hb, hW]
  clear hb hW
  have c1 := (blk_cell h1 0).trans rfl
  have c2 := (blk_cell h2 0).trans rfl
  have c3 := (blk_cell h3 0).trans rfl
  have c4 := (blk_cell h3 1).trans rfl
  have f1 := blk_frozen h1 0
  have f2 := blk_frozen h2 0
  have HH := Aside0.mk (And.intro h1 (And.intro h2 (And.intro hB hu)))
  clear h1 h2 h3 hB hu
  refine wp_hide ?_
  intro K HK
  go_wp2_with fail
  go_region
  all_goals
    refine HK.out _ _ _ ?_
    obtain ⟨h1, h2, hB, hu⟩ := HH.out
    refine ⟨rfl, _, rfl, _, results_none rfl _ _ _, rfl, rfl, ?_, ?_, ?_⟩
    · exact blk_far (blk_set (blk_drew h1) 0 _) (by simp) _
    · exact blk_set (blk_far (blk_drew h2) (by simp) _) 0 _
    · exact fun w0 hw0 => (((hB w0 hw0).drew).setCell (Nat.le_refl g) _).setCell (Nat.le_succ g) _
set_option maxHeartbeats 4000000 in
set_option maxRecDepth 100000 in
/-- .. entered while Wrong returns. -/
theorem wrong1_idle (p q : Option Addr) (w : World) :
    CallsD Try.prog 56 #[.pointer p, .pointer q] .returning w fun en u' w' =>
      en = .returned (.tuple #[]) ∧ u' = .returning ∧ ∃ o, w' = w.alloc o := by
  refine callsD_of_wpS Try.func56 rfl fun c₀ cs hu => ?_
  simp only [Try.ntmps56, List.size_toArray, List.length_cons, List.length_nil, Nat.reduceAdd, Nat.reduceSub, Array.replicate_succ, Array.replicate_zero, List.push_toArray, List.append_toArray, List.nil_append, List.cons_append]
  have hta : ∀ W, (Instr.typeAssert .nilIface 20 70 true).run Try.prog W = .ok (.tuple #[.agg #[.int .i64 0, .int .i64 0], .bool false]) W := fun _ => by kernel_rfl
  apply wpS_seq
  refine wpS_recover_idle rfl rfl (by simp only [recoverD, hu]) ?_
  refine wpList_hide ?_
  intro K HK
  dsimp only [Act.put]
  repeat go_step
  refine HK.out _ _ _ ?_
  clear HK K hta
  refine wpS_of_wp ?_
  refine wp_hide ?_
  intro K HK
  go_wp2_with fail
  refine HK.out _ _ _ ?_
  refine ⟨rfl, .returning, ?_, _, results_none rfl _ _ _, rfl, rfl, _, rfl⟩
  cases c₀
  cases hu
  rfl
set_option maxRecDepth 100000 in
theorem wrong_leaves_panic (g : Nat) (tm : Array Value) (t2 : tm[2]?.getD undef = .pointer (some ⟨g, 0, none⟩)) (t3 : tm[3]?.getD undef = .pointer (some ⟨g + 1, 0, none⟩)) (w0 W : World) (x0 e0 a e : Int)
    (b1 : W.heap[g]? = some (.cells #[.int .i64 x0] 3)) (b2 : W.heap[g + 1]? = some (.cells #[.int .i64 e0] 28)) (hb : Below g w0 W) (R : Ending → World → Prop)
    (hR : ∀ W', Below g w0 W' → R (.returned (.tuple #[.int .i64 a, .int .i64 e])) W') :
    Leaves Try.prog Try.f19 tm R [{ target := .fn (.func 56) #[.pointer (some ⟨g, 0, none⟩), .pointer (some ⟨g + 1, 0, none⟩)], args := #[] }] (.panicking [{ v := .iface 70 (.agg #[.int .i64 a, .int .i64 e]), recovered := false }]) W := by
  refine leaves_cons (f := 56) (args := #[.pointer (some ⟨g, 0, none⟩), .pointer (some ⟨g + 1, 0, none⟩)]) (by simp) (by simp [go_sem]) ?_
  refine (wrong1_panics g x0 e0 a e W b1 b2).mono ?_
  rintro en u' W' ⟨rfl, rfl, h1, h2, hB⟩
  have c1 : W'.cell? ⟨g, 0, none⟩ = some (.int .i64 a) := (blk_cell h1 0).trans rfl
  have c2 : W'.cell? ⟨g + 1, 0, none⟩ = some (.int .i64 e) := (blk_cell h2 0).trans rfl
  refine ⟨_, ?_, hR _ (hB w0 hb)⟩
  simp [results, Try.results19, go_sem, c1, c2, t2, t3]
set_option maxRecDepth 100000 in
theorem wrong_leaves_ret (g : Nat) (tm : Array Value) (t2 : tm[2]?.getD undef = .pointer (some ⟨g, 0, none⟩)) (t3 : tm[3]?.getD undef = .pointer (some ⟨g + 1, 0, none⟩)) (w0 W : World) (a e : Int)
    (b1 : W.heap[g]? = some (.cells #[.int .i64 a] 3)) (b2 : W.heap[g + 1]? = some (.cells #[.int .i64 e] 28)) (hb : Below g w0 W) (hg : w0.heap.size = g) (R : Ending → World → Prop)
    (hR : ∀ W', Below g w0 W' → R (.returned (.tuple #[.int .i64 a, .int .i64 e])) W') :
    Leaves Try.prog Try.f19 tm R [{ target := .fn (.func 56) #[.pointer (some ⟨g, 0, none⟩), .pointer (some ⟨g + 1, 0, none⟩)], args := #[] }] .returning W := by
  refine leaves_cons (f := 56) (args := #[.pointer (some ⟨g, 0, none⟩), .pointer (some ⟨g + 1, 0, none⟩)]) (by simp) (by simp [go_sem]) ?_
  refine (wrong1_idle _ _ W).mono ?_
  rintro en u' W' ⟨rfl, rfl, o, rfl⟩
  have c1 : (W.alloc o).cell? ⟨g, 0, none⟩ = some (.int .i64 a) := (World.cell?_alloc_lt _ _ _ (blk_lt b1)).trans ((blk_cell b1 0).trans rfl)
  have c2 : (W.alloc o).cell? ⟨g + 1, 0, none⟩ = some (.int .i64 e) := (World.cell?_alloc_lt _ _ _ (blk_lt b2)).trans ((blk_cell b2 0).trans rfl)
  refine ⟨_, ?_, hR _ (hg ▸ below_alloc (hg ▸ hb) o)⟩
  simp [results, Try.results19, go_sem, c1, c2, t2, t3]
theorem page_size_f (n : Nat) (hn : n ≤ 100000) : page_size.f n = some (decide (32 ≤ n ∧ n ≤ 4096 ∧ n % 8 = 0)) := by
  unfold page_size.f
  split
  · split
    · have h1 : (Int.tmod (n : Int) 8) = ((n % 8 : Nat) : Int) := by rw [Int.tmod_eq_emod_of_nonneg (by omega)]; omega
      rw [h1]
      congr 1
      by_cases h : n % 8 = 0
      · rw [h]; simp; omega
      · have : ¬ ((n % 8 : Nat) : Int) = 0 := by omega
        rw [decide_eq_false (by omega)]
        simpa using this
    · rw [decide_eq_false (by omega)]
  · rw [decide_eq_false (by omega)]
set_option maxHeartbeats 4000000 in
set_option maxRecDepth 100000 in
theorem page_Wrong.calls (a0 : ByteArray) (r1 r2 : Int) (w : World) (h : page_Wrong.f a0 = some (r1, r2)) :
    Calls Try.prog 19 #[.string a0] w fun e w' => e = .returned (.tuple #[.int .i64 r1, .int .i64 r2]) ∧ Below w.heap.size w w' := by
  unfold page_Wrong.f at h
  split at h
  rotate_left
  · cases h
  rename_i hsz
  have h := Option.some.inj h
  have HX := Aside0.mk h
  clear h
  obtain ⟨g, hg⟩ : ∃ g, w.heap.size = g := ⟨_, rfl⟩
  have hB0 : ∀ v v' t t', Below g w ((w.alloc (.cells #[v] t)).alloc (.cells #[v'] t')) := fun v v' t t' => by rw [← hg]; exact below_alloc (below_alloc (Below.refl _ w) _) _
  have HP1 := Aside0.mk (hB0 (.int .i64 0) (.int .i64 0) 3 28)
  clear hB0
  have h1 : ((w.alloc (.cells #[.int .i64 0] 3)).alloc (.cells #[.int .i64 0] 28)).heap[g]? = some (.cells #[.int .i64 0] 3) := by rw [← hg]; exact blk_alloc (blk_new _ _) _
  have h2 : ((w.alloc (.cells #[.int .i64 0] 3)).alloc (.cells #[.int .i64 0] 28)).heap[g + 1]? = some (.cells #[.int .i64 0] 28) := by
    rw [← hg]; have := blk_new (w.alloc (.cells #[.int .i64 0] 3)) (.cells #[.int .i64 0] 28); simpa using this
  obtain ⟨W, hW⟩ : ∃ W, (w.alloc (.cells #[.int .i64 0] 3)).alloc (.cells #[.int .i64 0] 28) = W := ⟨_, rfl⟩
  rw [hW] at h1 h2 HP1
  have HZ := Aside0.mk (page_size_f a0.size hsz)
  have HH := Aside0.mk (And.intro h1 h2)
  clear h1 h2
  go_enter_defers Try.func19, Try.ntmps19
  refine wp_hide ?_
  intro K HK
  by_cases hok : 32 ≤ a0.size ∧ a0.size ≤ 4096 ∧ a0.size % 8 = 0
  · have hf := HZ.out
    rw [decide_eq_true hok] at hf
    have HF := Aside0.mk hf
    clear hf
    obtain ⟨hk1, hk2, hk3⟩ := hok
    have hcn := twoS_range a0 0
    obtain ⟨n, hn⟩ : ∃ n : Nat, twoS a0 0 = n := ⟨(twoS a0 0).toNat, by omega⟩
    have hcf := page_count_f a0 (by omega) (by omega)
    have HX2 := Aside0.mk hn
    rw [hn] at hcf hcn
    have HC := Aside0.mk hcf
    clear hcf
    have hn2 : (n : Int) ≤ 65535 := hcn.2
    by_cases hbig : n > 200 ∨ 2 + 4 * n > a0.size
    · by_cases hb1 : (n : Int) > 200
      all_goals go_wp2_with (first
        | (go_at_call 53; refine (page_size.calls _ _ _ HF.out).mono ?_; rintro e w' ⟨rfl, ⟨nd, rfl⟩⟩; simp only [hg, hW])
        | (go_at_call 57; refine (page_count.calls _ _ _ HC.out).mono ?_; rintro e w' ⟨rfl, ⟨nd2, rfl⟩⟩))
      all_goals
        refine HK.out _ _ _ ?_
        rw [hg]
        refine wrong_leaves_panic g _ (by rfl) (by rfl) w (W.drewN (nd + nd2)) 0 0 0 12 (blk_drewN HH.out.1 _) (blk_drewN HH.out.2 _) (pw_below_drewN HP1.out _) _ ?_
        intro W' hb
        have hx := HX.out
        unfold wrongS at hx
        rw [if_pos ⟨hk1, hk2, hk3⟩, HX2.out, if_pos (by omega)] at hx
        cases hx
        exact ⟨rfl, hb⟩
    · obtain ⟨hb1, hb2⟩ : ¬ ((n : Int) > 200) ∧ 2 + 4 * (n : Int) ≤ a0.size := by omega
      have HE := Aside0.mk (fun w => page_entries_calls a0 n HX2.out (by omega) hsz w)
      cases he : entriesS a0 n with
      | error a =>
        go_wp2_with (first
          | (go_at_call 53; refine (page_size.calls _ _ _ HF.out).mono ?_; rintro e w' ⟨rfl, ⟨nd, rfl⟩⟩; simp only [hg, hW])
          | (go_at_call 57; refine (page_count.calls _ _ _ HC.out).mono ?_; rintro e w' ⟨rfl, ⟨nd2, rfl⟩⟩)
          | (go_at_call 58; refine (HE.out _).mono ?_; rw [he]; rintro e w' ⟨hbe, rfl⟩))
        refine HK.out _ _ _ ?_
        rw [hg]
        refine wrong_leaves_panic g _ (by rfl) (by rfl) w w' 0 0 a 12 (blk_below (blk_drewN HH.out.1 _) hbe) (blk_below (blk_drewN HH.out.2 _) hbe) (below_then (pw_below_drewN HP1.out _) (Nat.le_of_lt (blk_lt HH.out.1)) hbe) _ ?_
        intro W' hb
        have hx := HX.out
        unfold wrongS at hx
        rw [if_pos ⟨hk1, hk2, hk3⟩, HX2.out, if_neg (by omega), Int.toNat_natCast, he] at hx
        cases hx
        exact ⟨rfl, hb⟩
      | ok top =>
        go_wp2_with (first
          | (go_at_call 53; refine (page_size.calls _ _ _ HF.out).mono ?_; rintro e w' ⟨rfl, ⟨nd, rfl⟩⟩; simp only [hg, hW])
          | (go_at_call 57; refine (page_count.calls _ _ _ HC.out).mono ?_; rintro e w' ⟨rfl, ⟨nd2, rfl⟩⟩)
          | (go_at_call 58; refine (HE.out _).mono ?_; rw [he]; rintro e w' ⟨hbe, rfl⟩))
        have ht := entriesS_top a0 n top he
        have hw1 := blk_below (blk_drewN HH.out.1 _) hbe
        have hw2 := blk_below (blk_drewN HH.out.2 _) hbe
        have hw3 := below_then (pw_below_drewN HP1.out _) (Nat.le_of_lt (blk_lt HH.out.1)) hbe
        have HW := Aside0.mk (And.intro hw1 (And.intro hw2 hw3))
        have c1 := (blk_cell hw1 0).trans rfl
        have c2 := (blk_cell hw2 0).trans rfl
        have f1 := blk_frozen hw1 0
        have f2 := blk_frozen hw2 0
        have hx := HX.out
        unfold wrongS at hx
        rw [if_pos ⟨hk1, hk2, hk3⟩, HX2.out, if_neg (by omega), Int.toNat_natCast, he] at hx
        have HX3 := Aside0.mk hx
        clear hx hw1 hw2 hw3 hbe he HE HX
        go_loopw [5] (fun v5 wr => ∃ i : Int, v5 = .int .i64 i ∧ 0 ≤ i ∧ i ≤ a0.size ∧ Aside0 (firstNZ a0 top i.toNat = firstNZ a0 top (2 + 4 * n)) ∧ wr = w') (fun v5 _ => a0.size - (intOf v5).toNat)
        case atStart => exact ⟨2 + 4 * n, by simp, by omega, by omega, Aside0.mk (by congr 1), rfl⟩
        case round =>
          obtain ⟨i, rfl, hi0, hi, HF1, rfl⟩ := hrel
          by_cases hlt : i < top
          · have hx5 := bt_at a0 i
            have p5 := eq_true hi0
            have q5 := eq_true (show i < (a0.size : Int) by omega)
            by_cases hz : bt a0 i = 0
            · have hst := HF1.out
              rw [firstNZ, if_pos (by omega), if_neg (by rw [Int.toNat_of_nonneg hi0]; simp [hz])] at hst
              have HF2 := Aside0.mk hst
              clear hst
              rw [hz] at hx5
              go_wp2_with fail
              go_roundw
              case rel => exact ⟨i + 1, rfl, by omega, by omega, Aside0.mk (by rw [show (i + 1).toNat = i.toNat + 1 by omega]; exact HF2.out), trivial⟩
              case measure => simp [intOf]; omega
            · have hst := HF1.out
              rw [firstNZ, if_pos (by omega), if_pos (by rw [Int.toNat_of_nonneg hi0]; simpa using hz)] at hst
              have HF2 := Aside0.mk hst
              clear hst
              go_wp2_with fail
              refine HK.out _ _ _ ?_
              rw [hg]
              refine wrong_leaves_panic g _ (by rfl) (by rfl) w wr 0 0 i 12 HW.out.1 HW.out.2.1 HW.out.2.2 _ ?_
              intro W' hb
              have hx := HX3.out
              simp only [← HF2.out] at hx
              rw [Int.toNat_of_nonneg hi0] at hx
              cases hx
              exact ⟨rfl, hb⟩
          · have hst := HF1.out
            rw [firstNZ, if_neg (by omega)] at hst
            have HF2 := Aside0.mk hst
            clear hst
            go_wp2_with fail
            refine HK.out _ _ _ ?_
            rw [hg]
            refine wrong_leaves_ret g _ (by rfl) (by rfl) w _ a0.size 0 (blk_far (blk_set HW.out.1 0 _) (by simp) _) (blk_set (blk_far HW.out.2.1 (by simp) _) 0 _) ((HW.out.2.2.setCell (Nat.le_refl g) _).setCell (Nat.le_succ g) _) hg _ ?_
            intro W' hb
            have hx := HX3.out
            simp only [← HF2.out] at hx
            cases hx
            exact ⟨rfl, hb⟩
  · have hf := HZ.out
    rw [decide_eq_false hok] at hf
    have HF := Aside0.mk hf
    clear hf
    go_wp2_with ((go_at_call 53; refine (page_size.calls _ _ _ HF.out).mono ?_; rintro e w' ⟨rfl, ⟨nd, rfl⟩⟩; simp only [hg, hW]))
    refine HK.out _ _ _ ?_
    rw [hg]
    refine wrong_leaves_panic g _ (by rfl) (by rfl) w (W.drewN nd) 0 0 0 11 (blk_drewN HH.out.1 _) (blk_drewN HH.out.2 _) (pw_below_drewN HP1.out _) _ ?_
    intro W' hb
    have hx := HX.out
    unfold wrongS at hx
    rw [if_neg hok] at hx
    cases hx
    exact ⟨rfl, hb⟩

end Go.Proofs.Ytemglmcddaeedaa.PA

namespace Go.Proofs.Ytemglmcddaeedaa.PA
open Go.RowKit Go.Proofs.YtemglmcddaeedaaW.PrintWords Go.Proofs.YtemglmcddaeedaaW.PrintLast Go.Proofs.YtemglmcddaeedaaW.PrintMore
attribute [local go_sem] max2_int min2_int max_two min_two max_three min_three max_four min_four   -- for this text's walks alone
set_option linter.unusedVariables false
set_option linter.unusedSimpArgs false

/-! ### page_Valid: function 21 -/
def page_Valid.f (a0 : ByteArray) : Option (Bool) := (page_Wrong.f a0).bind fun bt136 => (some (bt136.2 == 0))
set_option maxHeartbeats 8000000 in
set_option maxRecDepth 100000 in
theorem page_Valid.calls (a0 : ByteArray) (r : Bool) (w : World) (h : page_Valid.f a0 = some r) :
    Calls Try.prog 21 #[.string a0] w fun e w' => e = .returned (.bool r) ∧ Below w.heap.size w w' := by
  have HB := Aside0.mk (Below.refl w.heap.size w)
  have H : ((page_Wrong.f a0).bind fun bt136 => (some (bt136.2 == 0))) = some r := h
  clear h
  replace H := Option.bind_eq_some_iff.mp H
  obtain ⟨⟨t136, t137⟩, A20, H⟩ := H
  replace H : (some (t137 == 0)) = some r := H
  have A2 := Aside0.mk A20
  clear A20
  obtain rfl := Option.some.inj H
  go_enter Try.func21, Try.ntmps21
  go_wp2_with (first | ((with_reducible refine gate_callee (f := 19) rfl ?_); refine goesL_ (some 7) rfl rfl Try.func19 (by kernel_rfl) rfl #[.string a0] rfl (by (try simp only [List.map_toArray, List.map_cons, List.map_nil]); first | done | rfl | (simp only [List.length_drop, List.length_take]; rfl)) ?_; (with_reducible refine (page_Wrong.calls a0 t136 t137 _ A2.out).mono ?_); rintro e w3 ⟨rfl, hb⟩; refine ⟨_, rfl, ?_⟩; have n0_ := Aside0.mk (below_step (by repeat (first | (with_reducible first | exact HB.out | apply below_alloc | apply pw_below_drewN | apply below_drew1) | exact HB.out)) hb); clear HB; have HB := n0_; clear n0_; (try clear hb); (try clear hb2); (try clear hk); (try clear hi)))
  go_ret
  exact ⟨by first | rfl | (simp [errW_none, errW_some] <;> rfl) | (simp [*, errW_none, errW_some] <;> rfl), by repeat (first | (with_reducible first | exact HB.out | apply below_alloc | apply pw_below_drewN | apply below_drew1) | exact HB.out)⟩

end Go.Proofs.Ytemglmcddaeedaa.PA

namespace Go.Proofs.Ytemglmcddaeedaa.PA
open Go.RowKit Go.Proofs.YtemglmcddaeedaaW.PrintWords Go.Proofs.YtemglmcddaeedaaW.PrintLast Go.Proofs.YtemglmcddaeedaaW.PrintMore
attribute [local go_sem] max2_int min2_int max_two min_two max_three min_three max_four min_four   -- for this text's walks alone
set_option linter.unusedVariables false
set_option linter.unusedSimpArgs false

/-! ### page_asked: function 65 -/
def page_asked.f (a0 : ByteArray) (a1 : Int) : Option (Int) := (page_Valid.f a0).bind fun t241 => (if t241 = true then ((page_line.f a1).bind fun t242 => (if t242 = true then (some 0) else (some 7))) else (some 1))
set_option maxHeartbeats 8000000 in
set_option maxRecDepth 100000 in
theorem page_asked.calls (a0 : ByteArray) (a1 : Int) (r : Int) (w : World) (h : page_asked.f a0 a1 = some r) :
    Calls Try.prog 65 #[.string a0, .int .i64 a1] w fun e w' => e = .returned (.int .i64 r) ∧ Below w.heap.size w w' := by
  have HB := Aside0.mk (Below.refl w.heap.size w)
  have H : ((page_Valid.f a0).bind fun t241 => (if t241 = true then ((page_line.f a1).bind fun t242 => (if t242 = true then (some 0) else (some 7))) else (some 1))) = some r := h
  clear h
  replace H := Option.bind_eq_some_iff.mp H
  obtain ⟨t241, A30, H⟩ := H
  replace H : (if t241 = true then ((page_line.f a1).bind fun t242 => (if t242 = true then (some 0) else (some 7))) else (some 1)) = some r := H
  have A3 := Aside0.mk A30
  clear A30
  by_cases c4 : t241 = true
  · subst c4
    have H1 : ((page_line.f a1).bind fun t242 => (if t242 = true then (some 0) else (some 7))) = some r := by rw [if_pos rfl] at H; exact H
    clear H
    have H := H1
    clear H1
    replace H := Option.bind_eq_some_iff.mp H
    obtain ⟨t242, A50, H⟩ := H
    replace H : (if t242 = true then (some 0) else (some 7)) = some r := H
    have A5 := Aside0.mk A50
    clear A50
    by_cases c6 : t242 = true
    · subst c6
      have H1 : (some 0) = some r := by rw [if_pos rfl] at H; exact H
      clear H
      have H := H1
      clear H1
      obtain rfl := Option.some.inj H
      go_enter Try.func65, Try.ntmps65
      go_wp2_with (first | ((with_reducible refine gate_callee (f := 21) rfl ?_); refine goesL_ (some 7) rfl rfl Try.func21 (by kernel_rfl) rfl #[.string a0] rfl (by (try simp only [List.map_toArray, List.map_cons, List.map_nil]); first | done | rfl | (simp only [List.length_drop, List.length_take]; rfl)) ?_; (with_reducible refine (page_Valid.calls a0 true _ A3.out).mono ?_); rintro e w7 ⟨rfl, hb⟩; refine ⟨_, rfl, ?_⟩; have n0_ := Aside0.mk (below_step (by repeat (first | (with_reducible first | exact HB.out | apply below_alloc | apply pw_below_drewN | apply below_drew1) | exact HB.out)) hb); clear HB; have HB := n0_; clear n0_; (try clear hb); (try clear hb2); (try clear hk); (try clear hi)) | ((with_reducible refine gate_callee (f := 52) rfl ?_); refine goesL_ (some 11) rfl rfl Try.func52 (by kernel_rfl) rfl #[.int .i64 a1] rfl (by (try simp only [List.map_toArray, List.map_cons, List.map_nil]); first | done | rfl | (simp only [List.length_drop, List.length_take]; rfl)) ?_; (with_reducible refine (page_line.calls a1 true _ A5.out).mono ?_); rintro e w' ⟨rfl, ⟨nd, rfl⟩⟩; refine ⟨_, rfl, ?_⟩))
      go_ret
      exact ⟨by first | rfl | (simp [errW_none, errW_some] <;> rfl) | (simp [*, errW_none, errW_some] <;> rfl), by repeat (first | (with_reducible first | exact HB.out | apply below_alloc | apply pw_below_drewN | apply below_drew1) | exact HB.out)⟩
    · replace c6 := Bool.eq_false_iff.mpr c6
      subst c6
      have H1 : (some 7) = some r := by rw [if_neg (show ¬ (false = true) by decide)] at H; exact H
      clear H
      have H := H1
      clear H1
      obtain rfl := Option.some.inj H
      go_enter Try.func65, Try.ntmps65
      go_wp2_with (first | ((with_reducible refine gate_callee (f := 21) rfl ?_); refine goesL_ (some 7) rfl rfl Try.func21 (by kernel_rfl) rfl #[.string a0] rfl (by (try simp only [List.map_toArray, List.map_cons, List.map_nil]); first | done | rfl | (simp only [List.length_drop, List.length_take]; rfl)) ?_; (with_reducible refine (page_Valid.calls a0 true _ A3.out).mono ?_); rintro e w8 ⟨rfl, hb⟩; refine ⟨_, rfl, ?_⟩; have n0_ := Aside0.mk (below_step (by repeat (first | (with_reducible first | exact HB.out | apply below_alloc | apply pw_below_drewN | apply below_drew1) | exact HB.out)) hb); clear HB; have HB := n0_; clear n0_; (try clear hb); (try clear hb2); (try clear hk); (try clear hi)) | ((with_reducible refine gate_callee (f := 52) rfl ?_); refine goesL_ (some 11) rfl rfl Try.func52 (by kernel_rfl) rfl #[.int .i64 a1] rfl (by (try simp only [List.map_toArray, List.map_cons, List.map_nil]); first | done | rfl | (simp only [List.length_drop, List.length_take]; rfl)) ?_; (with_reducible refine (page_line.calls a1 false _ A5.out).mono ?_); rintro e w' ⟨rfl, ⟨nd, rfl⟩⟩; refine ⟨_, rfl, ?_⟩))
      go_ret
      exact ⟨by first | rfl | (simp [errW_none, errW_some] <;> rfl) | (simp [*, errW_none, errW_some] <;> rfl), by repeat (first | (with_reducible first | exact HB.out | apply below_alloc | apply pw_below_drewN | apply below_drew1) | exact HB.out)⟩
  · replace c4 := Bool.eq_false_iff.mpr c4
    subst c4
    have H1 : (some 1) = some r := by rw [if_neg (show ¬ (false = true) by decide)] at H; exact H
    clear H
    have H := H1
    clear H1
    obtain rfl := Option.some.inj H
    go_enter Try.func65, Try.ntmps65
    go_wp2_with (first | ((with_reducible refine gate_callee (f := 21) rfl ?_); refine goesL_ (some 7) rfl rfl Try.func21 (by kernel_rfl) rfl #[.string a0] rfl (by (try simp only [List.map_toArray, List.map_cons, List.map_nil]); first | done | rfl | (simp only [List.length_drop, List.length_take]; rfl)) ?_; (with_reducible refine (page_Valid.calls a0 false _ A3.out).mono ?_); rintro e w9 ⟨rfl, hb⟩; refine ⟨_, rfl, ?_⟩; have n0_ := Aside0.mk (below_step (by repeat (first | (with_reducible first | exact HB.out | apply below_alloc | apply pw_below_drewN | apply below_drew1) | exact HB.out)) hb); clear HB; have HB := n0_; clear n0_; (try clear hb); (try clear hb2); (try clear hk); (try clear hi)))
    go_ret
    exact ⟨by first | rfl | (simp [errW_none, errW_some] <;> rfl) | (simp [*, errW_none, errW_some] <;> rfl), by repeat (first | (with_reducible first | exact HB.out | apply below_alloc | apply pw_below_drewN | apply below_drew1) | exact HB.out)⟩

end Go.Proofs.Ytemglmcddaeedaa.PA

namespace Go.Proofs.Ytemglmcddaeedaa.PA
open Go.RowKit Go.Proofs.YtemglmcddaeedaaW.PrintWords Go.Proofs.YtemglmcddaeedaaW.PrintLast Go.Proofs.YtemglmcddaeedaaW.PrintMore
attribute [local go_sem] max2_int min2_int max_two min_two max_three min_three max_four min_four   -- for this text's walks alone
set_option linter.unusedVariables false
set_option linter.unusedSimpArgs false

/-! ### page_edit: function 0 -/
/-! #### cells found, put, taken -/
theorem CellsOk_iff {l : List S45} : CellsOk l ↔ (∀ c ∈ l, 1 ≤ c.f0 ∧ c.f0 ≤ 200 ∧ 0 < c.f1.size) ∧ l.Pairwise (fun a b => a.f0 < b.f0) := by
  induction l with
  | nil => exact ⟨fun _ => ⟨by simp, List.Pairwise.nil⟩, fun _ => trivial⟩
  | cons c r ih =>
    constructor
    · intro h
      exact ⟨h.each, List.pairwise_cons.2 ⟨h.lt, (ih.1 h.tail).2⟩⟩
    · intro h
      have h2 := List.pairwise_cons.1 h.2
      exact CellsOk.mk (h.1 c (by simp)) h2.1 (ih.2 ⟨fun x hx => h.1 x (by simp [hx]), h2.2⟩)
theorem idx_split {l : List S45} (hok : CellsOk l) (n : Int) :
    (∀ x ∈ l.take (idxS l n), x.f0 < n) ∧ (∀ x ∈ l.drop (idxS l n), n ≤ x.f0) ∧
      (foundS l n = true → ∃ c, l[idxS l n]? = some c ∧ c.f0 = n) ∧ (foundS l n = false → ∀ x ∈ l.drop (idxS l n), n < x.f0) := by
  have h1 : ∀ x ∈ l.drop (idxS l n), n ≤ x.f0 := by
    intro x hx
    obtain ⟨j, hj, rfl⟩ := List.getElem_of_mem hx
    rw [List.getElem_drop]
    rw [List.length_drop] at hj
    have := idxS_spec hok n (idxS l n + j) (by omega)
    omega
  refine ⟨fun x hx => ?_, h1, fun hf => ?_, fun hf x hx => ?_⟩
  · obtain ⟨j, hj, rfl⟩ := List.getElem_of_mem hx
    rw [List.getElem_take]
    rw [List.length_take] at hj
    exact (idxS_spec hok n j (by omega)).2 (by omega)
  · unfold foundS at hf
    split at hf
    · rename_i c hc; exact ⟨c, hc, of_decide_eq_true hf⟩
    · cases hf
  · obtain ⟨j, hj, rfl⟩ := List.getElem_of_mem hx
    rw [List.length_drop] at hj
    have hlt : idxS l n < l.length := by omega
    unfold foundS at hf
    rw [List.getElem?_eq_getElem hlt] at hf
    have h0 : ¬ l[idxS l n].f0 = n := of_decide_eq_false hf
    have h2 : ¬ l[idxS l n].f0 < n := fun h => absurd ((idxS_spec hok n _ hlt).1 h) (Nat.lt_irrefl _)
    rw [List.getElem_drop]
    cases j with
    | zero => simp only [Nat.add_zero]; omega
    | succ j =>
      have hp := (CellsOk_iff.1 hok).2
      have := List.pairwise_iff_getElem.1 hp (idxS l n) (idxS l n + (j + 1)) hlt (by omega) (by omega)
      omega
/-- The cells with one more. -/
def insS (l : List S45) (n : Int) (d : ByteArray) : List S45 := l.take (idxS l n) ++ ⟨n, d⟩ :: l.drop (idxS l n)
def delS (l : List S45) (n : Int) : List S45 := l.take (idxS l n) ++ l.drop (idxS l n + 1)
def repS (l : List S45) (n : Int) (d : ByteArray) : List S45 := l.take (idxS l n) ++ ⟨n, d⟩ :: l.drop (idxS l n + 1)
theorem mem_take_drop {α : Type} {l : List α} {i j : Nat} {x : α} (h : x ∈ l.take i ∨ x ∈ l.drop j) : x ∈ l := by
  rcases h with h | h
  · exact List.mem_of_mem_take h
  · exact List.mem_of_mem_drop h
theorem ok_three {a b : List S45} {c : S45} (ha : CellsOk a) (hb : CellsOk b) (hc : 1 ≤ c.f0 ∧ c.f0 ≤ 200 ∧ 0 < c.f1.size) (h1 : ∀ x ∈ a, x.f0 < c.f0) (h2 : ∀ x ∈ b, c.f0 < x.f0) : CellsOk (a ++ c :: b) := by
  rw [CellsOk_iff] at ha hb ⊢
  refine ⟨fun x hx => ?_, ?_⟩
  · rcases List.mem_append.1 hx with h | h
    · exact ha.1 x h
    · rcases List.mem_cons.1 h with rfl | h
      · exact hc
      · exact hb.1 x h
  · refine List.pairwise_append.2 ⟨ha.2, List.pairwise_cons.2 ⟨h2, hb.2⟩, fun x hx y hy => ?_⟩
    rcases List.mem_cons.1 hy with rfl | hy
    · exact h1 x hx
    · have := h1 x hx; have := h2 y hy; omega
theorem ok_sub {l a : List S45} (h : CellsOk l) (hs : a.Sublist l) : CellsOk a := by
  rw [CellsOk_iff] at h ⊢
  exact ⟨fun x hx => h.1 x (hs.subset hx), h.2.sublist hs⟩
theorem insS_ok {l : List S45} (h : CellsOk l) {n : Int} {d : ByteArray} (hn : 1 ≤ n ∧ n ≤ 200) (hd : 0 < d.size) (hf : foundS l n = false) : CellsOk (insS l n d) := by
  have hs := idx_split h n
  exact ok_three (ok_sub h (List.take_sublist _ _)) (ok_sub h (List.drop_sublist _ _)) ⟨hn.1, hn.2, hd⟩ hs.1 (hs.2.2.2 hf)
theorem drop_succ_lt {l : List S45} (h : CellsOk l) {n : Int} (hf : foundS l n = true) : ∀ x ∈ l.drop (idxS l n + 1), n < x.f0 := by
  obtain ⟨c, hc, hcn⟩ := (idx_split h n).2.2.1 hf
  obtain ⟨hlt, he⟩ := List.getElem?_eq_some_iff.1 hc
  intro x hx
  obtain ⟨j, hj, rfl⟩ := List.getElem_of_mem hx
  rw [List.length_drop] at hj
  rw [List.getElem_drop]
  have := List.pairwise_iff_getElem.1 (CellsOk_iff.1 h).2 (idxS l n) (idxS l n + 1 + j) hlt (by omega) (by omega)
  rw [he] at this
  omega
theorem repS_ok {l : List S45} (h : CellsOk l) {n : Int} {d : ByteArray} (hn : 1 ≤ n ∧ n ≤ 200) (hd : 0 < d.size) (hf : foundS l n = true) : CellsOk (repS l n d) :=
  ok_three (ok_sub h (List.take_sublist _ _)) (ok_sub h (List.drop_sublist _ _)) ⟨hn.1, hn.2, hd⟩ (idx_split h n).1 (drop_succ_lt h hf)
theorem delS_ok {l : List S45} (h : CellsOk l) (n : Int) : CellsOk (delS l n) := by
  unfold delS
  refine ok_sub h ?_
  have : (l.take (idxS l n) ++ l.drop (idxS l n + 1)).Sublist (l.take (idxS l n) ++ l.drop (idxS l n)) :=
    List.Sublist.append (List.Sublist.refl _) (by rw [← List.drop_drop]; exact List.drop_sublist _ _)
  rwa [List.take_append_drop] at this
theorem bytes_sub {a l : List S45} (hs : a.Sublist l) : bytesL a ≤ bytesL l := by
  induction hs with
  | slnil => exact Nat.le_refl _
  | cons x _ ih => rw [bytesL_cons]; omega
  | cons_cons x _ ih => rw [bytesL_cons, bytesL_cons]; omega
theorem insS_bytes (l : List S45) (n : Int) (d : ByteArray) : bytesL (insS l n d) = bytesL l + d.size := by
  have h := bytesL_append (l.take (idxS l n)) (l.drop (idxS l n))
  rw [List.take_append_drop] at h
  unfold insS
  rw [bytesL_append, bytesL_cons]
  show _ + (d.size + _) = _
  omega
theorem repS_bytes (l : List S45) (n : Int) (d : ByteArray) : bytesL (repS l n d) ≤ bytesL l + d.size := by
  have h := bytesL_append (l.take (idxS l n)) (l.drop (idxS l n))
  rw [List.take_append_drop] at h
  have h2 : bytesL (l.drop (idxS l n + 1)) ≤ bytesL (l.drop (idxS l n)) := bytes_sub (by rw [← List.drop_drop]; exact List.drop_sublist _ _)
  unfold repS
  rw [bytesL_append, bytesL_cons]
  show _ + (d.size + _) ≤ _
  omega
theorem delS_bytes (l : List S45) (n : Int) : bytesL (delS l n) ≤ bytesL l := by
  have h := bytesL_append (l.take (idxS l n)) (l.drop (idxS l n))
  rw [List.take_append_drop] at h
  have h2 : bytesL (l.drop (idxS l n + 1)) ≤ bytesL (l.drop (idxS l n)) := bytes_sub (by rw [← List.drop_drop]; exact List.drop_sublist _ _)
  unfold delS
  rw [bytesL_append]
  omega
/-- What page.filled answers. -/
def filledS (n : Int) (l : List S45) : ByteArray × Int := if needsL l > n then (⟨#[]⟩, 13) else (strOfNums (builtL n.toNat l), 0)
theorem filled_f {n : Int} {l : List S45} (h0 : 32 ≤ n) (h1 : n ≤ 4096) (h : CellsOk l) (hb : bytesL l ≤ 1000000000000) : page_filled.f n l = some (filledS n l) := by
  unfold page_filled.f filledS
  rw [if_pos ⟨h0, h1, h, hb⟩]
  split <;> rfl
/-- The cells of a page. -/
def cellsP (p : ByteArray) : List S45 := cellsS p (twoS p 0).toNat
theorem cellsP_ok {p : ByteArray} (hv : validS p) : CellsOk (cellsP p) ∧ (cellsP p).length ≤ 200 ∧ bytesL (cellsP p) ≤ p.size ∧ 32 ≤ p.size ∧ p.size ≤ 4096 := by
  obtain ⟨g1, g2, g3, g4⟩ := valid_reads p hv
  obtain ⟨q1, q2, q3, q4, q5, _⟩ := validS_spec p hv
  have hl := cellsS_length p (twoS p 0).toNat
  have h0 := lastL_nonneg g1
  refine ⟨g1, ?_, ?_, q1, q2⟩
  · unfold cellsP; omega
  · unfold needsL at g2; unfold cellsP; omega
theorem asked_f (p : ByteArray) (n : Int) (h : p.size ≤ 100000) : page_asked.f p n = some (if validS p then (if 1 ≤ n ∧ n ≤ 200 then 0 else 7) else 1) := by
  have hV : page_Valid.f p = some (decide (validS p)) := by
    unfold page_Valid.f page_Wrong.f
    rw [if_pos h, Option.bind_some]
    unfold validS
    by_cases hw : (wrongS p).2 = 0
    · first | rw [if_pos hw, decide_eq_true hw] | simp [hw]
    · first | rw [if_neg hw, decide_eq_false hw] | simp [hw]
  have hL : page_line.f n = some (decide (1 ≤ n ∧ n ≤ 200)) := by
    unfold page_line.f
    by_cases h1 : 1 ≤ n <;> by_cases h2 : n ≤ 200 <;> simp [h1, h2] <;> omega
  unfold page_asked.f
  rw [hV, Option.bind_some, hL, Option.bind_some]
  by_cases hv : validS p <;> by_cases hn : 1 ≤ n ∧ n ≤ 200 <;> simp [hv, hn]

end Go.Proofs.Ytemglmcddaeedaa.PA

namespace Go.Proofs.Ytemglmcddaeedaa.PA
open Go.RowKit Go.Proofs.YtemglmcddaeedaaW.PrintWords Go.Proofs.YtemglmcddaeedaaW.PrintLast Go.Proofs.YtemglmcddaeedaaW.PrintMore
attribute [local go_sem] max2_int min2_int max_two min_two max_three min_three max_four min_four   -- for this text's walks alone
set_option linter.unusedVariables false
set_option linter.unusedSimpArgs false

/-! ### page_cells1: function 0 -/
set_option maxHeartbeats 4000000 in
set_option maxRecDepth 100000 in
theorem page_cells1_calls (p : ByteArray) (b : Nat) (ln off len : Int) (h0 : 0 ≤ off) (h1 : 0 ≤ len) (h2 : off + len ≤ p.size) (h3 : p.size ≤ 100000) (w : World) (hb : w.heap[b]? = some (.cells #[.string p] 9)) :
    Calls Try.prog 99 #[.agg #[.int .i64 ln, .int .i64 off, .int .i64 len], .pointer (some ⟨b, 0, none⟩)] w fun e w' => e = .returned (.agg #[.int .i64 ln, .string (p.extract off.toNat (off + len).toNat)]) ∧ Below w.heap.size w w' := by
  have hlt := blk_lt hb
  have hb' := blk_alloc (blk_alloc hb (.cells #[.int .i64 ln, .int .i64 off, .int .i64 len] 76)) (.cells #[.int .i64 0, .string ⟨#[]⟩] 45)
  have hc := blk_alloc (blk_new w (.cells #[.int .i64 ln, .int .i64 off, .int .i64 len] 76)) (.cells #[.int .i64 0, .string ⟨#[]⟩] 45)
  have hd := blk_new (w.alloc (.cells #[.int .i64 ln, .int .i64 off, .int .i64 len] 76)) (.cells #[.int .i64 0, .string ⟨#[]⟩] 45)
  have hB := below_alloc (below_alloc (Below.refl _ w) (.cells #[.int .i64 ln, .int .i64 off, .int .i64 len] 76)) (.cells #[.int .i64 0, .string ⟨#[]⟩] 45)
  obtain ⟨W, hW⟩ : ∃ W, (w.alloc (.cells #[.int .i64 ln, .int .i64 off, .int .i64 len] 76)).alloc (.cells #[.int .i64 0, .string ⟨#[]⟩] 45) = W := ⟨_, rfl⟩
  obtain ⟨g, hg⟩ : ∃ g, w.heap.size = g := ⟨_, rfl⟩
  simp only [World.size_alloc] at hd
  rw [hW] at hb' hc hd hB
  rw [hg] at hc hd hB hlt
  clear hb
  have HB := Aside0.mk (And.intro hd hB)
  have c1 := (blk_cell hb' 0).trans rfl
  have c2 := (blk_cell hc 0).trans rfl
  have c3 := (blk_cell hc 1).trans rfl
  have c4 := (blk_cell hc 2).trans rfl
  have c5 := (blk_cell hd 0).trans rfl
  have c6 := (blk_cell hd 1).trans rfl
  have f5 := blk_frozen hd 0
  have f6 := blk_frozen hd 1
  clear hb' hc hd hB
  have hx := IntWalk.i64_in (off + len) (by omega)
  have p1 := eq_true h0
  have p2 := eq_true (show off ≤ off + len by omega)
  have p3 := eq_true h2
  go_enter Try.func99, Try.ntmps99
  go_wp2_with fail
  go_still_tail 12, (by kernel_rfl)
  repeat go_step
  have k1 := blk_set (blk_set (blk_drew HB.out.1) 0 (.int .i64 ln)) 1 (.string (p.extract off.toNat (off + len).toNat))
  obtain ⟨W3, hW3⟩ : ∃ W3, ((W.setCell ⟨g + 1, 0, none⟩ (.int .i64 ln)).setCell ⟨g + 1, 1, none⟩ (.string (p.extract off.toNat (off + len).toNat))).drew = W3 := ⟨_, rfl⟩
  have d1 : W3.cell? ⟨g + 1, 0, none⟩ = some (.int .i64 ln) := by rw [← hW3]; exact (blk_cell k1 0).trans rfl
  have d2 : W3.cell? ⟨g + 1, 1, none⟩ = some (.string (p.extract off.toNat (off + len).toNat)) := by rw [← hW3]; exact (blk_cell k1 1).trans rfl
  have d3 : Below g w W3 := by rw [← hW3]; exact ((HB.out.2.drew).setCell (Nat.le_succ g) _).setCell (Nat.le_succ g) _
  rw [hW3]
  refine ⟨rfl, .agg #[.int .i64 ln, .string (p.extract off.toNat (off + len).toNat)], ?_, rfl, hg ▸ d3⟩
  simp [results, Try.results99, go_sem, d1, d2]

end Go.Proofs.Ytemglmcddaeedaa.PA

namespace Go.Proofs.Ytemglmcddaeedaa.PA
open Go.RowKit Go.Proofs.YtemglmcddaeedaaW.PrintWords Go.Proofs.YtemglmcddaeedaaW.PrintLast Go.Proofs.YtemglmcddaeedaaW.PrintMore
attribute [local go_sem] max2_int min2_int max_two min_two max_three min_three max_four min_four   -- for this text's walks alone
set_option linter.unusedVariables false
set_option linter.unusedSimpArgs false

/-! ### page_gcell: function 0 -/
attribute [local go_sem] Oper.semAt_some
theorem R_is_slice {α : Type} {d : Kd α} {e : Nat} {w : World} {base : Nat} {ok : Nat → Prop} {v : Value} {xs : List α} (h : Kd.R d e w base ok v xs) : ∃ A n c, v = .slice A n c := by
  obtain ⟨_, inner, ho, _⟩ := h
  rcases ho.2 with ⟨rfl, _⟩ | ⟨g, cap, cur, rfl, _⟩
  · exact ⟨_, _, _, rfl⟩
  · exact ⟨_, _, _, rfl⟩
set_option maxHeartbeats 4000000 in
set_option maxRecDepth 100000 in
theorem page_gcell_calls (p : ByteArray) (n : Nat) (hn : twoS p 0 = n) (hs : 2 + 4 * n ≤ p.size) (hs2 : p.size ≤ 100000) (pb : Nat) (w : World) (hpb : w.heap[pb]? = some (.cells #[.string p] 9))
    (hgood : ∀ i : Nat, i < n → 0 < twoS p (4 + 4 * (i : Int)) → twoS p (2 + 4 * (i : Int)) + twoS p (4 + 4 * (i : Int)) ≤ p.size) :
    Calls Try.prog 98 #[.string p, .func (.func 99) #[] #[.pointer (some ⟨pb, 0, none⟩)]] w fun e w' => ∃ v, e = .returned v ∧ Kd.R k45 45 w' w.heap.size (fun _ => True) v (cellsS p n) ∧ Below w.heap.size w w' := by
  refine calls_of_wpX Try.func98 rfl ?_
  simp only [Try.ntmps98, List.size_toArray, List.length_cons, List.length_nil, Nat.reduceAdd, Nat.reduceSub, Array.replicate_succ, Array.replicate_zero, List.push_toArray, List.append_toArray, List.nil_append, List.cons_append]
  obtain ⟨R, hR⟩ : ∃ R : Ending → World → Prop, (fun e w' => ∃ v, e = .returned v ∧ Kd.R k45 45 w' w.heap.size (fun _ => True) v (cellsS p n) ∧ Below w.heap.size w w') = R := ⟨_, rfl⟩
  rw [hR]
  have HR := Aside0.mk hR
  clear hR
  refine wpX_seq_k ?_
  intro K hK
  go_wp2_with fail
  refine wpX_seq_k ?_
  intro K hK
  go_wp2_with fail
  refine wpX_seq_x ?_
  intro K0 hK0
  refine wpX_seq_k ?_
  intro K hK
  go_wp2_with (go_at_call 106; refine (page_slots_calls p _).mono ?_; rintro e w1 ⟨rfl, rfl⟩)
  obtain ⟨g, hg⟩ : ∃ g, w.heap.size = g := ⟨_, rfl⟩
  obtain ⟨W0, hW⟩ : ∃ W, (((w.alloc (.cells #[.func (.func 99) #[] #[.pointer (some ⟨pb, 0, none⟩)]] 121)).alloc (.cells #[.slice none 0 0] 22)).alloc (.cells #[.string p] 9)) = W := ⟨_, rfl⟩
  have hsz : W0.heap.size = g + 3 := by rw [← hW, ← hg]; simp
  have hB0 : Below w.heap.size w W0 := by rw [← hW]; exact below_alloc (below_alloc (below_alloc (Below.refl _ w) _) _) _
  have h1 : W0.heap[g]? = some (.cells #[.func (.func 99) #[] #[.pointer (some ⟨pb, 0, none⟩)]] 121) := by rw [← hW, ← hg]; exact blk_alloc (blk_alloc (blk_new _ _) _) _
  have h2 : W0.heap[g + 1]? = some (.cells #[.slice none 0 0] 22) := by
    rw [← hW, ← hg]; have := blk_alloc (blk_new (w.alloc (.cells #[.func (.func 99) #[] #[.pointer (some ⟨pb, 0, none⟩)]] 121)) (.cells #[.slice none 0 0] 22)) (.cells #[.string p] 9); simpa using this
  have h3 : W0.heap[g + 2]? = some (.cells #[.string p] 9) := by
    rw [← hW, ← hg]; have := blk_new ((w.alloc (.cells #[.func (.func 99) #[] #[.pointer (some ⟨pb, 0, none⟩)]] 121)).alloc (.cells #[.slice none 0 0] 22)) (.cells #[.string p] 9); simpa using this
  simp only [hg, hW, Nat.add_assoc, Nat.reduceAdd]
  rw [hg] at HR hB0
  have hplt : pb < g := by rw [← hg]; exact blk_lt hpb
  have HPB := Aside0.mk hpb
  clear hW hpb
  refine wpX_block ?_
  refine wpX_range (gf := 125) (lb := #[.pointer (some ⟨g + 2, 0, none⟩)]) (xs := (List.range n).map (slotV p)) (Kp := fun W => W.cell? ⟨g + 2, 0, none⟩ = some (.string p)) rfl (fun _ _ => rfl) (slots1_iter p n hn hs hs2 _) (by simp [slotV])
    (fun i W => ∃ v, Kd.R k45 45 W g (fun k => g + 4 < k) v (cellsS p i) ∧ Below g w W ∧ W.heap[g]? = some (.cells #[.func (.func 99) #[] #[.pointer (some ⟨pb, 0, none⟩)]] 121) ∧ W.heap[g + 1]? = some (.cells #[v] 22) ∧ W.heap[g + 2]? = some (.cells #[.string p] 9))
    (fun i a₁ W => ∃ v b, Kd.R k45 45 W g (fun k => g + 4 < k) v (cellsS p i) ∧ Below g w W ∧ W.heap[g]? = some (.cells #[.func (.func 99) #[] #[.pointer (some ⟨pb, 0, none⟩)]] 121) ∧ W.heap[g + 1]? = some (.cells #[v] 22) ∧ W.heap[g + 2]? = some (.cells #[.string p] 9) ∧ g + 4 < b ∧
      W.heap[b]? = some (.cells #[.int .i64 ((i : Int) + 1), .int .i64 (twoS p (2 + 4 * (i : Int))), .int .i64 (twoS p (4 + 4 * (i : Int)))] 76) ∧
      a₁ = { tmps := #[.string p, .func (.func 99) #[] #[.pointer (some ⟨pb, 0, none⟩)], undef, .pointer (some ⟨g, 0, none⟩), .slice none 0 0, .pointer (some ⟨g + 1, 0, none⟩), .pointer (some ⟨b, 0, none⟩), .string p, .func (.func 125) #[] #[.pointer (some ⟨g + 2, 0, none⟩)], .agg #[.int .i64 ((i : Int) + 1), .int .i64 (twoS p (2 + 4 * (i : Int))), .int .i64 (twoS p (4 + 4 * (i : Int)))]] ++ Array.replicate 10 undef, defers := [] })
    (fun _ _ => False) (fun _ _ => False)
    ?_ ?_ ?_ ?_ ?_ ?_ ?_ ?_ ?_ ?_ ?_ ?_ ?_
  all_goals try simp only [hsz, Nat.add_assoc, Nat.reduceAdd]
  case refine_1 =>
    rintro i W o o' ⟨v, e1, e2, e3, e4, e5⟩ -
    exact ⟨v, Kd.R_step e1 (fun k hk _ => World.putObj_heap_other (by omega)), below_putObj e2 (by omega) _, blk_putObj e3 (by omega), blk_putObj e4 (by omega), blk_putObj e5 (by omega)⟩
  case refine_2 =>
    rintro i a₁ W o o' ⟨v, b, e1, e2, e3, e4, e5, e7, e8, e9⟩ -
    exact ⟨v, b, Kd.R_step e1 (fun k hk _ => World.putObj_heap_other (by omega)), below_putObj e2 (by omega) _, blk_putObj e3 (by omega), blk_putObj e4 (by omega), blk_putObj e5 (by omega), e7, blk_putObj e8 (by omega), e9⟩
  case refine_3 => exact fun _ _ _ _ h => h.elim
  case refine_4 =>
    rintro i W m ⟨v, e1, e2, e3, e4, e5⟩
    exact ⟨v, Kd.R_drewN e1 m, pw_below_drewN e2 m, e3, e4, e5⟩
  case refine_5 => exact fun _ _ _ h => h.elim
  case refine_6 => exact fun _ _ _ h => h.elim
  case refine_7 =>
    rintro i W ⟨v, e1, e2, e3, e4, e5⟩
    exact (blk_cell e5 0).trans rfl
  case refine_8 =>
    intro rec
    exact ⟨_, Kd.R_nil _ _ _ _ _, hg ▸ below_alloc (hg ▸ below_alloc (hg ▸ hB0) _) _, blk_alloc (blk_alloc h1 _) _, blk_alloc (blk_alloc h2 _) _, blk_alloc (blk_alloc h3 _) _⟩
  case refine_9 =>
    rintro i v W hv ⟨v1, e1, e2, e3, e4, e5⟩ hlt
    refine wpIn_hide ?_
    intro Q HQ
    have HR1 := Aside0.mk (And.intro HQ.out hv)
    clear HQ hv
    have hvv : v = slotV p i := by
      rcases List.getElem?_eq_some_iff.1 HR1.out.2 with ⟨q1, q2⟩
      rw [← q2]; simp
    subst hvv
    unfold slotV
    simp only [List.zip_toArray, List.zip_cons_cons, List.zip_nil_right, List.size_toArray, List.length_cons, List.length_nil, Nat.reduceAdd, List.foldl_toArray', List.foldl_cons, List.foldl_nil]
    gi_wp2_with fail
    refine HR1.out.1 _ _ _ ⟨⟨v1, W.heap.size, Kd.R_alloc e1 _, hg ▸ below_alloc (hg ▸ e2) _, blk_alloc e3 _, blk_alloc e4 _, blk_alloc e5 _, hlt, blk_new _ _, ?_⟩, ?_, ?_⟩
    · simp [Array.replicate_succ]
    · exact Below.heap_alloc _ _ _ hlt
    · exact Below.heap_alloc _ _ _ (by omega)
  case refine_10 =>
    rintro i v a₁ W hv ⟨v1, b, e1, e2, e3, e4, e5, e7, e8, rfl⟩ hlt
    clear hK0 h1 h2 h3 hB0 hsz
    simp only [Array.replicate_succ, Array.replicate_zero, List.push_toArray, List.append_toArray, List.nil_append, List.cons_append]
    refine wpIn_hideN (by rintro a w ⟨_, _, h⟩; exact h) ?_
    intro Q HQ HN
    have HPB := HPB.out
    clear HR
    have hx := twoS_range p (2 + 4 * (i : Int))
    have hy := twoS_range p (4 + 4 * (i : Int))
    have hi : i < n := by
      have := (List.getElem?_eq_some_iff.1 hv).1
      simpa using this
    have hgd := hgood i hi
    have hlen := cellsS_length p i
    have hcs : cellsS p (i + 1) = if 0 < twoS p (4 + 4 * (i : Int)) then cellsS p i ++ [⟨(i : Int) + 1, p.extract (twoS p (2 + 4 * (i : Int))).toNat (twoS p (2 + 4 * (i : Int)) + twoS p (4 + 4 * (i : Int))).toNat⟩] else cellsS p i := rfl
    have c1 := (blk_cell e3 0).trans rfl
    have c2 := (blk_cell e4 0).trans rfl
    have c3 := (blk_cell e8 0).trans rfl
    have c4 := (blk_cell e8 1).trans rfl
    have c5 := (blk_cell e8 2).trans rfl
    have f2 := blk_frozen e4 0
    have hown := e1.1
    have HB := Aside0.mk (And.intro e1 (And.intro e2 (And.intro e3 (And.intro e4 e5))))
    have hblt := blk_lt e8
    have hbe := Below.block e2
    have hpbW : W.heap[pb]? = some (.cells #[.string p] 9) := (e2.block pb hplt).trans HPB
    have HP := Aside0.mk hpbW
    clear e1 e2 e3 e4 e5 e8 hgood hv hpbW hbe HPB
    obtain ⟨x, HX⟩ : ∃ x, twoS p (2 + 4 * (i : Int)) = x := ⟨_, rfl⟩
    obtain ⟨y, HY⟩ : ∃ y, twoS p (4 + 4 * (i : Int)) = y := ⟨_, rfl⟩
    simp only [HX, HY] at hx hy c4 c5 hgd hcs ⊢
    clear HX HY
    by_cases hy0 : 0 < y
    · rw [if_pos hy0] at hcs
      have HCS := Aside0.mk hcs
      replace hgd := hgd hy0
      clear hcs
      gi_wp2_with fail
      refine round_region_any (by kernel_rfl) (by kernel_rfl) (fun a w h => HN.out _ _ h) ?_
      change wpAny _ _ _ _ _ _ _ (World.drew _)
      all_goals first
        | refine wpAny_ready (rs := [0, 1, 2]) (by decide +kernel) (by simp) ?_
        | refine wpAny_ready (rs := [1, 2]) (by decide +kernel) (by simp) ?_
        | refine wpAny_ready (rs := [0, 2]) (by decide +kernel) (by simp) ?_
        | refine wpAny_ready (rs := [0, 1]) (by decide +kernel) (by simp) ?_
        | refine wpAny_ready (rs := [2]) (by decide +kernel) (by simp) ?_
        | refine wpAny_ready (rs := [1]) (by decide +kernel) (by simp) ?_
        | refine wpAny_ready (rs := [0, 3]) (by decide +kernel) (by simp) ?_
        | refine wpAny_ready (rs := [3]) (by decide +kernel) (by simp) ?_
        | refine wpAny_ready (rs := [0, 4]) (by decide +kernel) (by simp) ?_
        | refine wpAny_ready (rs := [4]) (by decide +kernel) (by simp) ?_
        | refine wpAny_ready (rs := [0]) (by decide +kernel) (by simp) ?_
        | refine wpAny_ready (rs := [5]) (by decide +kernel) (by simp) ?_
        | refine wpAny_ready (rs := [6]) (by decide +kernel) (by simp) ?_
      all_goals repeat' (first | exact AllReady.nil | refine AllReady.cons rfl (fun K hK => ?_) ?_)
      all_goals first
        | (go_simp
           first
           | (refine hK _ _ ?_
              clear hK K)
           | (go_at_call 99
              refine (page_cells1_calls p pb _ x y hx.1 (by omega) hgd hs2 _ (blk_drew HP.out)).mono ?_
              rintro e w' ⟨rfl, hcb⟩
              have g2 := blk_below (blk_drew HB.out.2.2.2.1) hcb
              have d1 := (blk_cell g2 0).trans rfl
              have d2 := blk_frozen g2 0
              have d5 := blk_lt g2
              have HW := Aside0.mk (And.intro (Kd.R_below (Kd.R_drew HB.out.1) hcb) (And.intro (below_then HB.out.2.1.drew (by have := hblt; simp; omega) hcb) (And.intro g2 (Nat.lt_of_lt_of_le hblt hcb.size))))
              have HW2 := Aside0.mk hcb
              clear g2 hcb
              refine hK _ _ ?_
              clear hK K))
      all_goals first
        | refine wpAny_ready (rs := [0, 1, 2]) (by decide +kernel) (by simp) ?_
        | refine wpAny_ready (rs := [1, 2]) (by decide +kernel) (by simp) ?_
        | refine wpAny_ready (rs := [0, 2]) (by decide +kernel) (by simp) ?_
        | refine wpAny_ready (rs := [0, 1]) (by decide +kernel) (by simp) ?_
        | refine wpAny_ready (rs := [2]) (by decide +kernel) (by simp) ?_
        | refine wpAny_ready (rs := [1]) (by decide +kernel) (by simp) ?_
        | refine wpAny_ready (rs := [0, 3]) (by decide +kernel) (by simp) ?_
        | refine wpAny_ready (rs := [3]) (by decide +kernel) (by simp) ?_
        | refine wpAny_ready (rs := [0, 4]) (by decide +kernel) (by simp) ?_
        | refine wpAny_ready (rs := [4]) (by decide +kernel) (by simp) ?_
        | refine wpAny_ready (rs := [0]) (by decide +kernel) (by simp) ?_
        | refine wpAny_ready (rs := [5]) (by decide +kernel) (by simp) ?_
        | refine wpAny_ready (rs := [6]) (by decide +kernel) (by simp) ?_
      all_goals repeat' (first | exact AllReady.nil | refine AllReady.cons rfl (fun K hK => ?_) ?_)
      all_goals first
        | (go_simp
           first
           | (refine hK _ _ ?_
              clear hK K)
           | (go_at_call 99
              refine (page_cells1_calls p pb _ x y hx.1 (by omega) hgd hs2 _ (blk_drew HP.out)).mono ?_
              rintro e w' ⟨rfl, hcb⟩
              have g2 := blk_below (blk_drew HB.out.2.2.2.1) hcb
              have d1 := (blk_cell g2 0).trans rfl
              have d2 := blk_frozen g2 0
              have d5 := blk_lt g2
              have HW := Aside0.mk (And.intro (Kd.R_below (Kd.R_drew HB.out.1) hcb) (And.intro (below_then HB.out.2.1.drew (by have := hblt; simp; omega) hcb) (And.intro g2 (Nat.lt_of_lt_of_le hblt hcb.size))))
              have HW2 := Aside0.mk hcb
              clear g2 hcb
              refine hK _ _ ?_
              clear hK K))
      all_goals first
        | refine wpAny_ready (rs := [0, 1, 2]) (by decide +kernel) (by simp) ?_
        | refine wpAny_ready (rs := [1, 2]) (by decide +kernel) (by simp) ?_
        | refine wpAny_ready (rs := [0, 2]) (by decide +kernel) (by simp) ?_
        | refine wpAny_ready (rs := [0, 1]) (by decide +kernel) (by simp) ?_
        | refine wpAny_ready (rs := [2]) (by decide +kernel) (by simp) ?_
        | refine wpAny_ready (rs := [1]) (by decide +kernel) (by simp) ?_
        | refine wpAny_ready (rs := [0, 3]) (by decide +kernel) (by simp) ?_
        | refine wpAny_ready (rs := [3]) (by decide +kernel) (by simp) ?_
        | refine wpAny_ready (rs := [0, 4]) (by decide +kernel) (by simp) ?_
        | refine wpAny_ready (rs := [4]) (by decide +kernel) (by simp) ?_
        | refine wpAny_ready (rs := [0]) (by decide +kernel) (by simp) ?_
        | refine wpAny_ready (rs := [5]) (by decide +kernel) (by simp) ?_
        | refine wpAny_ready (rs := [6]) (by decide +kernel) (by simp) ?_
      all_goals repeat' (first | exact AllReady.nil | refine AllReady.cons rfl (fun K hK => ?_) ?_)
      all_goals first
        | (go_simp
           first
           | (refine hK _ _ ?_
              clear hK K)
           | (go_at_call 99
              refine (page_cells1_calls p pb _ x y hx.1 (by omega) hgd hs2 _ (blk_drew HP.out)).mono ?_
              rintro e w' ⟨rfl, hcb⟩
              have g2 := blk_below (blk_drew HB.out.2.2.2.1) hcb
              have d1 := (blk_cell g2 0).trans rfl
              have d2 := blk_frozen g2 0
              have d5 := blk_lt g2
              have HW := Aside0.mk (And.intro (Kd.R_below (Kd.R_drew HB.out.1) hcb) (And.intro (below_then HB.out.2.1.drew (by have := hblt; simp; omega) hcb) (And.intro g2 (Nat.lt_of_lt_of_le hblt hcb.size))))
              have HW2 := Aside0.mk hcb
              clear g2 hcb
              refine hK _ _ ?_
              clear hK K))
      all_goals first
        | refine wpAny_ready (rs := [0, 1, 2]) (by decide +kernel) (by simp) ?_
        | refine wpAny_ready (rs := [1, 2]) (by decide +kernel) (by simp) ?_
        | refine wpAny_ready (rs := [0, 2]) (by decide +kernel) (by simp) ?_
        | refine wpAny_ready (rs := [0, 1]) (by decide +kernel) (by simp) ?_
        | refine wpAny_ready (rs := [2]) (by decide +kernel) (by simp) ?_
        | refine wpAny_ready (rs := [1]) (by decide +kernel) (by simp) ?_
        | refine wpAny_ready (rs := [0, 3]) (by decide +kernel) (by simp) ?_
        | refine wpAny_ready (rs := [3]) (by decide +kernel) (by simp) ?_
        | refine wpAny_ready (rs := [0, 4]) (by decide +kernel) (by simp) ?_
        | refine wpAny_ready (rs := [4]) (by decide +kernel) (by simp) ?_
        | refine wpAny_ready (rs := [0]) (by decide +kernel) (by simp) ?_
        | refine wpAny_ready (rs := [5]) (by decide +kernel) (by simp) ?_
        | refine wpAny_ready (rs := [6]) (by decide +kernel) (by simp) ?_
      all_goals repeat' (first | exact AllReady.nil | refine AllReady.cons rfl (fun K hK => ?_) ?_)
      all_goals first
        | (go_simp
           first
           | (refine hK _ _ ?_
              clear hK K)
           | (go_at_call 99
              refine (page_cells1_calls p pb _ x y hx.1 (by omega) hgd hs2 _ (blk_drew HP.out)).mono ?_
              rintro e w' ⟨rfl, hcb⟩
              have g2 := blk_below (blk_drew HB.out.2.2.2.1) hcb
              have d1 := (blk_cell g2 0).trans rfl
              have d2 := blk_frozen g2 0
              have d5 := blk_lt g2
              have HW := Aside0.mk (And.intro (Kd.R_below (Kd.R_drew HB.out.1) hcb) (And.intro (below_then HB.out.2.1.drew (by have := hblt; simp; omega) hcb) (And.intro g2 (Nat.lt_of_lt_of_le hblt hcb.size))))
              have HW2 := Aside0.mk hcb
              clear g2 hcb
              refine hK _ _ ?_
              clear hK K))
      all_goals first
        | refine wpAny_ready (rs := [0, 1, 2]) (by decide +kernel) (by simp) ?_
        | refine wpAny_ready (rs := [1, 2]) (by decide +kernel) (by simp) ?_
        | refine wpAny_ready (rs := [0, 2]) (by decide +kernel) (by simp) ?_
        | refine wpAny_ready (rs := [0, 1]) (by decide +kernel) (by simp) ?_
        | refine wpAny_ready (rs := [2]) (by decide +kernel) (by simp) ?_
        | refine wpAny_ready (rs := [1]) (by decide +kernel) (by simp) ?_
        | refine wpAny_ready (rs := [0, 3]) (by decide +kernel) (by simp) ?_
        | refine wpAny_ready (rs := [3]) (by decide +kernel) (by simp) ?_
        | refine wpAny_ready (rs := [0, 4]) (by decide +kernel) (by simp) ?_
        | refine wpAny_ready (rs := [4]) (by decide +kernel) (by simp) ?_
        | refine wpAny_ready (rs := [0]) (by decide +kernel) (by simp) ?_
        | refine wpAny_ready (rs := [5]) (by decide +kernel) (by simp) ?_
        | refine wpAny_ready (rs := [6]) (by decide +kernel) (by simp) ?_
      all_goals repeat' (first | exact AllReady.nil | refine AllReady.cons rfl (fun K hK => ?_) ?_)
      all_goals first
        | (go_simp
           first
           | (refine hK _ _ ?_
              clear hK K)
           | (go_at_call 99
              refine (page_cells1_calls p pb _ x y hx.1 (by omega) hgd hs2 _ (blk_drew HP.out)).mono ?_
              rintro e w' ⟨rfl, hcb⟩
              have g2 := blk_below (blk_drew HB.out.2.2.2.1) hcb
              have d1 := (blk_cell g2 0).trans rfl
              have d2 := blk_frozen g2 0
              have d5 := blk_lt g2
              have HW := Aside0.mk (And.intro (Kd.R_below (Kd.R_drew HB.out.1) hcb) (And.intro (below_then HB.out.2.1.drew (by have := hblt; simp; omega) hcb) (And.intro g2 (Nat.lt_of_lt_of_le hblt hcb.size))))
              have HW2 := Aside0.mk hcb
              clear g2 hcb
              refine hK _ _ ?_
              clear hK K))
      all_goals first
        | refine wpAny_ready (rs := [0, 1, 2]) (by decide +kernel) (by simp) ?_
        | refine wpAny_ready (rs := [1, 2]) (by decide +kernel) (by simp) ?_
        | refine wpAny_ready (rs := [0, 2]) (by decide +kernel) (by simp) ?_
        | refine wpAny_ready (rs := [0, 1]) (by decide +kernel) (by simp) ?_
        | refine wpAny_ready (rs := [2]) (by decide +kernel) (by simp) ?_
        | refine wpAny_ready (rs := [1]) (by decide +kernel) (by simp) ?_
        | refine wpAny_ready (rs := [0, 3]) (by decide +kernel) (by simp) ?_
        | refine wpAny_ready (rs := [3]) (by decide +kernel) (by simp) ?_
        | refine wpAny_ready (rs := [0, 4]) (by decide +kernel) (by simp) ?_
        | refine wpAny_ready (rs := [4]) (by decide +kernel) (by simp) ?_
        | refine wpAny_ready (rs := [0]) (by decide +kernel) (by simp) ?_
        | refine wpAny_ready (rs := [5]) (by decide +kernel) (by simp) ?_
        | refine wpAny_ready (rs := [6]) (by decide +kernel) (by simp) ?_
      all_goals repeat' (first | exact AllReady.nil | refine AllReady.cons rfl (fun K hK => ?_) ?_)
      all_goals first
        | (refine Kd.R_append_step k45 (w0 := w) g (by rfl) (.tmp 13) (.tmp 17) 22 45 (.agg #[.int .i64 0, .string ⟨#[]⟩]) 24 rfl Try.underlying22 info45 rfl (by decide) (by omega) v1 (cellsS p i) ⟨(i : Int) + 1, p.extract x.toNat (x + y).toNat⟩ [.int .i64 ((i : Int) + 1), .string (p.extract x.toNat (x + y).toNat)] (fun k => g + 4 < k) (fun _ => False) rfl rfl (k45_mkM _ _ _ _) (fun _ hk => hk.elim) ?aF ?aO ?aB ?aS ?aL ?_
           case aF => exact fun k hk => Nat.lt_of_lt_of_le (Nat.lt_trans e7 HW.out.2.2.2) hk
           case aO => exact HW.out.1
           case aB => exact HW.out.2.1
           case aS => exact Nat.le_of_lt (Nat.lt_trans (by omega) HW.out.2.2.2)
           case aL => omega
           intro v2 w2 hr2 hb2 hg2 hat2
           obtain ⟨A2, l2, c2_, rfl⟩ := R_is_slice hr2
           have g3 := blk_grown HW.out.2.2.1 hg2 (by intro h; have := hown _ h.symm; omega)
           have d3 := (blk_cell g3 0).trans rfl
           have d4 := blk_frozen g3 0
           have HZ := Aside0.mk (And.intro hr2 (And.intro hb2 (And.intro g3 (And.intro hg2 hat2))))
           clear hr2 hb2 g3 hg2 hat2
           refine hK _ _ ?_
           clear hK K)
      all_goals first
        | refine wpAny_ready (rs := [0, 1, 2]) (by decide +kernel) (by simp) ?_
        | refine wpAny_ready (rs := [1, 2]) (by decide +kernel) (by simp) ?_
        | refine wpAny_ready (rs := [0, 2]) (by decide +kernel) (by simp) ?_
        | refine wpAny_ready (rs := [0, 1]) (by decide +kernel) (by simp) ?_
        | refine wpAny_ready (rs := [2]) (by decide +kernel) (by simp) ?_
        | refine wpAny_ready (rs := [1]) (by decide +kernel) (by simp) ?_
        | refine wpAny_ready (rs := [0, 3]) (by decide +kernel) (by simp) ?_
        | refine wpAny_ready (rs := [3]) (by decide +kernel) (by simp) ?_
        | refine wpAny_ready (rs := [0, 4]) (by decide +kernel) (by simp) ?_
        | refine wpAny_ready (rs := [4]) (by decide +kernel) (by simp) ?_
        | refine wpAny_ready (rs := [0]) (by decide +kernel) (by simp) ?_
        | refine wpAny_ready (rs := [5]) (by decide +kernel) (by simp) ?_
        | refine wpAny_ready (rs := [6]) (by decide +kernel) (by simp) ?_
      all_goals repeat' (first | exact AllReady.nil | refine AllReady.cons rfl (fun K hK => ?_) ?_)
      all_goals
        go_simp
        refine hK _ _ ?_
        clear hK K
      all_goals refine wpAny_done (by decide +kernel) ?_ _
      all_goals
        refine HQ.out _ _ _ ⟨?_, ?_, .slice A2 l2 c2_, by rw [HCS.out]; exact Kd.R_far HZ.out.1 (fun k hk => by simp; omega) _, HZ.out.2.1.setCell (by simp) _, ?_, blk_set HZ.out.2.2.1 0 _, ?_⟩
        · exact (Below.heap_setCell _ _ _ _ (by simp)).trans ((HZ.out.2.2.2.1.block _ (Nat.lt_of_lt_of_le (by simpa using hlt) HW2.out.size) (by intro h; have := hown _ h.symm; omega)).trans (HW2.out.block _ (by simpa using hlt)))
        · exact (Below.heap_setCell _ _ _ _ (by simp)).trans ((HZ.out.2.2.2.1.block _ (Nat.lt_of_lt_of_le (show g + 3 < W.heap.size by omega) HW2.out.size) (by intro h; have := hown _ h.symm; omega)).trans (HW2.out.block _ (show g + 3 < W.heap.size by omega)))
        · exact blk_far (blk_grown (blk_below (blk_drew HB.out.2.2.1) HW2.out) HZ.out.2.2.2.1 (by intro h; have := hown _ h.symm; omega)) (by simp) _
        · exact blk_far (blk_grown (blk_below (blk_drew HB.out.2.2.2.2) HW2.out) HZ.out.2.2.2.1 (by intro h; have := hown _ h.symm; omega)) (by simp) _
    · rw [if_neg hy0] at hcs
      have HCS := Aside0.mk hcs
      clear hcs hgd
      gi_wp2_with fail
      refine HQ.out _ _ _ ⟨rfl, rfl, v1, by rw [HCS.out]; exact HB.out.1, HB.out.2.1, HB.out.2.2.1, HB.out.2.2.2.1, HB.out.2.2.2.2⟩
  case refine_11 =>
    rintro W ⟨v, e1, e2, e3, e4, e5⟩ hD
    refine hK0 _ _ ?_
    clear hK0
    refine wpX_of_wp ?_
    have c1 := (blk_cell e4 0).trans rfl
    have HB := Aside0.mk e2
    have HS := Aside0.mk e1
    have HD := Aside0.mk hD
    clear e1 e2 e3 e4 e5 hD h1 h2 h3
    go_wp2_with fail
    refine leavesM_ret HD.out (fun _ => results_tmp rfl _ _ _) ?_
    rw [← HR.out]
    have h8 := HS.out
    simp only [List.length_map, List.length_range] at h8
    exact ⟨v, rfl, Kd.R_mono (Kd.R_step h8 (fun k hk _ => World.putObj_heap_other (by omega))) (fun _ _ => trivial), below_putObj HB.out (by omega) _⟩
  case refine_12 => exact fun _ _ h => h.elim
  case refine_13 => exact fun _ _ h => h.elim

end Go.Proofs.Ytemglmcddaeedaa.PA

namespace Go.Proofs.Ytemglmcddaeedaa.PA
open Go.RowKit Go.Proofs.YtemglmcddaeedaaW.PrintWords Go.Proofs.YtemglmcddaeedaaW.PrintLast Go.Proofs.YtemglmcddaeedaaW.PrintMore
attribute [local go_sem] max2_int min2_int max_two min_two max_three min_three max_four min_four   -- for this text's walks alone
set_option linter.unusedVariables false
set_option linter.unusedSimpArgs false

/-! ### page_cells: function 49 -/
def page_cells.f (a0 : ByteArray) : Option (List S45) := if validS a0 then some (cellsS a0 (twoS a0 0).toNat) else none
set_option maxHeartbeats 4000000 in
set_option maxRecDepth 100000 in
theorem page_cells.calls (a0 : ByteArray) (r : List S45) (w : World) (h : page_cells.f a0 = some r) :
    Calls Try.prog 49 #[.string a0] w fun e w' => ∃ v0_ : Value, e = .returned (v0_) ∧ Kd.R k45 45 w' w.heap.size (fun _ => True) v0_ r ∧ Below w.heap.size w w' := by
  unfold page_cells.f at h
  split at h
  rotate_left
  · cases h
  rename_i hv
  obtain rfl := Option.some.inj h
  clear h
  obtain ⟨q1, q2, q3, q4, q5, top, q6, q7⟩ := validS_spec a0 hv
  have hr := twoS_range a0 0
  obtain ⟨n, hn⟩ : ∃ n : Nat, twoS a0 0 = n := ⟨(twoS a0 0).toNat, by omega⟩
  rw [hn, Int.toNat_natCast] at q6
  have hb := blk_new w (.cells #[.string a0] 9)
  have HG := Aside0.mk (page_gcell_calls a0 n hn (by omega) (by omega) w.heap.size (w.alloc (.cells #[.string a0] 9)) hb (fun i hi hy => (entriesS_good a0 n top q6 i hi hy).2))
  have HN := Aside0.mk hn
  clear hn hr q6 q7 hv hb
  go_enter Try.func49, Try.ntmps49
  go_wp2_with (go_at_call 98; refine HG.out.mono ?_; rintro e w' ⟨v, rfl, hr1, hb1⟩)
  go_ret
  rw [HN.out, Int.toNat_natCast]
  exact ⟨v, rfl, Kd.R_lower hr1 (by simp), below_then (below_alloc (Below.refl _ w) _) (by simp) hb1⟩

end Go.Proofs.Ytemglmcddaeedaa.PA

namespace Go.Proofs.Ytemglmcddaeedaa.PA
open Go.RowKit Go.Proofs.YtemglmcddaeedaaW.PrintWords Go.Proofs.YtemglmcddaeedaaW.PrintLast Go.Proofs.YtemglmcddaeedaaW.PrintMore
attribute [local go_sem] max2_int min2_int max_two min_two max_three min_three max_four min_four   -- for this text's walks alone
set_option linter.unusedVariables false
set_option linter.unusedSimpArgs false

/-! ### page_Get: function 32 -/
def getS (p : ByteArray) (n : Int) : ByteArray × Int :=
  if validS p then (if 1 ≤ n ∧ n ≤ 200 then (if foundS (cellsP p) n then ((rd_T45 (cellsP p) (idxS (cellsP p) n)).f1, 0) else (⟨#[]⟩, 8)) else (⟨#[]⟩, 7)) else (⟨#[]⟩, 1)
def page_Get.f (a0 : ByteArray) (a1 : Int) : Option (ByteArray × Int) := if a0.size ≤ 100000 then some (getS a0 a1) else none
theorem cells_f {p : ByteArray} (hv : validS p) : page_cells.f p = some (cellsP p) := by unfold page_cells.f; rw [if_pos hv]; rfl
theorem found_lt {l : List S45} {n : Int} (h : foundS l n = true) : idxS l n < l.length := by
  unfold foundS at h
  split at h
  · rename_i c hc; exact (List.getElem?_eq_some_iff.1 hc).1
  · cases h
set_option maxHeartbeats 4000000 in
set_option maxRecDepth 100000 in
theorem page_Get.calls (a0 : ByteArray) (a1 : Int) (r1 : ByteArray) (r2 : Int) (w : World) (h : page_Get.f a0 a1 = some (r1, r2)) :
    Calls Try.prog 32 #[.string a0, .int .i64 a1] w fun e w' => e = .returned (.tuple #[.string r1, .int .i64 r2]) ∧ Below w.heap.size w w' := by
  unfold page_Get.f at h
  split at h
  rotate_left
  · cases h
  rename_i hs
  have HA := Aside0.mk (asked_f a0 a1 hs)
  have h := Option.some.inj h
  unfold getS at h
  by_cases hv : validS a0
  · rw [if_pos hv] at h
    rw [if_pos hv] at HA
    by_cases hn : 1 ≤ a1 ∧ a1 ≤ 200
    · rw [if_pos hn] at h
      rw [if_pos hn] at HA
      obtain ⟨k1, k2, k3, k4, k5⟩ := cellsP_ok hv
      have HK := Aside0.mk (And.intro k1 k2)
      have HCF := Aside0.mk (cells_f hv)
      have HFL := Aside0.mk (fun h => found_lt (l := cellsP a0) (n := a1) h)
      obtain ⟨l, hl⟩ : ∃ l, cellsP a0 = l := ⟨_, rfl⟩
      rw [hl] at h HK HCF HFL
      obtain ⟨ix, hix⟩ : ∃ ix, idxS l a1 = ix := ⟨_, rfl⟩
      rw [hix] at h HFL
      have HIX := Aside0.mk hix
      clear k1 k2 k3 hl hix
      by_cases hf : foundS l a1 = true
      · rw [if_pos hf] at h
        obtain ⟨rfl, rfl⟩ := Prod.mk.inj h
        clear h
        have hlt := HFL.out hf
        have HF := Aside0.mk hf
        clear hf
        go_enter Try.func32, Try.ntmps32
        go_wp2_with (go_at_call 65; refine (page_asked.calls a0 a1 0 _ HA.out).mono ?_; rintro e w1 ⟨rfl, hb1⟩)
        go_wp2_with (go_at_call 49; refine (page_cells.calls a0 l _ HCF.out).mono ?_; rintro e w2 ⟨v, rfl, hR, hb2⟩)
        have HB := Aside0.mk (below_then hb1 hb1.size hb2)
        obtain ⟨A, c, rfl, hc, hC⟩ := Kd.R_reads hR
        obtain ⟨ad, e1, hx0, hx1⟩ := at_T45 hC (ix : Int) (by omega) (by omega)
        cases e1
        simp only [Int.toNat_natCast] at hx0 hx1
        obtain ⟨X, hX⟩ : ∃ X, rd_T45 l (ix : Int) = X := ⟨_, rfl⟩
        rw [hX] at hx0 hx1
        have HX := Aside0.mk hX
        have hll := HK.out.2
        clear hR hX hb1 hb2
        go_wp2_with (go_at_call 66; refine (find_calls l (some ad) c a1 _ HK.out.1 (by omega) (by omega) hC).mono ?_; rw [HF.out, HIX.out]; rintro e w3 ⟨rfl, hb3⟩; have hy1 := (hb3.cell (World.block_lt_of_cell? w2 _ hx1)).trans hx1; have HB3 := Aside0.mk hb3; clear hb3)
        go_ret2
        rw [HX.out]
        exact ⟨rfl, below_then HB.out HB.out.size HB3.out⟩
      · have hf0 := Bool.eq_false_iff.2 hf
        rw [hf0, if_neg (by decide)] at h
        obtain ⟨rfl, rfl⟩ := Prod.mk.inj h
        clear h hf
        have HF := Aside0.mk hf0
        clear hf0
        go_enter Try.func32, Try.ntmps32
        go_wp2_with (go_at_call 65; refine (page_asked.calls a0 a1 0 _ HA.out).mono ?_; rintro e w1 ⟨rfl, hb1⟩)
        go_wp2_with (go_at_call 49; refine (page_cells.calls a0 l _ HCF.out).mono ?_; rintro e w2 ⟨v, rfl, hR, hb2⟩)
        have HB := Aside0.mk (below_then hb1 hb1.size hb2)
        obtain ⟨A, c, rfl, hc, hC⟩ := Kd.R_reads hR
        have hll := HK.out.2
        clear hR hb1 hb2
        go_wp2_with (go_at_call 66; refine (find_calls l A c a1 _ HK.out.1 (by omega) (by omega) hC).mono ?_; rw [HF.out, HIX.out]; rintro e w3 ⟨rfl, hb3⟩; have HB3 := Aside0.mk hb3; clear hb3)
        go_ret2
        exact ⟨rfl, below_then HB.out HB.out.size HB3.out⟩
    · rw [if_neg hn] at h
      rw [if_neg hn] at HA
      obtain ⟨rfl, rfl⟩ := Prod.mk.inj h
      clear h hn hv
      go_enter Try.func32, Try.ntmps32
      go_wp2_with (go_at_call 65; refine (page_asked.calls a0 a1 7 _ HA.out).mono ?_; rintro e w1 ⟨rfl, hb1⟩)
      go_ret2
      exact ⟨rfl, hb1⟩
  · rw [if_neg hv] at h
    rw [if_neg hv] at HA
    obtain ⟨rfl, rfl⟩ := Prod.mk.inj h
    clear h hv
    go_enter Try.func32, Try.ntmps32
    go_wp2_with (go_at_call 65; refine (page_asked.calls a0 a1 1 _ HA.out).mono ?_; rintro e w1 ⟨rfl, hb1⟩)
    go_ret2
    exact ⟨rfl, hb1⟩

end Go.Proofs.Ytemglmcddaeedaa.PA

namespace Go.Proofs.Ytemglmcddaeedaa.PA
open Go.RowKit Go.Proofs.YtemglmcddaeedaaW.PrintWords Go.Proofs.YtemglmcddaeedaaW.PrintLast Go.Proofs.YtemglmcddaeedaaW.PrintMore
attribute [local go_sem] max2_int min2_int max_two min_two max_three min_three max_four min_four   -- for this text's walks alone
set_option linter.unusedVariables false
set_option linter.unusedSimpArgs false

/-! ### page_PutAt: function 35 -/
def putAtS (p : ByteArray) (n : Int) (d : ByteArray) : ByteArray × Int :=
  if d.size = 0 then (⟨#[]⟩, 1) else if validS p then (if 1 ≤ n ∧ n ≤ 200 then (if foundS (cellsP p) n = true then (⟨#[]⟩, 6) else filledS p.size (insS (cellsP p) n d)) else (⟨#[]⟩, 7)) else (⟨#[]⟩, 1)
def page_PutAt.f (a0 : ByteArray) (a1 : Int) (a2 : ByteArray) : Option (ByteArray × Int) := if a0.size ≤ 100000 ∧ a2.size ≤ 100000 then some (putAtS a0 a1 a2) else none
set_option maxHeartbeats 1000000 in
set_option maxRecDepth 100000 in
theorem page_PutAt.calls (a0 : ByteArray) (a1 : Int) (a2 : ByteArray) (r1 : ByteArray) (r2 : Int) (w : World) (h : page_PutAt.f a0 a1 a2 = some (r1, r2)) :
    Calls Try.prog 35 #[.string a0, .int .i64 a1, .string a2] w fun e w' => e = .returned (.tuple #[.string r1, .int .i64 r2]) ∧ Below w.heap.size w w' := by
  unfold page_PutAt.f at h
  split at h
  rotate_left
  · cases h
  rename_i hs
  have HA := Aside0.mk (asked_f a0 a1 hs.1)
  have h := Option.some.inj h
  unfold putAtS at h
  by_cases hd : a2.size = 0
  · rw [if_pos hd] at h
    obtain ⟨rfl, rfl⟩ := Prod.mk.inj h
    have e1 := (toList_nil a2).2 hd
    clear h hd
    go_enter Try.func35, Try.ntmps35
    go_wp2
    go_ret2
    exact ⟨rfl, Below.refl _ _⟩
  rw [if_neg hd] at h
  have e1 : ¬ a2.toList = [] := fun e => hd ((toList_nil a2).1 e)
  have e2 : a2.toList.isEmpty = false := by simpa using e1
  have hd0 : 0 < a2.size := by omega
  by_cases hv : validS a0
  rotate_left
  · rw [if_neg hv] at h
    rw [if_neg hv] at HA
    obtain ⟨rfl, rfl⟩ := Prod.mk.inj h
    clear h hv
    go_enter Try.func35, Try.ntmps35
    go_wp2_with (go_at_call 65; refine (page_asked.calls a0 a1 1 _ HA.out).mono ?_; rintro e w1 ⟨rfl, hb1⟩)
    go_ret2
    exact ⟨rfl, hb1⟩
  rw [if_pos hv] at h
  rw [if_pos hv] at HA
  by_cases hn : 1 ≤ a1 ∧ a1 ≤ 200
  rotate_left
  · rw [if_neg hn] at h
    rw [if_neg hn] at HA
    obtain ⟨rfl, rfl⟩ := Prod.mk.inj h
    clear h hn hv
    go_enter Try.func35, Try.ntmps35
    go_wp2_with (go_at_call 65; refine (page_asked.calls a0 a1 7 _ HA.out).mono ?_; rintro e w1 ⟨rfl, hb1⟩)
    go_ret2
    exact ⟨rfl, hb1⟩
  rw [if_pos hn] at h
  rw [if_pos hn] at HA
  obtain ⟨k1, k2, k3, k4, k5⟩ := cellsP_ok hv
  have HCF := Aside0.mk (cells_f hv)
  obtain ⟨l, hl⟩ : ∃ l, cellsP a0 = l := ⟨_, rfl⟩
  rw [hl] at h HCF k1 k2 k3
  have HK := Aside0.mk (And.intro k1 k2)
  have hll := k2
  clear hl hv
  by_cases hf : foundS l a1 = true
  · rw [if_pos hf] at h
    have HF := Aside0.mk hf
    obtain ⟨rfl, rfl⟩ := Prod.mk.inj h
    obtain ⟨ix, hix⟩ : ∃ ix, idxS l a1 = ix := ⟨_, rfl⟩
    have HIX := Aside0.mk hix
    clear h hf hix k1 k3 hs hd
    go_enter Try.func35, Try.ntmps35
    go_wp2_with (go_at_call 65; refine (page_asked.calls a0 a1 0 _ HA.out).mono ?_; rintro e w1 ⟨rfl, hb1⟩)
    go_wp2_with (go_at_call 49; refine (page_cells.calls a0 l _ HCF.out).mono ?_; rintro e w2 ⟨v, rfl, hR, hb2⟩)
    have HB := Aside0.mk (below_then hb1 hb1.size hb2)
    obtain ⟨A, c, rfl, hc, hC⟩ := Kd.R_reads hR
    have HC := Aside0.mk hC
    clear hR hb1 hb2 hC
    go_wp2_with (go_at_call 66; refine (find_calls l A c a1 _ HK.out.1 (by omega) (by omega) HC.out).mono ?_; rw [HF.out, HIX.out]; rintro e w3 ⟨rfl, hb3⟩)
    go_ret2
    exact ⟨rfl, below_then HB.out HB.out.size hb3⟩
  · have hf0 := Bool.eq_false_iff.2 hf
    rw [hf0, if_neg (by decide)] at h
    have HF := Aside0.mk hf0
    obtain ⟨M, hM⟩ : ∃ M, insS l a1 a2 = M := ⟨_, rfl⟩
    have hMo : CellsOk M := by rw [← hM]; exact insS_ok k1 hn hd0 hf0
    have hMb : bytesL M ≤ 1000000000000 := by rw [← hM]; have hb := insS_bytes l a1 a2; have hs1 := hs; omega
    have HM := Aside0.mk (show page_filled.f (a0.size : Int) M = some (r1, r2) by rw [filled_f (by omega) (by omega) hMo hMb, ← hM]; exact congrArg some h)
    have HMD := Aside0.mk hM
    have HLT := Aside0.mk (fun h => found_lt (l := l) (n := a1) h)
    obtain ⟨ix, hix⟩ : ∃ ix, idxS l a1 = ix := ⟨_, rfl⟩
    have HIX := Aside0.mk hix
    have HIL := Aside0.mk (idxS_le l a1)
    clear h hf hM hMo hMb k1 k3 hix hs hd
    go_enter Try.func35, Try.ntmps35
    go_wp2_with (go_at_call 65; refine (page_asked.calls a0 a1 0 _ HA.out).mono ?_; rintro e w1 ⟨rfl, hb1⟩)
    go_wp2_with (go_at_call 49; refine (page_cells.calls a0 l _ HCF.out).mono ?_; rintro e w2 ⟨v, rfl, hR, hb2⟩)
    have HB := Aside0.mk (below_then hb1 hb1.size hb2)
    have HR := Aside0.mk hR
    obtain ⟨A, c, rfl, hc, hC⟩ := Kd.R_reads hR
    have HC := Aside0.mk hC
    clear hR hC
    go_wp2_with fail
    refine (find_calls l A c a1 _ HK.out.1 (by omega) (by omega) HC.out).mono ?_
    rw [HF.out, HIX.out]
    rintro e w3 ⟨rfl, hb3⟩
    have HR3 := Aside0.mk (Kd.R_below (Kd.R_lower HR.out (base' := w.heap.size) (by have := hb1.size; omega)) hb3)
    have HB3 := Aside0.mk (below_then HB.out HB.out.size hb3)
    have HL3 := Aside0.mk (fun k hk => own_lt (Kd.R_own HR3.out).choose_spec k hk)
    clear hb1 hb2 hb3
    have HDM := Aside0.mk (show l.take ix ++ (⟨a1, a2⟩ : S45) :: l.drop ix = M by rw [← HIX.out]; exact HMD.out)
    have hix2 : ix ≤ l.length := by rw [← HIX.out]; exact HIL.out
    go_wp2_with fail
    refine (insert_calls l ix hix2 ⟨a1, a2⟩ _ _ w.heap.size w3.heap.size (by omega) (by have := HB3.out.size; simp; omega) (Kd.R_below HR3.out (below_alloc (Below.refl _ w3) _)) (blk_new w3 _) (fun e => Nat.lt_irrefl _ (HL3.out _ e.symm))).mono ?_
    rintro e w4 ⟨v4, rfl, hR4, hB4⟩
    rw [HDM.out] at hR4
    obtain ⟨A9, c9, rfl, hc9, hC9⟩ := Kd.R_reads hR4
    have HC9 := Aside0.mk hC9
    have HB4 := Aside0.mk ((below_alloc HB3.out (.cells (cv ⟨a1, a2⟩).toArray 45)).trans hB4)
    clear hR4 hB4 hC9 HR3
    go_wp2_with fail
    refine (page_filled.calls (a0.size : Int) A9 c9 M r1 r2 _ HC9.out hc9 HM.out).mono ?_
    rintro e w9 ⟨rfl, hb9⟩
    go_wp2
    go_ret2
    exact ⟨rfl, below_then HB4.out HB4.out.size hb9⟩

end Go.Proofs.Ytemglmcddaeedaa.PA

namespace Go.Proofs.Ytemglmcddaeedaa.PA
open Go.RowKit Go.Proofs.YtemglmcddaeedaaW.PrintWords Go.Proofs.YtemglmcddaeedaaW.PrintLast Go.Proofs.YtemglmcddaeedaaW.PrintMore
attribute [local go_sem] max2_int min2_int max_two min_two max_three min_three max_four min_four   -- for this text's walks alone
set_option linter.unusedVariables false
set_option linter.unusedSimpArgs false

/-! ### page_vcall: function 0 -/
theorem valid_call (p : ByteArray) (h : p.size ≤ 100000) : page_Valid.f p = some (decide (validS p)) := by
  unfold page_Valid.f page_Wrong.f validS
  rw [if_pos h, Option.bind_some]
  congr 1

end Go.Proofs.Ytemglmcddaeedaa.PA

namespace Go.Proofs.Ytemglmcddaeedaa.PA
open Go.RowKit Go.Proofs.YtemglmcddaeedaaW.PrintWords Go.Proofs.YtemglmcddaeedaaW.PrintLast Go.Proofs.YtemglmcddaeedaaW.PrintMore
attribute [local go_sem] max2_int min2_int max_two min_two max_three min_three max_four min_four   -- for this text's walks alone
set_option linter.unusedVariables false
set_option linter.unusedSimpArgs false

/-! ### page_Free: function 25 -/
set_option maxRecDepth 100000 in
theorem quantities_calls (w : World) : Calls Try.prog 63 #[] w fun e w' => e = .returned (.agg #[.func (.func 107) #[] #[], .func (.func 108) #[] #[]]) ∧ Below w.heap.size w w' := by
  have hd := blk_new w (.cells #[.nilFunc, .nilFunc] 78)
  have hB := below_alloc (Below.refl _ w) (.cells #[.nilFunc, .nilFunc] 78)
  obtain ⟨W, hW⟩ : ∃ W, w.alloc (.cells #[.nilFunc, .nilFunc] 78) = W := ⟨_, rfl⟩
  obtain ⟨g, hg⟩ : ∃ g, w.heap.size = g := ⟨_, rfl⟩
  rw [hW] at hd hB
  rw [hg] at hd hB
  have HB := Aside0.mk (And.intro hd hB)
  have c5 := (blk_cell hd 0).trans rfl
  have c6 := (blk_cell hd 1).trans rfl
  have f5 := blk_frozen hd 0
  have f6 := blk_frozen hd 1
  have s1 : ∀ x p W, (store p (.func x #[] #[])).run Try.prog W = stored Try.prog W p (.func x #[] #[]) .plain := fun x p W => run_store Try.prog W p _ .plain rfl
  clear hd hB
  go_enter Try.func63, Try.ntmps63
  go_wp2_with fail
  have k1 := blk_set (blk_set HB.out.1 0 (.func (.func 107) #[] #[])) 1 (.func (.func 108) #[] #[])
  obtain ⟨W3, hW3⟩ : ∃ W3, ((W.setCell ⟨g, 0, none⟩ (.func (.func 107) #[] #[])).setCell ⟨g, 1, none⟩ (.func (.func 108) #[] #[])) = W3 := ⟨_, rfl⟩
  have d1 : W3.cell? ⟨g, 0, none⟩ = some (.func (.func 107) #[] #[]) := by rw [← hW3]; exact (blk_cell k1 0).trans rfl
  have d2 : W3.cell? ⟨g, 1, none⟩ = some (.func (.func 108) #[] #[]) := by rw [← hW3]; exact (blk_cell k1 1).trans rfl
  have d3 : Below g w W3 := by rw [← hW3]; exact (HB.out.2.setCell (Nat.le_refl g) _).setCell (Nat.le_refl g) _
  rw [hW3]
  refine ⟨rfl, .agg #[.func (.func 107) #[] #[], .func (.func 108) #[] #[]], ?_, rfl, hg ▸ d3⟩
  simp [results, Try.results63, go_sem, d1, d2]
def page_Free.f (a0 : ByteArray) : Option (Int × Int) := if a0.size ≤ 100000 then some (if validS a0 then ((a0.size : Int) - needsL (cellsS a0 (twoS a0 0).toNat), 0) else (0, 1)) else none
set_option maxRecDepth 100000 in
set_option maxHeartbeats 4000000 in
theorem quantities1_calls (n : Int) (A : Option Addr) (c : Nat) (l : List S45) (w : World) (hr : Kd.C k45 w A l.length l) (hc : l.length ≤ c) (hn : 0 ≤ n ∧ n ≤ 100000) (ho : CellsOk l) (hf : needsL l ≤ n) :
    Calls Try.prog 107 #[.int .i64 n, .slice A l.length c] w fun e w' => e = .returned (.int .i64 (n - needsL l)) ∧ Below w.heap.size w w' := by
  have h0 := lastL_nonneg ho
  have HF := Aside0.mk (needs_f ho (by unfold needsL at hf; omega))
  have HR := Aside0.mk hr
  clear hr
  have hnd : 0 ≤ needsL l := by unfold needsL; omega
  obtain ⟨nd, hN⟩ : ∃ nd, needsL l = nd := ⟨_, rfl⟩
  rw [hN] at HF hnd hf ⊢
  clear hN ho h0
  go_enter Try.func107, Try.ntmps107
  go_wp2_with (go_at_call 102; refine (page_needs.calls A c l nd _ HR.out hc HF.out).mono ?_; rintro e w1 ⟨rfl, hb1⟩)
  go_ret
  exact ⟨rfl, hb1⟩
set_option maxRecDepth 100000 in
set_option maxHeartbeats 4000000 in
theorem page_Free.calls (a0 : ByteArray) (r1 r2 : Int) (w : World) (h : page_Free.f a0 = some (r1, r2)) :
    Calls Try.prog 25 #[.string a0] w fun e w' => e = .returned (.tuple #[.int .i64 r1, .int .i64 r2]) ∧ Below w.heap.size w w' := by
  unfold page_Free.f at h
  split at h
  rotate_left
  · cases h
  rename_i hs
  have hv := valid_call a0 hs
  by_cases hval : validS a0
  · rw [if_pos hval] at h
    rw [decide_eq_true hval] at hv
    obtain ⟨rfl, rfl⟩ := Prod.mk.inj (Option.some.inj h)
    clear h
    obtain ⟨q1, q2, q3, q4, q5, _⟩ := validS_spec a0 hval
    obtain ⟨g1, g2, g3, g4⟩ := valid_reads a0 hval
    have hcf : page_cells.f a0 = some (cellsS a0 (twoS a0 0).toNat) := by unfold page_cells.f; rw [if_pos hval]
    generalize cellsS a0 (twoS a0 0).toNat = l at *
    have HC := Aside0.mk hcf
    have HV := Aside0.mk hv
    have HG := Aside0.mk (And.intro g1 g2)
    clear hv hval hcf g1 g2 g3 g4
    have hix : ∀ x y W, (Instr.index 78 (.agg #[x, y]) (.int .i64 0)).run Try.prog W = .ok x W := fun x y W => by kernel_rfl
    go_enter Try.func25, Try.ntmps25
    go_wp2_with (first
      | (go_at_call 21; refine (page_Valid.calls a0 true _ HV.out).mono ?_; rintro e w1 ⟨rfl, hb1⟩)
      | (go_at_call 63; refine (quantities_calls w1).mono ?_; rintro e w2 ⟨rfl, hb2⟩)
      | (go_at_call 49; refine (page_cells.calls a0 l w2 HC.out).mono ?_; rintro e w3 ⟨v, rfl, hr3, hb3⟩; obtain ⟨A, c, rfl, hcl, hC⟩ := Kd.R_reads hr3)
      | (go_at_call 107; refine (quantities1_calls a0.size A c l w3 hC hcl (by omega) HG.out.1 HG.out.2).mono ?_; rintro e w4 ⟨rfl, hb4⟩))
    go_ret2
    exact ⟨rfl, below_step (below_step (below_step hb1 hb2) hb3) hb4⟩
  · rw [if_neg hval] at h
    rw [decide_eq_false hval] at hv
    obtain ⟨rfl, rfl⟩ := Prod.mk.inj (Option.some.inj h)
    clear h
    have HV := Aside0.mk hv
    clear hv hval
    go_enter Try.func25, Try.ntmps25
    go_wp2_with (go_at_call 21; refine (page_Valid.calls a0 false _ HV.out).mono ?_; rintro e w1 ⟨rfl, hb1⟩)
    go_ret2
    exact ⟨rfl, hb1⟩

end Go.Proofs.Ytemglmcddaeedaa.PA

namespace Go.Proofs.Ytemglmcddaeedaa.PA
open Go.RowKit Go.Proofs.YtemglmcddaeedaaW.PrintWords Go.Proofs.YtemglmcddaeedaaW.PrintLast Go.Proofs.YtemglmcddaeedaaW.PrintMore
attribute [local go_sem] max2_int min2_int max_two min_two max_three min_three max_four min_four   -- for this text's walks alone
set_option linter.unusedVariables false
set_option linter.unusedSimpArgs false

/-! ### page_Next: function 27 -/
/-- The least free line of cells in order. -/
def leastL (l : List S45) : Int := l.foldl (fun n c => if c.f0 = n then n + 1 else n) 1
theorem leastL_snoc (l : List S45) (c : S45) : leastL (l ++ [c]) = if c.f0 = leastL l then leastL l + 1 else leastL l := by
  unfold leastL; rw [List.foldl_append]; rfl
theorem leastL_range (l : List S45) (i : Nat) (hi : i ≤ l.length) : 1 ≤ leastL (l.take i) ∧ leastL (l.take i) ≤ i + 1 := by
  induction i with
  | zero => simp [leastL]
  | succ i ih =>
    have := ih (by omega)
    rw [take_snoc l i (by omega), leastL_snoc]
    split <;> omega
def page_Next.f (a0 : ByteArray) : Option (Int × Int) := if a0.size ≤ 100000 then some (if validS a0 then (if leastL (cellsS a0 (twoS a0 0).toNat) > 200 then (0, 13) else (leastL (cellsS a0 (twoS a0 0).toNat), 0)) else (0, 1)) else none
set_option maxRecDepth 100000 in
set_option maxHeartbeats 4000000 in
theorem quantities2_calls (n : Int) (A : Option Addr) (c : Nat) (l : List S45) (w : World) (hr : Kd.C k45 w A l.length l) (hc : l.length ≤ c) (hl : l.length ≤ 100000) :
    Calls Try.prog 108 #[.int .i64 n, .slice A l.length c] w fun e w' => e = .returned (.int .i64 (leastL l)) ∧ Below w.heap.size w w' := by
  have HR := Aside0.mk hr
  clear hr
  have hl' : (l.length : Int) ≤ 100000 := by omega
  go_enter Try.func108, Try.ntmps108
  go_wp2_with fail
  go_loopw [5, 10] (fun v5 v10 wr => ∃ i : Nat, i ≤ l.length ∧ v5 = .int .i64 (leastL (l.take i)) ∧ v10 = .int .i64 (i : Int) ∧ Aside0 (Below w.heap.size w wr)) (fun _ v10 _ => l.length - (intOf v10).toNat)
  case atStart => exact ⟨0, by omega, by simp [leastL], by simp, Aside0.mk (Below.refl _ w)⟩
  case round =>
    obtain ⟨i, hi, rfl, rfl, HB⟩ := hrel
    by_cases hlt : i < l.length
    · obtain ⟨ad, e1, hy0, hy1⟩ := at_T45 HR.out (i : Int) (by omega) (by omega)
      cases e1
      rw [rd_get l i hlt] at hy0 hy1
      replace hy0 := (HB.out.cell (World.block_lt_of_cell? w _ hy0)).trans hy0
      replace hy1 := (HB.out.cell (World.block_lt_of_cell? w _ hy1)).trans hy1
      simp only [Int.toNat_natCast] at hy0 hy1
      have hrg := leastL_range l i (by omega)
      have hsn := leastL_snoc (l.take i) l[i]
      rw [← take_snoc l i hlt] at hsn
      have HS := Aside0.mk hsn
      clear hsn
      obtain ⟨X, hX⟩ : ∃ X, l[i] = X := ⟨_, rfl⟩
      rw [hX] at hy0 hy1 HS
      obtain ⟨M, hM⟩ : ∃ M, leastL (l.take i) = M := ⟨_, rfl⟩
      rw [hM] at HS hrg
      simp only [hM]
      clear hX hM
      have hlt' : (i : Int) < l.length := by omega
      by_cases hq : X.f0 = M
      · go_wp2_with fail
        go_roundw
        case rel => exact ⟨i + 1, by omega, by rw [HS.out, if_pos hq], by go_num, Aside0.mk (below_alloc HB.out _)⟩
        case measure => simp [intOf]; omega
      · go_wp2_with fail
        go_roundw
        case rel => exact ⟨i + 1, by omega, by rw [HS.out, if_neg hq], by go_num, Aside0.mk (below_alloc HB.out _)⟩
        case measure => simp [intOf]; omega
    · have hil : i = l.length := by omega
      subst hil
      rw [List.take_length]
      go_wp2_with fail
      go_ret
      exact ⟨rfl, HB.out⟩
set_option maxRecDepth 100000 in
set_option maxHeartbeats 4000000 in
theorem page_Next.calls (a0 : ByteArray) (r1 r2 : Int) (w : World) (h : page_Next.f a0 = some (r1, r2)) :
    Calls Try.prog 27 #[.string a0] w fun e w' => e = .returned (.tuple #[.int .i64 r1, .int .i64 r2]) ∧ Below w.heap.size w w' := by
  unfold page_Next.f at h
  split at h
  rotate_left
  · cases h
  rename_i hs
  have hv := valid_call a0 hs
  by_cases hval : validS a0
  · rw [if_pos hval] at h
    rw [decide_eq_true hval] at hv
    have h := Option.some.inj h
    obtain ⟨q1, q2, q3, q4, q5, _⟩ := validS_spec a0 hval
    have hcf : page_cells.f a0 = some (cellsS a0 (twoS a0 0).toNat) := by unfold page_cells.f; rw [if_pos hval]
    have hcl := cellsS_length a0 (twoS a0 0).toNat
    generalize cellsS a0 (twoS a0 0).toNat = l at *
    have hrg := leastL_range l l.length (Nat.le_refl _)
    rw [List.take_length] at hrg
    have HC := Aside0.mk hcf
    have HV := Aside0.mk hv
    have hl1 : l.length ≤ 100000 := by omega
    have hQ := fun A c w hC hc => quantities2_calls a0.size A c l w hC hc hl1
    obtain ⟨M, hM⟩ : ∃ M, leastL l = M := ⟨_, rfl⟩
    simp only [hM] at hQ h hrg
    have HQ := Aside0.mk hQ
    have HX := Aside0.mk h
    have hM1 : M ≤ 100000 := by omega
    clear hv hval hcf hQ h hM hcl
    have hix : ∀ x y W, (Instr.index 78 (.agg #[x, y]) (.int .i64 1)).run Try.prog W = .ok y W := fun x y W => by kernel_rfl
    by_cases hM2 : M > 200
    all_goals
      go_enter Try.func27, Try.ntmps27
      go_wp2_with (first
        | (go_at_call 21; refine (page_Valid.calls a0 true _ HV.out).mono ?_; rintro e w1 ⟨rfl, hb1⟩)
        | (go_at_call 63; refine (quantities_calls w1).mono ?_; rintro e w2 ⟨rfl, hb2⟩)
        | (go_at_call 49; refine (page_cells.calls a0 l w2 HC.out).mono ?_; rintro e w3 ⟨v, rfl, hr3, hb3⟩; obtain ⟨A, c, rfl, hcl, hC⟩ := Kd.R_reads hr3)
        | (go_at_call 108; refine (HQ.out A c w3 hC hcl).mono ?_; rintro e w4 ⟨rfl, hb4⟩))
      go_ret2
      have hx := HX.out
      first | rw [if_pos hM2] at hx | rw [if_neg (by omega)] at hx
      cases hx
      exact ⟨rfl, below_step (below_step (below_step hb1 hb2) hb3) hb4⟩
  · rw [if_neg hval] at h
    rw [decide_eq_false hval] at hv
    obtain ⟨rfl, rfl⟩ := Prod.mk.inj (Option.some.inj h)
    clear h
    have HV := Aside0.mk hv
    clear hv hval
    go_enter Try.func27, Try.ntmps27
    go_wp2_with (go_at_call 21; refine (page_Valid.calls a0 false _ HV.out).mono ?_; rintro e w1 ⟨rfl, hb1⟩)
    go_ret2
    exact ⟨rfl, hb1⟩

end Go.Proofs.Ytemglmcddaeedaa.PA

namespace Go.Proofs.Ytemglmcddaeedaa.PA
open Go.RowKit Go.Proofs.YtemglmcddaeedaaW.PrintWords Go.Proofs.YtemglmcddaeedaaW.PrintLast Go.Proofs.YtemglmcddaeedaaW.PrintMore
attribute [local go_sem] max2_int min2_int max_two min_two max_three min_three max_four min_four   -- for this text's walks alone
set_option linter.unusedVariables false
set_option linter.unusedSimpArgs false

/-! ### page_Put: function 29 -/
def page_Put.j0 : Nat → ByteArray → ByteArray → Bool → Option (ByteArray × Int × Int)
  | 0, _, _, _ => none
  | k + 1, x0, x1, x16 => if x16 = true then (some ((⟨#[]⟩ : ByteArray), 0, 1)) else ((page_Next.f x0).bind fun bt259 => (if bt259.2 = 0 then ((page_PutAt.f x0 bt259.1 x1).bind fun bt261 => (if bt261.2 = 0 then (some (bt261.1, bt259.1, 0)) else (some ((⟨#[]⟩ : ByteArray), 0, bt261.2)))) else (some ((⟨#[]⟩ : ByteArray), 0, bt259.2))))
def page_Put.f (k : Nat) (a0 : ByteArray) (a1 : ByteArray) : Option (ByteArray × Int × Int) := (page_Valid.f a0).bind fun t258 => (if t258 = true then (page_Put.j0 k a0 a1 (a1.toList == ([] : List UInt8))) else (page_Put.j0 k a0 a1 true))
theorem page_Put.mono_l : ∀ k, (∀ y0 y1 y2, LeO (page_Put.j0 k y0 y1 y2) (page_Put.j0 (k + 1) y0 y1 y2))
  | 0 => fun _ _ _ r h => by simp [page_Put.j0] at h
  | k + 1 => by
    have ih0 := page_Put.mono_l k
    · intro y0 y1 y2
      unfold page_Put.j0
      repeat' first
      | (with_reducible exact ih0 _ _ _)
      | (with_reducible exact LeO.refl _)
      | (with_reducible exact LeO.none _)
      | (with_reducible refine LeO.ite ?_ ?_)
      | (with_reducible refine LeO.bind ?_ (fun _ => ?_))
      | exact ih0 _ _ _
      | exact LeO.none _
      | refine LeO.ite ?_ ?_
      | refine LeO.bind ?_ (fun _ => ?_)
theorem page_Put.mono : ∀ a0 a1 k, LeO (page_Put.f k a0 a1) (page_Put.f (k + 1) a0 a1) := by
  intro a0 a1 k
  have ih0 := page_Put.mono_l k
  unfold page_Put.f
  repeat' first
      | (with_reducible exact ih0 _ _ _)
      | (with_reducible exact LeO.refl _)
      | (with_reducible exact LeO.none _)
      | (with_reducible refine LeO.ite ?_ ?_)
      | (with_reducible refine LeO.bind ?_ (fun _ => ?_))
      | exact ih0 _ _ _
      | exact LeO.none _
      | refine LeO.ite ?_ ?_
      | refine LeO.bind ?_ (fun _ => ?_)
set_option maxHeartbeats 8000000 in
set_option maxRecDepth 100000 in
theorem page_Put.calls (k : Nat) (a0 : ByteArray) (a1 : ByteArray) (r1 : ByteArray) (r2 : Int) (r3 : Int) (w : World) (h : page_Put.f k a0 a1 = some (r1, r2, r3)) :
    Calls Try.prog 29 #[.string a0, .string a1] w fun e w' => e = .returned (.tuple #[.string r1, .int .i64 r2, .int .i64 r3]) ∧ Below w.heap.size w w' := by
  have HB := Aside0.mk (Below.refl w.heap.size w)
  have H : ((page_Valid.f a0).bind fun t258 => (if t258 = true then (page_Put.j0 k a0 a1 (a1.toList == ([] : List UInt8))) else (page_Put.j0 k a0 a1 true))) = some (r1, r2, r3) := h
  clear h
  have HC3 := Aside0.mk H
  clear H
  go_enter Try.func29, Try.ntmps29
  go_upto_region 1 with (fail)
  go_cut [16] (fun v16 wc => ∃ (kq : Nat) (x16_2 : Bool), v16 = .bool x16_2 ∧ Aside0 (page_Put.j0 kq a0 a1 x16_2 = some (r1, r2, r3)) ∧ Aside0 (kq ≤ k) ∧ Aside0 (Below w.heap.size w wc))
  case first =>
    have H := HC3.out
    clear HC3
    replace H := Option.bind_eq_some_iff.mp H
    obtain ⟨t258, A40, H⟩ := H
    replace H : (if t258 = true then (page_Put.j0 k a0 a1 (a1.toList == ([] : List UInt8))) else (page_Put.j0 k a0 a1 true)) = some (r1, r2, r3) := H
    have A4 := Aside0.mk A40
    clear A40
    by_cases c5 : t258 = true
    · subst c5
      have H1 : (page_Put.j0 k a0 a1 (a1.toList == ([] : List UInt8))) = some (r1, r2, r3) := by rw [if_pos rfl] at H; exact H
      clear H
      have H := H1
      clear H1
      have H' := Aside0.mk H
      clear H
      go_wp2_with (first | ((with_reducible refine gate_callee (f := 21) rfl ?_); refine goesL_ (some 11) rfl rfl Try.func21 (by kernel_rfl) rfl #[.string a0] rfl (by (try simp only [List.map_toArray, List.map_cons, List.map_nil]); first | done | rfl | (simp only [List.length_drop, List.length_take]; rfl)) ?_; (with_reducible refine (page_Valid.calls a0 true _ A4.out).mono ?_); rintro e w6 ⟨rfl, hb⟩; refine ⟨_, rfl, ?_⟩; have n0_ := Aside0.mk (below_step (by repeat (first | (with_reducible first | exact HB.out | apply below_alloc | apply pw_below_drewN | apply below_drew1) | exact HB.out)) hb); clear HB; have HB := n0_; clear n0_; (try clear hb); (try clear hb2); (try clear hk); (try clear hi)))
      go_meet
      case rel => exact ⟨_, ((a1.toList == ([] : List UInt8))), (by first | rfl | (simp; done) | (simp [*]; done)), H', ⟨by first | omega | exact Nat.le_refl _⟩, ⟨by repeat (first | (with_reducible first | exact HB.out | apply below_alloc | apply pw_below_drewN | apply below_drew1) | exact HB.out)⟩⟩
    · replace c5 := Bool.eq_false_iff.mpr c5
      subst c5
      have H1 : (page_Put.j0 k a0 a1 true) = some (r1, r2, r3) := by rw [if_neg (show ¬ (false = true) by decide)] at H; exact H
      clear H
      have H := H1
      clear H1
      have H' := Aside0.mk H
      clear H
      go_wp2_with (first | ((with_reducible refine gate_callee (f := 21) rfl ?_); refine goesL_ (some 11) rfl rfl Try.func21 (by kernel_rfl) rfl #[.string a0] rfl (by (try simp only [List.map_toArray, List.map_cons, List.map_nil]); first | done | rfl | (simp only [List.length_drop, List.length_take]; rfl)) ?_; (with_reducible refine (page_Valid.calls a0 false _ A4.out).mono ?_); rintro e w7 ⟨rfl, hb⟩; refine ⟨_, rfl, ?_⟩; have n0_ := Aside0.mk (below_step (by repeat (first | (with_reducible first | exact HB.out | apply below_alloc | apply pw_below_drewN | apply below_drew1) | exact HB.out)) hb); clear HB; have HB := n0_; clear n0_; (try clear hb); (try clear hb2); (try clear hk); (try clear hi)))
      go_meet
      case rel => exact ⟨_, (true), (by first | rfl | (simp; done) | (simp [*]; done)), H', ⟨by first | omega | exact Nat.le_refl _⟩, ⟨by repeat (first | (with_reducible first | exact HB.out | apply below_alloc | apply pw_below_drewN | apply below_drew1) | exact HB.out)⟩⟩
  case rest =>
    clear HC3
    try clear c2
    try clear p2
    try clear c5
    obtain ⟨kq, x16_2, rfl, HA, HJ2, HB⟩ := hcut
    cases kq with
    | zero => exact absurd HA.out (by simp [page_Put.j0])
    | succ kj2 =>
      have H := HA.out
      clear HA
      simp only [page_Put.j0] at H
      by_cases c8 : x16_2 = true
      · subst c8
        have H1 : (some ((⟨#[]⟩ : ByteArray), 0, 1)) = some (r1, r2, r3) := by rw [if_pos rfl] at H; exact H
        clear H
        have H := H1
        clear H1
        simp only [Option.some.injEq, Prod.mk.injEq] at H
        obtain ⟨rfl, rfl, rfl⟩ := H
        go_wp2
        go_ret3
        exact ⟨by first | rfl | (simp [errW_none, errW_some] <;> rfl) | (simp [*, errW_none, errW_some] <;> rfl), by repeat (first | (with_reducible first | exact HB.out | apply below_alloc | apply pw_below_drewN | apply below_drew1) | exact HB.out)⟩
      · replace c8 := Bool.eq_false_iff.mpr c8
        subst c8
        have H1 : ((page_Next.f a0).bind fun bt259 => (if bt259.2 = 0 then ((page_PutAt.f a0 bt259.1 a1).bind fun bt261 => (if bt261.2 = 0 then (some (bt261.1, bt259.1, 0)) else (some ((⟨#[]⟩ : ByteArray), 0, bt261.2)))) else (some ((⟨#[]⟩ : ByteArray), 0, bt259.2)))) = some (r1, r2, r3) := by rw [if_neg (show ¬ (false = true) by decide)] at H; exact H
        clear H
        have H := H1
        clear H1
        replace H := Option.bind_eq_some_iff.mp H
        obtain ⟨⟨t259, t260⟩, A90, H⟩ := H
        replace H : (if t260 = 0 then ((page_PutAt.f a0 t259 a1).bind fun bt261 => (if bt261.2 = 0 then (some (bt261.1, t259, 0)) else (some ((⟨#[]⟩ : ByteArray), 0, bt261.2)))) else (some ((⟨#[]⟩ : ByteArray), 0, t260))) = some (r1, r2, r3) := H
        have A9 := Aside0.mk A90
        clear A90
        by_cases c10 : t260 = 0
        · rw [if_pos c10] at H
          have c10b0 : (t260 == 0) = true := beq_iff_eq.mpr c10
          have c10b1 : (t260 != 0) = false := bne_eq_false_iff_eq.mpr c10
          clear c10
          replace H := Option.bind_eq_some_iff.mp H
          obtain ⟨⟨t261, t262⟩, A110, H⟩ := H
          replace H : (if t262 = 0 then (some (t261, t259, 0)) else (some ((⟨#[]⟩ : ByteArray), 0, t262))) = some (r1, r2, r3) := H
          have A11 := Aside0.mk A110
          clear A110
          by_cases c12 : t262 = 0
          · rw [if_pos c12] at H
            have c12b0 : (t262 == 0) = true := beq_iff_eq.mpr c12
            have c12b1 : (t262 != 0) = false := bne_eq_false_iff_eq.mpr c12
            clear c12
            simp only [Option.some.injEq, Prod.mk.injEq] at H
            obtain ⟨rfl, rfl, rfl⟩ := H
            go_wp2_with (first | ((with_reducible refine gate_callee (f := 27) rfl ?_); refine goesL_ (some 19) rfl rfl Try.func27 (by kernel_rfl) rfl #[.string a0] rfl (by (try simp only [List.map_toArray, List.map_cons, List.map_nil]); first | done | rfl | (simp only [List.length_drop, List.length_take]; rfl)) ?_; (with_reducible refine (page_Next.calls a0 t259 t260 _ A9.out).mono ?_); rintro e w13 ⟨rfl, hb⟩; refine ⟨_, rfl, ?_⟩; have n0_ := Aside0.mk (below_step (by repeat (first | (with_reducible first | exact HB.out | apply below_alloc | apply pw_below_drewN | apply below_drew1) | exact HB.out)) hb); clear HB; have HB := n0_; clear n0_; (try clear hb); (try clear hb2); (try clear hk); (try clear hi)) | ((with_reducible refine gate_callee (f := 35) rfl ?_); refine goesL_ (some 29) rfl rfl Try.func35 (by kernel_rfl) rfl #[.string a0, .int .i64 t259, .string a1] rfl (by (try simp only [List.map_toArray, List.map_cons, List.map_nil]); first | done | rfl | (simp only [List.length_drop, List.length_take]; rfl)) ?_; (with_reducible refine (page_PutAt.calls a0 t259 a1 t261 t262 _ A11.out).mono ?_); rintro e w14 ⟨rfl, hb⟩; refine ⟨_, rfl, ?_⟩; have n0_ := Aside0.mk (below_step (by repeat (first | (with_reducible first | exact HB.out | apply below_alloc | apply pw_below_drewN | apply below_drew1) | exact HB.out)) hb); clear HB; have HB := n0_; clear n0_; (try clear hb); (try clear hb2); (try clear hk); (try clear hi)))
            go_ret3
            exact ⟨by first | rfl | (simp [errW_none, errW_some] <;> rfl) | (simp [*, errW_none, errW_some] <;> rfl), by repeat (first | (with_reducible first | exact HB.out | apply below_alloc | apply pw_below_drewN | apply below_drew1) | exact HB.out)⟩
          · rw [if_neg c12] at H
            have c12b0 : (t262 == 0) = false := beq_eq_false_iff_ne.mpr c12
            have c12b1 : (t262 != 0) = true := bne_iff_ne.mpr c12
            simp only [Option.some.injEq, Prod.mk.injEq] at H
            obtain ⟨rfl, rfl, rfl⟩ := H
            go_wp2_with (first | ((with_reducible refine gate_callee (f := 27) rfl ?_); refine goesL_ (some 19) rfl rfl Try.func27 (by kernel_rfl) rfl #[.string a0] rfl (by (try simp only [List.map_toArray, List.map_cons, List.map_nil]); first | done | rfl | (simp only [List.length_drop, List.length_take]; rfl)) ?_; (with_reducible refine (page_Next.calls a0 t259 t260 _ A9.out).mono ?_); rintro e w15 ⟨rfl, hb⟩; refine ⟨_, rfl, ?_⟩; have n0_ := Aside0.mk (below_step (by repeat (first | (with_reducible first | exact HB.out | apply below_alloc | apply pw_below_drewN | apply below_drew1) | exact HB.out)) hb); clear HB; have HB := n0_; clear n0_; (try clear hb); (try clear hb2); (try clear hk); (try clear hi)) | ((with_reducible refine gate_callee (f := 35) rfl ?_); refine goesL_ (some 29) rfl rfl Try.func35 (by kernel_rfl) rfl #[.string a0, .int .i64 t259, .string a1] rfl (by (try simp only [List.map_toArray, List.map_cons, List.map_nil]); first | done | rfl | (simp only [List.length_drop, List.length_take]; rfl)) ?_; (with_reducible refine (page_PutAt.calls a0 t259 a1 t261 t262 _ A11.out).mono ?_); rintro e w16 ⟨rfl, hb⟩; refine ⟨_, rfl, ?_⟩; have n0_ := Aside0.mk (below_step (by repeat (first | (with_reducible first | exact HB.out | apply below_alloc | apply pw_below_drewN | apply below_drew1) | exact HB.out)) hb); clear HB; have HB := n0_; clear n0_; (try clear hb); (try clear hb2); (try clear hk); (try clear hi)))
            go_ret3
            exact ⟨by first | rfl | (simp [errW_none, errW_some] <;> rfl) | (simp [*, errW_none, errW_some] <;> rfl), by repeat (first | (with_reducible first | exact HB.out | apply below_alloc | apply pw_below_drewN | apply below_drew1) | exact HB.out)⟩
        · rw [if_neg c10] at H
          have c10b0 : (t260 == 0) = false := beq_eq_false_iff_ne.mpr c10
          have c10b1 : (t260 != 0) = true := bne_iff_ne.mpr c10
          simp only [Option.some.injEq, Prod.mk.injEq] at H
          obtain ⟨rfl, rfl, rfl⟩ := H
          go_wp2_with (first | ((with_reducible refine gate_callee (f := 27) rfl ?_); refine goesL_ (some 19) rfl rfl Try.func27 (by kernel_rfl) rfl #[.string a0] rfl (by (try simp only [List.map_toArray, List.map_cons, List.map_nil]); first | done | rfl | (simp only [List.length_drop, List.length_take]; rfl)) ?_; (with_reducible refine (page_Next.calls a0 t259 t260 _ A9.out).mono ?_); rintro e w17 ⟨rfl, hb⟩; refine ⟨_, rfl, ?_⟩; have n0_ := Aside0.mk (below_step (by repeat (first | (with_reducible first | exact HB.out | apply below_alloc | apply pw_below_drewN | apply below_drew1) | exact HB.out)) hb); clear HB; have HB := n0_; clear n0_; (try clear hb); (try clear hb2); (try clear hk); (try clear hi)))
          go_ret3
          exact ⟨by first | rfl | (simp [errW_none, errW_some] <;> rfl) | (simp [*, errW_none, errW_some] <;> rfl), by repeat (first | (with_reducible first | exact HB.out | apply below_alloc | apply pw_below_drewN | apply below_drew1) | exact HB.out)⟩

end Go.Proofs.Ytemglmcddaeedaa.PA

namespace Go.Proofs.Ytemglmcddaeedaa.PA
open Go.RowKit Go.Proofs.YtemglmcddaeedaaW.PrintWords Go.Proofs.YtemglmcddaeedaaW.PrintLast Go.Proofs.YtemglmcddaeedaaW.PrintMore
attribute [local go_sem] max2_int min2_int max_two min_two max_three min_three max_four min_four   -- for this text's walks alone
set_option linter.unusedVariables false
set_option linter.unusedSimpArgs false

/-! ### page_delete: function 0 -/
theorem run_clear_cell (w : World) (ty : TypeId) (g o c : Nat) (cur : Array Value) (hg : w.heap[g]? = some (.cells cur 45 (0, 0))) (hfit : o + 2 ≤ cur.size) :
    (Builtin.clear_ #[22] ty #[.slice (some ⟨g, o, none⟩) 1 c]).run Try.prog w = .ok (.tuple #[]) (w.setRow g (splice cur.toList o [.int .i64 0, .string ⟨#[]⟩]).toArray) := by
  have hst := run_storeCells_at Try.prog g o 45 [.int .i64 0, .string ⟨#[]⟩] 0 cur w hg (by simpa using hfit) (by intro v hv; simp at hv; rcases hv with rfl | rfl <;> rfl)
  have hv : ∀ w, (zeroValue 45).run Try.prog w = .ok (.agg #[.int .i64 0, .string ⟨#[]⟩]) w := fun w => by kernel_rfl
  simp only [Nat.add_zero] at hst
  have hz : (Builtin.zeroCells (Value.agg #[.int .i64 0, .string ⟨#[]⟩]).cells 1).toList = [.int .i64 0, .string ⟨#[]⟩] := by simp [Builtin.zeroCells, Value.cells]; rfl
  simp only [Builtin.clear_, run_underlying Try.underlying22, hv, Sem.run_bind, Sem.run_pure, Result.andThen_ok, List.getElem?_toArray, List.getElem?_cons_zero, hz, hst, splice, List.append_assoc]
set_option maxHeartbeats 4000000 in
set_option maxRecDepth 100000 in
theorem delete_mid (l : List S45) (i : Nat) (hi : i + 1 < l.length) (w : World) (g cap : Nat) (sp : List Value) (hcap : l.length ≤ cap) (hm : cap ≤ maxLen) (hsp : sp.length = (cap - l.length) * 2)
    (hg : w.heap[g]? = some (.cells (encs_ cv l ++ sp).toArray 45 (0, 0))) :
    Calls Try.prog 67 #[.slice (some ⟨g, 0, none⟩) l.length cap, .int .i64 (i : Int), .int .i64 ((i : Int) + 1)] w fun e w' =>
      e = .returned (.slice (some ⟨g, 0, none⟩) (l.length - 1) cap) ∧ (∃ SP, SP.length = (cap - (l.length - 1)) * 2 ∧ w'.heap[g]? = some (.cells (encs_ cv (l.take i ++ l.drop (i + 1)) ++ SP).toArray 45 (0, 0))) ∧ w.grownBy w' (some g) := by
  obtain ⟨n, hn⟩ : ∃ n, l.length = n := ⟨_, rfl⟩
  unfold maxLen at hm
  have hcl : (encs_ cv (l.drop (i + 1))).length = (n - (i + 1)) * 2 := by rw [encs_len cv_len, List.length_drop, hn]
  have hcs := encs_drop (enc := cv) cv_len l (i + 1) (by omega)
  have hct := encs_take (enc := cv) cv_len l i (by omega)
  have hll : (encs_ cv l).length = n * 2 := by rw [encs_len cv_len, hn]
  rw [hn] at hcap hi hsp ⊢
  obtain ⟨R1, hR1⟩ : ∃ R1 : List Value, splice (encs_ cv l ++ sp) (i * 2) (encs_ cv (l.drop (i + 1))) = R1 := ⟨_, rfl⟩
  obtain ⟨W1, hW1⟩ : ∃ W1, w.drew.setRow g R1.toArray = W1 := ⟨_, rfl⟩
  have hG1 : W1.heap[g]? = some (.cells R1.toArray 45 (0, 0)) := by rw [← hW1]; exact setRow_heap w.drew g _ _ _ _ (blk_drew hg)
  have hRl : R1.length = cap * 2 := by
    rw [← hR1]
    simp only [splice, List.length_append, List.length_take, List.length_drop, hcl, hll, hsp]
    omega
  have hap : ∀ ty a c, (n - (i + 1) = 0 ∨ a = ⟨g, (i + 1) * 2, none⟩) → (Builtin.append_ #[22, 22] ty #[.slice (some ⟨g, 0, none⟩) i cap, .slice (some a) (n - (i + 1)) c]).run Try.prog w.drew = .ok (.slice (some ⟨g, 0, none⟩) (n - 1) cap) W1 := fun ty a c ha => by
    rw [show n - 1 = i + (n - (i + 1)) by omega]
    rw [← hW1, ← hR1]
    refine run_append_roomK w.drew _ ty 45 2 Try.underlying22 (by kernel_rfl) g i cap a (n - (i + 1)) c _ 45 (blk_drew hg) (encs_ cv (l.drop (i + 1))) hcl (fun j u hj => ?_) (encs_oneCell cv_one _) (by omega) (by simp only [List.size_toArray, List.length_append, hcl, hll, hsp]; omega)
    rcases ha with h0 | rfl
    · have := (List.getElem?_eq_some_iff.1 hj).1; omega
    · rw [Addr.add_lit, blk_cell (blk_drew hg)]
      rw [← hcs, List.getElem?_drop] at hj
      simp only [List.getElem?_toArray]
      rw [List.getElem?_append_left (List.getElem?_eq_some_iff.1 hj).1]
      exact hj
  have hcl2 : ∀ ty c, (Builtin.clear_ #[22] ty #[.slice (some ⟨g, (n - 1) * 2, none⟩) (n - (n - 1)) c]).run Try.prog W1 = .ok (.tuple #[]) (W1.setRow g (splice R1 ((n - 1) * 2) [.int .i64 0, .string ⟨#[]⟩]).toArray) := fun ty c => by
    rw [show n - (n - 1) = 1 by omega]
    exact run_clear_cell W1 ty g _ c _ hG1 (by simp only [List.size_toArray, hRl]; omega)
  obtain ⟨R2, hR2⟩ : ∃ R2 : List Value, splice R1 ((n - 1) * 2) [.int .i64 0, .string ⟨#[]⟩] = R2 := ⟨_, rfl⟩
  rw [hR2] at hcl2
  have hfin : ∃ SP : List Value, SP.length = (cap - (n - 1)) * 2 ∧ R2 = encs_ cv (l.take i ++ l.drop (i + 1)) ++ SP := by
    have hT : (encs_ cv (l.take i ++ l.drop (i + 1))).length = (n - 1) * 2 := by
      rw [encs_len cv_len, List.length_append, List.length_take, List.length_drop, hn]; congr 1; omega
    have e1 : R1.take ((n - 1) * 2) = encs_ cv (l.take i ++ l.drop (i + 1)) := by
      rw [← hR1]
      unfold splice
      have h0 : (encs_ cv l ++ sp).take (i * 2) = encs_ cv (l.take i) := by rw [List.take_append_of_le_length (by omega), hct]
      rw [h0, ← List.append_assoc, ← encs_app, List.take_left' hT]
    refine ⟨[.int .i64 0, .string ⟨#[]⟩] ++ R1.drop ((n - 1) * 2 + 2), ?_, ?_⟩
    · simp only [List.length_append, List.length_cons, List.length_nil, List.length_drop, hRl]; omega
    · rw [← hR2]; unfold splice; rw [e1]; rfl
  have hz2 : ¬ ((i : Int) = (i : Int) + 1) := by omega
  have hw1 : IntKind.i64.wrap ((i : Int) + 1) = (i : Int) + 1 := by rw [IntKind.wrap_i64]; omega
  have hb1 : (0 : Int) ≤ (i : Int) + 1 := by omega
  have htn : ((i : Int) + 1).toNat = i + 1 := by omega
  have hin : i ≤ n := by omega
  have hin1 : i + 1 ≤ n := by omega
  have hic : i ≤ cap := by omega
  have hjc : i + 1 ≤ cap := by omega
  have hi3 : (i : Int) + 1 ≤ (n : Int) := by omega
  have HN := Aside0.mk hn
  have HX := Aside0.mk (And.intro hW1 (And.intro hG1 hfin))
  have HE : i + (n - (i + 1)) = n - 1 := by omega
  have HE := Aside0.mk HE
  clear hg hn hcl hcs hct hll hsp hW1 hG1 hRl hfin hR1 hR2
  have hcn : ¬ (cap = n - 1) := by omega
  have hnn : (n - 1 : Nat) ≤ n := by omega
  have hii : (i : Int) ≤ (i : Int) + 1 := by omega
  have hci : ¬ (cap = i + 1) := by omega
  go_enter Try.func67, Try.ntmps67
  go_wp2_with fail
  go_region_law (refine step_append_runE rfl (.tmp 22) (.tmp 25) 22 22 rfl (.slice (some ⟨g, 0, none⟩) i cap) (.slice (some ⟨g, (i + 1) * 2, none⟩) (n - (i + 1)) (cap - (i + 1))) (by simp [Act.eval, Act.put]) (by simp [Act.eval, Act.put]) (hap 22 ⟨g, (i + 1) * 2, none⟩ (cap - (i + 1)) (.inr rfl)) ?_)
  go_wp2_with (at_builtin; refine wpList_clear_runE _ rfl (.tmp 31) 22 rfl _ rfl (hcl2 _ _) ?_)
  go_ret
  obtain ⟨SP, h1, h2⟩ := HX.out.2.2
  refine ⟨rfl, ⟨SP, h1, ?_⟩, ?_⟩
  · rw [← h2]; exact setRow_heap W1 g _ _ _ _ HX.out.2.1
  · rw [← HX.out.1]; exact (grown_drew w _).trans ((grown_setRow _ _ _).trans (by rw [HX.out.1]; exact grown_setRow _ _ _))
set_option maxHeartbeats 4000000 in
set_option maxRecDepth 100000 in
theorem delete_last (l : List S45) (i : Nat) (hi : i + 1 = l.length) (w : World) (g cap : Nat) (sp : List Value) (hcap : l.length ≤ cap) (hm : cap ≤ maxLen) (hsp : sp.length = (cap - l.length) * 2)
    (hg : w.heap[g]? = some (.cells (encs_ cv l ++ sp).toArray 45 (0, 0))) :
    Calls Try.prog 67 #[.slice (some ⟨g, 0, none⟩) l.length cap, .int .i64 (i : Int), .int .i64 ((i : Int) + 1)] w fun e w' =>
      e = .returned (.slice (some ⟨g, 0, none⟩) (l.length - 1) cap) ∧ (∃ SP, SP.length = (cap - (l.length - 1)) * 2 ∧ w'.heap[g]? = some (.cells (encs_ cv (l.take i ++ l.drop (i + 1)) ++ SP).toArray 45 (0, 0))) ∧ w.grownBy w' (some g) := by
  unfold maxLen at hm
  have hct := encs_take (enc := cv) cv_len l i (by omega)
  have hd : l.drop (i + 1) = [] := List.drop_of_length_le (by omega)
  have hll : (encs_ cv l).length = (i + 1) * 2 := by rw [encs_len cv_len, hi]
  rw [hd, List.append_nil]
  rw [← hi] at hcap hsp ⊢
  obtain ⟨R2, hR2⟩ : ∃ R2 : List Value, splice (encs_ cv l ++ sp) (i * 2) [.int .i64 0, .string ⟨#[]⟩] = R2 := ⟨_, rfl⟩
  have hcl2 : ∀ ty c, (Builtin.clear_ #[22] ty #[.slice (some ⟨g, i * 2, none⟩) 1 c]).run Try.prog w.drew = .ok (.tuple #[]) (w.drew.setRow g R2.toArray) := fun ty c => by
    rw [← hR2]
    exact run_clear_cell w.drew ty g _ c _ (blk_drew hg) (by simp only [List.size_toArray, List.length_append, hll]; omega)
  have hfin : ∃ SP : List Value, SP.length = (cap - i) * 2 ∧ R2 = encs_ cv (l.take i) ++ SP := by
    have h0 : (encs_ cv l ++ sp).take (i * 2) = encs_ cv (l.take i) := by rw [List.take_append_of_le_length (by omega), hct]
    refine ⟨[.int .i64 0, .string ⟨#[]⟩] ++ (encs_ cv l ++ sp).drop (i * 2 + 2), ?_, ?_⟩
    · simp only [List.length_append, List.length_cons, List.length_nil, List.length_drop, hll, hsp]; omega
    · rw [← hR2]; unfold splice; rw [h0]; rfl
  have hz2 : ¬ ((i : Int) = (i : Int) + 1) := by omega
  have hw1 : IntKind.i64.wrap ((i : Int) + 1) = (i : Int) + 1 := by rw [IntKind.wrap_i64]; omega
  have hb1 : (0 : Int) ≤ (i : Int) + 1 := by omega
  have htn : ((i : Int) + 1).toNat = i + 1 := by omega
  have hic : i ≤ cap := by omega
  have hii : (i : Int) ≤ (i : Int) + 1 := by omega
  have hcn : ¬ (cap = i) := by omega
  have HX := Aside0.mk (And.intro hg hfin)
  clear hg hct hd hll hsp hfin hR2 hi
  have hii2 : (i : Int) + 1 ≤ (cap : Int) := by omega
  by_cases hci : cap = i + 1
  · subst hci
    go_enter Try.func67, Try.ntmps67
    go_wp2_with fail
    go_region
    all_goals
      go_wp2_with (at_builtin; refine wpList_clear_runE _ rfl (.tmp 31) 22 rfl _ rfl (hcl2 _ _) ?_)
      go_ret
      obtain ⟨SP, h1, h2⟩ := HX.out.2
      exact ⟨rfl, ⟨SP, h1, by rw [← h2]; exact setRow_heap w.drew g _ _ _ _ (blk_drew HX.out.1)⟩, (grown_drew w _).trans (grown_setRow _ _ _)⟩
  · go_enter Try.func67, Try.ntmps67
    go_wp2_with fail
    go_region
    all_goals
      go_wp2_with (at_builtin; refine wpList_clear_runE _ rfl (.tmp 31) 22 rfl _ rfl (hcl2 _ _) ?_)
      go_ret
      obtain ⟨SP, h1, h2⟩ := HX.out.2
      exact ⟨rfl, ⟨SP, h1, by rw [← h2]; exact setRow_heap w.drew g _ _ _ _ (blk_drew HX.out.1)⟩, (grown_drew w _).trans (grown_setRow _ _ _)⟩
theorem delete_calls (l : List S45) (i : Nat) (hi : i < l.length) (v : Value) (w : World) (base : Nat) (hbase : base ≤ w.heap.size) (HO : Kd.R k45 45 w base (fun _ => True) v l) :
    Calls Try.prog 67 #[v, .int .i64 (i : Int), .int .i64 ((i : Int) + 1)] w fun e w' =>
      ∃ v', e = .returned v' ∧ Kd.R k45 45 w' base (fun _ => True) v' (l.take i ++ l.drop (i + 1)) ∧ Below base w w' := by
  rcases row_of_R HO with ⟨rfl, rfl⟩ | ⟨g, cap, sp, rfl, hb, hn, hm, hs, hg⟩
  · simp at hi
  · have hll : (l.take i ++ l.drop (i + 1)).length = l.length - 1 := by simp; omega
    have key : Calls Try.prog 67 #[.slice (some ⟨g, 0, none⟩) l.length cap, .int .i64 (i : Int), .int .i64 ((i : Int) + 1)] w fun e w' =>
      e = .returned (.slice (some ⟨g, 0, none⟩) (l.length - 1) cap) ∧ (∃ SP, SP.length = (cap - (l.length - 1)) * 2 ∧ w'.heap[g]? = some (.cells (encs_ cv (l.take i ++ l.drop (i + 1)) ++ SP).toArray 45 (0, 0))) ∧ w.grownBy w' (some g) := by
      by_cases h : i + 1 = l.length
      · exact delete_last l i h w g cap sp hn hm hs hg
      · exact delete_mid l i (by omega) w g cap sp hn hm hs hg
    refine key.mono ?_
    rintro e w' ⟨rfl, ⟨SP, h1, h3⟩, h2⟩
    refine ⟨_, rfl, R_of_row (.inr ⟨g, cap, SP, by rw [hll], hb, by omega, hm, by rw [hll]; exact h1, h3⟩), ?_⟩
    exact (Below.refl base w).grown h2 hbase (by intro k hk; cases hk; exact hb)

end Go.Proofs.Ytemglmcddaeedaa.PA

namespace Go.Proofs.Ytemglmcddaeedaa.PA
open Go.RowKit Go.Proofs.YtemglmcddaeedaaW.PrintWords Go.Proofs.YtemglmcddaeedaaW.PrintLast Go.Proofs.YtemglmcddaeedaaW.PrintMore
attribute [local go_sem] max2_int min2_int max_two min_two max_three min_three max_four min_four   -- for this text's walks alone
set_option linter.unusedVariables false
set_option linter.unusedSimpArgs false

/-! ### page_Drop: function 30 -/
def dropS (p : ByteArray) (n : Int) : ByteArray × Int :=
  if validS p then (if 1 ≤ n ∧ n ≤ 200 then (if foundS (cellsP p) n = true then filledS p.size (delS (cellsP p) n) else (⟨#[]⟩, 8)) else (⟨#[]⟩, 7)) else (⟨#[]⟩, 1)
def page_Drop.f (a0 : ByteArray) (a1 : Int) : Option (ByteArray × Int) := if a0.size ≤ 100000 then some (dropS a0 a1) else none
set_option maxHeartbeats 1000000 in
set_option maxRecDepth 100000 in
theorem page_Drop.calls (a0 : ByteArray) (a1 : Int) (r1 : ByteArray) (r2 : Int) (w : World) (h : page_Drop.f a0 a1 = some (r1, r2)) :
    Calls Try.prog 30 #[.string a0, .int .i64 a1] w fun e w' => e = .returned (.tuple #[.string r1, .int .i64 r2]) ∧ Below w.heap.size w w' := by
  unfold page_Drop.f at h
  split at h
  rotate_left
  · cases h
  rename_i hs
  have HA := Aside0.mk (asked_f a0 a1 hs)
  have h := Option.some.inj h
  unfold dropS at h
  by_cases hv : validS a0
  rotate_left
  · rw [if_neg hv] at h
    rw [if_neg hv] at HA
    obtain ⟨rfl, rfl⟩ := Prod.mk.inj h
    clear h hv
    go_enter Try.func30, Try.ntmps30
    go_wp2_with (go_at_call 65; refine (page_asked.calls a0 a1 1 _ HA.out).mono ?_; rintro e w1 ⟨rfl, hb1⟩)
    go_ret2
    exact ⟨rfl, hb1⟩
  rw [if_pos hv] at h
  rw [if_pos hv] at HA
  by_cases hn : 1 ≤ a1 ∧ a1 ≤ 200
  rotate_left
  · rw [if_neg hn] at h
    rw [if_neg hn] at HA
    obtain ⟨rfl, rfl⟩ := Prod.mk.inj h
    clear h hn hv
    go_enter Try.func30, Try.ntmps30
    go_wp2_with (go_at_call 65; refine (page_asked.calls a0 a1 7 _ HA.out).mono ?_; rintro e w1 ⟨rfl, hb1⟩)
    go_ret2
    exact ⟨rfl, hb1⟩
  rw [if_pos hn] at h
  rw [if_pos hn] at HA
  obtain ⟨k1, k2, k3, k4, k5⟩ := cellsP_ok hv
  have HCF := Aside0.mk (cells_f hv)
  obtain ⟨l, hl⟩ : ∃ l, cellsP a0 = l := ⟨_, rfl⟩
  rw [hl] at h HCF k1 k2 k3
  have HK := Aside0.mk (And.intro k1 k2)
  have hll := k2
  clear hl hv
  by_cases hf : foundS l a1 = true
  · rw [if_pos hf] at h
    have HF := Aside0.mk hf
    obtain ⟨M, hM⟩ : ∃ M, delS l a1 = M := ⟨_, rfl⟩
    have hMo : CellsOk M := by rw [← hM]; exact delS_ok k1 a1
    have hMb : bytesL M ≤ 1000000000000 := by rw [← hM]; have hb := delS_bytes l a1; have hs1 := hs; omega
    have HM := Aside0.mk (show page_filled.f (a0.size : Int) M = some (r1, r2) by rw [filled_f (by omega) (by omega) hMo hMb, ← hM]; exact congrArg some h)
    have HMD := Aside0.mk hM
    have HLT := Aside0.mk (fun h => found_lt (l := l) (n := a1) h)
    obtain ⟨ix, hix⟩ : ∃ ix, idxS l a1 = ix := ⟨_, rfl⟩
    have HIX := Aside0.mk hix
    have HIL := Aside0.mk (idxS_le l a1)
    clear h hf hM hMo hMb k1 k3 hix
    go_enter Try.func30, Try.ntmps30
    go_wp2_with (go_at_call 65; refine (page_asked.calls a0 a1 0 _ HA.out).mono ?_; rintro e w1 ⟨rfl, hb1⟩)
    go_wp2_with (go_at_call 49; refine (page_cells.calls a0 l _ HCF.out).mono ?_; rintro e w2 ⟨v, rfl, hR, hb2⟩)
    have HB := Aside0.mk (below_then hb1 hb1.size hb2)
    have HR := Aside0.mk hR
    obtain ⟨A, c, rfl, hc, hC⟩ := Kd.R_reads hR
    have HC := Aside0.mk hC
    clear hR hC
    go_wp2_with fail
    refine (find_calls l A c a1 _ HK.out.1 (by omega) (by omega) HC.out).mono ?_
    rw [HF.out, HIX.out]
    rintro e w3 ⟨rfl, hb3⟩
    have hlt := HLT.out HF.out
    rw [HIX.out] at hlt
    have HR3 := Aside0.mk (Kd.R_below (Kd.R_lower HR.out (base' := w.heap.size) (by have := hb1.size; omega)) hb3)
    have HB3 := Aside0.mk (below_then HB.out HB.out.size hb3)
    clear hb1 hb2 hb3
    have HDM := Aside0.mk (show l.take ix ++ l.drop (ix + 1) = M by rw [← HIX.out]; exact HMD.out)
    have hi1 : (ix : Int) ≤ 1000 := by omega
    go_wp2_with fail
    refine (delete_calls l ix hlt _ _ w.heap.size HB3.out.size HR3.out).mono ?_
    rintro e w4 ⟨v4, rfl, hR4, hB4⟩
    rw [HDM.out] at hR4
    obtain ⟨A9, c9, rfl, hc9, hC9⟩ := Kd.R_reads hR4
    have HC9 := Aside0.mk hC9
    have HB4 := Aside0.mk (HB3.out.trans hB4)
    clear hR4 hB4 hC9 HR3
    go_wp2_with fail
    refine (page_filled.calls (a0.size : Int) A9 c9 M r1 r2 _ HC9.out hc9 HM.out).mono ?_
    rintro e w9 ⟨rfl, hb9⟩
    go_wp2
    go_ret2
    exact ⟨rfl, below_then HB4.out HB4.out.size hb9⟩
  · have hf0 := Bool.eq_false_iff.2 hf
    rw [hf0, if_neg (by decide)] at h
    have HF := Aside0.mk hf0
    obtain ⟨rfl, rfl⟩ := Prod.mk.inj h
    obtain ⟨ix, hix⟩ : ∃ ix, idxS l a1 = ix := ⟨_, rfl⟩
    have HIX := Aside0.mk hix
    clear h hf hix k1 k3 hf0
    go_enter Try.func30, Try.ntmps30
    go_wp2_with (go_at_call 65; refine (page_asked.calls a0 a1 0 _ HA.out).mono ?_; rintro e w1 ⟨rfl, hb1⟩)
    go_wp2_with (go_at_call 49; refine (page_cells.calls a0 l _ HCF.out).mono ?_; rintro e w2 ⟨v, rfl, hR, hb2⟩)
    have HB := Aside0.mk (below_then hb1 hb1.size hb2)
    obtain ⟨A, c, rfl, hc, hC⟩ := Kd.R_reads hR
    have HC := Aside0.mk hC
    clear hR hb1 hb2 hC
    go_wp2_with (go_at_call 66; refine (find_calls l A c a1 _ HK.out.1 (by omega) (by omega) HC.out).mono ?_; rw [HF.out, HIX.out]; rintro e w3 ⟨rfl, hb3⟩)
    go_ret2
    exact ⟨rfl, below_then HB.out HB.out.size hb3⟩

end Go.Proofs.Ytemglmcddaeedaa.PA

namespace Go.Proofs.Ytemglmcddaeedaa.PA
open Go.RowKit Go.Proofs.YtemglmcddaeedaaW.PrintWords Go.Proofs.YtemglmcddaeedaaW.PrintLast Go.Proofs.YtemglmcddaeedaaW.PrintMore
attribute [local go_sem] max2_int min2_int max_two min_two max_three min_three max_four min_four   -- for this text's walks alone
set_option linter.unusedVariables false
set_option linter.unusedSimpArgs false

/-! ### page_Set: function 31 -/
def setS (p : ByteArray) (n : Int) (d : ByteArray) : ByteArray × Int :=
  if d.size = 0 then (⟨#[]⟩, 1) else if validS p then (if 1 ≤ n ∧ n ≤ 200 then (if foundS (cellsP p) n = true then filledS p.size (repS (cellsP p) n d) else (⟨#[]⟩, 8)) else (⟨#[]⟩, 7)) else (⟨#[]⟩, 1)
theorem set_cell (l : List S45) (i : Nat) (hi : i < l.length) (d : ByteArray) (sp : List Value) :
    (encs_ cv l ++ sp).set (i * 2 + 1) (.string d) = encs_ cv (l.take i ++ ⟨l[i].f0, d⟩ :: l.drop (i + 1)) ++ sp := by
  have h : encs_ cv l ++ sp = (encs_ cv (l.take i) ++ [Value.int .i64 l[i].f0]) ++ (Value.string l[i].f1 :: (encs_ cv (l.drop (i + 1)) ++ sp)) := by
    have h2 : encs_ cv l = encs_ cv (l.take i ++ l[i] :: l.drop (i + 1)) := by rw [← List.drop_eq_getElem_cons hi, List.take_append_drop]
    rw [h2, encs_app, encs_cons]
    simp [cv]
  have hl : (encs_ cv (l.take i) ++ [Value.int .i64 l[i].f0]).length = i * 2 + 1 := by rw [List.length_append, encs_len cv_len, List.length_take, Nat.min_eq_left (by omega)]; rfl
  rw [h, ← hl, set_at, encs_app, encs_cons]
  simp [cv]
def page_Set.f (a0 : ByteArray) (a1 : Int) (a2 : ByteArray) : Option (ByteArray × Int) := if a0.size ≤ 100000 ∧ a2.size ≤ 100000 then some (setS a0 a1 a2) else none
set_option maxHeartbeats 1000000 in
set_option maxRecDepth 100000 in
theorem page_Set.calls (a0 : ByteArray) (a1 : Int) (a2 : ByteArray) (r1 : ByteArray) (r2 : Int) (w : World) (h : page_Set.f a0 a1 a2 = some (r1, r2)) :
    Calls Try.prog 31 #[.string a0, .int .i64 a1, .string a2] w fun e w' => e = .returned (.tuple #[.string r1, .int .i64 r2]) ∧ Below w.heap.size w w' := by
  unfold page_Set.f at h
  split at h
  rotate_left
  · cases h
  rename_i hs
  have HA := Aside0.mk (asked_f a0 a1 hs.1)
  have h := Option.some.inj h
  unfold setS at h
  by_cases hd : a2.size = 0
  · rw [if_pos hd] at h
    obtain ⟨rfl, rfl⟩ := Prod.mk.inj h
    have e1 := (toList_nil a2).2 hd
    clear h hd
    go_enter Try.func31, Try.ntmps31
    go_wp2
    go_ret2
    exact ⟨rfl, Below.refl _ _⟩
  rw [if_neg hd] at h
  have e1 : ¬ a2.toList = [] := fun e => hd ((toList_nil a2).1 e)
  have e2 : a2.toList.isEmpty = false := by simpa using e1
  have hd0 : 0 < a2.size := by omega
  by_cases hv : validS a0
  rotate_left
  · rw [if_neg hv] at h
    rw [if_neg hv] at HA
    obtain ⟨rfl, rfl⟩ := Prod.mk.inj h
    clear h hv
    go_enter Try.func31, Try.ntmps31
    go_wp2_with (go_at_call 65; refine (page_asked.calls a0 a1 1 _ HA.out).mono ?_; rintro e w1 ⟨rfl, hb1⟩)
    go_ret2
    exact ⟨rfl, hb1⟩
  rw [if_pos hv] at h
  rw [if_pos hv] at HA
  by_cases hn : 1 ≤ a1 ∧ a1 ≤ 200
  rotate_left
  · rw [if_neg hn] at h
    rw [if_neg hn] at HA
    obtain ⟨rfl, rfl⟩ := Prod.mk.inj h
    clear h hn hv
    go_enter Try.func31, Try.ntmps31
    go_wp2_with (go_at_call 65; refine (page_asked.calls a0 a1 7 _ HA.out).mono ?_; rintro e w1 ⟨rfl, hb1⟩)
    go_ret2
    exact ⟨rfl, hb1⟩
  rw [if_pos hn] at h
  rw [if_pos hn] at HA
  obtain ⟨k1, k2, k3, k4, k5⟩ := cellsP_ok hv
  have HCF := Aside0.mk (cells_f hv)
  obtain ⟨l, hl⟩ : ∃ l, cellsP a0 = l := ⟨_, rfl⟩
  rw [hl] at h HCF k1 k2 k3
  have HK := Aside0.mk (And.intro k1 k2)
  have hll := k2
  clear hl hv
  by_cases hf : foundS l a1 = true
  · rw [if_pos hf] at h
    have HF := Aside0.mk hf
    obtain ⟨M, hM⟩ : ∃ M, repS l a1 a2 = M := ⟨_, rfl⟩
    have hMo : CellsOk M := by rw [← hM]; exact repS_ok k1 hn hd0 hf
    have hMb : bytesL M ≤ 1000000000000 := by rw [← hM]; have hb := repS_bytes l a1 a2; have hs1 := hs; omega
    have HM := Aside0.mk (show page_filled.f (a0.size : Int) M = some (r1, r2) by rw [filled_f (by omega) (by omega) hMo hMb, ← hM]; exact congrArg some h)
    have HMD := Aside0.mk hM
    have HLT := Aside0.mk (fun h => found_lt (l := l) (n := a1) h)
    obtain ⟨ix, hix⟩ : ∃ ix, idxS l a1 = ix := ⟨_, rfl⟩
    have HIX := Aside0.mk hix
    have HIL := Aside0.mk (idxS_le l a1)
    clear h hf hM hMo hMb k1 k3 hix hs hd
    go_enter Try.func31, Try.ntmps31
    go_wp2_with (go_at_call 65; refine (page_asked.calls a0 a1 0 _ HA.out).mono ?_; rintro e w1 ⟨rfl, hb1⟩)
    go_wp2_with (go_at_call 49; refine (page_cells.calls a0 l _ HCF.out).mono ?_; rintro e w2 ⟨v, rfl, hR, hb2⟩)
    have HB := Aside0.mk (below_then hb1 hb1.size hb2)
    have HR := Aside0.mk hR
    obtain ⟨A, c, rfl, hc, hC⟩ := Kd.R_reads hR
    have HC := Aside0.mk hC
    clear hR hC
    go_wp2_with fail
    refine (find_calls l A c a1 _ HK.out.1 (by omega) (by omega) HC.out).mono ?_
    rw [HF.out, HIX.out]
    rintro e w3 ⟨rfl, hb3⟩
    have hlt := HLT.out HF.out
    rw [HIX.out] at hlt
    have HR3 := Aside0.mk (row_of_R (Kd.R_below (Kd.R_lower HR.out (base' := w.heap.size) (by have := hb1.size; omega)) hb3))
    have HB3 := Aside0.mk (below_then HB.out HB.out.size hb3)
    clear hb1 hb2 hb3
    have HDM := Aside0.mk (show l.take ix ++ (⟨a1, a2⟩ : S45) :: l.drop (ix + 1) = M by rw [← HIX.out]; exact HMD.out)
    have HEQ := Aside0.mk (show l[ix].f0 = a1 by
      obtain ⟨c0, hc0, hcn⟩ := (idx_split HK.out.1 a1).2.2.1 HF.out
      rw [HIX.out, List.getElem?_eq_getElem hlt] at hc0
      rw [Option.some.inj hc0]; exact hcn)
    rcases HR3.out with ⟨e0, e9⟩ | ⟨g, cap, sp, e0, hb, hn2, hm2, hs2, hg⟩
    · rw [e9] at hlt; simp at hlt
    cases e0
    have hcell := blk_cell hg (ix * 2 + 1)
    have hfr := blk_frozen hg (ix * 2 + 1)
    simp only [List.getElem?_toArray] at hcell
    rw [List.getElem?_append_left (by rw [encs_len cv_len]; omega), encs_get cv_len l ix 1 hlt (by decide)] at hcell
    have hcell := hcell.trans (show (cv l[ix])[1]? = some (.string l[ix].f1) from rfl)
    obtain ⟨X, hX⟩ : ∃ X, l[ix].f1 = X := ⟨_, rfl⟩
    rw [hX] at hcell
    have HS := Aside0.mk (blk_set hg (ix * 2 + 1) (.string a2))
    have hi0 : (0 : Int) ≤ ix := by omega
    have hi1 : (ix : Int) < l.length := by omega
    have hgl := blk_lt hg
    have HG := Aside0.mk (And.intro hb (And.intro hn2 (And.intro hm2 hs2)))
    clear hg hX hs2 hm2
    go_wp2_with fail
    have hML : M.length = l.length := by rw [← HDM.out]; simp; omega
    have hR4 : RowK cv 2 45 (w3.setCell ⟨g, ix * 2 + 1, none⟩ (.string a2)) w.heap.size (.slice (some ⟨g, 0, none⟩) M.length c) M := by
      refine .inr ⟨g, c, sp, rfl, HG.out.1, by rw [hML]; exact HG.out.2.1, HG.out.2.2.1, by rw [hML]; exact HG.out.2.2.2, ?_⟩
      have h1 := HS.out
      rw [List.setIfInBounds_toArray, set_cell l ix hlt, HEQ.out, HDM.out] at h1
      exact h1
    obtain ⟨A9, c9, e9, hc9, hC9⟩ := Kd.R_reads (R_of_row hR4)
    obtain ⟨eA, _, ec⟩ := Value.slice.inj e9
    subst eA
    subst ec
    have HB4 := Aside0.mk (show Below w.heap.size w (w3.setCell ⟨g, ix * 2 + 1, none⟩ (.string a2)) from HB3.out.setCell HG.out.1 _)
    rw [← hML]
    refine (page_filled.calls (a0.size : Int) _ _ M r1 r2 _ hC9 hc9 HM.out).mono ?_
    clear hR4 hC9 hc9 e9
    rintro e w9 ⟨rfl, hb9⟩
    go_wp2
    go_ret2
    exact ⟨rfl, below_then HB4.out HB4.out.size hb9⟩
  · have hf0 := Bool.eq_false_iff.2 hf
    rw [hf0, if_neg (by decide)] at h
    have HF := Aside0.mk hf0
    obtain ⟨rfl, rfl⟩ := Prod.mk.inj h
    obtain ⟨ix, hix⟩ : ∃ ix, idxS l a1 = ix := ⟨_, rfl⟩
    have HIX := Aside0.mk hix
    clear h hf hix k1 k3 hs hd hf0
    go_enter Try.func31, Try.ntmps31
    go_wp2_with (go_at_call 65; refine (page_asked.calls a0 a1 0 _ HA.out).mono ?_; rintro e w1 ⟨rfl, hb1⟩)
    go_wp2_with (go_at_call 49; refine (page_cells.calls a0 l _ HCF.out).mono ?_; rintro e w2 ⟨v, rfl, hR, hb2⟩)
    have HB := Aside0.mk (below_then hb1 hb1.size hb2)
    obtain ⟨A, c, rfl, hc, hC⟩ := Kd.R_reads hR
    have HC := Aside0.mk hC
    clear hR hb1 hb2 hC
    go_wp2_with (go_at_call 66; refine (find_calls l A c a1 _ HK.out.1 (by omega) (by omega) HC.out).mono ?_; rw [HF.out, HIX.out]; rintro e w3 ⟨rfl, hb3⟩)
    go_ret2
    exact ⟨rfl, below_then HB.out HB.out.size hb3⟩

end Go.Proofs.Ytemglmcddaeedaa.PA

namespace Go.Proofs.Ytemglmcddaeedaa.PA
open Go.RowKit Go.Proofs.YtemglmcddaeedaaW.PrintWords Go.Proofs.YtemglmcddaeedaaW.PrintLast Go.Proofs.YtemglmcddaeedaaW.PrintMore
attribute [local go_sem] max2_int min2_int max_two min_two max_three min_three max_four min_four   -- for this text's walks alone
set_option linter.unusedVariables false
set_option linter.unusedSimpArgs false

/-! ### ringworkref06_At: function 69 -/
def ringworkref06_At.l0 : Nat → List (S45) → Int → Int → Option (ByteArray)
  | 0, _, _, _ => none
  | k + 1, x0, x1, x5 => if x5 < (x0.length : Int) then (if 0 ≤ x5 then (if ((rd_T45 x0 x5).f0) = x1 then (some ((rd_T45 x0 x5).f1)) else (ringworkref06_At.l0 k x0 x1 (wrap64 (x5 + 1)))) else (none)) else (some (⟨#[]⟩ : ByteArray))
def ringworkref06_At.f (k : Nat) (l0 : List (S45)) (a1 : Int) : Option (ByteArray) := ringworkref06_At.l0 k l0 a1 0
theorem ringworkref06_At.mono_l : ∀ k, (∀ y0 y1 y2, LeO (ringworkref06_At.l0 k y0 y1 y2) (ringworkref06_At.l0 (k + 1) y0 y1 y2))
  | 0 => fun _ _ _ r h => by simp [ringworkref06_At.l0] at h
  | k + 1 => by
    have ih0 := ringworkref06_At.mono_l k
    · intro y0 y1 y2
      unfold ringworkref06_At.l0
      repeat' first
      | (with_reducible exact ih0 _ _ _)
      | (with_reducible exact LeO.refl _)
      | (with_reducible exact LeO.none _)
      | (with_reducible refine LeO.ite ?_ ?_)
      | (with_reducible refine LeO.bind ?_ (fun _ => ?_))
      | exact ih0 _ _ _
      | exact LeO.none _
      | refine LeO.ite ?_ ?_
      | refine LeO.bind ?_ (fun _ => ?_)
theorem ringworkref06_At.mono : ∀ a0 a1 k, LeO (ringworkref06_At.f k a0 a1) (ringworkref06_At.f (k + 1) a0 a1) := by
  intro a0 a1 k
  have ih0 := ringworkref06_At.mono_l k
  unfold ringworkref06_At.f
  repeat' first
      | (with_reducible exact ih0 _ _ _)
      | (with_reducible exact LeO.refl _)
      | (with_reducible exact LeO.none _)
      | (with_reducible refine LeO.ite ?_ ?_)
      | (with_reducible refine LeO.bind ?_ (fun _ => ?_))
      | exact ih0 _ _ _
      | exact LeO.none _
      | refine LeO.ite ?_ ?_
      | refine LeO.bind ?_ (fun _ => ?_)
set_option maxHeartbeats 8000000 in
set_option maxRecDepth 100000 in
theorem ringworkref06_At.calls (k : Nat) (A0 : Option Addr) (c0 : Nat) (l0 : List (S45)) (a1 : Int) (r : ByteArray) (w : World) (hr0 : Kd.C k45 w A0 l0.length l0) (hc0 : l0.length ≤ c0) (h : ringworkref06_At.f k l0 a1 = some r) :
    Calls Try.prog 69 #[.slice A0 l0.length c0, .int .i64 a1] w fun e w' => e = .returned (.string r) ∧ Drawn0 w w' := by
  have HR0 := Aside0.mk hr0
  have HC0 := Aside0.mk hc0
  clear hr0 hc0
  have H : (ringworkref06_At.l0 k l0 a1 0) = some r := h
  clear h
  have H' := Aside0.mk H
  clear H
  go_enter Try.func69, Try.ntmps69
  go_wp2
  go_loopg [5] k (fun kq v5 w' => ∃ (x5_1 : Int), v5 = .int .i64 x5_1 ∧ Aside0 (ringworkref06_At.l0 kq l0 a1 x5_1 = some r) ∧ Aside0 (kq ≤ k) ∧ Drawn0 w w')
  case atStart => exact ⟨(0), (by first | rfl | (simp; done) | (simp [*]; done)), H', ⟨Nat.le_refl _⟩, by repeat (first | exact Drawn0.refl _ | apply Drawn0.step)⟩
  case round =>
    clear H'
    try clear p2
    obtain ⟨x5_1, rfl, HA, HK1, ⟨m1, rfl⟩⟩ := hrel
    cases gk with
    | zero => exact absurd HA.out (by simp [ringworkref06_At.l0])
    | succ k1 =>
      have H := HA.out
      clear HA
      simp only [ringworkref06_At.l0] at H
      by_cases c3 : x5_1 < (l0.length : Int)
      · rw [if_pos c3] at H
        have c3b0 : decide (x5_1 < (l0.length : Int)) = true := decide_eq_true c3
        clear c3
        by_cases c4 : 0 ≤ x5_1
        · rw [if_pos c4] at H
          have c4b0 : decide (0 ≤ x5_1) = true := decide_eq_true c4
          clear c4
          by_cases c5 : ((rd_T45 l0 x5_1).f0) = a1
          · rw [if_pos c5] at H
            have c5b0 : (((rd_T45 l0 x5_1).f0) == a1) = true := beq_iff_eq.mpr c5
            have c5b1 : (((rd_T45 l0 x5_1).f0) != a1) = false := bne_eq_false_iff_eq.mpr c5
            clear c5
            obtain rfl := Option.some.inj H
            have p199 : 0 ≤ (x5_1 : Int) := of_decide_eq_true (by first | (with_reducible assumption) | assumption)
            have q199 : x5_1 < (l0.length : Int) := of_decide_eq_true (by first | (with_reducible assumption) | assumption)
            obtain ⟨ad199, e199, hx199_0, hx199_1⟩ := at_T45 HR0.out x5_1 p199 q199
            cases e199
            replace p199 := eq_true p199
            replace q199 := eq_true q199
            have p200 : 0 ≤ (x5_1 : Int) := of_decide_eq_true (by first | (with_reducible assumption) | assumption)
            have q200 : x5_1 < (l0.length : Int) := of_decide_eq_true (by first | (with_reducible assumption) | assumption)
            obtain ⟨ad200, e200, hx200_0, hx200_1⟩ := at_T45 HR0.out x5_1 p200 q200
            obtain rfl : ad199 = ad200 := (by injection e200)
            replace p200 := eq_true p200
            replace q200 := eq_true q200
            go_wp2
            go_ret
            exact ⟨by first | rfl | (simp; done) | (simp [*]; done), by repeat (first | exact Drawn0.refl _ | apply Drawn0.step)⟩
          · rw [if_neg c5] at H
            have c5b0 : (((rd_T45 l0 x5_1).f0) == a1) = false := beq_eq_false_iff_ne.mpr c5
            have c5b1 : (((rd_T45 l0 x5_1).f0) != a1) = true := bne_iff_ne.mpr c5
            have H' := Aside0.mk H
            clear H
            have p199 : 0 ≤ (x5_1 : Int) := of_decide_eq_true (by first | (with_reducible assumption) | assumption)
            have q199 : x5_1 < (l0.length : Int) := of_decide_eq_true (by first | (with_reducible assumption) | assumption)
            obtain ⟨ad199, e199, hx199_0, hx199_1⟩ := at_T45 HR0.out x5_1 p199 q199
            cases e199
            replace p199 := eq_true p199
            replace q199 := eq_true q199
            go_wp2
            go_roundg k1
            case measure => have := HK1.out; omega
            case rel => exact ⟨(wrap64 (x5_1 + 1)), (by first | rfl | (simp; done) | (simp [*]; done)), H', ⟨by have := HK1.out; omega⟩, by repeat (first | exact Drawn0.refl _ | apply Drawn0.step)⟩
        · rw [if_neg c4] at H
          exact absurd H (by simp)
      · rw [if_neg c3] at H
        have c3b0 : decide (x5_1 < (l0.length : Int)) = false := decide_eq_false c3
        clear c3
        obtain rfl := Option.some.inj H
        go_wp2
        go_ret
        exact ⟨by first | rfl | (simp; done) | (simp [*]; done), by repeat (first | exact Drawn0.refl _ | apply Drawn0.step)⟩

end Go.Proofs.Ytemglmcddaeedaa.PA

namespace Go.Proofs.Ytemglmcddaeedaa.PA
open Go.RowKit Go.Proofs.YtemglmcddaeedaaW.PrintWords Go.Proofs.YtemglmcddaeedaaW.PrintLast Go.Proofs.YtemglmcddaeedaaW.PrintMore
attribute [local go_sem] max2_int min2_int max_two min_two max_three min_three max_four min_four   -- for this text's walks alone
set_option linter.unusedVariables false
set_option linter.unusedSimpArgs false

/-! ### ringworkref06_Two: function 59 -/
def ringworkref06_Two.f (a0 : ByteArray) (a1 : Int) : Option (Int) := if 0 ≤ a1 then (if a1 < (a0.size : Int) then (if 0 ≤ (wrap64 (a1 + 1)) then (if (wrap64 (a1 + 1)) < (a0.size : Int) then (some (wrap64 ((wrap64 (256 * (wrap64 (bt a0 a1)))) + (wrap64 (bt a0 (wrap64 (a1 + 1))))))) else (none)) else (none)) else (none)) else (none)
set_option maxHeartbeats 8000000 in
set_option maxRecDepth 100000 in
theorem ringworkref06_Two.calls (a0 : ByteArray) (a1 : Int) (r : Int) (w : World) (h : ringworkref06_Two.f a0 a1 = some r) :
    Calls Try.prog 59 #[.string a0, .int .i64 a1] w fun e w' => e = .returned (.int .i64 r) ∧ Drawn0 w w' := by
  have H : (if 0 ≤ a1 then (if a1 < (a0.size : Int) then (if 0 ≤ (wrap64 (a1 + 1)) then (if (wrap64 (a1 + 1)) < (a0.size : Int) then (some (wrap64 ((wrap64 (256 * (wrap64 (bt a0 a1)))) + (wrap64 (bt a0 (wrap64 (a1 + 1))))))) else (none)) else (none)) else (none)) else (none)) = some r := h
  clear h
  by_cases c3 : 0 ≤ a1
  · rw [if_pos c3] at H
    have c3b0 : decide (0 ≤ a1) = true := decide_eq_true c3
    clear c3
    by_cases c4 : a1 < (a0.size : Int)
    · rw [if_pos c4] at H
      have c4b0 : decide (a1 < (a0.size : Int)) = true := decide_eq_true c4
      clear c4
      obtain ⟨ji6, hji6⟩ : ∃ j_ : Int, (wrap64 (a1 + 1)) = j_ := ⟨_, rfl⟩
      replace H : (if 0 ≤ (ji6) then (if (ji6) < (a0.size : Int) then (some (wrap64 ((wrap64 (256 * (wrap64 (bt a0 a1)))) + (wrap64 (bt a0 (ji6)))))) else (none)) else (none)) = some r := by first | (rw [hji6] at H; exact H) | (simp only [hji6] at H ⊢; exact H)
      have hji6w : (IntKind.i64.wrap (a1 + 1)) = ji6 := (i64_w _).trans hji6
      by_cases c7 : 0 ≤ (ji6)
      · rw [if_pos c7] at H
        have c7b0 : decide (0 ≤ (ji6)) = true := decide_eq_true c7
        clear c7
        by_cases c8 : (ji6) < (a0.size : Int)
        · rw [if_pos c8] at H
          have c8b0 : decide ((ji6) < (a0.size : Int)) = true := decide_eq_true c8
          clear c8
          obtain rfl := Option.some.inj H
          have p5 : 0 ≤ (a1 : Int) := of_decide_eq_true (by first | (with_reducible assumption) | assumption)
          have q5 : a1 < (a0.size : Int) := of_decide_eq_true (by first | (with_reducible assumption) | assumption)
          have hx5 := bt_at a0 a1
          replace p5 := eq_true p5
          replace q5 := eq_true q5
          have p9 : 0 ≤ ((ji6) : Int) := of_decide_eq_true (by first | (with_reducible assumption) | assumption)
          have q9 : (ji6) < (a0.size : Int) := of_decide_eq_true (by first | (with_reducible assumption) | assumption)
          have hx9 := bt_at a0 (ji6)
          replace p9 := eq_true p9
          replace q9 := eq_true q9
          go_enter Try.func59, Try.ntmps59
          go_wp2
          repeat (go_quiet (fail); try go_wp2)
          go_ret
          exact ⟨by first | rfl | (simp; done) | (simp only [← hji6] <;> (first | rfl | simp)) | (simp [*]; done), by repeat (first | exact Drawn0.refl _ | apply Drawn0.step)⟩
        · rw [if_neg c8] at H
          exact absurd H (by simp)
      · rw [if_neg c7] at H
        exact absurd H (by simp)
    · rw [if_neg c4] at H
      exact absurd H (by simp)
  · rw [if_neg c3] at H
    exact absurd H (by simp)

end Go.Proofs.Ytemglmcddaeedaa.PA

namespace Go.Proofs.Ytemglmcddaeedaa.PA
open Go.RowKit Go.Proofs.YtemglmcddaeedaaW.PrintWords Go.Proofs.YtemglmcddaeedaaW.PrintLast Go.Proofs.YtemglmcddaeedaaW.PrintMore
attribute [local go_sem] max2_int min2_int max_two min_two max_three min_three max_four min_four   -- for this text's walks alone
set_option linter.unusedVariables false
set_option linter.unusedSimpArgs false

/-! ### ringworkref06_Wrong: function 20 -/
mutual
def ringworkref06_Wrong.j0 : Nat → ByteArray → Int → Bool → Option (Int × Int)
  | 0, _, _, _ => none
  | k + 1, x0, x4, x26 => if x26 = true then (some (0, 12)) else (ringworkref06_Wrong.l0 k x0 x4 (x0.size : Int) 1)
def ringworkref06_Wrong.l0 : Nat → ByteArray → Int → Int → Int → Option (Int × Int)
  | 0, _, _, _, _ => none
  | k + 1, x0, x4, x5, x6 => if x6 ≤ x4 then ((ringworkref06_Two.f x0 (wrap64 ((wrap64 (4 * x6)) - 2))).bind fun t180 => ((ringworkref06_Two.f x0 (wrap64 ((wrap64 ((wrap64 (4 * x6)) - 2)) + 2))).bind fun t181 => (if t180 = 0 then (ringworkref06_Wrong.j2 k x0 x4 x5 x6 (wrap64 ((wrap64 (4 * x6)) - 2)) t180 t181 (t181 == 0)) else (ringworkref06_Wrong.j2 k x0 x4 x5 x6 (wrap64 ((wrap64 (4 * x6)) - 2)) t180 t181 false)))) else (ringworkref06_Wrong.l1 k x0 x5 (wrap64 (2 + (wrap64 (4 * x4)))))
def ringworkref06_Wrong.j2 : Nat → ByteArray → Int → Int → Int → Int → Int → Int → Bool → Option (Int × Int)
  | 0, _, _, _, _, _, _, _, _ => none
  | k + 1, x0, x4, x5, x6, x7, x8, x9, x49 => if x49 = true then (if x6 = x4 then (some (x7, 12)) else (ringworkref06_Wrong.l0 k x0 x4 x5 (wrap64 (x6 + 1)))) else (if x8 = 0 then (some (x7, 12)) else (if x9 = 0 then (some (x7, 12)) else (if x8 = (wrap64 (x5 - x9)) then (if x8 < (wrap64 (2 + (wrap64 (4 * x4)))) then (some (x7, 12)) else (ringworkref06_Wrong.l0 k x0 x4 x8 (wrap64 (x6 + 1)))) else (some (x7, 12)))))
def ringworkref06_Wrong.l1 : Nat → ByteArray → Int → Int → Option (Int × Int)
  | 0, _, _, _ => none
  | k + 1, x0, x5, x10 => if x10 < x5 then (if 0 ≤ x10 then (if x10 < (x0.size : Int) then (if (bt x0 x10) = 0 then (ringworkref06_Wrong.l1 k x0 x5 (wrap64 (x10 + 1))) else (some (x10, 12))) else (none)) else (none)) else (some ((x0.size : Int), 0))
end
def ringworkref06_Wrong.f (k : Nat) (a0 : ByteArray) : Option (Int × Int) := (ringworkref06_Size.f (a0.size : Int)).bind fun t178 => (if t178 = true then ((ringworkref06_Two.f a0 0).bind fun t179 => (if t179 > 200 then (ringworkref06_Wrong.j0 k a0 t179 true) else (ringworkref06_Wrong.j0 k a0 t179 (decide ((wrap64 (2 + (wrap64 (4 * t179)))) > (a0.size : Int)))))) else (some (0, 11)))
theorem ringworkref06_Wrong.mono_l : ∀ k, (∀ y0 y1 y2, LeO (ringworkref06_Wrong.j0 k y0 y1 y2) (ringworkref06_Wrong.j0 (k + 1) y0 y1 y2)) ∧ (∀ y0 y1 y2 y3, LeO (ringworkref06_Wrong.l0 k y0 y1 y2 y3) (ringworkref06_Wrong.l0 (k + 1) y0 y1 y2 y3)) ∧ (∀ y0 y1 y2 y3 y4 y5 y6 y7, LeO (ringworkref06_Wrong.j2 k y0 y1 y2 y3 y4 y5 y6 y7) (ringworkref06_Wrong.j2 (k + 1) y0 y1 y2 y3 y4 y5 y6 y7)) ∧ (∀ y0 y1 y2, LeO (ringworkref06_Wrong.l1 k y0 y1 y2) (ringworkref06_Wrong.l1 (k + 1) y0 y1 y2))
  | 0 => ⟨fun _ _ _ r h => by simp [ringworkref06_Wrong.j0] at h, fun _ _ _ _ r h => by simp [ringworkref06_Wrong.l0] at h, fun _ _ _ _ _ _ _ _ r h => by simp [ringworkref06_Wrong.j2] at h, fun _ _ _ r h => by simp [ringworkref06_Wrong.l1] at h⟩
  | k + 1 => by
    obtain ⟨ih0, ih1, ih2, ih3⟩ := ringworkref06_Wrong.mono_l k
    refine ⟨?_, ?_, ?_, ?_⟩
    · intro y0 y1 y2
      unfold ringworkref06_Wrong.j0
      repeat' first
      | (with_reducible exact ih0 _ _ _)
      | (with_reducible exact ih1 _ _ _ _)
      | (with_reducible exact ih2 _ _ _ _ _ _ _ _)
      | (with_reducible exact ih3 _ _ _)
      | (with_reducible exact LeO.refl _)
      | (with_reducible exact LeO.none _)
      | (with_reducible refine LeO.ite ?_ ?_)
      | (with_reducible refine LeO.bind ?_ (fun _ => ?_))
      | exact ih0 _ _ _
      | exact ih1 _ _ _ _
      | exact ih2 _ _ _ _ _ _ _ _
      | exact ih3 _ _ _
      | exact LeO.none _
      | refine LeO.ite ?_ ?_
      | refine LeO.bind ?_ (fun _ => ?_)
    · intro y0 y1 y2 y3
      unfold ringworkref06_Wrong.l0
      repeat' first
      | (with_reducible exact ih0 _ _ _)
      | (with_reducible exact ih1 _ _ _ _)
      | (with_reducible exact ih2 _ _ _ _ _ _ _ _)
      | (with_reducible exact ih3 _ _ _)
      | (with_reducible exact LeO.refl _)
      | (with_reducible exact LeO.none _)
      | (with_reducible refine LeO.ite ?_ ?_)
      | (with_reducible refine LeO.bind ?_ (fun _ => ?_))
      | exact ih0 _ _ _
      | exact ih1 _ _ _ _
      | exact ih2 _ _ _ _ _ _ _ _
      | exact ih3 _ _ _
      | exact LeO.none _
      | refine LeO.ite ?_ ?_
      | refine LeO.bind ?_ (fun _ => ?_)
    · intro y0 y1 y2 y3 y4 y5 y6 y7
      unfold ringworkref06_Wrong.j2
      repeat' first
      | (with_reducible exact ih0 _ _ _)
      | (with_reducible exact ih1 _ _ _ _)
      | (with_reducible exact ih2 _ _ _ _ _ _ _ _)
      | (with_reducible exact ih3 _ _ _)
      | (with_reducible exact LeO.refl _)
      | (with_reducible exact LeO.none _)
      | (with_reducible refine LeO.ite ?_ ?_)
      | (with_reducible refine LeO.bind ?_ (fun _ => ?_))
      | exact ih0 _ _ _
      | exact ih1 _ _ _ _
      | exact ih2 _ _ _ _ _ _ _ _
      | exact ih3 _ _ _
      | exact LeO.none _
      | refine LeO.ite ?_ ?_
      | refine LeO.bind ?_ (fun _ => ?_)
    · intro y0 y1 y2
      unfold ringworkref06_Wrong.l1
      repeat' first
      | (with_reducible exact ih0 _ _ _)
      | (with_reducible exact ih1 _ _ _ _)
      | (with_reducible exact ih2 _ _ _ _ _ _ _ _)
      | (with_reducible exact ih3 _ _ _)
      | (with_reducible exact LeO.refl _)
      | (with_reducible exact LeO.none _)
      | (with_reducible refine LeO.ite ?_ ?_)
      | (with_reducible refine LeO.bind ?_ (fun _ => ?_))
      | exact ih0 _ _ _
      | exact ih1 _ _ _ _
      | exact ih2 _ _ _ _ _ _ _ _
      | exact ih3 _ _ _
      | exact LeO.none _
      | refine LeO.ite ?_ ?_
      | refine LeO.bind ?_ (fun _ => ?_)
theorem ringworkref06_Wrong.mono : ∀ a0 k, LeO (ringworkref06_Wrong.f k a0) (ringworkref06_Wrong.f (k + 1) a0) := by
  intro a0 k
  obtain ⟨ih0, ih1, ih2, ih3⟩ := ringworkref06_Wrong.mono_l k
  unfold ringworkref06_Wrong.f
  repeat' first
      | (with_reducible exact ih0 _ _ _)
      | (with_reducible exact ih1 _ _ _ _)
      | (with_reducible exact ih2 _ _ _ _ _ _ _ _)
      | (with_reducible exact ih3 _ _ _)
      | (with_reducible exact LeO.refl _)
      | (with_reducible exact LeO.none _)
      | (with_reducible refine LeO.ite ?_ ?_)
      | (with_reducible refine LeO.bind ?_ (fun _ => ?_))
      | exact ih0 _ _ _
      | exact ih1 _ _ _ _
      | exact ih2 _ _ _ _ _ _ _ _
      | exact ih3 _ _ _
      | exact LeO.none _
      | refine LeO.ite ?_ ?_
      | refine LeO.bind ?_ (fun _ => ?_)
set_option maxHeartbeats 8000000 in
set_option maxRecDepth 100000 in
theorem ringworkref06_Wrong.calls (k : Nat) (a0 : ByteArray) (r1 : Int) (r2 : Int) (w : World) (h : ringworkref06_Wrong.f k a0 = some (r1, r2)) :
    Calls Try.prog 20 #[.string a0] w fun e w' => e = .returned (.tuple #[.int .i64 r1, .int .i64 r2]) ∧ Drawn0 w w' := by
  have H : ((ringworkref06_Size.f (a0.size : Int)).bind fun t178 => (if t178 = true then ((ringworkref06_Two.f a0 0).bind fun t179 => (if t179 > 200 then (ringworkref06_Wrong.j0 k a0 t179 true) else (ringworkref06_Wrong.j0 k a0 t179 (decide ((wrap64 (2 + (wrap64 (4 * t179)))) > (a0.size : Int)))))) else (some (0, 11)))) = some (r1, r2) := h
  clear h
  replace H := Option.bind_eq_some_iff.mp H
  obtain ⟨t178, A20, H⟩ := H
  replace H : (if t178 = true then ((ringworkref06_Two.f a0 0).bind fun t179 => (if t179 > 200 then (ringworkref06_Wrong.j0 k a0 t179 true) else (ringworkref06_Wrong.j0 k a0 t179 (decide ((wrap64 (2 + (wrap64 (4 * t179)))) > (a0.size : Int)))))) else (some (0, 11))) = some (r1, r2) := H
  have A2 := Aside0.mk A20
  clear A20
  by_cases c3 : t178 = true
  · subst c3
    have H1 : ((ringworkref06_Two.f a0 0).bind fun t179 => (if t179 > 200 then (ringworkref06_Wrong.j0 k a0 t179 true) else (ringworkref06_Wrong.j0 k a0 t179 (decide ((wrap64 (2 + (wrap64 (4 * t179)))) > (a0.size : Int)))))) = some (r1, r2) := by rw [if_pos rfl] at H; exact H
    clear H
    have H := H1
    clear H1
    replace H := Option.bind_eq_some_iff.mp H
    obtain ⟨t179, A40, H⟩ := H
    replace H : (if t179 > 200 then (ringworkref06_Wrong.j0 k a0 t179 true) else (ringworkref06_Wrong.j0 k a0 t179 (decide ((wrap64 (2 + (wrap64 (4 * t179)))) > (a0.size : Int))))) = some (r1, r2) := H
    have A4 := Aside0.mk A40
    clear A40
    have HC5 := Aside0.mk H
    clear H
    go_enter Try.func20, Try.ntmps20
    go_upto_region 4 with (first | ((with_reducible refine gate_callee (f := 50) rfl ?_); refine goesL_ (some 13) rfl rfl Try.func50 (by kernel_rfl) rfl #[.int .i64 (a0.size : Int)] rfl (by (try simp only [List.map_toArray, List.map_cons, List.map_nil]); first | done | rfl | (simp only [List.length_drop, List.length_take]; rfl)) ?_; (with_reducible refine (ringworkref06_Size.calls (a0.size : Int) true _ A2.out).mono ?_); rintro e w' ⟨rfl, ⟨nd, rfl⟩⟩; refine ⟨_, rfl, ?_⟩) | ((with_reducible refine gate_callee (f := 59) rfl ?_); refine goesL_ (some 16) rfl rfl Try.func59 (by kernel_rfl) rfl #[.string a0, .int .i64 0] rfl (by (try simp only [List.map_toArray, List.map_cons, List.map_nil]); first | done | rfl | (simp only [List.length_drop, List.length_take]; rfl)) ?_; (with_reducible refine (ringworkref06_Two.calls a0 0 t179 _ A4.out).mono ?_); rintro e w' ⟨rfl, ⟨nd, rfl⟩⟩; refine ⟨_, rfl, ?_⟩))
    (try simp only [Act.put, List.setIfInBounds_toArray, List.set_cons_zero, List.set_cons_succ])
    go_cut [26] (fun v26 wc => ∃ (kq : Nat) (x26_4 : Bool), v26 = .bool x26_4 ∧ Aside0 (ringworkref06_Wrong.j0 kq a0 t179 x26_4 = some (r1, r2)) ∧ Aside0 (kq ≤ k) ∧ Drawn0 w wc)
    case first =>
      have H := HC5.out
      clear HC5
      by_cases c6 : t179 > 200
      · rw [if_pos c6] at H
        have c6b0 : decide (200 < t179) = true := decide_eq_true c6
        clear c6
        (first | rw [c6b0] | (simp only [i64_w, i32_w]; rw [c6b0]) | skip)
        have H' := Aside0.mk H
        clear H
        go_wp2
        go_meet
        case rel => exact ⟨_, (true), (by first | rfl | (simp; done) | (simp [*]; done)), H', ⟨by first | omega | exact Nat.le_refl _⟩, by repeat (first | exact Drawn0.refl _ | apply Drawn0.step)⟩
      · rw [if_neg c6] at H
        have c6b0 : decide (200 < t179) = false := decide_eq_false c6
        clear c6
        (first | rw [c6b0] | (simp only [i64_w, i32_w]; rw [c6b0]) | skip)
        have H' := Aside0.mk H
        clear H
        go_wp2
        go_meet
        case rel => exact ⟨_, (decide ((wrap64 (2 + (wrap64 (4 * t179)))) > (a0.size : Int))), (by first | rfl | (simp; done) | (simp [*]; done)), H', ⟨by first | omega | exact Nat.le_refl _⟩, by repeat (first | exact Drawn0.refl _ | apply Drawn0.step)⟩
    case rest =>
      clear HC5
      try clear c2
      try clear p2
      try clear c3
      try clear c5
      try clear c6
      try clear c6b0
      try clear p6
      obtain ⟨kq, x26_4, rfl, HA, HJ4, ⟨mc4, rfl⟩⟩ := hcut
      cases kq with
      | zero => exact absurd HA.out (by simp [ringworkref06_Wrong.j0])
      | succ kj4 =>
        have H := HA.out
        clear HA
        simp only [ringworkref06_Wrong.j0] at H
        by_cases c7 : x26_4 = true
        · subst c7
          have H1 : (some (0, 12)) = some (r1, r2) := by rw [if_pos rfl] at H; exact H
          clear H
          have H := H1
          clear H1
          simp only [Option.some.injEq, Prod.mk.injEq] at H
          obtain ⟨rfl, rfl⟩ := H
          go_wp2
          go_ret2
          exact ⟨by first | rfl | (simp; done) | (simp [*]; done), by repeat (first | exact Drawn0.refl _ | apply Drawn0.step)⟩
        · replace c7 := Bool.eq_false_iff.mpr c7
          subst c7
          have H1 : (ringworkref06_Wrong.l0 kj4 a0 t179 (a0.size : Int) 1) = some (r1, r2) := by rw [if_neg (show ¬ (false = true) by decide)] at H; exact H
          clear H
          have H := H1
          clear H1
          have H' := Aside0.mk H
          clear H
          go_wp2
          go_loopg [5, 6] kj4 (fun kq v5 v6 w' => ∃ (x5_2 : Int) (x6_2 : Int), v5 = .int .i64 x5_2 ∧ v6 = .int .i64 x6_2 ∧ Aside0 (ringworkref06_Wrong.l0 kq a0 t179 x5_2 x6_2 = some (r1, r2)) ∧ Aside0 (kq ≤ kj4) ∧ Drawn0 w w')
          case atStart => exact ⟨((a0.size : Int)), (1), (by first | rfl | (simp; done) | (simp [*]; done)), (by first | rfl | (simp; done) | (simp [*]; done)), H', ⟨Nat.le_refl _⟩, by repeat (first | exact Drawn0.refl _ | apply Drawn0.step)⟩
          case round =>
            clear H'
            try clear c2
            try clear p2
            try clear c3
            try clear c4
            try clear c5
            try clear c6
            try clear c6b0
            try clear p6
            try clear c7
            try clear p2
            try clear p6
            obtain ⟨x5_2, x6_2, rfl, rfl, HA, HK2, ⟨m2, rfl⟩⟩ := hrel
            cases gk with
            | zero => exact absurd HA.out (by simp [ringworkref06_Wrong.l0])
            | succ k2 =>
              have H := HA.out
              clear HA
              simp only [ringworkref06_Wrong.l0] at H
              by_cases c8 : x6_2 ≤ t179
              · rw [if_pos c8] at H
                have c8b0 : decide (x6_2 ≤ t179) = true := decide_eq_true c8
                clear c8
                replace H := Option.bind_eq_some_iff.mp H
                obtain ⟨t180, A90, H⟩ := H
                replace H : ((ringworkref06_Two.f a0 (wrap64 ((wrap64 ((wrap64 (4 * x6_2)) - 2)) + 2))).bind fun t181 => (if t180 = 0 then (ringworkref06_Wrong.j2 k2 a0 t179 x5_2 x6_2 (wrap64 ((wrap64 (4 * x6_2)) - 2)) t180 t181 (t181 == 0)) else (ringworkref06_Wrong.j2 k2 a0 t179 x5_2 x6_2 (wrap64 ((wrap64 (4 * x6_2)) - 2)) t180 t181 false))) = some (r1, r2) := H
                have A9 := Aside0.mk A90
                clear A90
                replace H := Option.bind_eq_some_iff.mp H
                obtain ⟨t181, A100, H⟩ := H
                replace H : (if t180 = 0 then (ringworkref06_Wrong.j2 k2 a0 t179 x5_2 x6_2 (wrap64 ((wrap64 (4 * x6_2)) - 2)) t180 t181 (t181 == 0)) else (ringworkref06_Wrong.j2 k2 a0 t179 x5_2 x6_2 (wrap64 ((wrap64 (4 * x6_2)) - 2)) t180 t181 false)) = some (r1, r2) := H
                have A10 := Aside0.mk A100
                clear A100
                have HC11 := Aside0.mk H
                clear H
                go_upto_region 12 with (first | ((with_reducible refine gate_callee (f := 59) rfl ?_); refine goesL_ (some 39) rfl rfl Try.func59 (by kernel_rfl) rfl #[.string a0, .int .i64 (wrap64 ((wrap64 (4 * x6_2)) - 2))] rfl (by (try simp only [List.map_toArray, List.map_cons, List.map_nil]); first | done | rfl | (simp only [List.length_drop, List.length_take]; rfl)) ?_; (with_reducible refine (ringworkref06_Two.calls a0 (wrap64 ((wrap64 (4 * x6_2)) - 2)) t180 _ A9.out).mono ?_); rintro e w' ⟨rfl, ⟨nd, rfl⟩⟩; refine ⟨_, rfl, ?_⟩) | ((with_reducible refine gate_callee (f := 59) rfl ?_); refine goesL_ (some 43) rfl rfl Try.func59 (by kernel_rfl) rfl #[.string a0, .int .i64 (wrap64 ((wrap64 ((wrap64 (4 * x6_2)) - 2)) + 2))] rfl (by (try simp only [List.map_toArray, List.map_cons, List.map_nil]); first | done | rfl | (simp only [List.length_drop, List.length_take]; rfl)) ?_; (with_reducible refine (ringworkref06_Two.calls a0 (wrap64 ((wrap64 ((wrap64 (4 * x6_2)) - 2)) + 2)) t181 _ A10.out).mono ?_); rintro e w' ⟨rfl, ⟨nd, rfl⟩⟩; refine ⟨_, rfl, ?_⟩))
                (try simp only [Act.put, List.setIfInBounds_toArray, List.set_cons_zero, List.set_cons_succ])
                go_cut [49] (fun v49 wc => ∃ (kq : Nat) (x49_10 : Bool), v49 = .bool x49_10 ∧ Aside0 (ringworkref06_Wrong.j2 kq a0 t179 x5_2 x6_2 (wrap64 ((wrap64 (4 * x6_2)) - 2)) t180 t181 x49_10 = some (r1, r2)) ∧ Aside0 (kq ≤ k2) ∧ Drawn0 w wc)
                case first =>
                  have H := HC11.out
                  clear HC11
                  by_cases c12 : t180 = 0
                  · rw [if_pos c12] at H
                    have c12b0 : (t180 == 0) = true := beq_iff_eq.mpr c12
                    have c12b1 : (t180 != 0) = false := bne_eq_false_iff_eq.mpr c12
                    clear c12
                    (first | rw [c12b0] | (simp only [i64_w, i32_w]; rw [c12b0]) | skip)
                    have H' := Aside0.mk H
                    clear H
                    go_wp2
                    go_meet
                    case rel => exact ⟨_, ((t181 == 0)), (by first | rfl | (simp; done) | (simp [*]; done)), H', ⟨by have := HJ4.out; have := HK2.out; first | omega | exact Nat.le_refl _⟩, by repeat (first | exact Drawn0.refl _ | apply Drawn0.step)⟩
                  · rw [if_neg c12] at H
                    have c12b0 : (t180 == 0) = false := beq_eq_false_iff_ne.mpr c12
                    have c12b1 : (t180 != 0) = true := bne_iff_ne.mpr c12
                    (first | rw [c12b0] | (simp only [i64_w, i32_w]; rw [c12b0]) | skip)
                    have H' := Aside0.mk H
                    clear H
                    go_wp2
                    go_meet
                    case rel => exact ⟨_, (false), (by first | rfl | (simp; done) | (simp [*]; done)), H', ⟨by have := HJ4.out; have := HK2.out; first | omega | exact Nat.le_refl _⟩, by repeat (first | exact Drawn0.refl _ | apply Drawn0.step)⟩
                case rest =>
                  clear HC11
                  try clear c1
                  try clear c2
                  try clear p2
                  try clear c3
                  try clear c4
                  try clear c5
                  try clear c6
                  try clear c6b0
                  try clear p6
                  try clear c7
                  try clear c8
                  try clear c8b0
                  try clear c12
                  try clear c12b0
                  try clear c12b1
                  try clear p2
                  try clear p6
                  obtain ⟨kq, x49_10, rfl, HA, HJ10, ⟨mc10, rfl⟩⟩ := hcut
                  cases kq with
                  | zero => exact absurd HA.out (by simp [ringworkref06_Wrong.j2])
                  | succ kj10 =>
                    have H := HA.out
                    clear HA
                    simp only [ringworkref06_Wrong.j2] at H
                    by_cases c13 : x49_10 = true
                    · subst c13
                      have H1 : (if x6_2 = t179 then (some ((wrap64 ((wrap64 (4 * x6_2)) - 2)), 12)) else (ringworkref06_Wrong.l0 kj10 a0 t179 x5_2 (wrap64 (x6_2 + 1)))) = some (r1, r2) := by rw [if_pos rfl] at H; exact H
                      clear H
                      have H := H1
                      clear H1
                      by_cases c14 : x6_2 = t179
                      · rw [if_pos c14] at H
                        have c14b0 : (x6_2 == t179) = true := beq_iff_eq.mpr c14
                        have c14b1 : (x6_2 != t179) = false := bne_eq_false_iff_eq.mpr c14
                        clear c14
                        simp only [Option.some.injEq, Prod.mk.injEq] at H
                        obtain ⟨rfl, rfl⟩ := H
                        go_wp2
                        go_ret2
                        exact ⟨by first | rfl | (simp; done) | (simp [*]; done), by repeat (first | exact Drawn0.refl _ | apply Drawn0.step)⟩
                      · rw [if_neg c14] at H
                        have c14b0 : (x6_2 == t179) = false := beq_eq_false_iff_ne.mpr c14
                        have c14b1 : (x6_2 != t179) = true := bne_iff_ne.mpr c14
                        have H' := Aside0.mk H
                        clear H
                        go_wp2
                        go_roundg kj10
                        case measure => have := HJ4.out; have := HK2.out; have := HJ10.out; omega
                        case rel => exact ⟨(x5_2), (wrap64 (x6_2 + 1)), (by first | rfl | (simp; done) | (simp [*]; done)), (by first | rfl | (simp; done) | (simp [*]; done)), H', ⟨by have := HJ4.out; have := HK2.out; have := HJ10.out; omega⟩, by repeat (first | exact Drawn0.refl _ | apply Drawn0.step)⟩
                    · replace c13 := Bool.eq_false_iff.mpr c13
                      subst c13
                      have H1 : (if t180 = 0 then (some ((wrap64 ((wrap64 (4 * x6_2)) - 2)), 12)) else (if t181 = 0 then (some ((wrap64 ((wrap64 (4 * x6_2)) - 2)), 12)) else (if t180 = (wrap64 (x5_2 - t181)) then (if t180 < (wrap64 (2 + (wrap64 (4 * t179)))) then (some ((wrap64 ((wrap64 (4 * x6_2)) - 2)), 12)) else (ringworkref06_Wrong.l0 kj10 a0 t179 t180 (wrap64 (x6_2 + 1)))) else (some ((wrap64 ((wrap64 (4 * x6_2)) - 2)), 12))))) = some (r1, r2) := by rw [if_neg (show ¬ (false = true) by decide)] at H; exact H
                      clear H
                      have H := H1
                      clear H1
                      by_cases c15 : t180 = 0
                      · rw [if_pos c15] at H
                        have c15b0 : (t180 == 0) = true := beq_iff_eq.mpr c15
                        have c15b1 : (t180 != 0) = false := bne_eq_false_iff_eq.mpr c15
                        clear c15
                        simp only [Option.some.injEq, Prod.mk.injEq] at H
                        obtain ⟨rfl, rfl⟩ := H
                        go_wp2
                        go_ret2
                        exact ⟨by first | rfl | (simp; done) | (simp [*]; done), by repeat (first | exact Drawn0.refl _ | apply Drawn0.step)⟩
                      · rw [if_neg c15] at H
                        have c15b0 : (t180 == 0) = false := beq_eq_false_iff_ne.mpr c15
                        have c15b1 : (t180 != 0) = true := bne_iff_ne.mpr c15
                        by_cases c16 : t181 = 0
                        · rw [if_pos c16] at H
                          have c16b0 : (t181 == 0) = true := beq_iff_eq.mpr c16
                          have c16b1 : (t181 != 0) = false := bne_eq_false_iff_eq.mpr c16
                          clear c16
                          simp only [Option.some.injEq, Prod.mk.injEq] at H
                          obtain ⟨rfl, rfl⟩ := H
                          go_wp2
                          go_ret2
                          exact ⟨by first | rfl | (simp; done) | (simp [*]; done), by repeat (first | exact Drawn0.refl _ | apply Drawn0.step)⟩
                        · rw [if_neg c16] at H
                          have c16b0 : (t181 == 0) = false := beq_eq_false_iff_ne.mpr c16
                          have c16b1 : (t181 != 0) = true := bne_iff_ne.mpr c16
                          by_cases c17 : t180 = (wrap64 (x5_2 - t181))
                          · rw [if_pos c17] at H
                            have c17b0 : (t180 == (wrap64 (x5_2 - t181))) = true := beq_iff_eq.mpr c17
                            have c17b1 : (t180 != (wrap64 (x5_2 - t181))) = false := bne_eq_false_iff_eq.mpr c17
                            clear c17
                            by_cases c18 : t180 < (wrap64 (2 + (wrap64 (4 * t179))))
                            · rw [if_pos c18] at H
                              have c18b0 : decide (t180 < (wrap64 (2 + (wrap64 (4 * t179))))) = true := decide_eq_true c18
                              clear c18
                              simp only [Option.some.injEq, Prod.mk.injEq] at H
                              obtain ⟨rfl, rfl⟩ := H
                              go_wp2
                              go_ret2
                              exact ⟨by first | rfl | (simp; done) | (simp [*]; done), by repeat (first | exact Drawn0.refl _ | apply Drawn0.step)⟩
                            · rw [if_neg c18] at H
                              have c18b0 : decide (t180 < (wrap64 (2 + (wrap64 (4 * t179))))) = false := decide_eq_false c18
                              clear c18
                              have H' := Aside0.mk H
                              clear H
                              go_wp2
                              go_roundg kj10
                              case measure => have := HJ4.out; have := HK2.out; have := HJ10.out; omega
                              case rel => exact ⟨(t180), (wrap64 (x6_2 + 1)), (by first | rfl | (simp; done) | (simp [*]; done)), (by first | rfl | (simp; done) | (simp [*]; done)), H', ⟨by have := HJ4.out; have := HK2.out; have := HJ10.out; omega⟩, by repeat (first | exact Drawn0.refl _ | apply Drawn0.step)⟩
                          · rw [if_neg c17] at H
                            have c17b0 : (t180 == (wrap64 (x5_2 - t181))) = false := beq_eq_false_iff_ne.mpr c17
                            have c17b1 : (t180 != (wrap64 (x5_2 - t181))) = true := bne_iff_ne.mpr c17
                            simp only [Option.some.injEq, Prod.mk.injEq] at H
                            obtain ⟨rfl, rfl⟩ := H
                            go_wp2
                            go_ret2
                            exact ⟨by first | rfl | (simp; done) | (simp [*]; done), by repeat (first | exact Drawn0.refl _ | apply Drawn0.step)⟩
              · rw [if_neg c8] at H
                have c8b0 : decide (x6_2 ≤ t179) = false := decide_eq_false c8
                clear c8
                have H' := Aside0.mk H
                clear H
                go_wp2
                go_loopg [10] k2 (fun kq v10 w' => ∃ (x10_3 : Int), v10 = .int .i64 x10_3 ∧ Aside0 (ringworkref06_Wrong.l1 kq a0 x5_2 x10_3 = some (r1, r2)) ∧ Aside0 (kq ≤ k2) ∧ Drawn0 w w')
                case atStart => exact ⟨(wrap64 (2 + (wrap64 (4 * t179)))), (by first | rfl | (simp; done) | (simp [*]; done)), H', ⟨Nat.le_refl _⟩, by repeat (first | exact Drawn0.refl _ | apply Drawn0.step)⟩
                case round =>
                  clear H'
                  try clear c1
                  try clear c2
                  try clear p2
                  try clear c3
                  try clear c4
                  try clear c5
                  try clear c6
                  try clear c6b0
                  try clear p6
                  try clear c7
                  try clear c8
                  try clear c8b0
                  try clear c10
                  try clear c12
                  try clear c12b0
                  try clear c12b1
                  try clear c13
                  try clear c14
                  try clear c14b0
                  try clear c14b1
                  try clear c15
                  try clear c15b0
                  try clear c15b1
                  try clear c16
                  try clear c16b0
                  try clear c16b1
                  try clear c17
                  try clear c17b0
                  try clear c17b1
                  try clear c18
                  try clear c18b0
                  try clear p2
                  try clear p6
                  obtain ⟨x10_3, rfl, HA, HK3, ⟨m3, rfl⟩⟩ := hrel
                  cases gk with
                  | zero => exact absurd HA.out (by simp [ringworkref06_Wrong.l1])
                  | succ k3 =>
                    have H := HA.out
                    clear HA
                    simp only [ringworkref06_Wrong.l1] at H
                    by_cases c19 : x10_3 < x5_2
                    · rw [if_pos c19] at H
                      have c19b0 : decide (x10_3 < x5_2) = true := decide_eq_true c19
                      clear c19
                      by_cases c20 : 0 ≤ x10_3
                      · rw [if_pos c20] at H
                        have c20b0 : decide (0 ≤ x10_3) = true := decide_eq_true c20
                        clear c20
                        by_cases c21 : x10_3 < (a0.size : Int)
                        · rw [if_pos c21] at H
                          have c21b0 : decide (x10_3 < (a0.size : Int)) = true := decide_eq_true c21
                          clear c21
                          by_cases c23 : (bt a0 x10_3) = 0
                          · rw [if_pos c23] at H
                            have c23b0 : ((bt a0 x10_3) == 0) = true := beq_iff_eq.mpr c23
                            have c23b1 : ((bt a0 x10_3) != 0) = false := bne_eq_false_iff_eq.mpr c23
                            clear c23
                            have H' := Aside0.mk H
                            clear H
                            have p22 : 0 ≤ (x10_3 : Int) := of_decide_eq_true (by first | (with_reducible assumption) | assumption)
                            have q22 : x10_3 < (a0.size : Int) := of_decide_eq_true (by first | (with_reducible assumption) | assumption)
                            have hx22 := bt_at a0 x10_3
                            replace p22 := eq_true p22
                            replace q22 := eq_true q22
                            go_wp2
                            go_roundg k3
                            case measure => have := HJ4.out; have := HK2.out; have := HK3.out; omega
                            case rel => exact ⟨(wrap64 (x10_3 + 1)), (by first | rfl | (simp; done) | (simp [*]; done)), H', ⟨by have := HJ4.out; have := HK2.out; have := HK3.out; omega⟩, by repeat (first | exact Drawn0.refl _ | apply Drawn0.step)⟩
                          · rw [if_neg c23] at H
                            have c23b0 : ((bt a0 x10_3) == 0) = false := beq_eq_false_iff_ne.mpr c23
                            have c23b1 : ((bt a0 x10_3) != 0) = true := bne_iff_ne.mpr c23
                            simp only [Option.some.injEq, Prod.mk.injEq] at H
                            obtain ⟨rfl, rfl⟩ := H
                            have p22 : 0 ≤ (x10_3 : Int) := of_decide_eq_true (by first | (with_reducible assumption) | assumption)
                            have q22 : x10_3 < (a0.size : Int) := of_decide_eq_true (by first | (with_reducible assumption) | assumption)
                            have hx22 := bt_at a0 x10_3
                            replace p22 := eq_true p22
                            replace q22 := eq_true q22
                            go_wp2
                            go_ret2
                            exact ⟨by first | rfl | (simp; done) | (simp [*]; done), by repeat (first | exact Drawn0.refl _ | apply Drawn0.step)⟩
                        · rw [if_neg c21] at H
                          exact absurd H (by simp)
                      · rw [if_neg c20] at H
                        exact absurd H (by simp)
                    · rw [if_neg c19] at H
                      have c19b0 : decide (x10_3 < x5_2) = false := decide_eq_false c19
                      clear c19
                      simp only [Option.some.injEq, Prod.mk.injEq] at H
                      obtain ⟨rfl, rfl⟩ := H
                      go_wp2
                      go_ret2
                      exact ⟨by first | rfl | (simp; done) | (simp [*]; done), by repeat (first | exact Drawn0.refl _ | apply Drawn0.step)⟩
  · replace c3 := Bool.eq_false_iff.mpr c3
    subst c3
    have H1 : (some (0, 11)) = some (r1, r2) := by rw [if_neg (show ¬ (false = true) by decide)] at H; exact H
    clear H
    have H := H1
    clear H1
    simp only [Option.some.injEq, Prod.mk.injEq] at H
    obtain ⟨rfl, rfl⟩ := H
    go_enter Try.func20, Try.ntmps20
    go_wp2_with (first | ((with_reducible refine gate_callee (f := 50) rfl ?_); refine goesL_ (some 13) rfl rfl Try.func50 (by kernel_rfl) rfl #[.int .i64 (a0.size : Int)] rfl (by (try simp only [List.map_toArray, List.map_cons, List.map_nil]); first | done | rfl | (simp only [List.length_drop, List.length_take]; rfl)) ?_; (with_reducible refine (ringworkref06_Size.calls (a0.size : Int) false _ A2.out).mono ?_); rintro e w' ⟨rfl, ⟨nd, rfl⟩⟩; refine ⟨_, rfl, ?_⟩))
    go_ret2
    exact ⟨by first | rfl | (simp; done) | (simp [*]; done), by repeat (first | exact Drawn0.refl _ | apply Drawn0.step)⟩

end Go.Proofs.Ytemglmcddaeedaa.PA

namespace Go.Proofs.Ytemglmcddaeedaa.PA
open Go.RowKit Go.Proofs.YtemglmcddaeedaaW.PrintWords Go.Proofs.YtemglmcddaeedaaW.PrintLast Go.Proofs.YtemglmcddaeedaaW.PrintMore
attribute [local go_sem] max2_int min2_int max_two min_two max_three min_three max_four min_four   -- for this text's walks alone
set_option linter.unusedVariables false
set_option linter.unusedSimpArgs false

/-! ### ringworkref06_Valid: function 22 -/
def ringworkref06_Valid.f (k : Nat) (a0 : ByteArray) : Option (Bool) := (ringworkref06_Wrong.f k a0).bind fun bt182 => (some (bt182.2 == 0))
theorem ringworkref06_Valid.mono : ∀ a0 k, LeO (ringworkref06_Valid.f k a0) (ringworkref06_Valid.f (k + 1) a0) := by
  intro a0 k
  unfold ringworkref06_Valid.f
  repeat' first
      | (with_reducible exact ringworkref06_Wrong.mono _ _)
      | (with_reducible exact LeO.refl _)
      | (with_reducible exact LeO.none _)
      | (with_reducible refine LeO.ite ?_ ?_)
      | (with_reducible refine LeO.bind ?_ (fun _ => ?_))
      | exact ringworkref06_Wrong.mono _ _
      | exact LeO.none _
      | refine LeO.ite ?_ ?_
      | refine LeO.bind ?_ (fun _ => ?_)
set_option maxHeartbeats 8000000 in
set_option maxRecDepth 100000 in
theorem ringworkref06_Valid.calls (k : Nat) (a0 : ByteArray) (r : Bool) (w : World) (h : ringworkref06_Valid.f k a0 = some r) :
    Calls Try.prog 22 #[.string a0] w fun e w' => e = .returned (.bool r) ∧ Drawn0 w w' := by
  have H : ((ringworkref06_Wrong.f k a0).bind fun bt182 => (some (bt182.2 == 0))) = some r := h
  clear h
  replace H := Option.bind_eq_some_iff.mp H
  obtain ⟨⟨t182, t183⟩, A20, H⟩ := H
  replace H : (some (t183 == 0)) = some r := H
  have A2 := Aside0.mk A20
  clear A20
  obtain rfl := Option.some.inj H
  go_enter Try.func22, Try.ntmps22
  go_wp2_with (first | ((with_reducible refine gate_callee (f := 20) rfl ?_); refine goesL_ (some 7) rfl rfl Try.func20 (by kernel_rfl) rfl #[.string a0] rfl (by (try simp only [List.map_toArray, List.map_cons, List.map_nil]); first | done | rfl | (simp only [List.length_drop, List.length_take]; rfl)) ?_; (with_reducible refine (ringworkref06_Wrong.calls k a0 t182 t183 _ A2.out).mono ?_); rintro e w' ⟨rfl, ⟨nd, rfl⟩⟩; refine ⟨_, rfl, ?_⟩))
  go_ret
  exact ⟨by first | rfl | (simp; done) | (simp [*]; done), by repeat (first | exact Drawn0.refl _ | apply Drawn0.step)⟩

end Go.Proofs.Ytemglmcddaeedaa.PA

namespace Go.Proofs.Ytemglmcddaeedaa.PA
open Go.RowKit Go.Proofs.YtemglmcddaeedaaW.PrintWords Go.Proofs.YtemglmcddaeedaaW.PrintLast Go.Proofs.YtemglmcddaeedaaW.PrintMore
attribute [local go_sem] max2_int min2_int max_two min_two max_three min_three max_four min_four   -- for this text's walks alone
set_option linter.unusedVariables false
set_option linter.unusedSimpArgs false

/-! ### ringworkref06_CellsOf: function 60 -/
def ringworkref06_CellsOf.l0 : Nat → ByteArray → List (S45) → Int → Option ((List (S45)))
  | 0, _, _, _ => none
  | k + 1, x0, x3, x4 => (ringworkref06_Two.f x0 0).bind fun t184 => (if x4 ≤ t184 then ((ringworkref06_Two.f x0 (wrap64 ((wrap64 (4 * x4)) - 2))).bind fun t185 => ((ringworkref06_Two.f x0 (wrap64 (4 * x4))).bind fun t186 => (if t186 > 0 then (if 0 ≤ t185 then (if t185 ≤ (wrap64 (t185 + t186)) then (if (wrap64 (t185 + t186)) ≤ (x0.size : Int) then (if x3.length < 5864062014805 then (ringworkref06_CellsOf.l0 k x0 (x3 ++ [(⟨x4, x0.extract (t185 : Int).toNat ((wrap64 (t185 + t186)) : Int).toNat⟩ : S45)]) (wrap64 (x4 + 1))) else (none)) else (none)) else (none)) else (none)) else (ringworkref06_CellsOf.l0 k x0 x3 (wrap64 (x4 + 1)))))) else (some x3))
def ringworkref06_CellsOf.f (k : Nat) (a0 : ByteArray) : Option ((List (S45))) := ringworkref06_CellsOf.l0 k a0 ([] : List (S45)) 1
theorem ringworkref06_CellsOf.mono_l : ∀ k, (∀ y0 y1 y2, LeO (ringworkref06_CellsOf.l0 k y0 y1 y2) (ringworkref06_CellsOf.l0 (k + 1) y0 y1 y2))
  | 0 => fun _ _ _ r h => by simp [ringworkref06_CellsOf.l0] at h
  | k + 1 => by
    have ih0 := ringworkref06_CellsOf.mono_l k
    · intro y0 y1 y2
      unfold ringworkref06_CellsOf.l0
      repeat' first
      | (with_reducible exact ih0 _ _ _)
      | (with_reducible exact LeO.refl _)
      | (with_reducible exact LeO.none _)
      | (with_reducible refine LeO.ite ?_ ?_)
      | (with_reducible refine LeO.bind ?_ (fun _ => ?_))
      | exact ih0 _ _ _
      | exact LeO.none _
      | refine LeO.ite ?_ ?_
      | refine LeO.bind ?_ (fun _ => ?_)
theorem ringworkref06_CellsOf.mono : ∀ a0 k, LeO (ringworkref06_CellsOf.f k a0) (ringworkref06_CellsOf.f (k + 1) a0) := by
  intro a0 k
  have ih0 := ringworkref06_CellsOf.mono_l k
  unfold ringworkref06_CellsOf.f
  repeat' first
      | (with_reducible exact ih0 _ _ _)
      | (with_reducible exact LeO.refl _)
      | (with_reducible exact LeO.none _)
      | (with_reducible refine LeO.ite ?_ ?_)
      | (with_reducible refine LeO.bind ?_ (fun _ => ?_))
      | exact ih0 _ _ _
      | exact LeO.none _
      | refine LeO.ite ?_ ?_
      | refine LeO.bind ?_ (fun _ => ?_)
set_option maxHeartbeats 8000000 in
set_option maxRecDepth 100000 in
theorem ringworkref06_CellsOf.calls (k : Nat) (a0 : ByteArray) (r : List (S45)) (w : World) (h : ringworkref06_CellsOf.f k a0 = some r) :
    Calls Try.prog 60 #[.string a0] w fun e w' => ∃ v0_ : Value, e = .returned (v0_) ∧ Kd.R k45 45 w' w.heap.size (fun _ => True) v0_ r ∧ Below w.heap.size w w' := by
  have hu45 := Try.underlying45
  have HB := Aside0.mk (Below.refl w.heap.size w)
  have H : (ringworkref06_CellsOf.l0 k a0 ([] : List (S45)) 1) = some r := h
  clear h
  have H' := Aside0.mk H
  clear H
  go_enter Try.func60, Try.ntmps60
  go_wp2
  go_loopg [3, 4] k (fun kq v3 v4 w' => ∃ (x3_1 : List (S45)) (x4_1 : Int), v4 = .int .i64 x4_1 ∧ Aside0 (ringworkref06_CellsOf.l0 kq a0 x3_1 x4_1 = some r) ∧ Aside0 (kq ≤ k) ∧ Aside0 (Kd.R k45 45 w' w.heap.size (fun _ => True) v3 x3_1) ∧ Aside0 (Below w.heap.size w w'))
  case atStart => exact ⟨(([] : List (S45))), (1), (by first | rfl | (simp; done) | (simp [*]; done)), H', ⟨Nat.le_refl _⟩, ⟨by first | exact Kd.R_nil _ _ _ _ _ | exact Kd.N_nil _ _ _ _ _ | exact Kd.V_nil _ _ _ _ _ | exact Kd.Q_nil _ _ _ _ _ | exact Kd.S_nil _ _ _ _ _⟩, ⟨by repeat (first | (with_reducible first | exact HB.out | apply below_alloc | apply pw_below_drewN | apply below_drew1) | exact HB.out)⟩⟩
  case round =>
    clear H'
    obtain ⟨x3_1, x4_1, rfl, HA, HK1, HO_3, HB⟩ := hrel
    cases gk with
    | zero => exact absurd HA.out (by simp [ringworkref06_CellsOf.l0])
    | succ k1 =>
      have H := HA.out
      clear HA
      simp only [ringworkref06_CellsOf.l0] at H
      replace H := Option.bind_eq_some_iff.mp H
      obtain ⟨t184, A20, H⟩ := H
      replace H : (if x4_1 ≤ t184 then ((ringworkref06_Two.f a0 (wrap64 ((wrap64 (4 * x4_1)) - 2))).bind fun t185 => ((ringworkref06_Two.f a0 (wrap64 (4 * x4_1))).bind fun t186 => (if t186 > 0 then (if 0 ≤ t185 then (if t185 ≤ (wrap64 (t185 + t186)) then (if (wrap64 (t185 + t186)) ≤ (a0.size : Int) then (if x3_1.length < 5864062014805 then (ringworkref06_CellsOf.l0 k1 a0 (x3_1 ++ [(⟨x4_1, a0.extract (t185 : Int).toNat ((wrap64 (t185 + t186)) : Int).toNat⟩ : S45)]) (wrap64 (x4_1 + 1))) else (none)) else (none)) else (none)) else (none)) else (ringworkref06_CellsOf.l0 k1 a0 x3_1 (wrap64 (x4_1 + 1)))))) else (some x3_1)) = some r := H
      have A2 := Aside0.mk A20
      clear A20
      by_cases c3 : x4_1 ≤ t184
      · rw [if_pos c3] at H
        have c3b0 : decide (x4_1 ≤ t184) = true := decide_eq_true c3
        clear c3
        replace H := Option.bind_eq_some_iff.mp H
        obtain ⟨t185, A40, H⟩ := H
        replace H : ((ringworkref06_Two.f a0 (wrap64 (4 * x4_1))).bind fun t186 => (if t186 > 0 then (if 0 ≤ t185 then (if t185 ≤ (wrap64 (t185 + t186)) then (if (wrap64 (t185 + t186)) ≤ (a0.size : Int) then (if x3_1.length < 5864062014805 then (ringworkref06_CellsOf.l0 k1 a0 (x3_1 ++ [(⟨x4_1, a0.extract (t185 : Int).toNat ((wrap64 (t185 + t186)) : Int).toNat⟩ : S45)]) (wrap64 (x4_1 + 1))) else (none)) else (none)) else (none)) else (none)) else (ringworkref06_CellsOf.l0 k1 a0 x3_1 (wrap64 (x4_1 + 1))))) = some r := H
        have A4 := Aside0.mk A40
        clear A40
        replace H := Option.bind_eq_some_iff.mp H
        obtain ⟨t186, A50, H⟩ := H
        replace H : (if t186 > 0 then (if 0 ≤ t185 then (if t185 ≤ (wrap64 (t185 + t186)) then (if (wrap64 (t185 + t186)) ≤ (a0.size : Int) then (if x3_1.length < 5864062014805 then (ringworkref06_CellsOf.l0 k1 a0 (x3_1 ++ [(⟨x4_1, a0.extract (t185 : Int).toNat ((wrap64 (t185 + t186)) : Int).toNat⟩ : S45)]) (wrap64 (x4_1 + 1))) else (none)) else (none)) else (none)) else (none)) else (ringworkref06_CellsOf.l0 k1 a0 x3_1 (wrap64 (x4_1 + 1)))) = some r := H
        have A5 := Aside0.mk A50
        clear A50
        by_cases c6 : t186 > 0
        · rw [if_pos c6] at H
          have c6b0 : decide (0 < t186) = true := decide_eq_true c6
          clear c6
          by_cases c7 : 0 ≤ t185
          · rw [if_pos c7] at H
            have c7b0 := eq_true c7
            have c7b1 : decide (0 ≤ t185) = true := decide_eq_true c7
            clear c7
            by_cases c8 : t185 ≤ (wrap64 (t185 + t186))
            · rw [if_pos c8] at H
              have c8b0 := eq_true c8
              have c8b1 : decide (t185 ≤ (wrap64 (t185 + t186))) = true := decide_eq_true c8
              by_cases c9 : (wrap64 (t185 + t186)) ≤ (a0.size : Int)
              · rw [if_pos c9] at H
                have c9b0 := eq_true c9
                have c9b1 : decide ((wrap64 (t185 + t186)) ≤ (a0.size : Int)) = true := decide_eq_true c9
                by_cases c10 : x3_1.length < 5864062014805
                · rw [if_pos c10] at H
                  have LMc10 := Aside0.mk c10
                  clear c10
                  obtain ⟨y187, hy187⟩ : ∃ y_ : List (S45), y_ = (x3_1 ++ [(⟨x4_1, a0.extract (t185 : Int).toNat ((wrap64 (t185 + t186)) : Int).toNat⟩ : S45)]) := ⟨_, rfl⟩
                  replace H : (ringworkref06_CellsOf.l0 k1 a0 y187 (wrap64 (x4_1 + 1))) = some r := by first | (rw [hy187]; with_reducible exact H) | (have H2_ := (Option.bind_some _ _).symm.trans H; rw [hy187]; with_reducible exact H2_) | (have H2_ := (Option.bind_some _ _).symm.trans H; with_reducible exact H2_) | with_reducible exact H | (rw [hy187]; exact H) | exact H
                  have Ny187 := Aside0.mk hy187
                  clear hy187
                  have H' := Aside0.mk H
                  clear H
                  go_wp2_with (first | ((with_reducible refine gate_callee (f := 59) rfl ?_); refine goesL_ (some 9) rfl rfl Try.func59 (by kernel_rfl) rfl #[.string a0, .int .i64 0] rfl (by (try simp only [List.map_toArray, List.map_cons, List.map_nil]); first | done | rfl | (simp only [List.length_drop, List.length_take]; rfl)) ?_; (with_reducible refine (ringworkref06_Two.calls a0 0 t184 _ A2.out).mono ?_); rintro e w' ⟨rfl, ⟨nd, rfl⟩⟩; refine ⟨_, rfl, ?_⟩) | ((with_reducible refine gate_callee (f := 59) rfl ?_); refine goesL_ (some 17) rfl rfl Try.func59 (by kernel_rfl) rfl #[.string a0, .int .i64 (wrap64 ((wrap64 (4 * x4_1)) - 2))] rfl (by (try simp only [List.map_toArray, List.map_cons, List.map_nil]); first | done | rfl | (simp only [List.length_drop, List.length_take]; rfl)) ?_; (with_reducible refine (ringworkref06_Two.calls a0 (wrap64 ((wrap64 (4 * x4_1)) - 2)) t185 _ A4.out).mono ?_); rintro e w' ⟨rfl, ⟨nd, rfl⟩⟩; refine ⟨_, rfl, ?_⟩) | ((with_reducible refine gate_callee (f := 59) rfl ?_); refine goesL_ (some 21) rfl rfl Try.func59 (by kernel_rfl) rfl #[.string a0, .int .i64 (wrap64 (4 * x4_1))] rfl (by (try simp only [List.map_toArray, List.map_cons, List.map_nil]); first | done | rfl | (simp only [List.length_drop, List.length_take]; rfl)) ?_; (with_reducible refine (ringworkref06_Two.calls a0 (wrap64 (4 * x4_1)) t186 _ A5.out).mono ?_); rintro e w' ⟨rfl, ⟨nd, rfl⟩⟩; refine ⟨_, rfl, ?_⟩) | ((with_reducible refine gate_builtin (b := .append) (xs := #[.tmp 24, .tmp 33]) rfl ?_); at_builtin; refine Kd.R_append k45 (w0 := w) w.heap.size rfl (.tmp 24) (.tmp 33) 22 45 (.agg #[(.int .i64 0), (.string ⟨#[]⟩)]) 24 rfl Try.underlying22 info45 rfl (by decide) (by omega) u3 x3_1 (⟨x4_1, a0.extract (t185 : Int).toNat ((wrap64 (t185 + t186)) : Int).toNat⟩ : S45) [.int .i64 x4_1, .string (a0.extract (t185 : Int).toNat ((wrap64 (t185 + t186)) : Int).toNat)] (fun _ => True) (fun _ => False) rfl rfl ?aP (fun _ hk => hk.elim) ?aF ?aO ?aB ?aS ?aL ?_; (case aP => exact k45_mkM _ _ _ (⟨x4_1, a0.extract (t185 : Int).toNat ((wrap64 (t185 + t186)) : Int).toNat⟩ : S45)); (case aB => exact (by repeat (first | (with_reducible first | exact HB.out | apply below_alloc | apply pw_below_drewN | apply below_drew1) | exact HB.out))); (case aF => exact (fun _ _ => trivial)); (case aO => exact (by (with_reducible repeat (first | apply Kd.R_alloc | apply Kd.R_drewN | apply Kd.R_drew)); exact HO_3.out)); (case aS => exact (below_size (by repeat (first | (with_reducible first | exact HB.out | apply below_alloc | apply pw_below_drewN | apply below_drew1) | exact HB.out)))); (case aL => have := LMc10.out; omega); intro v188 w11 ho hb hg hat; rw [← Ny187.out] at ho; have n0_ := Aside0.mk (hb); have n1_ := Aside0.mk (ho); clear HB; clear HO_3; have HB := n0_; have HO189 := n1_; clear n0_ n1_; clear ho hb hg hat))
                  go_roundg k1
                  case measure => have := HK1.out; omega
                  case rel => exact ⟨(y187), (wrap64 (x4_1 + 1)), (by first | rfl | (simp; done) | (simp [*]; done)), H', ⟨by have := HK1.out; omega⟩, ⟨by (with_reducible repeat (first | apply Kd.R_alloc | apply Kd.R_drewN | apply Kd.R_drew)); exact HO189.out⟩, ⟨by repeat (first | (with_reducible first | exact HB.out | apply below_alloc | apply pw_below_drewN | apply below_drew1) | exact HB.out)⟩⟩
                · rw [if_neg c10] at H
                  exact absurd H (by simp)
              · rw [if_neg c9] at H
                exact absurd H (by simp)
            · rw [if_neg c8] at H
              exact absurd H (by simp)
          · rw [if_neg c7] at H
            exact absurd H (by simp)
        · rw [if_neg c6] at H
          have c6b0 : decide (0 < t186) = false := decide_eq_false c6
          clear c6
          have H' := Aside0.mk H
          clear H
          go_wp2_with (first | ((with_reducible refine gate_callee (f := 59) rfl ?_); refine goesL_ (some 9) rfl rfl Try.func59 (by kernel_rfl) rfl #[.string a0, .int .i64 0] rfl (by (try simp only [List.map_toArray, List.map_cons, List.map_nil]); first | done | rfl | (simp only [List.length_drop, List.length_take]; rfl)) ?_; (with_reducible refine (ringworkref06_Two.calls a0 0 t184 _ A2.out).mono ?_); rintro e w' ⟨rfl, ⟨nd, rfl⟩⟩; refine ⟨_, rfl, ?_⟩) | ((with_reducible refine gate_callee (f := 59) rfl ?_); refine goesL_ (some 17) rfl rfl Try.func59 (by kernel_rfl) rfl #[.string a0, .int .i64 (wrap64 ((wrap64 (4 * x4_1)) - 2))] rfl (by (try simp only [List.map_toArray, List.map_cons, List.map_nil]); first | done | rfl | (simp only [List.length_drop, List.length_take]; rfl)) ?_; (with_reducible refine (ringworkref06_Two.calls a0 (wrap64 ((wrap64 (4 * x4_1)) - 2)) t185 _ A4.out).mono ?_); rintro e w' ⟨rfl, ⟨nd, rfl⟩⟩; refine ⟨_, rfl, ?_⟩) | ((with_reducible refine gate_callee (f := 59) rfl ?_); refine goesL_ (some 21) rfl rfl Try.func59 (by kernel_rfl) rfl #[.string a0, .int .i64 (wrap64 (4 * x4_1))] rfl (by (try simp only [List.map_toArray, List.map_cons, List.map_nil]); first | done | rfl | (simp only [List.length_drop, List.length_take]; rfl)) ?_; (with_reducible refine (ringworkref06_Two.calls a0 (wrap64 (4 * x4_1)) t186 _ A5.out).mono ?_); rintro e w' ⟨rfl, ⟨nd, rfl⟩⟩; refine ⟨_, rfl, ?_⟩))
          go_roundg k1
          case measure => have := HK1.out; omega
          case rel => exact ⟨(x3_1), (wrap64 (x4_1 + 1)), (by first | rfl | (simp; done) | (simp [*]; done)), H', ⟨by have := HK1.out; omega⟩, ⟨by (with_reducible repeat (first | apply Kd.R_alloc | apply Kd.R_drewN | apply Kd.R_drew)); exact HO_3.out⟩, ⟨by repeat (first | (with_reducible first | exact HB.out | apply below_alloc | apply pw_below_drewN | apply below_drew1) | exact HB.out)⟩⟩
      · rw [if_neg c3] at H
        have c3b0 : decide (x4_1 ≤ t184) = false := decide_eq_false c3
        clear c3
        obtain rfl := Option.some.inj H
        go_wp2_with (first | ((with_reducible refine gate_callee (f := 59) rfl ?_); refine goesL_ (some 9) rfl rfl Try.func59 (by kernel_rfl) rfl #[.string a0, .int .i64 0] rfl (by (try simp only [List.map_toArray, List.map_cons, List.map_nil]); first | done | rfl | (simp only [List.length_drop, List.length_take]; rfl)) ?_; (with_reducible refine (ringworkref06_Two.calls a0 0 t184 _ A2.out).mono ?_); rintro e w' ⟨rfl, ⟨nd, rfl⟩⟩; refine ⟨_, rfl, ?_⟩))
        go_ret
        exact ⟨_, by first | rfl | (simp [errW_none, errW_some] <;> rfl) | (simp [*, errW_none, errW_some] <;> rfl), by (with_reducible repeat (first | apply Kd.R_alloc | apply Kd.R_drewN | apply Kd.R_drew)); exact HO_3.out, by repeat (first | (with_reducible first | exact HB.out | apply below_alloc | apply pw_below_drewN | apply below_drew1) | exact HB.out)⟩

end Go.Proofs.Ytemglmcddaeedaa.PA

namespace Go.Proofs.Ytemglmcddaeedaa.PA
open Go.RowKit Go.Proofs.YtemglmcddaeedaaW.PrintWords Go.Proofs.YtemglmcddaeedaaW.PrintLast Go.Proofs.YtemglmcddaeedaaW.PrintMore
attribute [local go_sem] max2_int min2_int max_two min_two max_three min_three max_four min_four   -- for this text's walks alone
set_option linter.unusedVariables false
set_option linter.unusedSimpArgs false

/-! ### ringworkref06_line: function 68 -/
def ringworkref06_line.f (k : Nat) (a0 : ByteArray) (a1 : Int) : Option ((List (S45)) × Int) := (ringworkref06_Valid.f k a0).bind fun t276 => (if t276 = true then (if a1 < 1 then (some (([] : List (S45)), 7)) else (if a1 > 200 then (some (([] : List (S45)), 7)) else ((ringworkref06_CellsOf.f k a0).bind fun t277 => (some (t277, 0))))) else (some (([] : List (S45)), 1)))
theorem ringworkref06_line.mono : ∀ a0 a1 k, LeO (ringworkref06_line.f k a0 a1) (ringworkref06_line.f (k + 1) a0 a1) := by
  intro a0 a1 k
  unfold ringworkref06_line.f
  repeat' first
      | (with_reducible exact ringworkref06_CellsOf.mono _ _)
      | (with_reducible exact ringworkref06_Valid.mono _ _)
      | (with_reducible exact LeO.refl _)
      | (with_reducible exact LeO.none _)
      | (with_reducible refine LeO.ite ?_ ?_)
      | (with_reducible refine LeO.bind ?_ (fun _ => ?_))
      | exact ringworkref06_CellsOf.mono _ _
      | exact ringworkref06_Valid.mono _ _
      | exact LeO.none _
      | refine LeO.ite ?_ ?_
      | refine LeO.bind ?_ (fun _ => ?_)
set_option maxHeartbeats 8000000 in
set_option maxRecDepth 100000 in
theorem ringworkref06_line.calls (k : Nat) (a0 : ByteArray) (a1 : Int) (r1 : List (S45)) (r2 : Int) (w : World) (h : ringworkref06_line.f k a0 a1 = some (r1, r2)) :
    Calls Try.prog 68 #[.string a0, .int .i64 a1] w fun e w' => ∃ v0_ : Value, e = .returned (.tuple #[v0_, .int .i64 r2]) ∧ Kd.R k45 45 w' w.heap.size (fun _ => True) v0_ r1 ∧ Below w.heap.size w w' := by
  have HB := Aside0.mk (Below.refl w.heap.size w)
  have H : ((ringworkref06_Valid.f k a0).bind fun t276 => (if t276 = true then (if a1 < 1 then (some (([] : List (S45)), 7)) else (if a1 > 200 then (some (([] : List (S45)), 7)) else ((ringworkref06_CellsOf.f k a0).bind fun t277 => (some (t277, 0))))) else (some (([] : List (S45)), 1)))) = some (r1, r2) := h
  clear h
  replace H := Option.bind_eq_some_iff.mp H
  obtain ⟨t276, A30, H⟩ := H
  replace H : (if t276 = true then (if a1 < 1 then (some (([] : List (S45)), 7)) else (if a1 > 200 then (some (([] : List (S45)), 7)) else ((ringworkref06_CellsOf.f k a0).bind fun t277 => (some (t277, 0))))) else (some (([] : List (S45)), 1))) = some (r1, r2) := H
  have A3 := Aside0.mk A30
  clear A30
  by_cases c4 : t276 = true
  · subst c4
    have H1 : (if a1 < 1 then (some (([] : List (S45)), 7)) else (if a1 > 200 then (some (([] : List (S45)), 7)) else ((ringworkref06_CellsOf.f k a0).bind fun t277 => (some (t277, 0))))) = some (r1, r2) := by rw [if_pos rfl] at H; exact H
    clear H
    have H := H1
    clear H1
    by_cases c5 : a1 < 1
    · rw [if_pos c5] at H
      have c5b0 : decide (a1 < 1) = true := decide_eq_true c5
      clear c5
      simp only [Option.some.injEq, Prod.mk.injEq] at H
      obtain ⟨rfl, rfl⟩ := H
      go_enter Try.func68, Try.ntmps68
      go_wp2_with (first | ((with_reducible refine gate_callee (f := 22) rfl ?_); refine goesL_ (some 7) rfl rfl Try.func22 (by kernel_rfl) rfl #[.string a0] rfl (by (try simp only [List.map_toArray, List.map_cons, List.map_nil]); first | done | rfl | (simp only [List.length_drop, List.length_take]; rfl)) ?_; (with_reducible refine (ringworkref06_Valid.calls k a0 true _ A3.out).mono ?_); rintro e w' ⟨rfl, ⟨nd, rfl⟩⟩; refine ⟨_, rfl, ?_⟩))
      go_ret2
      exact ⟨_, by first | rfl | (simp [errW_none, errW_some] <;> rfl) | (simp [*, errW_none, errW_some] <;> rfl), by first | exact Kd.R_nil _ _ _ _ _ | exact Kd.N_nil _ _ _ _ _ | exact Kd.V_nil _ _ _ _ _ | exact Kd.Q_nil _ _ _ _ _ | exact Kd.S_nil _ _ _ _ _, by repeat (first | (with_reducible first | exact HB.out | apply below_alloc | apply pw_below_drewN | apply below_drew1) | exact HB.out)⟩
    · rw [if_neg c5] at H
      have c5b0 : decide (a1 < 1) = false := decide_eq_false c5
      clear c5
      by_cases c6 : a1 > 200
      · rw [if_pos c6] at H
        have c6b0 : decide (200 < a1) = true := decide_eq_true c6
        clear c6
        simp only [Option.some.injEq, Prod.mk.injEq] at H
        obtain ⟨rfl, rfl⟩ := H
        go_enter Try.func68, Try.ntmps68
        go_wp2_with (first | ((with_reducible refine gate_callee (f := 22) rfl ?_); refine goesL_ (some 7) rfl rfl Try.func22 (by kernel_rfl) rfl #[.string a0] rfl (by (try simp only [List.map_toArray, List.map_cons, List.map_nil]); first | done | rfl | (simp only [List.length_drop, List.length_take]; rfl)) ?_; (with_reducible refine (ringworkref06_Valid.calls k a0 true _ A3.out).mono ?_); rintro e w' ⟨rfl, ⟨nd, rfl⟩⟩; refine ⟨_, rfl, ?_⟩))
        go_ret2
        exact ⟨_, by first | rfl | (simp [errW_none, errW_some] <;> rfl) | (simp [*, errW_none, errW_some] <;> rfl), by first | exact Kd.R_nil _ _ _ _ _ | exact Kd.N_nil _ _ _ _ _ | exact Kd.V_nil _ _ _ _ _ | exact Kd.Q_nil _ _ _ _ _ | exact Kd.S_nil _ _ _ _ _, by repeat (first | (with_reducible first | exact HB.out | apply below_alloc | apply pw_below_drewN | apply below_drew1) | exact HB.out)⟩
      · rw [if_neg c6] at H
        have c6b0 : decide (200 < a1) = false := decide_eq_false c6
        clear c6
        replace H := Option.bind_eq_some_iff.mp H
        obtain ⟨t277, A70, H⟩ := H
        replace H : (some (t277, 0)) = some (r1, r2) := H
        have A7 := Aside0.mk A70
        clear A70
        simp only [Option.some.injEq, Prod.mk.injEq] at H
        obtain ⟨rfl, rfl⟩ := H
        go_enter Try.func68, Try.ntmps68
        go_wp2_with (first | ((with_reducible refine gate_callee (f := 22) rfl ?_); refine goesL_ (some 7) rfl rfl Try.func22 (by kernel_rfl) rfl #[.string a0] rfl (by (try simp only [List.map_toArray, List.map_cons, List.map_nil]); first | done | rfl | (simp only [List.length_drop, List.length_take]; rfl)) ?_; (with_reducible refine (ringworkref06_Valid.calls k a0 true _ A3.out).mono ?_); rintro e w' ⟨rfl, ⟨nd, rfl⟩⟩; refine ⟨_, rfl, ?_⟩) | ((with_reducible refine gate_callee (f := 60) rfl ?_); refine goesL_ (some 16) rfl rfl Try.func60 (by kernel_rfl) rfl #[.string a0] rfl (by (try simp only [List.map_toArray, List.map_cons, List.map_nil]); first | done | rfl | (simp only [List.length_drop, List.length_take]; rfl)) ?_; (with_reducible refine (ringworkref06_CellsOf.calls k a0 t277 _ A7.out).mono ?_); rintro e w8 ⟨v278, rfl, ho0, hb⟩; refine ⟨_, rfl, ?_⟩; have n0_ := Aside0.mk (Kd.R_lower ho0 (below_size (by repeat (first | (with_reducible first | exact HB.out | apply below_alloc | apply pw_below_drewN | apply below_drew1) | exact HB.out)))); have n1_ := Aside0.mk (below_step (by repeat (first | (with_reducible first | exact HB.out | apply below_alloc | apply pw_below_drewN | apply below_drew1) | exact HB.out)) hb); clear HB; have HO279 := n0_; have HB := n1_; clear n0_ n1_; (try clear hb); (try clear hb2); (try clear hk); (try clear hi); (try clear ho0)))
        go_ret2
        exact ⟨_, by first | rfl | (simp [errW_none, errW_some] <;> rfl) | (simp [*, errW_none, errW_some] <;> rfl), by (with_reducible repeat (first | apply Kd.R_alloc | apply Kd.R_drewN | apply Kd.R_drew)); exact HO279.out, by repeat (first | (with_reducible first | exact HB.out | apply below_alloc | apply pw_below_drewN | apply below_drew1) | exact HB.out)⟩
  · replace c4 := Bool.eq_false_iff.mpr c4
    subst c4
    have H1 : (some (([] : List (S45)), 1)) = some (r1, r2) := by rw [if_neg (show ¬ (false = true) by decide)] at H; exact H
    clear H
    have H := H1
    clear H1
    simp only [Option.some.injEq, Prod.mk.injEq] at H
    obtain ⟨rfl, rfl⟩ := H
    go_enter Try.func68, Try.ntmps68
    go_wp2_with (first | ((with_reducible refine gate_callee (f := 22) rfl ?_); refine goesL_ (some 7) rfl rfl Try.func22 (by kernel_rfl) rfl #[.string a0] rfl (by (try simp only [List.map_toArray, List.map_cons, List.map_nil]); first | done | rfl | (simp only [List.length_drop, List.length_take]; rfl)) ?_; (with_reducible refine (ringworkref06_Valid.calls k a0 false _ A3.out).mono ?_); rintro e w' ⟨rfl, ⟨nd, rfl⟩⟩; refine ⟨_, rfl, ?_⟩))
    go_ret2
    exact ⟨_, by first | rfl | (simp [errW_none, errW_some] <;> rfl) | (simp [*, errW_none, errW_some] <;> rfl), by first | exact Kd.R_nil _ _ _ _ _ | exact Kd.N_nil _ _ _ _ _ | exact Kd.V_nil _ _ _ _ _ | exact Kd.Q_nil _ _ _ _ _ | exact Kd.S_nil _ _ _ _ _, by repeat (first | (with_reducible first | exact HB.out | apply below_alloc | apply pw_below_drewN | apply below_drew1) | exact HB.out)⟩

end Go.Proofs.Ytemglmcddaeedaa.PA

namespace Go.Proofs.Ytemglmcddaeedaa.PA
open Go.RowKit Go.Proofs.YtemglmcddaeedaaW.PrintWords Go.Proofs.YtemglmcddaeedaaW.PrintLast Go.Proofs.YtemglmcddaeedaaW.PrintMore
attribute [local go_sem] max2_int min2_int max_two min_two max_three min_three max_four min_four   -- for this text's walks alone
set_option linter.unusedVariables false
set_option linter.unusedSimpArgs false

/-! ### ringworkref06_Get: function 33 -/
def ringworkref06_Get.f (k : Nat) (a0 : ByteArray) (a1 : Int) : Option (ByteArray × Int) := (ringworkref06_line.f k a0 a1).bind fun bt280 => (if bt280.2 = 0 then ((ringworkref06_At.f k bt280.1 a1).bind fun t284 => (if t284.toList = ([] : List UInt8) then (some ((⟨#[]⟩ : ByteArray), 8)) else ((ringworkref06_At.f k bt280.1 a1).bind fun t285 => (some (t285, 0))))) else (some ((⟨#[]⟩ : ByteArray), bt280.2)))
theorem ringworkref06_Get.mono : ∀ a0 a1 k, LeO (ringworkref06_Get.f k a0 a1) (ringworkref06_Get.f (k + 1) a0 a1) := by
  intro a0 a1 k
  unfold ringworkref06_Get.f
  repeat' first
      | (with_reducible exact ringworkref06_At.mono _ _ _)
      | (with_reducible exact ringworkref06_line.mono _ _ _)
      | (with_reducible exact LeO.refl _)
      | (with_reducible exact LeO.none _)
      | (with_reducible refine LeO.ite ?_ ?_)
      | (with_reducible refine LeO.bind ?_ (fun _ => ?_))
      | exact ringworkref06_At.mono _ _ _
      | exact ringworkref06_line.mono _ _ _
      | exact LeO.none _
      | refine LeO.ite ?_ ?_
      | refine LeO.bind ?_ (fun _ => ?_)
set_option maxHeartbeats 8000000 in
set_option maxRecDepth 100000 in
theorem ringworkref06_Get.calls (k : Nat) (a0 : ByteArray) (a1 : Int) (r1 : ByteArray) (r2 : Int) (w : World) (h : ringworkref06_Get.f k a0 a1 = some (r1, r2)) :
    Calls Try.prog 33 #[.string a0, .int .i64 a1] w fun e w' => e = .returned (.tuple #[.string r1, .int .i64 r2]) ∧ Below w.heap.size w w' := by
  have HB := Aside0.mk (Below.refl w.heap.size w)
  have H : ((ringworkref06_line.f k a0 a1).bind fun bt280 => (if bt280.2 = 0 then ((ringworkref06_At.f k bt280.1 a1).bind fun t284 => (if t284.toList = ([] : List UInt8) then (some ((⟨#[]⟩ : ByteArray), 8)) else ((ringworkref06_At.f k bt280.1 a1).bind fun t285 => (some (t285, 0))))) else (some ((⟨#[]⟩ : ByteArray), bt280.2)))) = some (r1, r2) := h
  clear h
  replace H := Option.bind_eq_some_iff.mp H
  obtain ⟨⟨t280, t281⟩, A30, H⟩ := H
  replace H : (if t281 = 0 then ((ringworkref06_At.f k t280 a1).bind fun t284 => (if t284.toList = ([] : List UInt8) then (some ((⟨#[]⟩ : ByteArray), 8)) else ((ringworkref06_At.f k t280 a1).bind fun t285 => (some (t285, 0))))) else (some ((⟨#[]⟩ : ByteArray), t281))) = some (r1, r2) := H
  have A3 := Aside0.mk A30
  clear A30
  by_cases c4 : t281 = 0
  · rw [if_pos c4] at H
    have c4b0 : (t281 == 0) = true := beq_iff_eq.mpr c4
    have c4b1 : (t281 != 0) = false := bne_eq_false_iff_eq.mpr c4
    clear c4
    replace H := Option.bind_eq_some_iff.mp H
    obtain ⟨t284, A50, H⟩ := H
    replace H : (if t284.toList = ([] : List UInt8) then (some ((⟨#[]⟩ : ByteArray), 8)) else ((ringworkref06_At.f k t280 a1).bind fun t285 => (some (t285, 0)))) = some (r1, r2) := H
    have A5 := Aside0.mk A50
    clear A50
    by_cases c6 : t284.toList = ([] : List UInt8)
    · rw [if_pos c6] at H
      have c6b0 : (t284.toList == ([] : List UInt8)) = true := beq_iff_eq.mpr c6
      have c6b1 : (t284.toList != ([] : List UInt8)) = false := bne_eq_false_iff_eq.mpr c6
      clear c6
      simp only [Option.some.injEq, Prod.mk.injEq] at H
      obtain ⟨rfl, rfl⟩ := H
      go_enter Try.func33, Try.ntmps33
      go_wp2_with (first | ((with_reducible refine gate_callee (f := 68) rfl ?_); refine goesL_ (some 11) rfl rfl Try.func68 (by kernel_rfl) rfl #[.string a0, .int .i64 a1] rfl (by (try simp only [List.map_toArray, List.map_cons, List.map_nil]); first | done | rfl | (simp only [List.length_drop, List.length_take]; rfl)) ?_; (with_reducible refine (ringworkref06_line.calls k a0 a1 t280 t281 _ A3.out).mono ?_); rintro e w7 ⟨v282, rfl, ho0, hb⟩; refine ⟨_, rfl, ?_⟩; have n0_ := Aside0.mk (Kd.R_lower ho0 (below_size (by repeat (first | (with_reducible first | exact HB.out | apply below_alloc | apply pw_below_drewN | apply below_drew1) | exact HB.out)))); have n1_ := Aside0.mk (below_step (by repeat (first | (with_reducible first | exact HB.out | apply below_alloc | apply pw_below_drewN | apply below_drew1) | exact HB.out)) hb); clear HB; have HO283 := n0_; have HB := n1_; clear n0_ n1_; (try clear hb); (try clear hb2); (try clear hk); (try clear hi); (try clear ho0); obtain ⟨Ao8, co8, eo8⟩ := Kd.R_slice HO283.out; subst eo8) | ((with_reducible refine gate_callee (f := 69) rfl ?_); refine goesL_ (some 19) rfl rfl Try.func69 (by kernel_rfl) rfl #[.slice Ao8 t280.length co8, .int .i64 a1] rfl (by (try simp only [List.map_toArray, List.map_cons, List.map_nil]); first | done | rfl | (simp only [List.length_drop, List.length_take]; rfl)) ?_; (with_reducible refine (ringworkref06_At.calls k _ _ t280 a1 t284 _ ?side1 ?side2 A5.out).mono ?_); (case side1 => repeat (first | exact (Kd.R_reads' HO283.out).2.2 | (with_reducible refine Kd.C_alloc ?_ _) | (with_reducible refine Kd.C_drewN ?_ _) | (with_reducible refine Kd.C_drew ?_))); (case side2 => exact (Kd.R_reads' HO283.out).2.1); rintro e w' ⟨rfl, ⟨nd, rfl⟩⟩; refine ⟨_, rfl, ?_⟩))
      go_ret2
      exact ⟨by first | rfl | (simp [errW_none, errW_some] <;> rfl) | (simp [*, errW_none, errW_some] <;> rfl), by repeat (first | (with_reducible first | exact HB.out | apply below_alloc | apply pw_below_drewN | apply below_drew1) | exact HB.out)⟩
    · rw [if_neg c6] at H
      have c6b0 : (t284.toList == ([] : List UInt8)) = false := beq_eq_false_iff_ne.mpr c6
      have c6b1 : (t284.toList != ([] : List UInt8)) = true := bne_iff_ne.mpr c6
      replace H := Option.bind_eq_some_iff.mp H
      obtain ⟨t285, A90, H⟩ := H
      replace H : (some (t285, 0)) = some (r1, r2) := H
      have A9 := Aside0.mk A90
      clear A90
      simp only [Option.some.injEq, Prod.mk.injEq] at H
      obtain ⟨rfl, rfl⟩ := H
      go_enter Try.func33, Try.ntmps33
      go_wp2_with (first | ((with_reducible refine gate_callee (f := 68) rfl ?_); refine goesL_ (some 11) rfl rfl Try.func68 (by kernel_rfl) rfl #[.string a0, .int .i64 a1] rfl (by (try simp only [List.map_toArray, List.map_cons, List.map_nil]); first | done | rfl | (simp only [List.length_drop, List.length_take]; rfl)) ?_; (with_reducible refine (ringworkref06_line.calls k a0 a1 t280 t281 _ A3.out).mono ?_); rintro e w10 ⟨v282, rfl, ho0, hb⟩; refine ⟨_, rfl, ?_⟩; have n0_ := Aside0.mk (Kd.R_lower ho0 (below_size (by repeat (first | (with_reducible first | exact HB.out | apply below_alloc | apply pw_below_drewN | apply below_drew1) | exact HB.out)))); have n1_ := Aside0.mk (below_step (by repeat (first | (with_reducible first | exact HB.out | apply below_alloc | apply pw_below_drewN | apply below_drew1) | exact HB.out)) hb); clear HB; have HO283 := n0_; have HB := n1_; clear n0_ n1_; (try clear hb); (try clear hb2); (try clear hk); (try clear hi); (try clear ho0); obtain ⟨Ao11, co11, eo11⟩ := Kd.R_slice HO283.out; subst eo11) | ((with_reducible refine gate_callee (f := 69) rfl ?_); refine goesL_ (some 19) rfl rfl Try.func69 (by kernel_rfl) rfl #[.slice Ao11 t280.length co11, .int .i64 a1] rfl (by (try simp only [List.map_toArray, List.map_cons, List.map_nil]); first | done | rfl | (simp only [List.length_drop, List.length_take]; rfl)) ?_; (with_reducible refine (ringworkref06_At.calls k _ _ t280 a1 t284 _ ?side1 ?side2 A5.out).mono ?_); (case side1 => repeat (first | exact (Kd.R_reads' HO283.out).2.2 | (with_reducible refine Kd.C_alloc ?_ _) | (with_reducible refine Kd.C_drewN ?_ _) | (with_reducible refine Kd.C_drew ?_))); (case side2 => exact (Kd.R_reads' HO283.out).2.1); rintro e w' ⟨rfl, ⟨nd, rfl⟩⟩; refine ⟨_, rfl, ?_⟩) | ((with_reducible refine gate_callee (f := 69) rfl ?_); refine goesL_ (some 23) rfl rfl Try.func69 (by kernel_rfl) rfl #[.slice Ao11 t280.length co11, .int .i64 a1] rfl (by (try simp only [List.map_toArray, List.map_cons, List.map_nil]); first | done | rfl | (simp only [List.length_drop, List.length_take]; rfl)) ?_; (with_reducible refine (ringworkref06_At.calls k _ _ t280 a1 t285 _ ?side1 ?side2 A9.out).mono ?_); (case side1 => repeat (first | exact (Kd.R_reads' HO283.out).2.2 | (with_reducible refine Kd.C_alloc ?_ _) | (with_reducible refine Kd.C_drewN ?_ _) | (with_reducible refine Kd.C_drew ?_))); (case side2 => exact (Kd.R_reads' HO283.out).2.1); rintro e w' ⟨rfl, ⟨nd, rfl⟩⟩; refine ⟨_, rfl, ?_⟩))
      go_ret2
      exact ⟨by first | rfl | (simp [errW_none, errW_some] <;> rfl) | (simp [*, errW_none, errW_some] <;> rfl), by repeat (first | (with_reducible first | exact HB.out | apply below_alloc | apply pw_below_drewN | apply below_drew1) | exact HB.out)⟩
  · rw [if_neg c4] at H
    have c4b0 : (t281 == 0) = false := beq_eq_false_iff_ne.mpr c4
    have c4b1 : (t281 != 0) = true := bne_iff_ne.mpr c4
    simp only [Option.some.injEq, Prod.mk.injEq] at H
    obtain ⟨rfl, rfl⟩ := H
    go_enter Try.func33, Try.ntmps33
    go_wp2_with (first | ((with_reducible refine gate_callee (f := 68) rfl ?_); refine goesL_ (some 11) rfl rfl Try.func68 (by kernel_rfl) rfl #[.string a0, .int .i64 a1] rfl (by (try simp only [List.map_toArray, List.map_cons, List.map_nil]); first | done | rfl | (simp only [List.length_drop, List.length_take]; rfl)) ?_; (with_reducible refine (ringworkref06_line.calls k a0 a1 t280 t281 _ A3.out).mono ?_); rintro e w12 ⟨v282, rfl, ho0, hb⟩; refine ⟨_, rfl, ?_⟩; have n0_ := Aside0.mk (Kd.R_lower ho0 (below_size (by repeat (first | (with_reducible first | exact HB.out | apply below_alloc | apply pw_below_drewN | apply below_drew1) | exact HB.out)))); have n1_ := Aside0.mk (below_step (by repeat (first | (with_reducible first | exact HB.out | apply below_alloc | apply pw_below_drewN | apply below_drew1) | exact HB.out)) hb); clear HB; have HO283 := n0_; have HB := n1_; clear n0_ n1_; (try clear hb); (try clear hb2); (try clear hk); (try clear hi); (try clear ho0)))
    go_ret2
    exact ⟨by first | rfl | (simp [errW_none, errW_some] <;> rfl) | (simp [*, errW_none, errW_some] <;> rfl), by repeat (first | (with_reducible first | exact HB.out | apply below_alloc | apply pw_below_drewN | apply below_drew1) | exact HB.out)⟩

end Go.Proofs.Ytemglmcddaeedaa.PA

namespace Go.Proofs.Ytemglmcddaeedaa.PA
open Go.RowKit Go.Proofs.YtemglmcddaeedaaW.PrintWords Go.Proofs.YtemglmcddaeedaaW.PrintLast Go.Proofs.YtemglmcddaeedaaW.PrintMore
attribute [local go_sem] max2_int min2_int max_two min_two max_three min_three max_four min_four   -- for this text's walks alone
set_option linter.unusedVariables false
set_option linter.unusedSimpArgs false

/-! ### ringworkref06_Cells: function 23 -/
def ringworkref06_Cells.f (k : Nat) (a0 : ByteArray) : Option ((List (S45)) × Int) := (ringworkref06_Valid.f k a0).bind fun t190 => (if t190 = true then ((ringworkref06_CellsOf.f k a0).bind fun t191 => (some (t191, 0))) else (some (([] : List (S45)), 1)))
theorem ringworkref06_Cells.mono : ∀ a0 k, LeO (ringworkref06_Cells.f k a0) (ringworkref06_Cells.f (k + 1) a0) := by
  intro a0 k
  unfold ringworkref06_Cells.f
  repeat' first
      | (with_reducible exact ringworkref06_CellsOf.mono _ _)
      | (with_reducible exact ringworkref06_Valid.mono _ _)
      | (with_reducible exact LeO.refl _)
      | (with_reducible exact LeO.none _)
      | (with_reducible refine LeO.ite ?_ ?_)
      | (with_reducible refine LeO.bind ?_ (fun _ => ?_))
      | exact ringworkref06_CellsOf.mono _ _
      | exact ringworkref06_Valid.mono _ _
      | exact LeO.none _
      | refine LeO.ite ?_ ?_
      | refine LeO.bind ?_ (fun _ => ?_)
set_option maxHeartbeats 8000000 in
set_option maxRecDepth 100000 in
theorem ringworkref06_Cells.calls (k : Nat) (a0 : ByteArray) (r1 : List (S45)) (r2 : Int) (w : World) (h : ringworkref06_Cells.f k a0 = some (r1, r2)) :
    Calls Try.prog 23 #[.string a0] w fun e w' => ∃ v0_ : Value, e = .returned (.tuple #[v0_, .int .i64 r2]) ∧ Kd.R k45 45 w' w.heap.size (fun _ => True) v0_ r1 ∧ Below w.heap.size w w' := by
  have HB := Aside0.mk (Below.refl w.heap.size w)
  have H : ((ringworkref06_Valid.f k a0).bind fun t190 => (if t190 = true then ((ringworkref06_CellsOf.f k a0).bind fun t191 => (some (t191, 0))) else (some (([] : List (S45)), 1)))) = some (r1, r2) := h
  clear h
  replace H := Option.bind_eq_some_iff.mp H
  obtain ⟨t190, A20, H⟩ := H
  replace H : (if t190 = true then ((ringworkref06_CellsOf.f k a0).bind fun t191 => (some (t191, 0))) else (some (([] : List (S45)), 1))) = some (r1, r2) := H
  have A2 := Aside0.mk A20
  clear A20
  by_cases c3 : t190 = true
  · subst c3
    have H1 : ((ringworkref06_CellsOf.f k a0).bind fun t191 => (some (t191, 0))) = some (r1, r2) := by rw [if_pos rfl] at H; exact H
    clear H
    have H := H1
    clear H1
    replace H := Option.bind_eq_some_iff.mp H
    obtain ⟨t191, A40, H⟩ := H
    replace H : (some (t191, 0)) = some (r1, r2) := H
    have A4 := Aside0.mk A40
    clear A40
    simp only [Option.some.injEq, Prod.mk.injEq] at H
    obtain ⟨rfl, rfl⟩ := H
    go_enter Try.func23, Try.ntmps23
    go_wp2_with (first | ((with_reducible refine gate_callee (f := 22) rfl ?_); refine goesL_ (some 5) rfl rfl Try.func22 (by kernel_rfl) rfl #[.string a0] rfl (by (try simp only [List.map_toArray, List.map_cons, List.map_nil]); first | done | rfl | (simp only [List.length_drop, List.length_take]; rfl)) ?_; (with_reducible refine (ringworkref06_Valid.calls k a0 true _ A2.out).mono ?_); rintro e w' ⟨rfl, ⟨nd, rfl⟩⟩; refine ⟨_, rfl, ?_⟩) | ((with_reducible refine gate_callee (f := 60) rfl ?_); refine goesL_ (some 8) rfl rfl Try.func60 (by kernel_rfl) rfl #[.string a0] rfl (by (try simp only [List.map_toArray, List.map_cons, List.map_nil]); first | done | rfl | (simp only [List.length_drop, List.length_take]; rfl)) ?_; (with_reducible refine (ringworkref06_CellsOf.calls k a0 t191 _ A4.out).mono ?_); rintro e w5 ⟨v192, rfl, ho0, hb⟩; refine ⟨_, rfl, ?_⟩; have n0_ := Aside0.mk (Kd.R_lower ho0 (below_size (by repeat (first | (with_reducible first | exact HB.out | apply below_alloc | apply pw_below_drewN | apply below_drew1) | exact HB.out)))); have n1_ := Aside0.mk (below_step (by repeat (first | (with_reducible first | exact HB.out | apply below_alloc | apply pw_below_drewN | apply below_drew1) | exact HB.out)) hb); clear HB; have HO193 := n0_; have HB := n1_; clear n0_ n1_; (try clear hb); (try clear hb2); (try clear hk); (try clear hi); (try clear ho0)))
    go_ret2
    exact ⟨_, by first | rfl | (simp [errW_none, errW_some] <;> rfl) | (simp [*, errW_none, errW_some] <;> rfl), by (with_reducible repeat (first | apply Kd.R_alloc | apply Kd.R_drewN | apply Kd.R_drew)); exact HO193.out, by repeat (first | (with_reducible first | exact HB.out | apply below_alloc | apply pw_below_drewN | apply below_drew1) | exact HB.out)⟩
  · replace c3 := Bool.eq_false_iff.mpr c3
    subst c3
    have H1 : (some (([] : List (S45)), 1)) = some (r1, r2) := by rw [if_neg (show ¬ (false = true) by decide)] at H; exact H
    clear H
    have H := H1
    clear H1
    simp only [Option.some.injEq, Prod.mk.injEq] at H
    obtain ⟨rfl, rfl⟩ := H
    go_enter Try.func23, Try.ntmps23
    go_wp2_with (first | ((with_reducible refine gate_callee (f := 22) rfl ?_); refine goesL_ (some 5) rfl rfl Try.func22 (by kernel_rfl) rfl #[.string a0] rfl (by (try simp only [List.map_toArray, List.map_cons, List.map_nil]); first | done | rfl | (simp only [List.length_drop, List.length_take]; rfl)) ?_; (with_reducible refine (ringworkref06_Valid.calls k a0 false _ A2.out).mono ?_); rintro e w' ⟨rfl, ⟨nd, rfl⟩⟩; refine ⟨_, rfl, ?_⟩))
    go_ret2
    exact ⟨_, by first | rfl | (simp [errW_none, errW_some] <;> rfl) | (simp [*, errW_none, errW_some] <;> rfl), by first | exact Kd.R_nil _ _ _ _ _ | exact Kd.N_nil _ _ _ _ _ | exact Kd.V_nil _ _ _ _ _ | exact Kd.Q_nil _ _ _ _ _ | exact Kd.S_nil _ _ _ _ _, by repeat (first | (with_reducible first | exact HB.out | apply below_alloc | apply pw_below_drewN | apply below_drew1) | exact HB.out)⟩

end Go.Proofs.Ytemglmcddaeedaa.PA

namespace Go.Proofs.Ytemglmcddaeedaa.PA
open Go.RowKit Go.Proofs.YtemglmcddaeedaaW.PrintWords Go.Proofs.YtemglmcddaeedaaW.PrintLast Go.Proofs.YtemglmcddaeedaaW.PrintMore
attribute [local go_sem] max2_int min2_int max_two min_two max_three min_three max_four min_four   -- for this text's walks alone
set_option linter.unusedVariables false
set_option linter.unusedSimpArgs false

/-! ### ringworkref06_Least: function 64 -/
def ringworkref06_Least.l0 : Nat → List (S45) → Int → Option (Int)
  | 0, _, _ => none
  | k + 1, x0, x3 => if x3 ≤ 200 then ((ringworkref06_At.f k x0 x3).bind fun t201 => (if t201.toList = ([] : List UInt8) then (some x3) else (ringworkref06_Least.l0 k x0 (wrap64 (x3 + 1))))) else (some x3)
def ringworkref06_Least.f (k : Nat) (l0 : List (S45)) : Option (Int) := ringworkref06_Least.l0 k l0 1
theorem ringworkref06_Least.mono_l : ∀ k, (∀ y0 y1, LeO (ringworkref06_Least.l0 k y0 y1) (ringworkref06_Least.l0 (k + 1) y0 y1))
  | 0 => fun _ _ r h => by simp [ringworkref06_Least.l0] at h
  | k + 1 => by
    have ih0 := ringworkref06_Least.mono_l k
    · intro y0 y1
      unfold ringworkref06_Least.l0
      repeat' first
      | (with_reducible exact ih0 _ _)
      | (with_reducible exact ringworkref06_At.mono _ _ _)
      | (with_reducible exact LeO.refl _)
      | (with_reducible exact LeO.none _)
      | (with_reducible refine LeO.ite ?_ ?_)
      | (with_reducible refine LeO.bind ?_ (fun _ => ?_))
      | exact ih0 _ _
      | exact ringworkref06_At.mono _ _ _
      | exact LeO.none _
      | refine LeO.ite ?_ ?_
      | refine LeO.bind ?_ (fun _ => ?_)
theorem ringworkref06_Least.mono : ∀ a0 k, LeO (ringworkref06_Least.f k a0) (ringworkref06_Least.f (k + 1) a0) := by
  intro a0 k
  have ih0 := ringworkref06_Least.mono_l k
  unfold ringworkref06_Least.f
  repeat' first
      | (with_reducible exact ih0 _ _)
      | (with_reducible exact ringworkref06_At.mono _ _ _)
      | (with_reducible exact LeO.refl _)
      | (with_reducible exact LeO.none _)
      | (with_reducible refine LeO.ite ?_ ?_)
      | (with_reducible refine LeO.bind ?_ (fun _ => ?_))
      | exact ih0 _ _
      | exact ringworkref06_At.mono _ _ _
      | exact LeO.none _
      | refine LeO.ite ?_ ?_
      | refine LeO.bind ?_ (fun _ => ?_)
set_option maxHeartbeats 8000000 in
set_option maxRecDepth 100000 in
theorem ringworkref06_Least.calls (k : Nat) (A0 : Option Addr) (c0 : Nat) (l0 : List (S45)) (r : Int) (w : World) (hr0 : Kd.C k45 w A0 l0.length l0) (hc0 : l0.length ≤ c0) (h : ringworkref06_Least.f k l0 = some r) :
    Calls Try.prog 64 #[.slice A0 l0.length c0] w fun e w' => e = .returned (.int .i64 r) ∧ Drawn0 w w' := by
  have HR0 := Aside0.mk hr0
  have HC0 := Aside0.mk hc0
  clear hr0 hc0
  have H : (ringworkref06_Least.l0 k l0 1) = some r := h
  clear h
  have H' := Aside0.mk H
  clear H
  go_enter Try.func64, Try.ntmps64
  go_wp2
  go_loopg [3] k (fun kq v3 w' => ∃ (x3_1 : Int), v3 = .int .i64 x3_1 ∧ Aside0 (ringworkref06_Least.l0 kq l0 x3_1 = some r) ∧ Aside0 (kq ≤ k) ∧ Drawn0 w w')
  case atStart => exact ⟨(1), (by first | rfl | (simp; done) | (simp [*]; done)), H', ⟨Nat.le_refl _⟩, by repeat (first | exact Drawn0.refl _ | apply Drawn0.step)⟩
  case round =>
    clear H'
    obtain ⟨x3_1, rfl, HA, HK1, ⟨m1, rfl⟩⟩ := hrel
    cases gk with
    | zero => exact absurd HA.out (by simp [ringworkref06_Least.l0])
    | succ k1 =>
      have H := HA.out
      clear HA
      simp only [ringworkref06_Least.l0] at H
      by_cases c2 : x3_1 ≤ 200
      · rw [if_pos c2] at H
        have c2b0 : decide (x3_1 ≤ 200) = true := decide_eq_true c2
        clear c2
        replace H := Option.bind_eq_some_iff.mp H
        obtain ⟨t201, A30, H⟩ := H
        replace H : (if t201.toList = ([] : List UInt8) then (some x3_1) else (ringworkref06_Least.l0 k1 l0 (wrap64 (x3_1 + 1)))) = some r := H
        have A3 := Aside0.mk A30
        clear A30
        by_cases c4 : t201.toList = ([] : List UInt8)
        · rw [if_pos c4] at H
          have c4b0 : (t201.toList == ([] : List UInt8)) = true := beq_iff_eq.mpr c4
          have c4b1 : (t201.toList != ([] : List UInt8)) = false := bne_eq_false_iff_eq.mpr c4
          clear c4
          obtain rfl := Option.some.inj H
          go_wp2_with (first | (go_at_call 69; (with_reducible refine (ringworkref06_At.calls k1 _ _ l0 x3_1 t201 _ ?side1 ?side2 A3.out).mono ?_); (case side1 => repeat (first | exact HR0.out | (with_reducible refine Kd.C_alloc ?_ _) | (with_reducible refine Kd.C_drewN ?_ _) | (with_reducible refine Kd.C_drew ?_))); (case side2 => exact HC0.out); rintro e w' ⟨rfl, ⟨nd, rfl⟩⟩))
          go_ret
          exact ⟨by first | rfl | (simp; done) | (simp [*]; done), by repeat (first | exact Drawn0.refl _ | apply Drawn0.step)⟩
        · rw [if_neg c4] at H
          have c4b0 : (t201.toList == ([] : List UInt8)) = false := beq_eq_false_iff_ne.mpr c4
          have c4b1 : (t201.toList != ([] : List UInt8)) = true := bne_iff_ne.mpr c4
          have H' := Aside0.mk H
          clear H
          go_wp2_with (first | (go_at_call 69; (with_reducible refine (ringworkref06_At.calls k1 _ _ l0 x3_1 t201 _ ?side1 ?side2 A3.out).mono ?_); (case side1 => repeat (first | exact HR0.out | (with_reducible refine Kd.C_alloc ?_ _) | (with_reducible refine Kd.C_drewN ?_ _) | (with_reducible refine Kd.C_drew ?_))); (case side2 => exact HC0.out); rintro e w' ⟨rfl, ⟨nd, rfl⟩⟩))
          go_roundg k1
          case measure => have := HK1.out; omega
          case rel => exact ⟨(wrap64 (x3_1 + 1)), (by first | rfl | (simp; done) | (simp [*]; done)), H', ⟨by have := HK1.out; omega⟩, by repeat (first | exact Drawn0.refl _ | apply Drawn0.step)⟩
      · rw [if_neg c2] at H
        have c2b0 : decide (x3_1 ≤ 200) = false := decide_eq_false c2
        clear c2
        obtain rfl := Option.some.inj H
        go_wp2
        go_ret
        exact ⟨by first | rfl | (simp; done) | (simp [*]; done), by repeat (first | exact Drawn0.refl _ | apply Drawn0.step)⟩

end Go.Proofs.Ytemglmcddaeedaa.PA
