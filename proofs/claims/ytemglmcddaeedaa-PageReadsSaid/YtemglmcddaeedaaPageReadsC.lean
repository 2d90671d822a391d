/- Part of the proof: PageReads: Valid, Wrong, Cells, Lines, Free and Next answer as the reference does, and Fill of Cells is the page. -/
import Derived.Test.YtemglmcddaeedaaPageReadsB
import Derived.ArgAppend
import Derived.Below
import Derived.BigQuiet
import Derived.ChangeOld
import Derived.Deep.AppendLies
import Derived.Deep.CutBlock
import Derived.Deep.DeepCutAuto
import Derived.Deep.Draws
import Derived.Deep.LoopGhost
import Derived.Deep.OwnRows
import Derived.Deep.QuietTactic
import Derived.Deep.RegionHeld3
import Derived.Deep.SlicePairs
import Derived.Defers
import Derived.DefersIn
import Derived.KernelRfl
import Derived.Laws.BitsLemmas
import Derived.Laws.BytesArg
import Derived.Laws.CopyOwn
import Derived.Laws.IdiomCopy
import Derived.Laws.MakeOwn
import Derived.Laws.OwnMore
import Derived.Laws.Rows
import Derived.Laws.Slices
import Derived.Lib.AppendStr
import Derived.Lib.BufferWrite
import Derived.Lib.ConvBytes
import Derived.Lib.Hide
import Derived.LoopIn
import Derived.LoopNIn
import Derived.Maps.AppendAt
import Derived.OpenShut
import Derived.OrdersHeld
import Derived.OwnWalk
import Derived.OwnWalkIn
import Derived.ProofKit
import Derived.RangeFuncBound
import Derived.RangeFuncCalls
import Derived.RangeFuncLeaves
import Derived.RangeFuncNested
import Derived.RangeFuncRecord
import Derived.Recover
import Derived.RecoverIn
import Derived.RowKit
import Derived.RowKit3
import Derived.Shelf.Abstract
import Derived.Shelf.RegionOpen
import Derived.ShutString
import Derived.SizedLaws
import Derived.StillTailTactics
import Derived.Tactics
import Derived.TacticsInMore
import Derived.Test.YtemglmcddaeedaaProg
import Derived.Test.YtemglmcddaeedaaRows
import Derived.Test.YtemglmcddaeedaaWApart
import Derived.Test.YtemglmcddaeedaaWArr
import Derived.Test.YtemglmcddaeedaaWAt
import Derived.Test.YtemglmcddaeedaaWEqStruct
import Derived.Test.YtemglmcddaeedaaWFoot
import Derived.Test.YtemglmcddaeedaaWFootNe
import Derived.Test.YtemglmcddaeedaaWFour
import Derived.Test.YtemglmcddaeedaaWGuard
import Derived.Test.YtemglmcddaeedaaWInv
import Derived.Test.YtemglmcddaeedaaWInvWords
import Derived.Test.YtemglmcddaeedaaWKept
import Derived.Test.YtemglmcddaeedaaWLast
import Derived.Test.YtemglmcddaeedaaWMore
import Derived.Test.YtemglmcddaeedaaWN
import Derived.Test.YtemglmcddaeedaaWNEv
import Derived.Test.YtemglmcddaeedaaWQPut
import Derived.Test.YtemglmcddaeedaaWRepsOne
import Derived.Test.YtemglmcddaeedaaWShare
import Derived.Test.YtemglmcddaeedaaWTab
import Derived.Test.YtemglmcddaeedaaWWords
import Derived.Test.YtemglmcddaeedaaWZeros
import Derived.WalkKit
import Derived.WalkLawsBesides
import Derived.WalkSpells
import Derived.WideLaws
namespace Go.Proofs.Ytemglmcddaeedaa.PA
open Go.RowKit Go.Proofs.YtemglmcddaeedaaW.PrintWords Go.Proofs.YtemglmcddaeedaaW.PrintLast Go.Proofs.YtemglmcddaeedaaW.PrintMore
attribute [local go_sem] max2_int min2_int max_two min_two max_three min_three max_four min_four   -- for this text's walks alone
set_option linter.unusedVariables false
set_option linter.unusedSimpArgs false

/-! ### ringworkref06_Built: function 51 -/
def ringworkref06_Built.ok (n : Int) (l : List S45) : Prop := 32 ≤ n ∧ n ≤ 4096 ∧ CellsOk l ∧ bytesL l ≤ 1000000000000 ∧ needsL l ≤ n
instance ringworkref06_Built.okDec (n : Int) (l : List S45) : Decidable (ringworkref06_Built.ok n l) := by unfold ringworkref06_Built.ok; infer_instance
def ringworkref06_Built.f (a0 : Int) (l1 : List S45) : Option ByteArray := if ringworkref06_Built.ok a0 l1 then some (strOfNums (builtL a0.toNat l1)) else none
theorem two_row (v : Int) (w : World) (h0 : 0 ≤ v) (h1 : v ≤ 65535) :
    Calls Try.prog 100 #[.int .i64 v] w fun e w' => ∃ A c, e = .returned (.slice A 2 c) ∧ Aside0 (Kd.C (Kd.int .u8) w' A 2 (twoL v)) ∧ Below w.heap.size w w' := by
  have e : ringworkref06_two.f v = some (twoL v) := by
    unfold ringworkref06_two.f twoL wrap64
    have e1 : Int.tdiv v 256 = v / 256 := Int.tdiv_eq_ediv_of_nonneg h0
    have e2 : Int.tmod v 256 = v % 256 := Int.tmod_eq_emod_of_nonneg h0
    rw [e1, e2]
    congr 2
    · omega
    · congr 1
      omega
  refine (ringworkref06_two.calls v _ w e).mono ?_
  rintro e w' ⟨v0, rfl, hr, hb⟩
  obtain ⟨A, c, rfl, _, hc⟩ := Kd.R_reads hr
  exact ⟨A, c, rfl, ⟨hc⟩, hb⟩
theorem last_f {l : List S45} (hl : l.length ≤ 9223372036854775807) : ringworkref06_Last.f l = some (lastL l) := by
  unfold ringworkref06_Last.f
  by_cases h : l.length = 0
  · obtain rfl := List.eq_nil_of_length_eq_zero h
    rfl
  · rw [if_neg (by omega)]
    have e : wrap64 ((l.length : Int) - 1) = (l.length : Int) - 1 := by unfold wrap64; omega
    rw [e, if_pos (by omega), if_pos (by omega), lastL_rd l (by omega)]
set_option maxHeartbeats 8000000 in
set_option maxRecDepth 100000 in
theorem ringworkref06_Built.calls (a0 : Int) (A1 : Option Addr) (c1 : Nat) (l1 : List S45) (r : ByteArray) (w : World) (hr1 : Kd.C k45 w A1 l1.length l1) (hc1 : l1.length ≤ c1) (h : ringworkref06_Built.f a0 l1 = some r) :
    Calls Try.prog 51 #[.int .i64 a0, .slice A1 l1.length c1] w fun e w' => e = .returned (.string r) ∧ Below w.heap.size w w' := by
  have hu45 := Try.underlying45
  unfold ringworkref06_Built.f at h
  split at h
  rotate_left
  · cases h
  rename_i hok
  obtain ⟨hn0, hn1, hcl, hb, hnd⟩ := hok
  obtain rfl := Option.some.inj h
  have HCL := Aside0.mk hcl
  have HR := Aside0.mk hr1
  have HC := Aside0.mk hc1
  have HND := Aside0.mk hnd
  have hlen : l1.length ≤ 9223372036854775807 := Kd.C_max hr1
  have HLF := Aside0.mk (last_f hlen)
  have hl1 := lastL_nonneg hcl
  obtain ⟨L, hL⟩ : ∃ L, lastL l1 = L := ⟨_, rfl⟩
  rw [hL] at hl1 HLF
  have HL2 := Aside0.mk hL
  clear hr1 hc1 hcl hnd hL
  obtain ⟨m, rfl⟩ := Int.eq_ofNat_of_zero_le (show 0 ≤ a0 by omega)
  obtain ⟨Z, hZ⟩ : ∃ Z, (nums .u8 (zer m)).toArray = Z := ⟨_, rfl⟩
  have hmk : ∀ W : World, (Instr.makeSlice 27 (.int .i64 (m : Int)) (.int .i64 (m : Int))).run Try.prog W = .ok (.slice (some ⟨W.heap.size, 0, none⟩) m m) (W.alloc (.cells Z 5)) := by
    intro W
    rw [← hZ, zer, ← made_zer]
    exact print_make (P := Try.prog) 27 5 .u8 1 Try.underlying27 (by kernel_rfl) (by decide) m (by omega) W
  have HZ := Aside0.mk hZ
  clear hZ
  go_enter Try.func51, Try.ntmps51
  go_wp2_with fail
  refine (ringworkref06_Last.calls A1 c1 l1 L _ (Kd.C_alloc HR.out _) HC.out HLF.out).mono ?_
  rintro e w' ⟨rfl, ⟨nd, rfl⟩⟩
  go_wp2_with fail
  refine (two_row L _ (by omega) (by omega)).mono ?_
  rintro e w2 ⟨A, c, rfl, HT, hb2⟩
  have hg0 : (w.alloc (.cells Z 5)).heap[w.heap.size]? = some (.cells (nums .u8 (zer m)).toArray 5 (0, 0)) := by rw [HZ.out]; exact blk_new _ _
  have HG2 := Aside0.mk (blk_below (blk_drewN hg0 nd) hb2)
  have HB2 := Aside0.mk (below_then (pw_below_drewN (below_alloc (Below.refl w.heap.size w) (.cells Z 5)) nd) (by simp [World.drewN]) hb2)
  clear hg0 hb2 hmk
  dsimp only
  go_step
  refine wpList_copy_nums rfl (.tmp 11) (.tmp 14) 27 27 rfl 5 Try.underlying27 (by kernel_rfl) w.heap.size 0 m m rfl A 2 c rfl (zer m) (twoL L) 5 HG2.out HT.out (by omega) (by simp [zer]; omega) ?_
  intro w3 HG3 hgb3
  have HB3 := Aside0.mk (HB2.out.grown hgb3.out HB2.out.size (by intro k hk; cases hk; exact Nat.le_refl _))
  have hs0 : splice (zer m) 0 (twoL L) = bld m L [] := by
    have h1 := splice_at ([] : List Int) (zer 2) (zer (m - 2)) (twoL L) (by simp [twoL, zer])
    rw [bld_nil _ _ (by omega), show zer m = zer 2 ++ zer (m - 2) by rw [← zer_add]; congr 1; omega]
    simpa using h1
  have hG3 := HG3.out
  rw [hs0] at hG3
  have HG4 := Aside0.mk hG3
  obtain ⟨g, hgg⟩ : ∃ g, w.heap.size = g := ⟨_, rfl⟩
  rw [hgg] at HG4
  have hgl : w.heap.size ≤ g := by omega
  simp only [hgg]
  clear hs0 hG3 HG3 hgb3 HG2 HB2 HT hgg
  go_wp2_with fail
  go_loopw [6, 7] (fun v6 v7 wr => ∃ i : Nat, i ≤ l1.length ∧ v6 = .int .i64 ((m : Int) - (bytesL (l1.take i) : Int)) ∧ v7 = .int .i64 (i : Int) ∧
      Aside0 (wr.heap[g]? = some (.cells (nums .u8 (bld m L (l1.take i))).toArray 5 (0, 0))) ∧ Aside0 (Below w.heap.size w wr))
    (fun _ v7 _ => l1.length - (intOf v7).toNat)
  case atStart => exact ⟨0, by omega, by simp [bytesL], by simp, by simpa using HG4, HB3⟩
  case round =>
    clear HG4 HB3
    obtain ⟨i, hi, rfl, rfl, HG, HB⟩ := hrel
    by_cases hlt : i < l1.length
    · obtain ⟨hnt, hct⟩ := needs_take HCL.out i hlt
      obtain ⟨P, q, hP1, hP2, hP3, hP4⟩ := bld_step (N := m) (n := L) hct (by have h1 := HND.out; omega)
      have hci := hct.append.2.1.head
      obtain ⟨ad, e2, hy0, hy1⟩ := at_T45 HR.out (i : Int) (by omega) (by omega)
      cases e2
      rw [rd_get l1 i hlt] at hy0 hy1
      simp only [Int.toNat_natCast] at hy0 hy1
      have HY0 := Aside0.mk hy0
      have HY1 := Aside0.mk hy1
      replace hy0 := (HB.out.cell (World.block_lt_of_cell? w _ hy0)).trans hy0
      replace hy1 := (HB.out.cell (World.block_lt_of_cell? w _ hy1)).trans hy1
      have hbt := bytesL_take_succ l1 i hlt
      have HBT := Aside0.mk hbt
      have HT := Aside0.mk (take_snoc l1 i hlt)
      obtain ⟨X, hX⟩ : ∃ X, l1[i] = X := ⟨_, rfl⟩
      rw [hX] at hP1 hP2 hP3 hP4 hci hy0 hy1 HBT HT HY0 HY1
      obtain ⟨B, hB⟩ : ∃ B, bytesL (l1.take i) = B := ⟨_, rfl⟩
      rw [hB] at hP2 hP4 HBT
      simp only [hB]
      rw [hP3, show zer 4 = zer 2 ++ zer 2 from rfl, List.append_assoc] at HG
      have HBB0 := Aside0.mk hB
      have HP1 := Aside0.mk hP1
      have HP4 := Aside0.mk hP4
      have HQ := Aside0.mk (show (P.length : Int) + 4 + q + X.f1.size + B = m by omega)
      have hb1 : 4 * X.f0 + 2 + X.f1.size + B ≤ m := by omega
      have hb2 : (0 : Int) < X.f1.size := by omega
      have hB0 : (0 : Int) ≤ B := by omega
      obtain ⟨hx1, hx2, hx3⟩ := hci
      have hbs : (P ++ (zer 2 ++ (zer 2 ++ (zer q ++ (zer X.f1.size ++ (foldB m (l1.take i)).2))))).length = m := by
        have h3 := (foldB_len (N := m) (show CellsOk (l1.take i) from (by have h4 := HCL.out; rw [← List.take_append_drop i l1] at h4; exact h4.append.1))).2
        simp only [List.length_append, zer, List.length_replicate]
        omega
      have HBS := Aside0.mk hbs
      clear hbt hnt hct hP1 hP2 hP3 hP4 hX hB hbs
      go_upto_region 9 with (fail)
      obtain ⟨T, hT⟩ : ∃ T : Nat, (m : Int) - B - X.f1.size = T := ⟨((m : Int) - B - X.f1.size).toNat, by omega⟩
      rw [hT]
      have HT2 := Aside0.mk hT
      have hTm : (T : Int) + X.f1.size ≤ m := by omega
      have hT0 : 4 * X.f0 + 2 ≤ (T : Int) := by omega
      obtain ⟨k, hk⟩ : ∃ k : Nat, 4 * X.f0 - 2 = k := ⟨(4 * X.f0 - 2).toNat, by omega⟩
      rw [hk]
      have HK := Aside0.mk hk
      have hkP : P.length = k := by have h1 := HP1.out; omega
      have HKP := Aside0.mk hkP
      have hkT : k + 4 ≤ T := by omega
      clear hT hk hb1 hkP
      have hsl1 := cut_own (P := Try.prog) 27 5 Try.underlying27 (by kernel_rfl) g m k (by omega)
      go_cut [8] (fun v8 wc => v8 = .int .i64 (k : Int) ∧ Aside0 (wc.heap[g]? = some (.cells (nums .u8 (P ++ (twoL T ++ (zer 2 ++ (zer q ++ (zer X.f1.size ++ (foldB m (l1.take i)).2)))))).toArray 5 (0, 0))) ∧ Aside0 (Below w.heap.size w wc))
      case first =>
        go_region_law (first
          | (go_simp; go_at_call 100; refine (two_row (T : Int) _ (by omega) (by omega)).mono ?_; rintro e w4 ⟨A4, c4, rfl, HT4, hb4⟩)
          | (refine step_copy_nums rfl (.tmp 40) (.tmp 42) 27 27 rfl 5 Try.underlying27 (by kernel_rfl) g k (m - k) (m - k) rfl A4 2 c4 rfl _ (twoL T) 5 (blk_below (blk_drew HG.out) hb4) HT4.out (by omega) (by rw [HBS.out]; omega) ?_; intro w5 HG5 hgb5))
        all_goals
          have hG5 := HG5.out
          rw [splice_at' P (zer 2) _ (twoL T) k HKP.out (by simp [twoL, zer])] at hG5
          have hb5 := below_step (below_drew HB.out) hb4
          have HB5 := Aside0.mk (hb5.grown hgb5.out hb5.size (by intro j hj; cases hj; exact hgl))
          have HG6 := Aside0.mk hG5
          clear hG5
          go_wp2_with fail
          go_meet
          case rel => exact ⟨rfl, HG6, HB5⟩
      case rest =>
        clear HG HB hy0 hy1 hsl1
        obtain ⟨rfl, HG, HB⟩ := hcut
        have hy0 := (HB.out.cell (World.block_lt_of_cell? w _ HY0.out)).trans HY0.out
        have hy1 := (HB.out.cell (World.block_lt_of_cell? w _ HY1.out)).trans HY1.out
        have hsl1 := cut_own (P := Try.prog) 27 5 Try.underlying27 (by kernel_rfl) g m (k + 2) (by omega)
        have ek : ((k + 2 : Nat) : Int) = (k : Int) + 2 := by omega
        rw [ek] at hsl1
        clear ek
        go_upto_region 10 with (fail)
        go_cut [8] (fun v8 wc => v8 = .int .i64 (k : Int) ∧ Aside0 (wc.heap[g]? = some (.cells (nums .u8 (P ++ (twoL T ++ (twoL X.f1.size ++ (zer q ++ (zer X.f1.size ++ (foldB m (l1.take i)).2)))))).toArray 5 (0, 0))) ∧ Aside0 (Below w.heap.size w wc))
        case first =>
          have hbs2 : (P ++ (twoL T ++ (zer 2 ++ (zer q ++ (zer X.f1.size ++ (foldB m (l1.take i)).2))))).length = m := by
            have h1 := HBS.out
            simp only [List.length_append, zer, List.length_replicate, twoL, List.length_cons, List.length_nil] at h1 ⊢
            omega
          have HBS2 := Aside0.mk hbs2
          clear hbs2
          have hwr : IntKind.i64.wrap ((k : Int) + 2) = (k : Int) + 2 := IntWalk.i64_in _ (by omega)
          go_region_law (first
            | (go_simp; go_at_call 100; refine (two_row (X.f1.size : Int) _ (by omega) (by omega)).mono ?_; rintro e w4 ⟨A4, c4, rfl, HT4, hb4⟩)
            | (refine step_copy_nums rfl (.tmp 47) (.tmp 54) 27 27 rfl 5 Try.underlying27 (by kernel_rfl) g (k + 2) (m - (k + 2)) (m - (k + 2)) rfl A4 2 c4 rfl _ (twoL X.f1.size) 5 (blk_below (blk_drew HG.out) hb4) HT4.out (by omega) (by rw [HBS2.out]; omega) ?_; intro w5 HG5 hgb5))
          all_goals
            have hG5 := HG5.out
            rw [← List.append_assoc P (twoL T), splice_at' (P ++ twoL T) (zer 2) _ (twoL X.f1.size) (k + 2) (by simp [HKP.out, twoL]) (by simp [twoL, zer]), List.append_assoc] at hG5
            have hb5 := below_step (below_drew HB.out) hb4
            have HB5 := Aside0.mk (hb5.grown hgb5.out hb5.size (by intro j hj; cases hj; exact hgl))
            have HG6 := Aside0.mk hG5
            clear hG5
            go_wp2_with fail
            go_meet
            case rel => exact ⟨rfl, HG6, HB5⟩
        case rest =>
          clear HG HB hy0 hy1 hsl1
          obtain ⟨rfl, HG, HB⟩ := hcut
          have hy0 := (HB.out.cell (World.block_lt_of_cell? w _ HY0.out)).trans HY0.out
          have hy1 := (HB.out.cell (World.block_lt_of_cell? w _ HY1.out)).trans HY1.out
          have hsl := cut_own (P := Try.prog) 27 5 Try.underlying27 (by kernel_rfl) g m T (by omega)
          go_upto_region 11 with (fail)
          go_still_tail 8, (by kernel_rfl)
          clear hsl hy0 hy1
          have hbs3 : (P ++ (twoL T ++ (twoL X.f1.size ++ (zer q ++ (zer X.f1.size ++ (foldB m (l1.take i)).2))))).length = m := by
            have h1 := HBS.out
            simp only [List.length_append, zer, List.length_replicate, twoL, List.length_cons, List.length_nil] at h1 ⊢
            omega
          refine wpList_copy_str rfl (.tmp 58) (.tmp 63) 27 9 rfl 5 Try.underlying27 (by kernel_rfl) g T (m - T) (m - T) rfl X.f1 rfl _ 5 HG.out (by omega) (by rw [hbs3]; omega) ?_
          intro w3 HG3 hgb3
          have HB3 := Aside0.mk ((show Below w.heap.size w _ from HB.out.drew).grown hgb3.out HB.out.size (by intro k hk; cases hk; exact hgl))
          have hs1 : splice (P ++ (twoL T ++ (twoL X.f1.size ++ (zer q ++ (zer X.f1.size ++ (foldB m (l1.take i)).2))))) T (bytesOf X.f1) = bld m L (l1.take (i + 1)) := by
            have h1 : (P ++ (twoL T ++ (twoL X.f1.size ++ zer q))).length = T := by
              have h1 := HP1.out
              have h2 := HQ.out
              have h5 := HT2.out
              simp only [List.length_append, zer, List.length_replicate, twoL, List.length_cons, List.length_nil]
              omega
            have h2 := splice_at' (P ++ (twoL T ++ (twoL X.f1.size ++ zer q))) (zer X.f1.size) (foldB m (l1.take i)).2 (bytesOf X.f1) T h1 (by rw [bytesOf_length, zer, List.length_replicate])
            have h3 := HT2.out
            rw [HT.out, HP4.out, show (m : Int) - ((B + X.f1.size : Nat) : Int) = T by omega]
            simpa [List.append_assoc, ent4, twoL] using h2
          have hG3 := HG3.out
          rw [hs1] at hG3
          have HG4 := Aside0.mk hG3
          have hbn : ((m : Int) - (bytesL (l1.take (i + 1)) : Int)) = T := by rw [HBT.out]; have h1 := HT2.out; omega
          have HBN := Aside0.mk hbn
          clear hbn hG3 hs1 hbs3 hgb3 HG3
          go_wp2
          go_roundw
          case rel => exact ⟨i + 1, by omega, by rw [HBN.out], by go_num, HG4, HB3⟩
          case measure => simp [intOf]; omega
    · have hil : l1.take i = l1 := List.take_of_length_le (by omega)
      have hG := HG.out
      rw [hil] at hG
      have hcv := conv_row (P := Try.prog) 27 9 5 Try.underlying27 Try.underlying5 Try.underlying9 g m m (bld m L l1) 5 wr hG (bld_length HCL.out HND.out)
      clear hil hG
      go_wp2
      go_ret
      exact ⟨by rw [builtL, HL2.out, Int.toNat_natCast]; rfl, HB.out⟩

end Go.Proofs.Ytemglmcddaeedaa.PA

namespace Go.Proofs.Ytemglmcddaeedaa.PA
open Go.RowKit Go.Proofs.YtemglmcddaeedaaW.PrintWords Go.Proofs.YtemglmcddaeedaaW.PrintLast Go.Proofs.YtemglmcddaeedaaW.PrintMore
attribute [local go_sem] max2_int min2_int max_two min_two max_three min_three max_four min_four   -- for this text's walks alone
set_option linter.unusedVariables false
set_option linter.unusedSimpArgs false

/-! ### ringworkref06_Fill: function 18 -/
def ringworkref06_Fill.l0 : Nat → Int → List (S45) → Int → Option (ByteArray × Int)
  | 0, _, _, _ => none
  | k + 1, x0, x1, x6 => if x6 < (x1.length : Int) then (if 0 ≤ x6 then (if ((rd_T45 x1 x6).f0) < 1 then (some ((⟨#[]⟩ : ByteArray), 1)) else (if ((rd_T45 x1 x6).f0) > 200 then (some ((⟨#[]⟩ : ByteArray), 1)) else (if x6 > 0 then (if 0 ≤ (wrap64 (x6 - 1)) then (if (wrap64 (x6 - 1)) < (x1.length : Int) then (if ((rd_T45 x1 x6).f0) ≤ ((rd_T45 x1 (wrap64 (x6 - 1))).f0) then (some ((⟨#[]⟩ : ByteArray), 1)) else (if ((rd_T45 x1 x6).f1).toList = ([] : List UInt8) then (some ((⟨#[]⟩ : ByteArray), 1)) else (ringworkref06_Fill.l0 k x0 x1 (wrap64 (x6 + 1))))) else (none)) else (none)) else (if ((rd_T45 x1 x6).f1).toList = ([] : List UInt8) then (some ((⟨#[]⟩ : ByteArray), 1)) else (ringworkref06_Fill.l0 k x0 x1 (wrap64 (x6 + 1))))))) else (none)) else ((ringworkref06_Size.f x0).bind fun t115 => (if t115 = true then ((ringworkref06_Room.f k x0 x1).bind fun t116 => (if t116 < 0 then (some ((⟨#[]⟩ : ByteArray), 13)) else ((ringworkref06_Built.f x0 x1).bind fun t117 => (some (t117, 0))))) else (some ((⟨#[]⟩ : ByteArray), 7))))
def ringworkref06_Fill.f (k : Nat) (a0 : Int) (l1 : List (S45)) : Option (ByteArray × Int) := ringworkref06_Fill.l0 k a0 l1 0
theorem ringworkref06_Fill.mono_l : ∀ k, (∀ y0 y1 y2, LeO (ringworkref06_Fill.l0 k y0 y1 y2) (ringworkref06_Fill.l0 (k + 1) y0 y1 y2))
  | 0 => fun _ _ _ r h => by simp [ringworkref06_Fill.l0] at h
  | k + 1 => by
    have ih0 := ringworkref06_Fill.mono_l k
    · intro y0 y1 y2
      unfold ringworkref06_Fill.l0
      repeat' first
      | (with_reducible exact ih0 _ _ _)
      | (with_reducible exact ringworkref06_Room.mono _ _ _)
      | (with_reducible exact LeO.refl _)
      | (with_reducible exact LeO.none _)
      | (with_reducible refine LeO.ite ?_ ?_)
      | (with_reducible refine LeO.bind ?_ (fun _ => ?_))
      | exact ih0 _ _ _
      | exact ringworkref06_Room.mono _ _ _
      | exact LeO.none _
      | refine LeO.ite ?_ ?_
      | refine LeO.bind ?_ (fun _ => ?_)
theorem ringworkref06_Fill.mono : ∀ a0 a1 k, LeO (ringworkref06_Fill.f k a0 a1) (ringworkref06_Fill.f (k + 1) a0 a1) := by
  intro a0 a1 k
  have ih0 := ringworkref06_Fill.mono_l k
  unfold ringworkref06_Fill.f
  repeat' first
      | (with_reducible exact ih0 _ _ _)
      | (with_reducible exact ringworkref06_Room.mono _ _ _)
      | (with_reducible exact LeO.refl _)
      | (with_reducible exact LeO.none _)
      | (with_reducible refine LeO.ite ?_ ?_)
      | (with_reducible refine LeO.bind ?_ (fun _ => ?_))
      | exact ih0 _ _ _
      | exact ringworkref06_Room.mono _ _ _
      | exact LeO.none _
      | refine LeO.ite ?_ ?_
      | refine LeO.bind ?_ (fun _ => ?_)
set_option maxHeartbeats 8000000 in
set_option maxRecDepth 100000 in
theorem ringworkref06_Fill.calls (k : Nat) (a0 : Int) (A1 : Option Addr) (c1 : Nat) (l1 : List (S45)) (r1 : ByteArray) (r2 : Int) (w : World) (hr1 : Kd.C k45 w A1 l1.length l1) (hc1 : l1.length ≤ c1) (h : ringworkref06_Fill.f k a0 l1 = some (r1, r2)) :
    Calls Try.prog 18 #[.int .i64 a0, .slice A1 l1.length c1] w fun e w' => e = .returned (.tuple #[.string r1, .int .i64 r2]) ∧ Below w.heap.size w w' := by
  have HR1 := Aside0.mk hr1
  have HC1 := Aside0.mk hc1
  clear hr1 hc1
  have HB := Aside0.mk (Below.refl w.heap.size w)
  have H : (ringworkref06_Fill.l0 k a0 l1 0) = some (r1, r2) := h
  clear h
  have H' := Aside0.mk H
  clear H
  go_enter Try.func18, Try.ntmps18
  go_wp2
  repeat (go_quiet (fail); try go_wp2)
  go_loopg [6] k (fun kq v6 w' => ∃ (x6_1 : Int), v6 = .int .i64 x6_1 ∧ Aside0 (ringworkref06_Fill.l0 kq a0 l1 x6_1 = some (r1, r2)) ∧ Aside0 (kq ≤ k) ∧ Aside0 (Below w.heap.size w w'))
  case atStart => exact ⟨(0), (by first | rfl | (simp; done) | (simp [*]; done)), H', ⟨Nat.le_refl _⟩, ⟨by repeat (first | (with_reducible first | exact HB.out | apply below_alloc | apply pw_below_drewN | apply below_drew1) | exact HB.out)⟩⟩
  case round =>
    clear H'
    try clear c1
    try clear p2
    obtain ⟨x6_1, rfl, HA, HK1, HB⟩ := hrel
    cases gk with
    | zero => exact absurd HA.out (by simp [ringworkref06_Fill.l0])
    | succ k1 =>
      have H := HA.out
      clear HA
      simp only [ringworkref06_Fill.l0] at H
      by_cases c3 : x6_1 < (l1.length : Int)
      · rw [if_pos c3] at H
        have c3b0 : decide (x6_1 < (l1.length : Int)) = true := decide_eq_true c3
        clear c3
        by_cases c4 : 0 ≤ x6_1
        · rw [if_pos c4] at H
          have c4b0 : decide (0 ≤ x6_1) = true := decide_eq_true c4
          clear c4
          by_cases c5 : ((rd_T45 l1 x6_1).f0) < 1
          · rw [if_pos c5] at H
            have c5b0 : decide (((rd_T45 l1 x6_1).f0) < 1) = true := decide_eq_true c5
            clear c5
            simp only [Option.some.injEq, Prod.mk.injEq] at H
            obtain ⟨rfl, rfl⟩ := H
            have p109 : 0 ≤ (x6_1 : Int) := of_decide_eq_true (by first | (with_reducible assumption) | assumption)
            have q109 : x6_1 < (l1.length : Int) := of_decide_eq_true (by first | (with_reducible assumption) | assumption)
            obtain ⟨ad109, e109, hx109_0, hx109_1⟩ := at_T45 HR1.out x6_1 p109 q109
            cases e109
            replace hx109_0 := (HB.out.cell (World.block_lt_of_cell? w _ hx109_0)).trans hx109_0
            replace hx109_1 := (HB.out.cell (World.block_lt_of_cell? w _ hx109_1)).trans hx109_1
            replace p109 := eq_true p109
            replace q109 := eq_true q109
            go_wp2
            repeat (go_quiet (fail); try go_wp2)
            go_ret2
            exact ⟨by first | rfl | (simp [errW_none, errW_some] <;> rfl) | (simp [*, errW_none, errW_some] <;> rfl), by repeat (first | (with_reducible first | exact HB.out | apply below_alloc | apply pw_below_drewN | apply below_drew1) | exact HB.out)⟩
          · rw [if_neg c5] at H
            have c5b0 : decide (((rd_T45 l1 x6_1).f0) < 1) = false := decide_eq_false c5
            clear c5
            by_cases c6 : ((rd_T45 l1 x6_1).f0) > 200
            · rw [if_pos c6] at H
              have c6b0 : decide (200 < ((rd_T45 l1 x6_1).f0)) = true := decide_eq_true c6
              clear c6
              simp only [Option.some.injEq, Prod.mk.injEq] at H
              obtain ⟨rfl, rfl⟩ := H
              have p109 : 0 ≤ (x6_1 : Int) := of_decide_eq_true (by first | (with_reducible assumption) | assumption)
              have q109 : x6_1 < (l1.length : Int) := of_decide_eq_true (by first | (with_reducible assumption) | assumption)
              obtain ⟨ad109, e109, hx109_0, hx109_1⟩ := at_T45 HR1.out x6_1 p109 q109
              cases e109
              replace hx109_0 := (HB.out.cell (World.block_lt_of_cell? w _ hx109_0)).trans hx109_0
              replace hx109_1 := (HB.out.cell (World.block_lt_of_cell? w _ hx109_1)).trans hx109_1
              replace p109 := eq_true p109
              replace q109 := eq_true q109
              have p110 : 0 ≤ (x6_1 : Int) := of_decide_eq_true (by first | (with_reducible assumption) | assumption)
              have q110 : x6_1 < (l1.length : Int) := of_decide_eq_true (by first | (with_reducible assumption) | assumption)
              obtain ⟨ad110, e110, hx110_0, hx110_1⟩ := at_T45 HR1.out x6_1 p110 q110
              obtain rfl : ad109 = ad110 := (by injection e110)
              replace hx110_0 := (HB.out.cell (World.block_lt_of_cell? w _ hx110_0)).trans hx110_0
              replace hx110_1 := (HB.out.cell (World.block_lt_of_cell? w _ hx110_1)).trans hx110_1
              replace p110 := eq_true p110
              replace q110 := eq_true q110
              go_wp2
              repeat (go_quiet (fail); try go_wp2)
              go_ret2
              exact ⟨by first | rfl | (simp [errW_none, errW_some] <;> rfl) | (simp [*, errW_none, errW_some] <;> rfl), by repeat (first | (with_reducible first | exact HB.out | apply below_alloc | apply pw_below_drewN | apply below_drew1) | exact HB.out)⟩
            · rw [if_neg c6] at H
              have c6b0 : decide (200 < ((rd_T45 l1 x6_1).f0)) = false := decide_eq_false c6
              clear c6
              by_cases c7 : x6_1 > 0
              · rw [if_pos c7] at H
                have c7b0 : decide (0 < x6_1) = true := decide_eq_true c7
                clear c7
                obtain ⟨ji8, hji8⟩ : ∃ j_ : Int, (wrap64 (x6_1 - 1)) = j_ := ⟨_, rfl⟩
                replace H : (if 0 ≤ (ji8) then (if (ji8) < (l1.length : Int) then (if ((rd_T45 l1 x6_1).f0) ≤ ((rd_T45 l1 (ji8)).f0) then (some ((⟨#[]⟩ : ByteArray), 1)) else (if ((rd_T45 l1 x6_1).f1).toList = ([] : List UInt8) then (some ((⟨#[]⟩ : ByteArray), 1)) else (ringworkref06_Fill.l0 k1 a0 l1 (wrap64 (x6_1 + 1))))) else (none)) else (none)) = some (r1, r2) := by first | (rw [hji8] at H; exact H) | (simp only [hji8] at H ⊢; exact H)
                have hji8w : (IntKind.i64.wrap (x6_1 - 1)) = ji8 := (i64_w _).trans hji8
                by_cases c9 : 0 ≤ (ji8)
                · rw [if_pos c9] at H
                  have c9b0 : decide (0 ≤ (ji8)) = true := decide_eq_true c9
                  clear c9
                  by_cases c10 : (ji8) < (l1.length : Int)
                  · rw [if_pos c10] at H
                    have c10b0 : decide ((ji8) < (l1.length : Int)) = true := decide_eq_true c10
                    clear c10
                    by_cases c11 : ((rd_T45 l1 x6_1).f0) ≤ ((rd_T45 l1 (ji8)).f0)
                    · rw [if_pos c11] at H
                      have c11b0 : decide (((rd_T45 l1 x6_1).f0) ≤ ((rd_T45 l1 (ji8)).f0)) = true := decide_eq_true c11
                      clear c11
                      simp only [Option.some.injEq, Prod.mk.injEq] at H
                      obtain ⟨rfl, rfl⟩ := H
                      have p109 : 0 ≤ (x6_1 : Int) := of_decide_eq_true (by first | (with_reducible assumption) | assumption)
                      have q109 : x6_1 < (l1.length : Int) := of_decide_eq_true (by first | (with_reducible assumption) | assumption)
                      obtain ⟨ad109, e109, hx109_0, hx109_1⟩ := at_T45 HR1.out x6_1 p109 q109
                      cases e109
                      replace hx109_0 := (HB.out.cell (World.block_lt_of_cell? w _ hx109_0)).trans hx109_0
                      replace hx109_1 := (HB.out.cell (World.block_lt_of_cell? w _ hx109_1)).trans hx109_1
                      replace p109 := eq_true p109
                      replace q109 := eq_true q109
                      have p110 : 0 ≤ (x6_1 : Int) := of_decide_eq_true (by first | (with_reducible assumption) | assumption)
                      have q110 : x6_1 < (l1.length : Int) := of_decide_eq_true (by first | (with_reducible assumption) | assumption)
                      obtain ⟨ad110, e110, hx110_0, hx110_1⟩ := at_T45 HR1.out x6_1 p110 q110
                      obtain rfl : ad109 = ad110 := (by injection e110)
                      replace hx110_0 := (HB.out.cell (World.block_lt_of_cell? w _ hx110_0)).trans hx110_0
                      replace hx110_1 := (HB.out.cell (World.block_lt_of_cell? w _ hx110_1)).trans hx110_1
                      replace p110 := eq_true p110
                      replace q110 := eq_true q110
                      have p111 : 0 ≤ (x6_1 : Int) := of_decide_eq_true (by first | (with_reducible assumption) | assumption)
                      have q111 : x6_1 < (l1.length : Int) := of_decide_eq_true (by first | (with_reducible assumption) | assumption)
                      obtain ⟨ad111, e111, hx111_0, hx111_1⟩ := at_T45 HR1.out x6_1 p111 q111
                      obtain rfl : ad109 = ad111 := (by injection e111)
                      replace hx111_0 := (HB.out.cell (World.block_lt_of_cell? w _ hx111_0)).trans hx111_0
                      replace hx111_1 := (HB.out.cell (World.block_lt_of_cell? w _ hx111_1)).trans hx111_1
                      replace p111 := eq_true p111
                      replace q111 := eq_true q111
                      have p112 : 0 ≤ ((ji8) : Int) := of_decide_eq_true (by first | (with_reducible assumption) | assumption)
                      have q112 : (ji8) < (l1.length : Int) := of_decide_eq_true (by first | (with_reducible assumption) | assumption)
                      obtain ⟨ad112, e112, hx112_0, hx112_1⟩ := at_T45 HR1.out (ji8) p112 q112
                      obtain rfl : ad109 = ad112 := (by injection e112)
                      replace hx112_0 := (HB.out.cell (World.block_lt_of_cell? w _ hx112_0)).trans hx112_0
                      replace hx112_1 := (HB.out.cell (World.block_lt_of_cell? w _ hx112_1)).trans hx112_1
                      replace p112 := eq_true p112
                      replace q112 := eq_true q112
                      go_wp2
                      repeat (go_quiet (fail); try go_wp2)
                      go_ret2
                      exact ⟨by first | rfl | (simp [errW_none, errW_some] <;> rfl) | (simp only [← hji8]; first | rfl | (simp [errW_none, errW_some] <;> rfl)) | (simp [*, errW_none, errW_some] <;> rfl), by repeat (first | (with_reducible first | exact HB.out | apply below_alloc | apply pw_below_drewN | apply below_drew1) | exact HB.out)⟩
                    · rw [if_neg c11] at H
                      have c11b0 : decide (((rd_T45 l1 x6_1).f0) ≤ ((rd_T45 l1 (ji8)).f0)) = false := decide_eq_false c11
                      clear c11
                      by_cases c12 : ((rd_T45 l1 x6_1).f1).toList = ([] : List UInt8)
                      · rw [if_pos c12] at H
                        have c12b0 : (((rd_T45 l1 x6_1).f1).toList == ([] : List UInt8)) = true := beq_iff_eq.mpr c12
                        have c12b1 : (((rd_T45 l1 x6_1).f1).toList != ([] : List UInt8)) = false := bne_eq_false_iff_eq.mpr c12
                        clear c12
                        simp only [Option.some.injEq, Prod.mk.injEq] at H
                        obtain ⟨rfl, rfl⟩ := H
                        have p109 : 0 ≤ (x6_1 : Int) := of_decide_eq_true (by first | (with_reducible assumption) | assumption)
                        have q109 : x6_1 < (l1.length : Int) := of_decide_eq_true (by first | (with_reducible assumption) | assumption)
                        obtain ⟨ad109, e109, hx109_0, hx109_1⟩ := at_T45 HR1.out x6_1 p109 q109
                        cases e109
                        replace hx109_0 := (HB.out.cell (World.block_lt_of_cell? w _ hx109_0)).trans hx109_0
                        replace hx109_1 := (HB.out.cell (World.block_lt_of_cell? w _ hx109_1)).trans hx109_1
                        replace p109 := eq_true p109
                        replace q109 := eq_true q109
                        have p110 : 0 ≤ (x6_1 : Int) := of_decide_eq_true (by first | (with_reducible assumption) | assumption)
                        have q110 : x6_1 < (l1.length : Int) := of_decide_eq_true (by first | (with_reducible assumption) | assumption)
                        obtain ⟨ad110, e110, hx110_0, hx110_1⟩ := at_T45 HR1.out x6_1 p110 q110
                        obtain rfl : ad109 = ad110 := (by injection e110)
                        replace hx110_0 := (HB.out.cell (World.block_lt_of_cell? w _ hx110_0)).trans hx110_0
                        replace hx110_1 := (HB.out.cell (World.block_lt_of_cell? w _ hx110_1)).trans hx110_1
                        replace p110 := eq_true p110
                        replace q110 := eq_true q110
                        have p111 : 0 ≤ (x6_1 : Int) := of_decide_eq_true (by first | (with_reducible assumption) | assumption)
                        have q111 : x6_1 < (l1.length : Int) := of_decide_eq_true (by first | (with_reducible assumption) | assumption)
                        obtain ⟨ad111, e111, hx111_0, hx111_1⟩ := at_T45 HR1.out x6_1 p111 q111
                        obtain rfl : ad109 = ad111 := (by injection e111)
                        replace hx111_0 := (HB.out.cell (World.block_lt_of_cell? w _ hx111_0)).trans hx111_0
                        replace hx111_1 := (HB.out.cell (World.block_lt_of_cell? w _ hx111_1)).trans hx111_1
                        replace p111 := eq_true p111
                        replace q111 := eq_true q111
                        have p112 : 0 ≤ ((ji8) : Int) := of_decide_eq_true (by first | (with_reducible assumption) | assumption)
                        have q112 : (ji8) < (l1.length : Int) := of_decide_eq_true (by first | (with_reducible assumption) | assumption)
                        obtain ⟨ad112, e112, hx112_0, hx112_1⟩ := at_T45 HR1.out (ji8) p112 q112
                        obtain rfl : ad109 = ad112 := (by injection e112)
                        replace hx112_0 := (HB.out.cell (World.block_lt_of_cell? w _ hx112_0)).trans hx112_0
                        replace hx112_1 := (HB.out.cell (World.block_lt_of_cell? w _ hx112_1)).trans hx112_1
                        replace p112 := eq_true p112
                        replace q112 := eq_true q112
                        have p113 : 0 ≤ (x6_1 : Int) := of_decide_eq_true (by first | (with_reducible assumption) | assumption)
                        have q113 : x6_1 < (l1.length : Int) := of_decide_eq_true (by first | (with_reducible assumption) | assumption)
                        obtain ⟨ad113, e113, hx113_0, hx113_1⟩ := at_T45 HR1.out x6_1 p113 q113
                        obtain rfl : ad109 = ad113 := (by injection e113)
                        replace hx113_0 := (HB.out.cell (World.block_lt_of_cell? w _ hx113_0)).trans hx113_0
                        replace hx113_1 := (HB.out.cell (World.block_lt_of_cell? w _ hx113_1)).trans hx113_1
                        replace p113 := eq_true p113
                        replace q113 := eq_true q113
                        go_wp2
                        repeat (go_quiet (fail); try go_wp2)
                        go_ret2
                        exact ⟨by first | rfl | (simp [errW_none, errW_some] <;> rfl) | (simp only [← hji8]; first | rfl | (simp [errW_none, errW_some] <;> rfl)) | (simp [*, errW_none, errW_some] <;> rfl), by repeat (first | (with_reducible first | exact HB.out | apply below_alloc | apply pw_below_drewN | apply below_drew1) | exact HB.out)⟩
                      · rw [if_neg c12] at H
                        have c12b0 : (((rd_T45 l1 x6_1).f1).toList == ([] : List UInt8)) = false := beq_eq_false_iff_ne.mpr c12
                        have c12b1 : (((rd_T45 l1 x6_1).f1).toList != ([] : List UInt8)) = true := bne_iff_ne.mpr c12
                        have H' := Aside0.mk H
                        clear H
                        have p109 : 0 ≤ (x6_1 : Int) := of_decide_eq_true (by first | (with_reducible assumption) | assumption)
                        have q109 : x6_1 < (l1.length : Int) := of_decide_eq_true (by first | (with_reducible assumption) | assumption)
                        obtain ⟨ad109, e109, hx109_0, hx109_1⟩ := at_T45 HR1.out x6_1 p109 q109
                        cases e109
                        replace hx109_0 := (HB.out.cell (World.block_lt_of_cell? w _ hx109_0)).trans hx109_0
                        replace hx109_1 := (HB.out.cell (World.block_lt_of_cell? w _ hx109_1)).trans hx109_1
                        replace p109 := eq_true p109
                        replace q109 := eq_true q109
                        have p110 : 0 ≤ (x6_1 : Int) := of_decide_eq_true (by first | (with_reducible assumption) | assumption)
                        have q110 : x6_1 < (l1.length : Int) := of_decide_eq_true (by first | (with_reducible assumption) | assumption)
                        obtain ⟨ad110, e110, hx110_0, hx110_1⟩ := at_T45 HR1.out x6_1 p110 q110
                        obtain rfl : ad109 = ad110 := (by injection e110)
                        replace hx110_0 := (HB.out.cell (World.block_lt_of_cell? w _ hx110_0)).trans hx110_0
                        replace hx110_1 := (HB.out.cell (World.block_lt_of_cell? w _ hx110_1)).trans hx110_1
                        replace p110 := eq_true p110
                        replace q110 := eq_true q110
                        have p111 : 0 ≤ (x6_1 : Int) := of_decide_eq_true (by first | (with_reducible assumption) | assumption)
                        have q111 : x6_1 < (l1.length : Int) := of_decide_eq_true (by first | (with_reducible assumption) | assumption)
                        obtain ⟨ad111, e111, hx111_0, hx111_1⟩ := at_T45 HR1.out x6_1 p111 q111
                        obtain rfl : ad109 = ad111 := (by injection e111)
                        replace hx111_0 := (HB.out.cell (World.block_lt_of_cell? w _ hx111_0)).trans hx111_0
                        replace hx111_1 := (HB.out.cell (World.block_lt_of_cell? w _ hx111_1)).trans hx111_1
                        replace p111 := eq_true p111
                        replace q111 := eq_true q111
                        have p112 : 0 ≤ ((ji8) : Int) := of_decide_eq_true (by first | (with_reducible assumption) | assumption)
                        have q112 : (ji8) < (l1.length : Int) := of_decide_eq_true (by first | (with_reducible assumption) | assumption)
                        obtain ⟨ad112, e112, hx112_0, hx112_1⟩ := at_T45 HR1.out (ji8) p112 q112
                        obtain rfl : ad109 = ad112 := (by injection e112)
                        replace hx112_0 := (HB.out.cell (World.block_lt_of_cell? w _ hx112_0)).trans hx112_0
                        replace hx112_1 := (HB.out.cell (World.block_lt_of_cell? w _ hx112_1)).trans hx112_1
                        replace p112 := eq_true p112
                        replace q112 := eq_true q112
                        have p113 : 0 ≤ (x6_1 : Int) := of_decide_eq_true (by first | (with_reducible assumption) | assumption)
                        have q113 : x6_1 < (l1.length : Int) := of_decide_eq_true (by first | (with_reducible assumption) | assumption)
                        obtain ⟨ad113, e113, hx113_0, hx113_1⟩ := at_T45 HR1.out x6_1 p113 q113
                        obtain rfl : ad109 = ad113 := (by injection e113)
                        replace hx113_0 := (HB.out.cell (World.block_lt_of_cell? w _ hx113_0)).trans hx113_0
                        replace hx113_1 := (HB.out.cell (World.block_lt_of_cell? w _ hx113_1)).trans hx113_1
                        replace p113 := eq_true p113
                        replace q113 := eq_true q113
                        go_wp2
                        repeat (go_quiet (fail); try go_wp2)
                        go_roundg k1
                        case measure => have := HK1.out; omega
                        case rel => exact ⟨(wrap64 (x6_1 + 1)), (by first | rfl | (simp; done) | (simp [*]; done)), H', ⟨by have := HK1.out; omega⟩, ⟨by repeat (first | (with_reducible first | exact HB.out | apply below_alloc | apply pw_below_drewN | apply below_drew1) | exact HB.out)⟩⟩
                  · rw [if_neg c10] at H
                    exact absurd H (by simp)
                · rw [if_neg c9] at H
                  exact absurd H (by simp)
              · rw [if_neg c7] at H
                have c7b0 : decide (0 < x6_1) = false := decide_eq_false c7
                clear c7
                by_cases c13 : ((rd_T45 l1 x6_1).f1).toList = ([] : List UInt8)
                · rw [if_pos c13] at H
                  have c13b0 : (((rd_T45 l1 x6_1).f1).toList == ([] : List UInt8)) = true := beq_iff_eq.mpr c13
                  have c13b1 : (((rd_T45 l1 x6_1).f1).toList != ([] : List UInt8)) = false := bne_eq_false_iff_eq.mpr c13
                  clear c13
                  simp only [Option.some.injEq, Prod.mk.injEq] at H
                  obtain ⟨rfl, rfl⟩ := H
                  have p109 : 0 ≤ (x6_1 : Int) := of_decide_eq_true (by first | (with_reducible assumption) | assumption)
                  have q109 : x6_1 < (l1.length : Int) := of_decide_eq_true (by first | (with_reducible assumption) | assumption)
                  obtain ⟨ad109, e109, hx109_0, hx109_1⟩ := at_T45 HR1.out x6_1 p109 q109
                  cases e109
                  replace hx109_0 := (HB.out.cell (World.block_lt_of_cell? w _ hx109_0)).trans hx109_0
                  replace hx109_1 := (HB.out.cell (World.block_lt_of_cell? w _ hx109_1)).trans hx109_1
                  replace p109 := eq_true p109
                  replace q109 := eq_true q109
                  have p110 : 0 ≤ (x6_1 : Int) := of_decide_eq_true (by first | (with_reducible assumption) | assumption)
                  have q110 : x6_1 < (l1.length : Int) := of_decide_eq_true (by first | (with_reducible assumption) | assumption)
                  obtain ⟨ad110, e110, hx110_0, hx110_1⟩ := at_T45 HR1.out x6_1 p110 q110
                  obtain rfl : ad109 = ad110 := (by injection e110)
                  replace hx110_0 := (HB.out.cell (World.block_lt_of_cell? w _ hx110_0)).trans hx110_0
                  replace hx110_1 := (HB.out.cell (World.block_lt_of_cell? w _ hx110_1)).trans hx110_1
                  replace p110 := eq_true p110
                  replace q110 := eq_true q110
                  have p114 : 0 ≤ (x6_1 : Int) := of_decide_eq_true (by first | (with_reducible assumption) | assumption)
                  have q114 : x6_1 < (l1.length : Int) := of_decide_eq_true (by first | (with_reducible assumption) | assumption)
                  obtain ⟨ad114, e114, hx114_0, hx114_1⟩ := at_T45 HR1.out x6_1 p114 q114
                  obtain rfl : ad109 = ad114 := (by injection e114)
                  replace hx114_0 := (HB.out.cell (World.block_lt_of_cell? w _ hx114_0)).trans hx114_0
                  replace hx114_1 := (HB.out.cell (World.block_lt_of_cell? w _ hx114_1)).trans hx114_1
                  replace p114 := eq_true p114
                  replace q114 := eq_true q114
                  go_wp2
                  repeat (go_quiet (fail); try go_wp2)
                  go_ret2
                  exact ⟨by first | rfl | (simp [errW_none, errW_some] <;> rfl) | (simp [*, errW_none, errW_some] <;> rfl), by repeat (first | (with_reducible first | exact HB.out | apply below_alloc | apply pw_below_drewN | apply below_drew1) | exact HB.out)⟩
                · rw [if_neg c13] at H
                  have c13b0 : (((rd_T45 l1 x6_1).f1).toList == ([] : List UInt8)) = false := beq_eq_false_iff_ne.mpr c13
                  have c13b1 : (((rd_T45 l1 x6_1).f1).toList != ([] : List UInt8)) = true := bne_iff_ne.mpr c13
                  have H' := Aside0.mk H
                  clear H
                  have p109 : 0 ≤ (x6_1 : Int) := of_decide_eq_true (by first | (with_reducible assumption) | assumption)
                  have q109 : x6_1 < (l1.length : Int) := of_decide_eq_true (by first | (with_reducible assumption) | assumption)
                  obtain ⟨ad109, e109, hx109_0, hx109_1⟩ := at_T45 HR1.out x6_1 p109 q109
                  cases e109
                  replace hx109_0 := (HB.out.cell (World.block_lt_of_cell? w _ hx109_0)).trans hx109_0
                  replace hx109_1 := (HB.out.cell (World.block_lt_of_cell? w _ hx109_1)).trans hx109_1
                  replace p109 := eq_true p109
                  replace q109 := eq_true q109
                  have p110 : 0 ≤ (x6_1 : Int) := of_decide_eq_true (by first | (with_reducible assumption) | assumption)
                  have q110 : x6_1 < (l1.length : Int) := of_decide_eq_true (by first | (with_reducible assumption) | assumption)
                  obtain ⟨ad110, e110, hx110_0, hx110_1⟩ := at_T45 HR1.out x6_1 p110 q110
                  obtain rfl : ad109 = ad110 := (by injection e110)
                  replace hx110_0 := (HB.out.cell (World.block_lt_of_cell? w _ hx110_0)).trans hx110_0
                  replace hx110_1 := (HB.out.cell (World.block_lt_of_cell? w _ hx110_1)).trans hx110_1
                  replace p110 := eq_true p110
                  replace q110 := eq_true q110
                  have p114 : 0 ≤ (x6_1 : Int) := of_decide_eq_true (by first | (with_reducible assumption) | assumption)
                  have q114 : x6_1 < (l1.length : Int) := of_decide_eq_true (by first | (with_reducible assumption) | assumption)
                  obtain ⟨ad114, e114, hx114_0, hx114_1⟩ := at_T45 HR1.out x6_1 p114 q114
                  obtain rfl : ad109 = ad114 := (by injection e114)
                  replace hx114_0 := (HB.out.cell (World.block_lt_of_cell? w _ hx114_0)).trans hx114_0
                  replace hx114_1 := (HB.out.cell (World.block_lt_of_cell? w _ hx114_1)).trans hx114_1
                  replace p114 := eq_true p114
                  replace q114 := eq_true q114
                  go_wp2
                  repeat (go_quiet (fail); try go_wp2)
                  go_roundg k1
                  case measure => have := HK1.out; omega
                  case rel => exact ⟨(wrap64 (x6_1 + 1)), (by first | rfl | (simp; done) | (simp [*]; done)), H', ⟨by have := HK1.out; omega⟩, ⟨by repeat (first | (with_reducible first | exact HB.out | apply below_alloc | apply pw_below_drewN | apply below_drew1) | exact HB.out)⟩⟩
        · rw [if_neg c4] at H
          exact absurd H (by simp)
      · rw [if_neg c3] at H
        have c3b0 : decide (x6_1 < (l1.length : Int)) = false := decide_eq_false c3
        clear c3
        replace H := Option.bind_eq_some_iff.mp H
        obtain ⟨t115, A140, H⟩ := H
        replace H : (if t115 = true then ((ringworkref06_Room.f k1 a0 l1).bind fun t116 => (if t116 < 0 then (some ((⟨#[]⟩ : ByteArray), 13)) else ((ringworkref06_Built.f a0 l1).bind fun t117 => (some (t117, 0))))) else (some ((⟨#[]⟩ : ByteArray), 7))) = some (r1, r2) := H
        have A14 := Aside0.mk A140
        clear A140
        by_cases c15 : t115 = true
        · subst c15
          have H1 : ((ringworkref06_Room.f k1 a0 l1).bind fun t116 => (if t116 < 0 then (some ((⟨#[]⟩ : ByteArray), 13)) else ((ringworkref06_Built.f a0 l1).bind fun t117 => (some (t117, 0))))) = some (r1, r2) := by rw [if_pos rfl] at H; exact H
          clear H
          have H := H1
          clear H1
          replace H := Option.bind_eq_some_iff.mp H
          obtain ⟨t116, A160, H⟩ := H
          replace H : (if t116 < 0 then (some ((⟨#[]⟩ : ByteArray), 13)) else ((ringworkref06_Built.f a0 l1).bind fun t117 => (some (t117, 0)))) = some (r1, r2) := H
          have A16 := Aside0.mk A160
          clear A160
          by_cases c17 : t116 < 0
          · rw [if_pos c17] at H
            have c17b0 : decide (t116 < 0) = true := decide_eq_true c17
            clear c17
            simp only [Option.some.injEq, Prod.mk.injEq] at H
            obtain ⟨rfl, rfl⟩ := H
            go_wp2_with (first | (go_at_call 50; (with_reducible refine (ringworkref06_Size.calls a0 true _ A14.out).mono ?_); rintro e w' ⟨rfl, ⟨nd, rfl⟩⟩; (try first | exact ⟨rfl, _, World.drewN_drewN _ _ _⟩ | exact ⟨rfl, _, Eq.trans (World.drewN_drewN _ _ _) (congrArg (World.drewN _) (Nat.add_assoc _ _ _))⟩)) | (go_at_call 55; (with_reducible refine (ringworkref06_Room.calls k1 a0 _ _ l1 t116 _ ?side1 ?side2 A16.out).mono ?_); (case side1 => repeat (first | exact (Kd.C_below HR1.out (by repeat (first | (with_reducible first | exact HB.out | apply below_alloc | apply pw_below_drewN | apply below_drew1) | exact HB.out))) | (with_reducible refine Kd.C_alloc ?_ _) | (with_reducible refine Kd.C_drewN ?_ _) | (with_reducible refine Kd.C_drew ?_))); (case side2 => exact HC1.out); rintro e w' ⟨rfl, ⟨nd, rfl⟩⟩; (try first | exact ⟨rfl, _, World.drewN_drewN _ _ _⟩ | exact ⟨rfl, _, Eq.trans (World.drewN_drewN _ _ _) (congrArg (World.drewN _) (Nat.add_assoc _ _ _))⟩)))
            repeat (go_quiet (first | (go_at_call 50; (with_reducible refine (ringworkref06_Size.calls a0 true _ A14.out).mono ?_); rintro e w' ⟨rfl, ⟨nd, rfl⟩⟩; (try first | exact ⟨rfl, _, World.drewN_drewN _ _ _⟩ | exact ⟨rfl, _, Eq.trans (World.drewN_drewN _ _ _) (congrArg (World.drewN _) (Nat.add_assoc _ _ _))⟩)) | (go_at_call 55; (with_reducible refine (ringworkref06_Room.calls k1 a0 _ _ l1 t116 _ ?side1 ?side2 A16.out).mono ?_); (case side1 => repeat (first | exact (Kd.C_below HR1.out (by repeat (first | (with_reducible first | exact HB.out | apply below_alloc | apply pw_below_drewN | apply below_drew1) | exact HB.out))) | (with_reducible refine Kd.C_alloc ?_ _) | (with_reducible refine Kd.C_drewN ?_ _) | (with_reducible refine Kd.C_drew ?_))); (case side2 => exact HC1.out); rintro e w' ⟨rfl, ⟨nd, rfl⟩⟩; (try first | exact ⟨rfl, _, World.drewN_drewN _ _ _⟩ | exact ⟨rfl, _, Eq.trans (World.drewN_drewN _ _ _) (congrArg (World.drewN _) (Nat.add_assoc _ _ _))⟩))); try go_wp2_with (first | (go_at_call 50; (with_reducible refine (ringworkref06_Size.calls a0 true _ A14.out).mono ?_); rintro e w' ⟨rfl, ⟨nd, rfl⟩⟩; (try first | exact ⟨rfl, _, World.drewN_drewN _ _ _⟩ | exact ⟨rfl, _, Eq.trans (World.drewN_drewN _ _ _) (congrArg (World.drewN _) (Nat.add_assoc _ _ _))⟩)) | (go_at_call 55; (with_reducible refine (ringworkref06_Room.calls k1 a0 _ _ l1 t116 _ ?side1 ?side2 A16.out).mono ?_); (case side1 => repeat (first | exact (Kd.C_below HR1.out (by repeat (first | (with_reducible first | exact HB.out | apply below_alloc | apply pw_below_drewN | apply below_drew1) | exact HB.out))) | (with_reducible refine Kd.C_alloc ?_ _) | (with_reducible refine Kd.C_drewN ?_ _) | (with_reducible refine Kd.C_drew ?_))); (case side2 => exact HC1.out); rintro e w' ⟨rfl, ⟨nd, rfl⟩⟩; (try first | exact ⟨rfl, _, World.drewN_drewN _ _ _⟩ | exact ⟨rfl, _, Eq.trans (World.drewN_drewN _ _ _) (congrArg (World.drewN _) (Nat.add_assoc _ _ _))⟩))))
            go_ret2
            exact ⟨by first | rfl | (simp [errW_none, errW_some] <;> rfl) | (simp [*, errW_none, errW_some] <;> rfl), by repeat (first | (with_reducible first | exact HB.out | apply below_alloc | apply pw_below_drewN | apply below_drew1) | exact HB.out)⟩
          · rw [if_neg c17] at H
            have c17b0 : decide (t116 < 0) = false := decide_eq_false c17
            clear c17
            replace H := Option.bind_eq_some_iff.mp H
            obtain ⟨t117, A180, H⟩ := H
            replace H : (some (t117, 0)) = some (r1, r2) := H
            have A18 := Aside0.mk A180
            clear A180
            simp only [Option.some.injEq, Prod.mk.injEq] at H
            obtain ⟨rfl, rfl⟩ := H
            go_wp2_with (first | (go_at_call 50; (with_reducible refine (ringworkref06_Size.calls a0 true _ A14.out).mono ?_); rintro e w' ⟨rfl, ⟨nd, rfl⟩⟩; (try first | exact ⟨rfl, _, World.drewN_drewN _ _ _⟩ | exact ⟨rfl, _, Eq.trans (World.drewN_drewN _ _ _) (congrArg (World.drewN _) (Nat.add_assoc _ _ _))⟩)) | (go_at_call 55; (with_reducible refine (ringworkref06_Room.calls k1 a0 _ _ l1 t116 _ ?side1 ?side2 A16.out).mono ?_); (case side1 => repeat (first | exact (Kd.C_below HR1.out (by repeat (first | (with_reducible first | exact HB.out | apply below_alloc | apply pw_below_drewN | apply below_drew1) | exact HB.out))) | (with_reducible refine Kd.C_alloc ?_ _) | (with_reducible refine Kd.C_drewN ?_ _) | (with_reducible refine Kd.C_drew ?_))); (case side2 => exact HC1.out); rintro e w' ⟨rfl, ⟨nd, rfl⟩⟩; (try first | exact ⟨rfl, _, World.drewN_drewN _ _ _⟩ | exact ⟨rfl, _, Eq.trans (World.drewN_drewN _ _ _) (congrArg (World.drewN _) (Nat.add_assoc _ _ _))⟩)) | (go_at_call 51; (with_reducible refine (ringworkref06_Built.calls a0 _ _ l1 t117 _ ?side1 ?side2 A18.out).mono ?_); (case side1 => repeat (first | exact (Kd.C_below HR1.out (by repeat (first | (with_reducible first | exact HB.out | apply below_alloc | apply pw_below_drewN | apply below_drew1) | exact HB.out))) | (with_reducible refine Kd.C_alloc ?_ _) | (with_reducible refine Kd.C_drewN ?_ _) | (with_reducible refine Kd.C_drew ?_))); (case side2 => exact HC1.out); rintro e w19 ⟨rfl, hb⟩; have n0_ := Aside0.mk (below_step (by repeat (first | (with_reducible first | exact HB.out | apply below_alloc | apply pw_below_drewN | apply below_drew1) | exact HB.out)) hb); clear HB; have HB := n0_; clear n0_; (try clear hb); (try clear hb2); (try clear hk); (try clear hi)))
            repeat (go_quiet (first | (go_at_call 50; (with_reducible refine (ringworkref06_Size.calls a0 true _ A14.out).mono ?_); rintro e w' ⟨rfl, ⟨nd, rfl⟩⟩; (try first | exact ⟨rfl, _, World.drewN_drewN _ _ _⟩ | exact ⟨rfl, _, Eq.trans (World.drewN_drewN _ _ _) (congrArg (World.drewN _) (Nat.add_assoc _ _ _))⟩)) | (go_at_call 55; (with_reducible refine (ringworkref06_Room.calls k1 a0 _ _ l1 t116 _ ?side1 ?side2 A16.out).mono ?_); (case side1 => repeat (first | exact (Kd.C_below HR1.out (by repeat (first | (with_reducible first | exact HB.out | apply below_alloc | apply pw_below_drewN | apply below_drew1) | exact HB.out))) | (with_reducible refine Kd.C_alloc ?_ _) | (with_reducible refine Kd.C_drewN ?_ _) | (with_reducible refine Kd.C_drew ?_))); (case side2 => exact HC1.out); rintro e w' ⟨rfl, ⟨nd, rfl⟩⟩; (try first | exact ⟨rfl, _, World.drewN_drewN _ _ _⟩ | exact ⟨rfl, _, Eq.trans (World.drewN_drewN _ _ _) (congrArg (World.drewN _) (Nat.add_assoc _ _ _))⟩)) | (go_at_call 51; (with_reducible refine (ringworkref06_Built.calls a0 _ _ l1 t117 _ ?side1 ?side2 A18.out).mono ?_); (case side1 => repeat (first | exact (Kd.C_below HR1.out (by repeat (first | (with_reducible first | exact HB.out | apply below_alloc | apply pw_below_drewN | apply below_drew1) | exact HB.out))) | (with_reducible refine Kd.C_alloc ?_ _) | (with_reducible refine Kd.C_drewN ?_ _) | (with_reducible refine Kd.C_drew ?_))); (case side2 => exact HC1.out); rintro e w19 ⟨rfl, hb⟩; have n0_ := Aside0.mk (below_step (by repeat (first | (with_reducible first | exact HB.out | apply below_alloc | apply pw_below_drewN | apply below_drew1) | exact HB.out)) hb); clear HB; have HB := n0_; clear n0_; (try clear hb); (try clear hb2); (try clear hk); (try clear hi))); try go_wp2_with (first | (go_at_call 50; (with_reducible refine (ringworkref06_Size.calls a0 true _ A14.out).mono ?_); rintro e w' ⟨rfl, ⟨nd, rfl⟩⟩; (try first | exact ⟨rfl, _, World.drewN_drewN _ _ _⟩ | exact ⟨rfl, _, Eq.trans (World.drewN_drewN _ _ _) (congrArg (World.drewN _) (Nat.add_assoc _ _ _))⟩)) | (go_at_call 55; (with_reducible refine (ringworkref06_Room.calls k1 a0 _ _ l1 t116 _ ?side1 ?side2 A16.out).mono ?_); (case side1 => repeat (first | exact (Kd.C_below HR1.out (by repeat (first | (with_reducible first | exact HB.out | apply below_alloc | apply pw_below_drewN | apply below_drew1) | exact HB.out))) | (with_reducible refine Kd.C_alloc ?_ _) | (with_reducible refine Kd.C_drewN ?_ _) | (with_reducible refine Kd.C_drew ?_))); (case side2 => exact HC1.out); rintro e w' ⟨rfl, ⟨nd, rfl⟩⟩; (try first | exact ⟨rfl, _, World.drewN_drewN _ _ _⟩ | exact ⟨rfl, _, Eq.trans (World.drewN_drewN _ _ _) (congrArg (World.drewN _) (Nat.add_assoc _ _ _))⟩)) | (go_at_call 51; (with_reducible refine (ringworkref06_Built.calls a0 _ _ l1 t117 _ ?side1 ?side2 A18.out).mono ?_); (case side1 => repeat (first | exact (Kd.C_below HR1.out (by repeat (first | (with_reducible first | exact HB.out | apply below_alloc | apply pw_below_drewN | apply below_drew1) | exact HB.out))) | (with_reducible refine Kd.C_alloc ?_ _) | (with_reducible refine Kd.C_drewN ?_ _) | (with_reducible refine Kd.C_drew ?_))); (case side2 => exact HC1.out); rintro e w19 ⟨rfl, hb⟩; have n0_ := Aside0.mk (below_step (by repeat (first | (with_reducible first | exact HB.out | apply below_alloc | apply pw_below_drewN | apply below_drew1) | exact HB.out)) hb); clear HB; have HB := n0_; clear n0_; (try clear hb); (try clear hb2); (try clear hk); (try clear hi))))
            go_ret2
            exact ⟨by first | rfl | (simp [errW_none, errW_some] <;> rfl) | (simp [*, errW_none, errW_some] <;> rfl), by repeat (first | (with_reducible first | exact HB.out | apply below_alloc | apply pw_below_drewN | apply below_drew1) | exact HB.out)⟩
        · replace c15 := Bool.eq_false_iff.mpr c15
          subst c15
          have H1 : (some ((⟨#[]⟩ : ByteArray), 7)) = some (r1, r2) := by rw [if_neg (show ¬ (false = true) by decide)] at H; exact H
          clear H
          have H := H1
          clear H1
          simp only [Option.some.injEq, Prod.mk.injEq] at H
          obtain ⟨rfl, rfl⟩ := H
          go_wp2_with (first | (go_at_call 50; (with_reducible refine (ringworkref06_Size.calls a0 false _ A14.out).mono ?_); rintro e w' ⟨rfl, ⟨nd, rfl⟩⟩; (try first | exact ⟨rfl, _, World.drewN_drewN _ _ _⟩ | exact ⟨rfl, _, Eq.trans (World.drewN_drewN _ _ _) (congrArg (World.drewN _) (Nat.add_assoc _ _ _))⟩)))
          repeat (go_quiet (first | (go_at_call 50; (with_reducible refine (ringworkref06_Size.calls a0 false _ A14.out).mono ?_); rintro e w' ⟨rfl, ⟨nd, rfl⟩⟩; (try first | exact ⟨rfl, _, World.drewN_drewN _ _ _⟩ | exact ⟨rfl, _, Eq.trans (World.drewN_drewN _ _ _) (congrArg (World.drewN _) (Nat.add_assoc _ _ _))⟩))); try go_wp2_with (first | (go_at_call 50; (with_reducible refine (ringworkref06_Size.calls a0 false _ A14.out).mono ?_); rintro e w' ⟨rfl, ⟨nd, rfl⟩⟩; (try first | exact ⟨rfl, _, World.drewN_drewN _ _ _⟩ | exact ⟨rfl, _, Eq.trans (World.drewN_drewN _ _ _) (congrArg (World.drewN _) (Nat.add_assoc _ _ _))⟩))))
          go_ret2
          exact ⟨by first | rfl | (simp [errW_none, errW_some] <;> rfl) | (simp [*, errW_none, errW_some] <;> rfl), by repeat (first | (with_reducible first | exact HB.out | apply below_alloc | apply pw_below_drewN | apply below_drew1) | exact HB.out)⟩

end Go.Proofs.Ytemglmcddaeedaa.PA

namespace Go.Proofs.Ytemglmcddaeedaa.PA
open Go.RowKit Go.Proofs.YtemglmcddaeedaaW.PrintWords Go.Proofs.YtemglmcddaeedaaW.PrintLast Go.Proofs.YtemglmcddaeedaaW.PrintMore
attribute [local go_sem] max2_int min2_int max_two min_two max_three min_three max_four min_four   -- for this text's walks alone
set_option linter.unusedVariables false
set_option linter.unusedSimpArgs false

/-! ### ringworkref06_New: function 16 -/
def ringworkref06_New.f (a0 : Int) : Option (ByteArray × Int) := (ringworkref06_Size.f a0).bind fun t159 => (if t159 = true then ((ringworkref06_Built.f a0 ([] : List (S45))).bind fun t160 => (some (t160, 0))) else (some ((⟨#[]⟩ : ByteArray), 7)))
set_option maxHeartbeats 8000000 in
set_option maxRecDepth 100000 in
theorem ringworkref06_New.calls (a0 : Int) (r1 : ByteArray) (r2 : Int) (w : World) (h : ringworkref06_New.f a0 = some (r1, r2)) :
    Calls Try.prog 16 #[.int .i64 a0] w fun e w' => e = .returned (.tuple #[.string r1, .int .i64 r2]) ∧ Below w.heap.size w w' := by
  have HB := Aside0.mk (Below.refl w.heap.size w)
  have H : ((ringworkref06_Size.f a0).bind fun t159 => (if t159 = true then ((ringworkref06_Built.f a0 ([] : List (S45))).bind fun t160 => (some (t160, 0))) else (some ((⟨#[]⟩ : ByteArray), 7)))) = some (r1, r2) := h
  clear h
  replace H := Option.bind_eq_some_iff.mp H
  obtain ⟨t159, A20, H⟩ := H
  replace H : (if t159 = true then ((ringworkref06_Built.f a0 ([] : List (S45))).bind fun t160 => (some (t160, 0))) else (some ((⟨#[]⟩ : ByteArray), 7))) = some (r1, r2) := H
  have A2 := Aside0.mk A20
  clear A20
  by_cases c3 : t159 = true
  · subst c3
    have H1 : ((ringworkref06_Built.f a0 ([] : List (S45))).bind fun t160 => (some (t160, 0))) = some (r1, r2) := by rw [if_pos rfl] at H; exact H
    clear H
    have H := H1
    clear H1
    replace H := Option.bind_eq_some_iff.mp H
    obtain ⟨t160, A40, H⟩ := H
    replace H : (some (t160, 0)) = some (r1, r2) := H
    have A4 := Aside0.mk A40
    clear A40
    simp only [Option.some.injEq, Prod.mk.injEq] at H
    obtain ⟨rfl, rfl⟩ := H
    go_enter Try.func16, Try.ntmps16
    go_wp2_with (first | ((with_reducible refine gate_callee (f := 50) rfl ?_); refine goesL_ (some 5) rfl rfl Try.func50 (by kernel_rfl) rfl #[.int .i64 a0] rfl (by (try simp only [List.map_toArray, List.map_cons, List.map_nil]); first | done | rfl | (simp only [List.length_drop, List.length_take]; rfl)) ?_; (with_reducible refine (ringworkref06_Size.calls a0 true _ A2.out).mono ?_); rintro e w' ⟨rfl, ⟨nd, rfl⟩⟩; refine ⟨_, rfl, ?_⟩) | ((with_reducible refine gate_callee (f := 51) rfl ?_); refine goesL_ (some 8) rfl rfl Try.func51 (by kernel_rfl) rfl #[.int .i64 a0, .slice none 0 0] rfl (by (try simp only [List.map_toArray, List.map_cons, List.map_nil]); first | done | rfl | (simp only [List.length_drop, List.length_take]; rfl)) ?_; (refine (ringworkref06_Built.calls a0 _ _ ([] : List (S45)) t160 _ ?side1 ?side2 A4.out).mono ?_); (case side1 => exact Kd.C_nil _ _); (case side2 => exact Nat.le_refl _); rintro e w5 ⟨rfl, hb⟩; refine ⟨_, rfl, ?_⟩; have n0_ := Aside0.mk (below_step (by repeat (first | (with_reducible first | exact HB.out | apply below_alloc | apply pw_below_drewN | apply below_drew1) | exact HB.out)) hb); clear HB; have HB := n0_; clear n0_; (try clear hb); (try clear hb2); (try clear hk); (try clear hi)))
    go_ret2
    exact ⟨by first | rfl | (simp [errW_none, errW_some] <;> rfl) | (simp [*, errW_none, errW_some] <;> rfl), by repeat (first | (with_reducible first | exact HB.out | apply below_alloc | apply pw_below_drewN | apply below_drew1) | exact HB.out)⟩
  · replace c3 := Bool.eq_false_iff.mpr c3
    subst c3
    have H1 : (some ((⟨#[]⟩ : ByteArray), 7)) = some (r1, r2) := by rw [if_neg (show ¬ (false = true) by decide)] at H; exact H
    clear H
    have H := H1
    clear H1
    simp only [Option.some.injEq, Prod.mk.injEq] at H
    obtain ⟨rfl, rfl⟩ := H
    go_enter Try.func16, Try.ntmps16
    go_wp2_with (first | ((with_reducible refine gate_callee (f := 50) rfl ?_); refine goesL_ (some 5) rfl rfl Try.func50 (by kernel_rfl) rfl #[.int .i64 a0] rfl (by (try simp only [List.map_toArray, List.map_cons, List.map_nil]); first | done | rfl | (simp only [List.length_drop, List.length_take]; rfl)) ?_; (with_reducible refine (ringworkref06_Size.calls a0 false _ A2.out).mono ?_); rintro e w' ⟨rfl, ⟨nd, rfl⟩⟩; refine ⟨_, rfl, ?_⟩))
    go_ret2
    exact ⟨by first | rfl | (simp [errW_none, errW_some] <;> rfl) | (simp [*, errW_none, errW_some] <;> rfl), by repeat (first | (with_reducible first | exact HB.out | apply below_alloc | apply pw_below_drewN | apply below_drew1) | exact HB.out)⟩

end Go.Proofs.Ytemglmcddaeedaa.PA

namespace Go.Proofs.Ytemglmcddaeedaa.PA
open Go.RowKit Go.Proofs.YtemglmcddaeedaaW.PrintWords Go.Proofs.YtemglmcddaeedaaW.PrintLast Go.Proofs.YtemglmcddaeedaaW.PrintMore
attribute [local go_sem] max2_int min2_int max_two min_two max_three min_three max_four min_four   -- for this text's walks alone
set_option linter.unusedVariables false
set_option linter.unusedSimpArgs false

/-! ### ringworklaw06_Cells: function 14 -/
def ringworklaw06_Cells.l0 : Nat → List (S45) → Int → Int → Option (Bool)
  | 0, _, _, _ => none
  | k + 1, x0, x3, x4 => if x4 < (x0.length : Int) then (if 0 ≤ x4 then (ringworklaw06_Cells.l0 k x0 (wrap64 (x3 + (((rd_T45 x0 x4).f1).size : Int))) (wrap64 (x4 + 1))) else (none)) else (if (x0.length : Int) ≤ 60 then (some (decide (x3 ≤ 6000))) else (some false))
def ringworklaw06_Cells.f (k : Nat) (l0 : List (S45)) : Option (Bool) := ringworklaw06_Cells.l0 k l0 0 0
theorem ringworklaw06_Cells.mono_l : ∀ k, (∀ y0 y1 y2, LeO (ringworklaw06_Cells.l0 k y0 y1 y2) (ringworklaw06_Cells.l0 (k + 1) y0 y1 y2))
  | 0 => fun _ _ _ r h => by simp [ringworklaw06_Cells.l0] at h
  | k + 1 => by
    have ih0 := ringworklaw06_Cells.mono_l k
    · intro y0 y1 y2
      unfold ringworklaw06_Cells.l0
      repeat' first
      | (with_reducible exact ih0 _ _ _)
      | (with_reducible exact LeO.refl _)
      | (with_reducible exact LeO.none _)
      | (with_reducible refine LeO.ite ?_ ?_)
      | (with_reducible refine LeO.bind ?_ (fun _ => ?_))
      | exact ih0 _ _ _
      | exact LeO.none _
      | refine LeO.ite ?_ ?_
      | refine LeO.bind ?_ (fun _ => ?_)
theorem ringworklaw06_Cells.mono : ∀ a0 k, LeO (ringworklaw06_Cells.f k a0) (ringworklaw06_Cells.f (k + 1) a0) := by
  intro a0 k
  have ih0 := ringworklaw06_Cells.mono_l k
  unfold ringworklaw06_Cells.f
  repeat' first
      | (with_reducible exact ih0 _ _ _)
      | (with_reducible exact LeO.refl _)
      | (with_reducible exact LeO.none _)
      | (with_reducible refine LeO.ite ?_ ?_)
      | (with_reducible refine LeO.bind ?_ (fun _ => ?_))
      | exact ih0 _ _ _
      | exact LeO.none _
      | refine LeO.ite ?_ ?_
      | refine LeO.bind ?_ (fun _ => ?_)
set_option maxHeartbeats 8000000 in
set_option maxRecDepth 100000 in
theorem ringworklaw06_Cells.calls (k : Nat) (A0 : Option Addr) (c0 : Nat) (l0 : List (S45)) (r : Bool) (w : World) (hr0 : Kd.C k45 w A0 l0.length l0) (hc0 : l0.length ≤ c0) (h : ringworklaw06_Cells.f k l0 = some r) :
    Calls Try.prog 14 #[.slice A0 l0.length c0] w fun e w' => e = .returned (.bool r) ∧ Drawn0 w w' := by
  have HR0 := Aside0.mk hr0
  have HC0 := Aside0.mk hc0
  clear hr0 hc0
  have H : (ringworklaw06_Cells.l0 k l0 0 0) = some r := h
  clear h
  have H' := Aside0.mk H
  clear H
  go_enter Try.func14, Try.ntmps14
  go_wp2
  go_loopg [3, 4] k (fun kq v3 v4 w' => ∃ (x3_1 : Int) (x4_1 : Int), v3 = .int .i64 x3_1 ∧ v4 = .int .i64 x4_1 ∧ Aside0 (ringworklaw06_Cells.l0 kq l0 x3_1 x4_1 = some r) ∧ Aside0 (kq ≤ k) ∧ Drawn0 w w')
  case atStart => exact ⟨(0), (0), (by first | rfl | (simp; done) | (simp [*]; done)), (by first | rfl | (simp; done) | (simp [*]; done)), H', ⟨Nat.le_refl _⟩, by repeat (first | exact Drawn0.refl _ | apply Drawn0.step)⟩
  case round =>
    clear H'
    try clear c1
    obtain ⟨x3_1, x4_1, rfl, rfl, HA, HK1, ⟨m1, rfl⟩⟩ := hrel
    cases gk with
    | zero => exact absurd HA.out (by simp [ringworklaw06_Cells.l0])
    | succ k1 =>
      have H := HA.out
      clear HA
      simp only [ringworklaw06_Cells.l0] at H
      by_cases c2 : x4_1 < (l0.length : Int)
      · rw [if_pos c2] at H
        have c2b0 : decide (x4_1 < (l0.length : Int)) = true := decide_eq_true c2
        clear c2
        by_cases c3 : 0 ≤ x4_1
        · rw [if_pos c3] at H
          have c3b0 : decide (0 ≤ x4_1) = true := decide_eq_true c3
          clear c3
          have H' := Aside0.mk H
          clear H
          have p101 : 0 ≤ (x4_1 : Int) := of_decide_eq_true (by first | (with_reducible assumption) | assumption)
          have q101 : x4_1 < (l0.length : Int) := of_decide_eq_true (by first | (with_reducible assumption) | assumption)
          obtain ⟨ad101, e101, hx101_0, hx101_1⟩ := at_T45 HR0.out x4_1 p101 q101
          cases e101
          replace p101 := eq_true p101
          replace q101 := eq_true q101
          go_wp2
          go_roundg k1
          case measure => have := HK1.out; omega
          case rel => exact ⟨(wrap64 (x3_1 + (((rd_T45 l0 x4_1).f1).size : Int))), (wrap64 (x4_1 + 1)), (by first | rfl | (simp; done) | (simp [*]; done)), (by first | rfl | (simp; done) | (simp [*]; done)), H', ⟨by have := HK1.out; omega⟩, by repeat (first | exact Drawn0.refl _ | apply Drawn0.step)⟩
        · rw [if_neg c3] at H
          exact absurd H (by simp)
      · rw [if_neg c2] at H
        have c2b0 : decide (x4_1 < (l0.length : Int)) = false := decide_eq_false c2
        clear c2
        by_cases c4 : (l0.length : Int) ≤ 60
        · rw [if_pos c4] at H
          have c4b0 : decide ((l0.length : Int) ≤ 60) = true := decide_eq_true c4
          have c4b1 : decide (l0.length ≤ 60) = true := decide_eq_true (by omega)
          clear c4
          obtain rfl := Option.some.inj H
          go_wp2
          go_ret
          exact ⟨by first | rfl | (simp; done) | (simp [*]; done), by repeat (first | exact Drawn0.refl _ | apply Drawn0.step)⟩
        · rw [if_neg c4] at H
          have c4b0 : decide ((l0.length : Int) ≤ 60) = false := decide_eq_false c4
          have c4b1 : decide (l0.length ≤ 60) = false := decide_eq_false (by omega)
          clear c4
          obtain rfl := Option.some.inj H
          go_wp2
          go_ret
          exact ⟨by first | rfl | (simp; done) | (simp [*]; done), by repeat (first | exact Drawn0.refl _ | apply Drawn0.step)⟩

end Go.Proofs.Ytemglmcddaeedaa.PA

namespace Go.Proofs.Ytemglmcddaeedaa.PA
open Go.RowKit Go.Proofs.YtemglmcddaeedaaW.PrintWords Go.Proofs.YtemglmcddaeedaaW.PrintLast Go.Proofs.YtemglmcddaeedaaW.PrintMore
set_option linter.unusedVariables false
set_option linter.unusedSimpArgs false
/-! #### Fill, New, Cells: what both sides answer -/
def sizeOk (n : Int) : Prop := 32 ≤ n ∧ n ≤ 4096 ∧ n % 8 = 0
instance sizeOk.dec (n : Int) : Decidable (sizeOk n) := by unfold sizeOk; infer_instance
def fillS (n : Int) (l : List S45) : ByteArray × Int :=
  if CellsOk l then (if sizeOk n then (if needsL l > n then (⟨#[]⟩, 13) else (strOfNums (builtL n.toNat l), 0)) else (⟨#[]⟩, 7)) else (⟨#[]⟩, 1)
theorem w64 (x : Int) (h0 : -9223372036854775808 ≤ x) (h1 : x < 9223372036854775808) : wrap64 x = x := by unfold wrap64; omega
theorem size_f (n : Int) : page_size.f n = some (decide (sizeOk n)) := by
  unfold page_size.f
  split
  · split
    · rw [Int.tmod_eq_emod_of_nonneg (by omega)]
      congr 1
      by_cases h : n % 8 = 0
      · rw [decide_eq_true (show sizeOk n from ⟨by omega, by omega, h⟩), h]; rfl
      · rw [decide_eq_false (fun hs : sizeOk n => h hs.2.2)]; simpa using h
    · rw [decide_eq_false (fun hs : sizeOk n => by have := hs.2.1; omega)]
  · rw [decide_eq_false (fun hs : sizeOk n => by have := hs.1; omega)]
theorem refSize_f (n : Int) : ringworkref06_Size.f n = some (decide (sizeOk n)) := by
  rw [← size_f]; rfl
theorem line_f (n : Int) : page_line.f n = some (decide (1 ≤ n ∧ n ≤ 200)) := by
  unfold page_line.f
  split
  · rename_i h; simp; omega
  · rename_i h; simp; omega
theorem loop_spec (p : ByteArray) : ∀ (k i : Nat) (acc : List UInt8), p.size - i = k → i ≤ p.size → ByteArray.toList.loop p i acc = acc.reverse ++ p.data.toList.drop i := by
  intro k
  induction k with
  | zero =>
    intro i acc hk hi
    rw [ByteArray.toList.loop, if_neg (by omega), List.drop_of_length_le (by simp only [Array.length_toList]; show p.size ≤ i; omega), List.append_nil]
  | succ k ih =>
    intro i acc hk hi
    rw [ByteArray.toList.loop, if_pos (by omega), ih (i + 1) _ (by omega) (by omega)]
    have hl : i < p.data.toList.length := by simp only [Array.length_toList]; show i < p.size; omega
    rw [List.drop_eq_getElem_cons hl]
    have : p.get! i = p.data.toList[i] := by
      simp only [ByteArray.get!, Array.getElem_toList]
      exact getElem!_pos p.data i _
    rw [this]
    simp
theorem toList_data (p : ByteArray) : p.toList = p.data.toList := by
  unfold ByteArray.toList
  rw [loop_spec p p.size 0 [] (by omega) (by omega)]
  rfl
theorem toList_nil (p : ByteArray) : p.toList = ([] : List UInt8) ↔ p.size = 0 := by
  rw [toList_data]
  constructor
  · intro h
    have : p.data.toList.length = 0 := by rw [h]; rfl
    simpa using this
  · intro h
    apply List.length_eq_zero_iff.1
    simpa using h
theorem toList_inj (p q : ByteArray) : p.toList = q.toList ↔ p = q := by
  rw [toList_data, toList_data]
  constructor
  · intro h
    cases p; cases q
    congr 1
    exact Array.toList_inj.1 h
  · rintro rfl; rfl
theorem CellsOk_take {l : List S45} (h : CellsOk l) (i : Nat) : CellsOk (l.take i) := by
  rw [← List.take_append_drop i l] at h; exact h.append.1
/-- What one more cell asks. -/
theorem ok_next {l : List S45} (i : Nat) (hi : i < l.length) (h : CellsOk (l.take i)) :
    CellsOk (l.take (i + 1)) ↔ (1 ≤ l[i].f0 ∧ l[i].f0 ≤ 200 ∧ 0 < l[i].f1.size ∧ lastL (l.take i) < l[i].f0) := by
  rw [take_snoc l i hi]
  constructor
  · intro hc
    have h1 := hc.each l[i] (List.mem_append.2 (.inr (List.mem_singleton.2 rfl)))
    exact ⟨h1.1, h1.2.1, h1.2.2, lastL_lt hc⟩
  · rintro ⟨h1, h2, h3, h4⟩
    exact h.snoc ⟨h1, h2, h3⟩ h4
theorem lastL_take {l : List S45} (i : Nat) (hi : i ≤ l.length) (hp : 0 < i) : lastL (l.take i) = (l[i - 1]'(by omega)).f0 := by
  have e : l.take i = l.take (i - 1) ++ [l[i - 1]'(by omega)] := by
    have := take_snoc l (i - 1) (by omega)
    rw [show i - 1 + 1 = i by omega] at this
    exact this
  rw [e, lastL_snoc]
theorem lastL_zero {l : List S45} (i : Nat) (hp : ¬ 0 < i) : lastL (l.take i) = 0 := by
  have : i = 0 := by omega
  subst this
  rfl
theorem not_ok {l : List S45} (i : Nat) (h : ¬ CellsOk (l.take i)) : ¬ CellsOk l := fun hl => h (CellsOk_take hl i)
theorem fill_bad {l : List S45} (n : Int) (h : ¬ CellsOk l) : fillS n l = (⟨#[]⟩, 1) := by unfold fillS; rw [if_neg h]
theorem Fill_l0 (n : Int) (l : List S45) (hl : l.length ≤ 9223372036854775807) (hb : bytesL l ≤ 1000000000000) : ∀ (k i : Nat), i ≤ l.length → l.length - i < k → CellsOk (l.take i) →
    page_Fill.l0 k n l l (l.length : Int) (i : Int) = some (fillS n l) := by
  intro k
  induction k with
  | zero => intro i _ h; omega
  | succ k ih =>
    intro i hi hk hok
    rw [page_Fill.l0]
    by_cases hlt : i < l.length
    · have hn := ok_next i hlt hok
      rw [if_pos (by omega), if_pos (by omega), if_pos (by omega), rd_get l i hlt, line_f]
      simp only [Option.bind_some, decide_eq_true_eq]
      by_cases h1 : 1 ≤ l[i].f0 ∧ l[i].f0 ≤ 200
      · rw [if_pos h1]
        by_cases h2 : l[i].f1.toList = ([] : List UInt8)
        · rw [if_pos h2, fill_bad n (not_ok (i + 1) (fun hc => by have := (hn.1 hc).2.2.1; have := (toList_nil _).1 h2; omega))]
        · rw [if_neg h2]
          have h2' : 0 < l[i].f1.size := by
            rcases Nat.eq_zero_or_pos l[i].f1.size with h | h
            · exact absurd ((toList_nil _).2 h) h2
            · exact h
          by_cases h3 : (i : Int) > 0
          · rw [if_pos h3, w64 _ (by omega) (by omega), if_pos (by omega), if_pos (by omega), show (i : Int) - 1 = ((i - 1 : Nat) : Int) by omega, rd_get l (i - 1) (by omega)]
            by_cases h4 : (l[i - 1]'(by omega)).f0 ≥ l[i].f0
            · rw [if_pos h4, fill_bad n (not_ok (i + 1) (fun hc => by have := (hn.1 hc).2.2.2; rw [lastL_take i hi (by omega)] at this; omega))]
            · rw [if_neg h4, w64 _ (by omega) (by omega), show (i : Int) + 1 = ((i + 1 : Nat) : Int) by omega]
              exact ih (i + 1) (by omega) (by omega) (hn.2 ⟨h1.1, h1.2, h2', by rw [lastL_take i hi (by omega)]; omega⟩)
          · rw [if_neg h3, w64 _ (by omega) (by omega), show (i : Int) + 1 = ((i + 1 : Nat) : Int) by omega]
            exact ih (i + 1) (by omega) (by omega) (hn.2 ⟨h1.1, h1.2, h2', by rw [lastL_zero i (by omega)]; omega⟩)
      · rw [if_neg h1, fill_bad n (not_ok (i + 1) (fun hc => h1 ⟨(hn.1 hc).1, (hn.1 hc).2.1⟩))]
    · have hil : i = l.length := by omega
      rw [if_neg (by omega), size_f]
      rw [hil, List.take_length] at hok
      simp only [Option.bind_some, decide_eq_true_eq]
      unfold fillS
      rw [if_pos hok]
      by_cases hs : sizeOk n
      · rw [if_pos hs, if_pos hs]
        obtain ⟨s1, s2, s3⟩ := hs
        unfold page_filled.f
        rw [if_pos ⟨s1, s2, hok, hb⟩]
        split <;> rfl
      · rw [if_neg hs, if_neg hs]
theorem Fill_f (n : Int) (l : List S45) (hl : l.length ≤ 9223372036854775807) (hb : bytesL l ≤ 1000000000000) (k : Nat) (hk : l.length < k) : page_Fill.f k n l = some (fillS n l) :=
  Fill_l0 n l hl hb k 0 (by omega) (by omega) trivial
theorem New_f (n : Int) (k : Nat) (hk : 0 < k) : page_New.f k n = some (fillS n []) := by
  unfold page_New.f
  rw [Fill_f n [] (by simp) (by simp [bytesL]) k (by simpa using hk)]
  rfl
theorem refLast_f (l : List S45) (hl : l.length ≤ 9223372036854775807) : ringworkref06_Last.f l = some (lastL l) := by
  unfold ringworkref06_Last.f
  by_cases h : l.length = 0
  · rw [if_pos (by omega)]
    have : l = [] := List.length_eq_zero_iff.1 h
    subst this; rfl
  · rw [if_neg (by omega), w64 _ (by omega) (by omega), if_pos (by omega), if_pos (by omega), lastL_rd l (by omega)]
theorem refBytes_l0 (l : List S45) (hl : l.length ≤ 9223372036854775807) (hb : bytesL l ≤ 1000000000000) : ∀ (k i : Nat), i ≤ l.length → l.length - i < k →
    ringworkref06_Bytes.l0 k l (bytesL (l.take i) : Int) (i : Int) = some (bytesL l : Int) := by
  intro k
  induction k with
  | zero => intro i _ h; omega
  | succ k ih =>
    intro i hi hk
    rw [ringworkref06_Bytes.l0]
    by_cases hlt : i < l.length
    · have h1 := bytesL_take_succ l i hlt
      have h2 := bytesL_take_le l (i + 1)
      rw [if_pos (by omega), if_pos (by omega), rd_get l i hlt, w64 _ (by omega) (by omega), w64 _ (by omega) (by omega), show (i : Int) + 1 = ((i + 1 : Nat) : Int) by omega, show (bytesL (l.take i) : Int) + (l[i].f1.size : Int) = (bytesL (l.take (i + 1)) : Int) by omega]
      exact ih (i + 1) (by omega) (by omega)
    · rw [if_neg (by omega), List.take_of_length_le (by omega)]
theorem refBytes_f (l : List S45) (hl : l.length ≤ 9223372036854775807) (hb : bytesL l ≤ 1000000000000) (k : Nat) (hk : l.length < k) : ringworkref06_Bytes.f k l = some (bytesL l : Int) := by
  have := refBytes_l0 l hl hb k 0 (by omega) (by omega)
  exact this
theorem refRoom_f (n : Int) (l : List S45) (hn : -1000000000000 ≤ n ∧ n ≤ 1000000000000) (hl : l.length ≤ 9223372036854775807) (hb : bytesL l ≤ 1000000000000) (hok : CellsOk l) (k : Nat) (hk : l.length < k) :
    ringworkref06_Room.f k n l = some (n - needsL l) := by
  have h := lastL_nonneg hok
  unfold ringworkref06_Room.f
  rw [refLast_f l hl, Option.bind_some, refBytes_f l hl hb k hk, Option.bind_some, w64 (n - 2) (by omega) (by omega), w64 (4 * lastL l) (by omega) (by omega), w64 (n - 2 - 4 * lastL l) (by omega) (by omega), w64 _ (by omega) (by omega)]
  congr 1
  unfold needsL
  omega
theorem refFill_l0 (n : Int) (l : List S45) (hl : l.length ≤ 9223372036854775807) (hb : bytesL l ≤ 1000000000000) : ∀ (k i : Nat), i ≤ l.length → l.length - i + l.length + 1 < k → CellsOk (l.take i) →
    ringworkref06_Fill.l0 k n l (i : Int) = some (fillS n l) := by
  intro k
  induction k with
  | zero => intro i _ h; omega
  | succ k ih =>
    intro i hi hk hok
    rw [ringworkref06_Fill.l0]
    by_cases hlt : i < l.length
    · have hn := ok_next i hlt hok
      rw [if_pos (by omega), if_pos (by omega), rd_get l i hlt]
      by_cases h1 : l[i].f0 < 1
      · rw [if_pos h1, fill_bad n (not_ok (i + 1) (fun hc => by have := (hn.1 hc).1; omega))]
      · rw [if_neg h1]
        by_cases h1' : l[i].f0 > 200
        · rw [if_pos h1', fill_bad n (not_ok (i + 1) (fun hc => by have := (hn.1 hc).2.1; omega))]
        · rw [if_neg h1']
          have hz : l[i].f1.toList = ([] : List UInt8) → fillS n l = (⟨#[]⟩, 1) := fun h2 => fill_bad n (not_ok (i + 1) (fun hc => by have := (hn.1 hc).2.2.1; have := (toList_nil _).1 h2; omega))
          have hpos : ¬ l[i].f1.toList = ([] : List UInt8) → 0 < l[i].f1.size := fun h2 => by
            rcases Nat.eq_zero_or_pos l[i].f1.size with h | h
            · exact absurd ((toList_nil _).2 h) h2
            · exact h
          by_cases h3 : (i : Int) > 0
          · rw [if_pos h3, w64 ((i : Int) - 1) (by omega) (by omega), if_pos (by omega), if_pos (by omega), show (i : Int) - 1 = ((i - 1 : Nat) : Int) by omega, rd_get l (i - 1) (by omega)]
            by_cases h4 : l[i].f0 ≤ (l[i - 1]'(by omega)).f0
            · rw [if_pos h4, fill_bad n (not_ok (i + 1) (fun hc => by have := (hn.1 hc).2.2.2; rw [lastL_take i hi (by omega)] at this; omega))]
            · rw [if_neg h4]
              by_cases h2 : l[i].f1.toList = ([] : List UInt8)
              · rw [if_pos h2, hz h2]
              · rw [if_neg h2, w64 _ (by omega) (by omega), show (i : Int) + 1 = ((i + 1 : Nat) : Int) by omega]
                exact ih (i + 1) (by omega) (by omega) (hn.2 ⟨by omega, by omega, hpos h2, by rw [lastL_take i hi (by omega)]; omega⟩)
          · rw [if_neg h3]
            by_cases h2 : l[i].f1.toList = ([] : List UInt8)
            · rw [if_pos h2, hz h2]
            · rw [if_neg h2, w64 _ (by omega) (by omega), show (i : Int) + 1 = ((i + 1 : Nat) : Int) by omega]
              exact ih (i + 1) (by omega) (by omega) (hn.2 ⟨by omega, by omega, hpos h2, by rw [lastL_zero i (by omega)]; omega⟩)
    · have hil : i = l.length := by omega
      rw [if_neg (by omega), refSize_f]
      rw [hil, List.take_length] at hok
      simp only [Option.bind_some, decide_eq_true_eq]
      unfold fillS
      rw [if_pos hok]
      by_cases hs : sizeOk n
      · rw [if_pos hs, if_pos hs]
        obtain ⟨s1, s2, s3⟩ := hs
        rw [refRoom_f n l (by omega) hl hb hok k (by omega), Option.bind_some]
        by_cases hnd : needsL l > n
        · rw [if_pos (by omega), if_pos hnd]
        · rw [if_neg (by omega), if_neg hnd]
          unfold ringworkref06_Built.f
          rw [if_pos ⟨s1, s2, hok, hb, by omega⟩]
          rfl
      · rw [if_neg hs, if_neg hs]
theorem refFill_f (n : Int) (l : List S45) (hl : l.length ≤ 9223372036854775807) (hb : bytesL l ≤ 1000000000000) (k : Nat) (hk : 2 * l.length + 1 < k) : ringworkref06_Fill.f k n l = some (fillS n l) :=
  refFill_l0 n l hl hb k 0 (by omega) (by omega) trivial
theorem refNew_f (n : Int) : ringworkref06_New.f n = some (fillS n []) := by
  unfold ringworkref06_New.f fillS
  rw [refSize_f, Option.bind_some, if_pos (show CellsOk [] from trivial)]
  by_cases hs : sizeOk n
  · rw [if_pos (decide_eq_true hs), if_pos hs]
    obtain ⟨s1, s2, s3⟩ := hs
    have h0 : needsL ([] : List S45) = 2 := rfl
    rw [if_neg (show ¬ needsL ([] : List S45) > n by omega)]
    unfold ringworkref06_Built.f
    rw [if_pos ⟨s1, s2, trivial, by simp [bytesL], by omega⟩]
    rfl
  · rw [if_neg (by simpa using hs), if_neg hs]
theorem Wrong_f (p : ByteArray) (h : p.size ≤ 100000) : page_Wrong.f p = some (wrongS p) := by unfold page_Wrong.f; rw [if_pos h]
theorem Valid_f (p : ByteArray) (h : p.size ≤ 100000) : page_Valid.f p = some (decide (validS p)) := by
  unfold page_Valid.f validS
  rw [Wrong_f p h, Option.bind_some]
  congr 1
theorem Cells_f (p : ByteArray) (h : p.size ≤ 100000) : page_Cells.f p = some (if validS p then (cellsS p (twoS p 0).toNat, 0) else ([], 1)) := by
  unfold page_Cells.f
  rw [Valid_f p h, Option.bind_some]
  by_cases hv : validS p
  · rw [if_pos (decide_eq_true hv), if_pos hv]
    unfold page_cells.f
    rw [if_pos hv]
    rfl
  · rw [if_neg (by simpa using hv), if_neg hv]
/-- The page of cells that are right and fit is valid, with these cells. -/
theorem fill_good (n : Int) (l : List S45) (h : (fillS n l).2 = 0) : CellsOk l ∧ sizeOk n ∧ needsL l ≤ n ∧ (fillS n l).1 = strOfNums (builtL n.toNat l) := by
  unfold fillS at h ⊢
  split at h
  · rename_i h1
    split at h
    · rename_i h2
      split at h
      · cases h
      · rename_i h3
        refine ⟨h1, h2, by omega, ?_⟩
        rw [if_pos h1, if_pos h2, if_neg h3]
    · cases h
  · cases h
theorem built_cells (n : Int) (l : List S45) (h1 : CellsOk l) (h2 : sizeOk n) (h3 : needsL l ≤ n) :
    validS (strOfNums (builtL n.toNat l)) ∧ cellsS (strOfNums (builtL n.toNat l)) (twoS (strOfNums (builtL n.toNat l)) 0).toNat = l ∧ (strOfNums (builtL n.toNat l)).size = n.toNat := by
  obtain ⟨s1, s2, s3⟩ := h2
  obtain ⟨e1, e2, e3⟩ := built_valid (N := n.toNat) (by omega) (by omega) (by omega) h1 (by omega)
  exact ⟨by unfold validS; rw [e1], by rw [e2]; exact e3, built_size h1 (by omega)⟩

end Go.Proofs.Ytemglmcddaeedaa.PA

namespace Go.Proofs.Ytemglmcddaeedaa.PA
open Go.RowKit Go.Proofs.YtemglmcddaeedaaW.PrintWords Go.Proofs.YtemglmcddaeedaaW.PrintLast Go.Proofs.YtemglmcddaeedaaW.PrintMore
set_option linter.unusedVariables false
set_option linter.unusedSimpArgs false
/-! #### what the reference's readers answer -/
theorem refTwo_f (p : ByteArray) (a : Int) (h0 : 0 ≤ a) (h1 : a + 1 < p.size) (hs : p.size ≤ 100000) : ringworkref06_Two.f p a = some (twoS p a) := by
  have b1 := bt_range p a
  have b2 := bt_range p (a + 1)
  unfold ringworkref06_Two.f twoS
  rw [w64 (a + 1) (by omega) (by omega), if_pos h0, if_pos (by omega), if_pos (by omega), if_pos h1, w64 (bt p a) (by omega) (by omega), w64 (bt p (a + 1)) (by omega) (by omega), w64 (256 * bt p a) (by omega) (by omega), w64 (256 * bt p a + bt p (a + 1)) (by omega) (by omega)]
/-- What is answered from the entries on. -/
def wrongT (p : ByteArray) (n : Nat) : Int × Int :=
  match entriesS p n with
  | .error a => (a, 12)
  | .ok top => match firstNZ p top (2 + 4 * n) with
    | some i => ((i : Int), 12)
    | none => ((p.size : Int), 0)
theorem refWrong_l1 (p : ByteArray) (hs : p.size ≤ 100000) (top : Int) (ht : top ≤ p.size) : ∀ (k j : Nat), j ≤ p.size + 1 → p.size + 1 - j < k →
    ringworkref06_Wrong.l1 k p top (j : Int) = some (match firstNZ p top j with | some i => ((i : Int), 12) | none => ((p.size : Int), 0)) := by
  intro k
  induction k with
  | zero => intro j _ h; omega
  | succ k ih =>
    intro j hj hk
    rw [ringworkref06_Wrong.l1, firstNZ]
    by_cases h : (j : Int) < top
    · rw [if_pos h, if_pos (by omega), if_pos (by omega), if_pos h]
      by_cases hz : bt p (j : Int) = 0
      · rw [if_pos hz, if_neg (by simpa using hz), w64 _ (by omega) (by omega), show (j : Int) + 1 = ((j + 1 : Nat) : Int) by omega]
        exact ih (j + 1) (by omega) (by omega)
      · rw [if_neg hz, if_pos hz]
    · rw [if_neg h, if_neg h]
theorem refWrong_l0 (p : ByteArray) (n : Nat) (hn : n ≤ 200) (hsz : 2 + 4 * n ≤ p.size) (hs : p.size ≤ 100000) : ∀ (k i : Nat) (top last : Int), i ≤ n → 2 * (n - i) + p.size + 3 < k → scanE p n i = .ok (top, last) → (i = n → last = n) →
    ringworkref06_Wrong.l0 k p (n : Int) top ((i : Int) + 1) = some (wrongT p n) := by
  intro k
  induction k using Nat.strongRecOn with
  | ind k ih =>
    intro i top last hi hk hsc hl
    have htop := scanE_top p n i top last hsc
    have hrg := scanE_range p n i top last hsc
    obtain ⟨k, rfl⟩ : ∃ k', k = k' + 1 := ⟨k - 1, by omega⟩
    rw [ringworkref06_Wrong.l0]
    by_cases hlt : i < n
    · rw [if_pos (by omega), w64 (4 * ((i : Int) + 1)) (by omega) (by omega), w64 (4 * ((i : Int) + 1) - 2) (by omega) (by omega), w64 (4 * ((i : Int) + 1) - 2 + 2) (by omega) (by omega)]
      rw [show 4 * ((i : Int) + 1) - 2 = 2 + 4 * (i : Int) by omega, show 2 + 4 * (i : Int) + 2 = 4 + 4 * (i : Int) by omega, refTwo_f p _ (by omega) (by omega) hs, Option.bind_some, refTwo_f p _ (by omega) (by omega) hs, Option.bind_some]
      have hx := twoS_range p (2 + 4 * (i : Int))
      have hy := twoS_range p (4 + 4 * (i : Int))
      have hstep : scanE p n (i + 1) = if twoS p (2 + 4 * (i : Int)) = 0 ∧ twoS p (4 + 4 * (i : Int)) = 0 then .ok (top, last)
        else if twoS p (4 + 4 * (i : Int)) = 0 ∨ twoS p (2 + 4 * (i : Int)) ≠ top - twoS p (4 + 4 * (i : Int)) ∨ twoS p (2 + 4 * (i : Int)) < 2 + 4 * (n : Int) then .error (2 + 4 * (i : Int))
        else .ok (twoS p (2 + 4 * (i : Int)), (i : Int) + 1) := by rw [scanE, hsc]
      generalize twoS p (2 + 4 * (i : Int)) = x at *
      generalize twoS p (4 + 4 * (i : Int)) = y at *
      obtain ⟨k, rfl⟩ : ∃ k', k = k' + 1 := ⟨k - 1, by omega⟩
      have hbad : (¬ (x = 0 ∧ y = 0)) → (y = 0 ∨ x ≠ top - y ∨ x < 2 + 4 * (n : Int)) → wrongT p n = (2 + 4 * (i : Int), 12) := fun h1 h2 => by
        rw [if_neg h1, if_pos h2] at hstep
        have := scanE_error p n (i + 1) n (by omega) _ hstep
        unfold wrongT entriesS
        rw [this]
      have hcont : ∀ b : Bool, b = decide (x = 0 ∧ y = 0) → ringworkref06_Wrong.j2 (k + 1) p (n : Int) top ((i : Int) + 1) (2 + 4 * (i : Int)) x y b = some (wrongT p n) := by
        intro b hb
        rw [ringworkref06_Wrong.j2]
        by_cases hz : x = 0 ∧ y = 0
        · rw [if_pos (by rw [hb]; exact decide_eq_true hz)]
          rw [if_pos hz] at hstep
          by_cases hlast : (i : Int) + 1 = n
          · rw [if_pos hlast]
            have hin : i + 1 = n := by omega
            rw [hin] at hstep
            unfold wrongT entriesS
            rw [hstep]
            simp only
            rw [if_pos (by omega)]
            congr 2
            omega
          · rw [if_neg hlast, w64 ((i : Int) + 1 + 1) (by omega) (by omega), show (i : Int) + 1 + 1 = ((i + 1 : Nat) : Int) + 1 by omega]
            exact ih k (by omega) (i + 1) top last (by omega) (by omega) hstep (fun h => absurd h (by omega))
        · rw [if_neg (by rw [hb, decide_eq_false hz]; simp)]
          by_cases hx0 : x = 0
          · rw [if_pos hx0, hbad hz (by omega)]
          · rw [if_neg hx0]
            by_cases hy0 : y = 0
            · rw [if_pos hy0, hbad hz (by omega)]
            · rw [if_neg hy0, w64 (top - y) (by omega) (by omega), w64 (4 * (n : Int)) (by omega) (by omega), w64 (2 + 4 * (n : Int)) (by omega) (by omega)]
              by_cases hxy : x = top - y
              · rw [if_pos hxy]
                by_cases hlo : x < 2 + 4 * (n : Int)
                · rw [if_pos hlo, hbad hz (by omega)]
                · rw [if_neg hlo, w64 ((i : Int) + 1 + 1) (by omega) (by omega), show (i : Int) + 1 + 1 = ((i + 1 : Nat) : Int) + 1 by omega]
                  rw [if_neg hz, if_neg (by omega)] at hstep
                  exact ih k (by omega) (i + 1) x ((i : Int) + 1) (by omega) (by omega) hstep (fun h => by omega)
              · rw [if_neg hxy, hbad hz (by omega)]
      by_cases hx0 : x = 0
      · rw [if_pos hx0]
        exact hcont _ (by rw [Bool.eq_iff_iff]; simp [hx0])
      · rw [if_neg hx0]
        exact hcont _ (by rw [Bool.eq_iff_iff]; simp [hx0])
    · have hin : i = n := by omega
      subst hin
      rw [if_neg (by omega), w64 (4 * (i : Int)) (by omega) (by omega), w64 (2 + 4 * (i : Int)) (by omega) (by omega), show 2 + 4 * (i : Int) = ((2 + 4 * i : Nat) : Int) by omega, refWrong_l1 p hs top htop k (2 + 4 * i) (by omega) (by omega)]
      unfold wrongT entriesS
      rw [hsc]
      simp only
      rw [if_neg (by have := hl rfl; omega)]
theorem refWrong_f (p : ByteArray) (hs : p.size ≤ 100000) (k : Nat) (hk : 2 * 200 + p.size + 10 < k) : ringworkref06_Wrong.f k p = some (wrongS p) := by
  unfold ringworkref06_Wrong.f wrongS
  rw [refSize_f, Option.bind_some]
  by_cases hok : 32 ≤ p.size ∧ p.size ≤ 4096 ∧ p.size % 8 = 0
  · rw [if_pos (decide_eq_true (show sizeOk (p.size : Int) from ⟨by omega, by omega, by omega⟩)), if_pos hok, refTwo_f p 0 (by omega) (by omega) hs, Option.bind_some]
    have hr := twoS_range p 0
    obtain ⟨n, hn⟩ : ∃ n : Nat, twoS p 0 = n := ⟨(twoS p 0).toNat, by omega⟩
    rw [hn, w64 (4 * (n : Int)) (by omega) (by omega), w64 (2 + 4 * (n : Int)) (by omega) (by omega)]
    obtain ⟨k, rfl⟩ : ∃ k', k = k' + 1 := ⟨k - 1, by omega⟩
    by_cases h1 : (n : Int) > 200
    · rw [if_pos h1, if_pos (by omega), ringworkref06_Wrong.j0, if_pos rfl]
    · rw [if_neg h1, ringworkref06_Wrong.j0]
      by_cases h2 : 2 + 4 * (n : Int) > p.size
      · rw [if_pos (decide_eq_true h2), if_pos (.inr h2)]
      · rw [if_neg (by rw [decide_eq_false h2]; simp), if_neg (by omega)]
        have := refWrong_l0 p n (by omega) (by omega) hs k 0 p.size 0 (by omega) (by omega) rfl (fun h => by omega)
        rw [show ((0 : Nat) : Int) + 1 = 1 by rfl] at this
        rw [this, Int.toNat_natCast]
        rfl
  · rw [if_neg (by
      rw [decide_eq_false (fun h : sizeOk (p.size : Int) => hok ⟨by have := h.1; omega, by have := h.2.1; omega, by have := h.2.2; omega⟩)]; simp), if_neg hok]
theorem refValid_f (p : ByteArray) (hs : p.size ≤ 100000) (k : Nat) (hk : 2 * 200 + p.size + 10 < k) : ringworkref06_Valid.f k p = some (decide (validS p)) := by
  unfold ringworkref06_Valid.f validS
  rw [refWrong_f p hs k hk, Option.bind_some]
  congr 1
theorem refCellsOf_l0 (p : ByteArray) (n : Nat) (hn : twoS p 0 = n) (hn2 : n ≤ 200) (hsz : 2 + 4 * n ≤ p.size) (hs : p.size ≤ 100000)
    (hgood : ∀ i : Nat, i < n → 0 < twoS p (4 + 4 * (i : Int)) → twoS p (2 + 4 * (i : Int)) + twoS p (4 + 4 * (i : Int)) ≤ p.size) : ∀ (k i : Nat), i ≤ n → n - i < k →
    ringworkref06_CellsOf.l0 k p (cellsS p i) ((i : Int) + 1) = some (cellsS p n) := by
  intro k
  induction k with
  | zero => intro i _ h; omega
  | succ k ih =>
    intro i hi hk
    rw [ringworkref06_CellsOf.l0, refTwo_f p 0 (by omega) (by omega) hs, Option.bind_some, hn]
    by_cases hlt : i < n
    · rw [if_pos (by omega), w64 (4 * ((i : Int) + 1)) (by omega) (by omega), w64 (4 * ((i : Int) + 1) - 2) (by omega) (by omega), show 4 * ((i : Int) + 1) - 2 = 2 + 4 * (i : Int) by omega, show 4 * ((i : Int) + 1) = 4 + 4 * (i : Int) by omega, refTwo_f p _ (by omega) (by omega) hs, Option.bind_some, refTwo_f p _ (by omega) (by omega) hs, Option.bind_some]
      have hx := twoS_range p (2 + 4 * (i : Int))
      have hy := twoS_range p (4 + 4 * (i : Int))
      have hg := hgood i hlt
      have hnext := ih (i + 1) (by omega) (by omega)
      have hlen := cellsS_length p i
      rw [w64 ((i : Int) + 1 + 1) (by omega) (by omega), show (i : Int) + 1 + 1 = ((i + 1 : Nat) : Int) + 1 by omega]
      by_cases hy0 : 0 < twoS p (4 + 4 * (i : Int))
      · have hg := hg hy0
        rw [if_pos hy0, if_pos (by omega), w64 _ (by omega) (by omega), if_pos (by omega), if_pos (by omega), if_pos (by omega)]
        rw [cellsS, if_pos hy0] at hnext
        exact hnext
      · rw [if_neg hy0]
        rw [cellsS, if_neg hy0] at hnext
        exact hnext
    · rw [if_neg (by omega), show i = n by omega]
theorem refCellsOf_f (p : ByteArray) (hv : validS p) (k : Nat) (hk : 201 < k) : ringworkref06_CellsOf.f k p = some (cellsS p (twoS p 0).toNat) := by
  obtain ⟨q1, q2, q3, q4, q5, top, q6, q7⟩ := validS_spec p hv
  have hr := twoS_range p 0
  obtain ⟨n, hn⟩ : ∃ n : Nat, twoS p 0 = n := ⟨(twoS p 0).toNat, by omega⟩
  rw [hn, Int.toNat_natCast] at q6
  have := refCellsOf_l0 p n hn (by omega) (by omega) (by omega) (fun i hi hy => (entriesS_good p n top q6 i hi hy).2) k 0 (by omega) (by omega)
  rw [hn, Int.toNat_natCast]
  exact this
theorem refCells_f (p : ByteArray) (hs : p.size ≤ 100000) (k : Nat) (hk : 2 * 200 + p.size + 10 < k) : ringworkref06_Cells.f k p = some (if validS p then (cellsS p (twoS p 0).toNat, 0) else ([], 1)) := by
  unfold ringworkref06_Cells.f
  rw [refValid_f p hs k hk, Option.bind_some]
  by_cases hv : validS p
  · rw [if_pos (decide_eq_true hv), if_pos hv, refCellsOf_f p hv k (by omega)]
    rfl
  · rw [if_neg (by simpa using hv), if_neg hv]
/-! At: the data of a line. -/
def atS (l : List S45) (n : Int) : ByteArray := match l.find? (fun c => c.f0 == n) with | some c => c.f1 | none => ⟨#[]⟩
theorem refAt_l0 (l : List S45) (hl : l.length ≤ 9223372036854775807) (n : Int) : ∀ (k i : Nat), i ≤ l.length → l.length - i < k → ringworkref06_At.l0 k l n (i : Int) = some (atS (l.drop i) n) := by
  intro k
  induction k with
  | zero => intro i _ h; omega
  | succ k ih =>
    intro i hi hk
    rw [ringworkref06_At.l0]
    by_cases hlt : i < l.length
    · rw [if_pos (by omega), if_pos (by omega), rd_get l i hlt, List.drop_eq_getElem_cons hlt]
      by_cases h : l[i].f0 = n
      · rw [if_pos h]
        unfold atS
        rw [List.find?_cons_of_pos (by simpa using h)]
      · rw [if_neg h, w64 _ (by omega) (by omega), show (i : Int) + 1 = ((i + 1 : Nat) : Int) by omega, ih (i + 1) (by omega) (by omega)]
        unfold atS
        rw [List.find?_cons_of_neg (by simpa using h)]
    · rw [if_neg (by omega), List.drop_of_length_le (by omega)]
      rfl
theorem refAt_f (l : List S45) (hl : l.length ≤ 9223372036854775807) (n : Int) (k : Nat) (hk : l.length < k) : ringworkref06_At.f k l n = some (atS l n) := by
  have := refAt_l0 l hl n k 0 (by omega) (by omega)
  exact this
theorem atS_pos {l : List S45} (h : CellsOk l) (n : Int) : 0 < (atS l n).size ↔ ∃ c ∈ l, c.f0 = n := by
  unfold atS
  cases hf : l.find? (fun c => c.f0 == n) with
  | none =>
    constructor
    · intro h0
      exact absurd h0 (by decide)
    · rintro ⟨c, hc, hn⟩
      have := List.find?_eq_none.1 hf c hc
      simp [hn] at this
  | some c =>
    have h1 := List.mem_of_find?_eq_some hf
    have h2 := List.find?_some hf
    exact ⟨fun _ => ⟨c, h1, by simpa using h2⟩, fun _ => (h.each c h1).2.2⟩
theorem leastL_spec : ∀ (l : List S45), CellsOk l → 1 ≤ leastL l ∧ leastL l ≤ 201 ∧ (∀ j, 1 ≤ j → j < leastL l → ∃ c ∈ l, c.f0 = j) ∧ (∀ c ∈ l, c.f0 ≠ leastL l) := by
  intro l
  induction hl : l.length generalizing l with
  | zero =>
    intro _
    have : l = [] := List.length_eq_zero_iff.1 hl
    subst this
    refine ⟨by decide, by decide, fun j h1 h2 => ?_, by simp⟩
    have : leastL ([] : List S45) = 1 := rfl
    omega
  | succ m ih =>
    intro h
    have hne : l ≠ [] := by intro h; rw [h] at hl; cases hl
    obtain ⟨a, c, rfl⟩ : ∃ a c, l = a ++ [c] := ⟨l.dropLast, l.getLast hne, (List.dropLast_concat_getLast hne).symm⟩
    obtain ⟨i1, i2, i3, i4⟩ := ih a (by simp at hl; exact hl) h.append.1
    have hc := h.append.2.1.head
    have hlt := fun x hx => h.append.2.2 x hx c (by simp)
    rw [leastL_snoc]
    split
    · rename_i he
      refine ⟨by omega, by omega, fun j h1 h2 => ?_, fun x hx => ?_⟩
      · by_cases hj : j < leastL a
        · obtain ⟨d, hd, hdj⟩ := i3 j h1 hj
          exact ⟨d, by simp [hd], hdj⟩
        · exact ⟨c, by simp, by omega⟩
      · rcases List.mem_append.1 hx with hx | hx
        · have := hlt x hx; omega
        · simp only [List.mem_singleton] at hx; subst hx; omega
    · rename_i he
      refine ⟨i1, i2, fun j h1 h2 => ?_, fun x hx => ?_⟩
      · obtain ⟨d, hd, hdj⟩ := i3 j h1 h2
        exact ⟨d, by simp [hd], hdj⟩
      · rcases List.mem_append.1 hx with hx | hx
        · exact i4 x hx
        · simp only [List.mem_singleton] at hx; subst hx; exact he
theorem refLeast_l0 (l : List S45) (h : CellsOk l) (hl : l.length ≤ 100000) : ∀ (k : Nat) (j : Int), 1 ≤ j → j ≤ leastL l → (201 - j).toNat + l.length + 1 < k →
    ringworkref06_Least.l0 k l j = some (leastL l) := by
  obtain ⟨i1, i2, i3, i4⟩ := leastL_spec l h
  intro k
  induction k with
  | zero => intro j _ _ h; omega
  | succ k ih =>
    intro j h1 h2 hk
    rw [ringworkref06_Least.l0]
    by_cases hj : j ≤ 200
    · rw [if_pos hj, refAt_f l (by omega) j k (by omega), Option.bind_some]
      by_cases hlt : j < leastL l
      · have hp := (atS_pos h j).2 (i3 j h1 hlt)
        rw [if_neg (fun hn => by have := (toList_nil _).1 hn; omega), w64 _ (by omega) (by omega)]
        exact ih (j + 1) (by omega) (by omega) (by omega)
      · have he : j = leastL l := by omega
        rw [if_pos ((toList_nil _).2 (by
          rcases Nat.eq_zero_or_pos (atS l j).size with hz | hz
          · exact hz
          · obtain ⟨c, hc, hcj⟩ := (atS_pos h j).1 hz
            exact absurd hcj (by rw [he]; exact i4 c hc))), he]
    · rw [if_neg hj]
      congr 1
      omega
theorem refLeast_f (l : List S45) (h : CellsOk l) (hl : l.length ≤ 100000) (k : Nat) (hk : l.length + 202 < k) : ringworkref06_Least.f k l = some (leastL l) :=
  refLeast_l0 l h hl k 1 (by omega) (leastL_spec l h).1 (by omega)
theorem lines_map (p : ByteArray) (n : Nat) : linesS p n = (cellsS p n).map (fun c => c.f0) := by
  induction n with
  | zero => rfl
  | succ n ih =>
    simp only [linesS, cellsS]
    split
    · rw [ih, List.map_append]; rfl
    · exact ih
theorem refFree_f (p : ByteArray) (hs : p.size ≤ 100000) (k : Nat) (hk : 2 * 200 + p.size + 10 < k) : ringworkref06_Free.f k p = some (if validS p then ((p.size : Int) - needsL (cellsS p (twoS p 0).toNat), 0) else (0, 1)) := by
  unfold ringworkref06_Free.f
  rw [refCells_f p hs k hk, Option.bind_some]
  by_cases hv : validS p
  · obtain ⟨g1, g2, g3, g4⟩ := valid_reads p hv
    obtain ⟨q1, q2, q3, q4, q5, _⟩ := validS_spec p hv
    have hl := cellsS_length p (twoS p 0).toNat
    have h0 := lastL_nonneg g1
    have hb : bytesL (cellsS p (twoS p 0).toNat) ≤ 1000000000000 := by unfold needsL at g2; omega
    rw [if_pos hv, if_pos hv]
    simp only
    rw [if_pos trivial, refRoom_f _ _ (by omega) (by omega) hb g1 k (by omega)]
    rfl
  · rw [if_neg hv, if_neg hv]
    rfl
theorem refNext_f (p : ByteArray) (hs : p.size ≤ 100000) (k : Nat) (hk : 2 * 200 + p.size + 1000 < k) :
    ringworkref06_Next.f k p = some (if validS p then (if leastL (cellsS p (twoS p 0).toNat) > 200 then (0, 13) else (leastL (cellsS p (twoS p 0).toNat), 0)) else (0, 1)) := by
  unfold ringworkref06_Next.f
  rw [refCells_f p hs k (by omega), Option.bind_some]
  by_cases hv : validS p
  · obtain ⟨g1, g2, g3, g4⟩ := valid_reads p hv
    obtain ⟨q1, q2, q3, q4, q5, _⟩ := validS_spec p hv
    have hl := cellsS_length p (twoS p 0).toNat
    rw [if_pos hv, if_pos hv]
    simp only
    rw [if_pos trivial, refLeast_f _ g1 (by omega) k (by omega), Option.bind_some]
    split <;> rfl
  · rw [if_neg hv, if_neg hv]
    rfl

end Go.Proofs.Ytemglmcddaeedaa.PA

namespace Go.Proofs.Ytemglmcddaeedaa.PA
open Go.RowKit Go.Proofs.YtemglmcddaeedaaW.PrintWords Go.Proofs.YtemglmcddaeedaaW.PrintLast Go.Proofs.YtemglmcddaeedaaW.PrintMore
attribute [local go_sem] max2_int min2_int max_two min_two max_three min_three max_four min_four   -- for this text's walks alone
set_option linter.unusedVariables false
set_option linter.unusedSimpArgs false

/-! ### ringworklaw06_PageFills: function 4 -/
mutual
def ringworklaw06_PageFills.j0 : Nat → Int → List (S45) → Bool → Option (Bool)
  | 0, _, _, _ => none
  | k + 1, x0, x1, x32 => if x32 = true then (some false) else ((page_Fill.f k x0 x1).bind fun bt167 => ((ringworkref06_Fill.f k x0 x1).bind fun bt169 => (if bt167.1.toList = bt169.1.toList then (ringworklaw06_PageFills.j1 k x1 bt167.1 bt167.2 (bt167.2 != bt169.2)) else (ringworklaw06_PageFills.j1 k x1 bt167.1 bt167.2 true))))
def ringworklaw06_PageFills.j1 : Nat → List (S45) → ByteArray → Int → Bool → Option (Bool)
  | 0, _, _, _, _ => none
  | k + 1, x1, x5, x6, x52 => if x52 = true then (some false) else (if x6 = 0 then ((page_Cells.f x5).bind fun bt171 => (if bt171.2 = 0 then ((ringworklaw06_same.f k x1 bt171.1).bind fun t175 => (if t175 = true then ((ringworklaw06_awake.f k).bind fun t176 => (some t176)) else (some false))) else (some false))) else ((ringworklaw06_awake.f k).bind fun t177 => (some t177)))
end
def ringworklaw06_PageFills.f (k : Nat) (a0 : Int) (l1 : List (S45)) : Option (Bool) := (ringworklaw06_Cells.f k l1).bind fun t161 => (if t161 = true then ((page_New.f k a0).bind fun bt163 => ((ringworkref06_New.f a0).bind fun bt165 => (if bt163.1.toList = bt165.1.toList then (ringworklaw06_PageFills.j0 k a0 l1 (bt163.2 != bt165.2)) else (ringworklaw06_PageFills.j0 k a0 l1 true)))) else ((ringworklaw06_awake.f k).bind fun t162 => (some t162)))
theorem ringworklaw06_PageFills.mono_l : ∀ k, (∀ y0 y1 y2, LeO (ringworklaw06_PageFills.j0 k y0 y1 y2) (ringworklaw06_PageFills.j0 (k + 1) y0 y1 y2)) ∧ (∀ y0 y1 y2 y3, LeO (ringworklaw06_PageFills.j1 k y0 y1 y2 y3) (ringworklaw06_PageFills.j1 (k + 1) y0 y1 y2 y3))
  | 0 => ⟨fun _ _ _ r h => by simp [ringworklaw06_PageFills.j0] at h, fun _ _ _ _ r h => by simp [ringworklaw06_PageFills.j1] at h⟩
  | k + 1 => by
    obtain ⟨ih0, ih1⟩ := ringworklaw06_PageFills.mono_l k
    refine ⟨?_, ?_⟩
    · intro y0 y1 y2
      unfold ringworklaw06_PageFills.j0
      repeat' first
      | (with_reducible exact ih0 _ _ _)
      | (with_reducible exact ih1 _ _ _ _)
      | (with_reducible exact page_Fill.mono _ _ _)
      | (with_reducible exact page_New.mono _ _)
      | (with_reducible exact ringworklaw06_Cells.mono _ _)
      | (with_reducible exact ringworklaw06_awake.mono _)
      | (with_reducible exact ringworklaw06_same.mono _ _ _)
      | (with_reducible exact ringworkref06_Fill.mono _ _ _)
      | (with_reducible exact LeO.refl _)
      | (with_reducible exact LeO.none _)
      | (with_reducible refine LeO.ite ?_ ?_)
      | (with_reducible refine LeO.bind ?_ (fun _ => ?_))
      | exact ih0 _ _ _
      | exact ih1 _ _ _ _
      | exact page_Fill.mono _ _ _
      | exact page_New.mono _ _
      | exact ringworklaw06_Cells.mono _ _
      | exact ringworklaw06_awake.mono _
      | exact ringworklaw06_same.mono _ _ _
      | exact ringworkref06_Fill.mono _ _ _
      | exact LeO.none _
      | refine LeO.ite ?_ ?_
      | refine LeO.bind ?_ (fun _ => ?_)
    · intro y0 y1 y2 y3
      unfold ringworklaw06_PageFills.j1
      repeat' first
      | (with_reducible exact ih0 _ _ _)
      | (with_reducible exact ih1 _ _ _ _)
      | (with_reducible exact page_Fill.mono _ _ _)
      | (with_reducible exact page_New.mono _ _)
      | (with_reducible exact ringworklaw06_Cells.mono _ _)
      | (with_reducible exact ringworklaw06_awake.mono _)
      | (with_reducible exact ringworklaw06_same.mono _ _ _)
      | (with_reducible exact ringworkref06_Fill.mono _ _ _)
      | (with_reducible exact LeO.refl _)
      | (with_reducible exact LeO.none _)
      | (with_reducible refine LeO.ite ?_ ?_)
      | (with_reducible refine LeO.bind ?_ (fun _ => ?_))
      | exact ih0 _ _ _
      | exact ih1 _ _ _ _
      | exact page_Fill.mono _ _ _
      | exact page_New.mono _ _
      | exact ringworklaw06_Cells.mono _ _
      | exact ringworklaw06_awake.mono _
      | exact ringworklaw06_same.mono _ _ _
      | exact ringworkref06_Fill.mono _ _ _
      | exact LeO.none _
      | refine LeO.ite ?_ ?_
      | refine LeO.bind ?_ (fun _ => ?_)
theorem ringworklaw06_PageFills.mono : ∀ a0 a1 k, LeO (ringworklaw06_PageFills.f k a0 a1) (ringworklaw06_PageFills.f (k + 1) a0 a1) := by
  intro a0 a1 k
  obtain ⟨ih0, ih1⟩ := ringworklaw06_PageFills.mono_l k
  unfold ringworklaw06_PageFills.f
  repeat' first
      | (with_reducible exact ih0 _ _ _)
      | (with_reducible exact ih1 _ _ _ _)
      | (with_reducible exact page_Fill.mono _ _ _)
      | (with_reducible exact page_New.mono _ _)
      | (with_reducible exact ringworklaw06_Cells.mono _ _)
      | (with_reducible exact ringworklaw06_awake.mono _)
      | (with_reducible exact ringworklaw06_same.mono _ _ _)
      | (with_reducible exact ringworkref06_Fill.mono _ _ _)
      | (with_reducible exact LeO.refl _)
      | (with_reducible exact LeO.none _)
      | (with_reducible refine LeO.ite ?_ ?_)
      | (with_reducible refine LeO.bind ?_ (fun _ => ?_))
      | exact ih0 _ _ _
      | exact ih1 _ _ _ _
      | exact page_Fill.mono _ _ _
      | exact page_New.mono _ _
      | exact ringworklaw06_Cells.mono _ _
      | exact ringworklaw06_awake.mono _
      | exact ringworklaw06_same.mono _ _ _
      | exact ringworkref06_Fill.mono _ _ _
      | exact LeO.none _
      | refine LeO.ite ?_ ?_
      | refine LeO.bind ?_ (fun _ => ?_)
set_option maxHeartbeats 8000000 in
set_option maxRecDepth 100000 in
theorem ringworklaw06_PageFills.calls (k : Nat) (a0 : Int) (A1 : Option Addr) (c1 : Nat) (l1 : List (S45)) (r : Bool) (w : World) (hr1 : Kd.C k45 w A1 l1.length l1) (hc1 : l1.length ≤ c1) (h : ringworklaw06_PageFills.f k a0 l1 = some r) :
    Calls Try.prog 4 #[.int .i64 a0, .slice A1 l1.length c1] w fun e w' => e = .returned (.bool r) ∧ Below w.heap.size w w' := by
  have HR1 := Aside0.mk hr1
  have HC1 := Aside0.mk hc1
  clear hr1 hc1
  have HB := Aside0.mk (Below.refl w.heap.size w)
  have H : ((ringworklaw06_Cells.f k l1).bind fun t161 => (if t161 = true then ((page_New.f k a0).bind fun bt163 => ((ringworkref06_New.f a0).bind fun bt165 => (if bt163.1.toList = bt165.1.toList then (ringworklaw06_PageFills.j0 k a0 l1 (bt163.2 != bt165.2)) else (ringworklaw06_PageFills.j0 k a0 l1 true)))) else ((ringworklaw06_awake.f k).bind fun t162 => (some t162)))) = some r := h
  clear h
  replace H := Option.bind_eq_some_iff.mp H
  obtain ⟨t161, A30, H⟩ := H
  replace H : (if t161 = true then ((page_New.f k a0).bind fun bt163 => ((ringworkref06_New.f a0).bind fun bt165 => (if bt163.1.toList = bt165.1.toList then (ringworklaw06_PageFills.j0 k a0 l1 (bt163.2 != bt165.2)) else (ringworklaw06_PageFills.j0 k a0 l1 true)))) else ((ringworklaw06_awake.f k).bind fun t162 => (some t162))) = some r := H
  have A3 := Aside0.mk A30
  clear A30
  by_cases c4 : t161 = true
  · subst c4
    have H1 : ((page_New.f k a0).bind fun bt163 => ((ringworkref06_New.f a0).bind fun bt165 => (if bt163.1.toList = bt165.1.toList then (ringworklaw06_PageFills.j0 k a0 l1 (bt163.2 != bt165.2)) else (ringworklaw06_PageFills.j0 k a0 l1 true)))) = some r := by rw [if_pos rfl] at H; exact H
    clear H
    have H := H1
    clear H1
    replace H := Option.bind_eq_some_iff.mp H
    obtain ⟨⟨t163, t164⟩, A50, H⟩ := H
    replace H : ((ringworkref06_New.f a0).bind fun bt165 => (if t163.toList = bt165.1.toList then (ringworklaw06_PageFills.j0 k a0 l1 (t164 != bt165.2)) else (ringworklaw06_PageFills.j0 k a0 l1 true))) = some r := H
    have A5 := Aside0.mk A50
    clear A50
    replace H := Option.bind_eq_some_iff.mp H
    obtain ⟨⟨t165, t166⟩, A60, H⟩ := H
    replace H : (if t163.toList = t165.toList then (ringworklaw06_PageFills.j0 k a0 l1 (t164 != t166)) else (ringworklaw06_PageFills.j0 k a0 l1 true)) = some r := H
    have A6 := Aside0.mk A60
    clear A60
    have HC7 := Aside0.mk H
    clear H
    go_enter Try.func4, Try.ntmps4
    go_upto_region 5 with (first | ((with_reducible refine gate_callee (f := 14) rfl ?_); refine goesL_ (some 12) rfl rfl Try.func14 (by kernel_rfl) rfl #[.slice A1 l1.length c1] rfl (by (try simp only [List.map_toArray, List.map_cons, List.map_nil]); first | done | rfl | (simp only [List.length_drop, List.length_take]; rfl)) ?_; (with_reducible refine (ringworklaw06_Cells.calls k _ _ l1 true _ ?side1 ?side2 A3.out).mono ?_); (case side1 => repeat (first | exact HR1.out | (with_reducible refine Kd.C_alloc ?_ _) | (with_reducible refine Kd.C_drewN ?_ _) | (with_reducible refine Kd.C_drew ?_))); (case side2 => exact HC1.out); rintro e w' ⟨rfl, ⟨nd, rfl⟩⟩; refine ⟨_, rfl, ?_⟩) | ((with_reducible refine gate_callee (f := 15) rfl ?_); refine goesL_ (some 17) rfl rfl Try.func15 (by kernel_rfl) rfl #[.int .i64 a0] rfl (by (try simp only [List.map_toArray, List.map_cons, List.map_nil]); first | done | rfl | (simp only [List.length_drop, List.length_take]; rfl)) ?_; (with_reducible refine (page_New.calls k a0 t163 t164 _ A5.out).mono ?_); rintro e w8 ⟨rfl, hb⟩; refine ⟨_, rfl, ?_⟩; have n0_ := Aside0.mk (below_step (by repeat (first | (with_reducible first | exact HB.out | apply below_alloc | apply pw_below_drewN | apply below_drew1) | exact HB.out)) hb); clear HB; have HB := n0_; clear n0_; (try clear hb); (try clear hb2); (try clear hk); (try clear hi)) | ((with_reducible refine gate_callee (f := 16) rfl ?_); refine goesL_ (some 22) rfl rfl Try.func16 (by kernel_rfl) rfl #[.int .i64 a0] rfl (by (try simp only [List.map_toArray, List.map_cons, List.map_nil]); first | done | rfl | (simp only [List.length_drop, List.length_take]; rfl)) ?_; (with_reducible refine (ringworkref06_New.calls a0 t165 t166 _ A6.out).mono ?_); rintro e w9 ⟨rfl, hb⟩; refine ⟨_, rfl, ?_⟩; have n0_ := Aside0.mk (below_step (by repeat (first | (with_reducible first | exact HB.out | apply below_alloc | apply pw_below_drewN | apply below_drew1) | exact HB.out)) hb); clear HB; have HB := n0_; clear n0_; (try clear hb); (try clear hb2); (try clear hk); (try clear hi)))
    (try simp only [Act.put, List.setIfInBounds_toArray, List.set_cons_zero, List.set_cons_succ])
    go_cut [32] (fun v32 wc => ∃ (kq : Nat) (x32_6 : Bool), v32 = .bool x32_6 ∧ Aside0 (ringworklaw06_PageFills.j0 kq a0 l1 x32_6 = some r) ∧ Aside0 (kq ≤ k) ∧ Aside0 (Below w.heap.size w wc))
    case first =>
      have H := HC7.out
      clear HC7
      by_cases c10 : t163.toList = t165.toList
      · rw [if_pos c10] at H
        have c10b0 : (t163.toList == t165.toList) = true := beq_iff_eq.mpr c10
        have c10b1 : (t163.toList != t165.toList) = false := bne_eq_false_iff_eq.mpr c10
        clear c10
        (first | rw [c10b0] | (simp only [i64_w, i32_w]; rw [c10b0]) | skip)
        have H' := Aside0.mk H
        clear H
        go_wp2
        go_meet
        case rel => exact ⟨_, ((t164 != t166)), (by first | rfl | (simp; done) | (simp [*]; done)), H', ⟨by first | omega | exact Nat.le_refl _⟩, ⟨by repeat (first | (with_reducible first | exact HB.out | apply below_alloc | apply pw_below_drewN | apply below_drew1) | exact HB.out)⟩⟩
      · rw [if_neg c10] at H
        have c10b0 : (t163.toList == t165.toList) = false := beq_eq_false_iff_ne.mpr c10
        have c10b1 : (t163.toList != t165.toList) = true := bne_iff_ne.mpr c10
        (first | rw [c10b0] | (simp only [i64_w, i32_w]; rw [c10b0]) | skip)
        have H' := Aside0.mk H
        clear H
        go_wp2
        go_meet
        case rel => exact ⟨_, (true), (by first | rfl | (simp; done) | (simp [*]; done)), H', ⟨by first | omega | exact Nat.le_refl _⟩, ⟨by repeat (first | (with_reducible first | exact HB.out | apply below_alloc | apply pw_below_drewN | apply below_drew1) | exact HB.out)⟩⟩
    case rest =>
      clear HC7
      try clear c1
      try clear p2
      try clear c4
      try clear c10
      try clear c10b0
      try clear c10b1
      obtain ⟨kq, x32_6, rfl, HA, HJ6, HB⟩ := hcut
      cases kq with
      | zero => exact absurd HA.out (by simp [ringworklaw06_PageFills.j0])
      | succ kj6 =>
        have H := HA.out
        clear HA
        simp only [ringworklaw06_PageFills.j0] at H
        by_cases c11 : x32_6 = true
        · subst c11
          have H1 : (some false) = some r := by rw [if_pos rfl] at H; exact H
          clear H
          have H := H1
          clear H1
          obtain rfl := Option.some.inj H
          go_wp2
          go_ret
          exact ⟨by first | rfl | (simp [errW_none, errW_some] <;> rfl) | (simp [*, errW_none, errW_some] <;> rfl), by repeat (first | (with_reducible first | exact HB.out | apply below_alloc | apply pw_below_drewN | apply below_drew1) | exact HB.out)⟩
        · replace c11 := Bool.eq_false_iff.mpr c11
          subst c11
          have H1 : ((page_Fill.f kj6 a0 l1).bind fun bt167 => ((ringworkref06_Fill.f kj6 a0 l1).bind fun bt169 => (if bt167.1.toList = bt169.1.toList then (ringworklaw06_PageFills.j1 kj6 l1 bt167.1 bt167.2 (bt167.2 != bt169.2)) else (ringworklaw06_PageFills.j1 kj6 l1 bt167.1 bt167.2 true)))) = some r := by rw [if_neg (show ¬ (false = true) by decide)] at H; exact H
          clear H
          have H := H1
          clear H1
          replace H := Option.bind_eq_some_iff.mp H
          obtain ⟨⟨t167, t168⟩, A120, H⟩ := H
          replace H : ((ringworkref06_Fill.f kj6 a0 l1).bind fun bt169 => (if t167.toList = bt169.1.toList then (ringworklaw06_PageFills.j1 kj6 l1 t167 t168 (t168 != bt169.2)) else (ringworklaw06_PageFills.j1 kj6 l1 t167 t168 true))) = some r := H
          have A12 := Aside0.mk A120
          clear A120
          replace H := Option.bind_eq_some_iff.mp H
          obtain ⟨⟨t169, t170⟩, A130, H⟩ := H
          replace H : (if t167.toList = t169.toList then (ringworklaw06_PageFills.j1 kj6 l1 t167 t168 (t168 != t170)) else (ringworklaw06_PageFills.j1 kj6 l1 t167 t168 true)) = some r := H
          have A13 := Aside0.mk A130
          clear A130
          have HC14 := Aside0.mk H
          clear H
          go_upto_region 9 with (first | ((with_reducible refine gate_callee (f := 17) rfl ?_); refine goesL_ (some 36) rfl rfl Try.func17 (by kernel_rfl) rfl #[.int .i64 a0, .slice A1 l1.length c1] rfl (by (try simp only [List.map_toArray, List.map_cons, List.map_nil]); first | done | rfl | (simp only [List.length_drop, List.length_take]; rfl)) ?_; (with_reducible refine (page_Fill.calls kj6 a0 _ _ l1 t167 t168 _ ?side1 ?side2 A12.out).mono ?_); (case side1 => repeat (first | exact (Kd.C_below HR1.out HB.out) | (with_reducible refine Kd.C_alloc ?_ _) | (with_reducible refine Kd.C_drewN ?_ _) | (with_reducible refine Kd.C_drew ?_))); (case side2 => exact HC1.out); rintro e w15 ⟨rfl, hb⟩; refine ⟨_, rfl, ?_⟩; have n0_ := Aside0.mk (below_step (by repeat (first | (with_reducible first | exact HB.out | apply below_alloc | apply pw_below_drewN | apply below_drew1) | exact HB.out)) hb); clear HB; have HB := n0_; clear n0_; (try clear hb); (try clear hb2); (try clear hk); (try clear hi)) | ((with_reducible refine gate_callee (f := 18) rfl ?_); refine goesL_ (some 42) rfl rfl Try.func18 (by kernel_rfl) rfl #[.int .i64 a0, .slice A1 l1.length c1] rfl (by (try simp only [List.map_toArray, List.map_cons, List.map_nil]); first | done | rfl | (simp only [List.length_drop, List.length_take]; rfl)) ?_; (with_reducible refine (ringworkref06_Fill.calls kj6 a0 _ _ l1 t169 t170 _ ?side1 ?side2 A13.out).mono ?_); (case side1 => repeat (first | exact (Kd.C_below HR1.out HB.out) | (with_reducible refine Kd.C_alloc ?_ _) | (with_reducible refine Kd.C_drewN ?_ _) | (with_reducible refine Kd.C_drew ?_))); (case side2 => exact HC1.out); rintro e w16 ⟨rfl, hb⟩; refine ⟨_, rfl, ?_⟩; have n0_ := Aside0.mk (below_step (by repeat (first | (with_reducible first | exact HB.out | apply below_alloc | apply pw_below_drewN | apply below_drew1) | exact HB.out)) hb); clear HB; have HB := n0_; clear n0_; (try clear hb); (try clear hb2); (try clear hk); (try clear hi)))
          (try simp only [Act.put, List.setIfInBounds_toArray, List.set_cons_zero, List.set_cons_succ])
          go_cut [52] (fun v52 wc => ∃ (kq : Nat) (x52_13 : Bool), v52 = .bool x52_13 ∧ Aside0 (ringworklaw06_PageFills.j1 kq l1 t167 t168 x52_13 = some r) ∧ Aside0 (kq ≤ kj6) ∧ Aside0 (Below w.heap.size w wc))
          case first =>
            have H := HC14.out
            clear HC14
            by_cases c17 : t167.toList = t169.toList
            · rw [if_pos c17] at H
              have c17b0 : (t167.toList == t169.toList) = true := beq_iff_eq.mpr c17
              have c17b1 : (t167.toList != t169.toList) = false := bne_eq_false_iff_eq.mpr c17
              clear c17
              (first | rw [c17b0] | (simp only [i64_w, i32_w]; rw [c17b0]) | skip)
              have H' := Aside0.mk H
              clear H
              go_wp2
              go_meet
              case rel => exact ⟨_, ((t168 != t170)), (by first | rfl | (simp; done) | (simp [*]; done)), H', ⟨by have := HJ6.out; first | omega | exact Nat.le_refl _⟩, ⟨by repeat (first | (with_reducible first | exact HB.out | apply below_alloc | apply pw_below_drewN | apply below_drew1) | exact HB.out)⟩⟩
            · rw [if_neg c17] at H
              have c17b0 : (t167.toList == t169.toList) = false := beq_eq_false_iff_ne.mpr c17
              have c17b1 : (t167.toList != t169.toList) = true := bne_iff_ne.mpr c17
              (first | rw [c17b0] | (simp only [i64_w, i32_w]; rw [c17b0]) | skip)
              have H' := Aside0.mk H
              clear H
              go_wp2
              go_meet
              case rel => exact ⟨_, (true), (by first | rfl | (simp; done) | (simp [*]; done)), H', ⟨by have := HJ6.out; first | omega | exact Nat.le_refl _⟩, ⟨by repeat (first | (with_reducible first | exact HB.out | apply below_alloc | apply pw_below_drewN | apply below_drew1) | exact HB.out)⟩⟩
          case rest =>
            clear HC14
            try clear c1
            try clear p2
            try clear c4
            try clear c10
            try clear c10b0
            try clear c10b1
            try clear c11
            try clear c14
            try clear c15
            try clear c16
            try clear c17
            try clear c17b0
            try clear c17b1
            try clear p2
            obtain ⟨kq, x52_13, rfl, HA, HJ13, HB⟩ := hcut
            cases kq with
            | zero => exact absurd HA.out (by simp [ringworklaw06_PageFills.j1])
            | succ kj13 =>
              have H := HA.out
              clear HA
              simp only [ringworklaw06_PageFills.j1] at H
              by_cases c18 : x52_13 = true
              · subst c18
                have H1 : (some false) = some r := by rw [if_pos rfl] at H; exact H
                clear H
                have H := H1
                clear H1
                obtain rfl := Option.some.inj H
                go_wp2
                go_ret
                exact ⟨by first | rfl | (simp [errW_none, errW_some] <;> rfl) | (simp [*, errW_none, errW_some] <;> rfl), by repeat (first | (with_reducible first | exact HB.out | apply below_alloc | apply pw_below_drewN | apply below_drew1) | exact HB.out)⟩
              · replace c18 := Bool.eq_false_iff.mpr c18
                subst c18
                have H1 : (if t168 = 0 then ((page_Cells.f t167).bind fun bt171 => (if bt171.2 = 0 then ((ringworklaw06_same.f kj13 l1 bt171.1).bind fun t175 => (if t175 = true then ((ringworklaw06_awake.f kj13).bind fun t176 => (some t176)) else (some false))) else (some false))) else ((ringworklaw06_awake.f kj13).bind fun t177 => (some t177))) = some r := by rw [if_neg (show ¬ (false = true) by decide)] at H; exact H
                clear H
                have H := H1
                clear H1
                by_cases c19 : t168 = 0
                · rw [if_pos c19] at H
                  have c19b0 : (t168 == 0) = true := beq_iff_eq.mpr c19
                  have c19b1 : (t168 != 0) = false := bne_eq_false_iff_eq.mpr c19
                  clear c19
                  replace H := Option.bind_eq_some_iff.mp H
                  obtain ⟨⟨t171, t172⟩, A200, H⟩ := H
                  replace H : (if t172 = 0 then ((ringworklaw06_same.f kj13 l1 t171).bind fun t175 => (if t175 = true then ((ringworklaw06_awake.f kj13).bind fun t176 => (some t176)) else (some false))) else (some false)) = some r := H
                  have A20 := Aside0.mk A200
                  clear A200
                  by_cases c21 : t172 = 0
                  · rw [if_pos c21] at H
                    have c21b0 : (t172 == 0) = true := beq_iff_eq.mpr c21
                    have c21b1 : (t172 != 0) = false := bne_eq_false_iff_eq.mpr c21
                    clear c21
                    replace H := Option.bind_eq_some_iff.mp H
                    obtain ⟨t175, A220, H⟩ := H
                    replace H : (if t175 = true then ((ringworklaw06_awake.f kj13).bind fun t176 => (some t176)) else (some false)) = some r := H
                    have A22 := Aside0.mk A220
                    clear A220
                    by_cases c23 : t175 = true
                    · subst c23
                      have H1 : ((ringworklaw06_awake.f kj13).bind fun t176 => (some t176)) = some r := by rw [if_pos rfl] at H; exact H
                      clear H
                      have H := H1
                      clear H1
                      replace H := Option.bind_eq_some_iff.mp H
                      obtain ⟨t176, A240, H⟩ := H
                      replace H : (some t176) = some r := H
                      have A24 := Aside0.mk A240
                      clear A240
                      obtain rfl := Option.some.inj H
                      go_wp2_with (first | ((with_reducible refine gate_callee (f := 12) rfl ?_); refine goesL_ (some 57) rfl rfl Try.func12 (by kernel_rfl) rfl #[.string t167] rfl (by (try simp only [List.map_toArray, List.map_cons, List.map_nil]); first | done | rfl | (simp only [List.length_drop, List.length_take]; rfl)) ?_; (with_reducible refine (page_Cells.calls t167 t171 t172 _ A20.out).mono ?_); rintro e w25 ⟨v173, rfl, ho0, hb⟩; refine ⟨_, rfl, ?_⟩; have n0_ := Aside0.mk (Kd.R_lower ho0 (below_size (by repeat (first | (with_reducible first | exact HB.out | apply below_alloc | apply pw_below_drewN | apply below_drew1) | exact HB.out)))); have n1_ := Aside0.mk (below_step (by repeat (first | (with_reducible first | exact HB.out | apply below_alloc | apply pw_below_drewN | apply below_drew1) | exact HB.out)) hb); clear HB; have HO174 := n0_; have HB := n1_; clear n0_ n1_; (try clear hb); (try clear hb2); (try clear hk); (try clear hi); (try clear ho0); obtain ⟨Ao26, co26, eo26⟩ := Kd.R_slice HO174.out; subst eo26) | (go_at_call 13; (with_reducible refine (ringworklaw06_same.calls kj13 _ _ l1 _ _ t171 true _ ?side1 ?side2 ?side3 ?side4 A22.out).mono ?_); (case side1 => repeat (first | exact (Kd.C_below HR1.out HB.out) | (with_reducible refine Kd.C_alloc ?_ _) | (with_reducible refine Kd.C_drewN ?_ _) | (with_reducible refine Kd.C_drew ?_))); (case side2 => exact HC1.out); (case side3 => repeat (first | exact (Kd.R_reads' HO174.out).2.2 | (with_reducible refine Kd.C_alloc ?_ _) | (with_reducible refine Kd.C_drewN ?_ _) | (with_reducible refine Kd.C_drew ?_))); (case side4 => exact (Kd.R_reads' HO174.out).2.1); rintro e w' ⟨rfl, ⟨nd, rfl⟩⟩) | ((with_reducible refine gate_callee (f := 11) rfl ?_); refine goesL_ (some 68) rfl rfl Try.func11 (by kernel_rfl) rfl #[] rfl (by (try simp only [List.map_toArray, List.map_cons, List.map_nil]); first | done | rfl | (simp only [List.length_drop, List.length_take]; rfl)) ?_; (with_reducible refine (ringworklaw06_awake.calls kj13  t176 _ A24.out).mono ?_); rintro e w27 ⟨rfl, hb⟩; refine ⟨_, rfl, ?_⟩; have n0_ := Aside0.mk (Kd.R_below (by (with_reducible repeat (first | apply Kd.R_alloc | apply Kd.R_drewN | apply Kd.R_drew)); exact HO174.out) hb); have n1_ := Aside0.mk (below_step (by repeat (first | (with_reducible first | exact HB.out | apply below_alloc | apply pw_below_drewN | apply below_drew1) | exact HB.out)) hb); clear HO174; clear HB; have HO174 := n0_; have HB := n1_; clear n0_ n1_; (try clear hb); (try clear hb2); (try clear hk); (try clear hi)))
                      go_ret
                      exact ⟨by first | rfl | (simp [errW_none, errW_some] <;> rfl) | (simp [*, errW_none, errW_some] <;> rfl), by repeat (first | (with_reducible first | exact HB.out | apply below_alloc | apply pw_below_drewN | apply below_drew1) | exact HB.out)⟩
                    · replace c23 := Bool.eq_false_iff.mpr c23
                      subst c23
                      have H1 : (some false) = some r := by rw [if_neg (show ¬ (false = true) by decide)] at H; exact H
                      clear H
                      have H := H1
                      clear H1
                      obtain rfl := Option.some.inj H
                      go_wp2_with (first | ((with_reducible refine gate_callee (f := 12) rfl ?_); refine goesL_ (some 57) rfl rfl Try.func12 (by kernel_rfl) rfl #[.string t167] rfl (by (try simp only [List.map_toArray, List.map_cons, List.map_nil]); first | done | rfl | (simp only [List.length_drop, List.length_take]; rfl)) ?_; (with_reducible refine (page_Cells.calls t167 t171 t172 _ A20.out).mono ?_); rintro e w28 ⟨v173, rfl, ho0, hb⟩; refine ⟨_, rfl, ?_⟩; have n0_ := Aside0.mk (Kd.R_lower ho0 (below_size (by repeat (first | (with_reducible first | exact HB.out | apply below_alloc | apply pw_below_drewN | apply below_drew1) | exact HB.out)))); have n1_ := Aside0.mk (below_step (by repeat (first | (with_reducible first | exact HB.out | apply below_alloc | apply pw_below_drewN | apply below_drew1) | exact HB.out)) hb); clear HB; have HO174 := n0_; have HB := n1_; clear n0_ n1_; (try clear hb); (try clear hb2); (try clear hk); (try clear hi); (try clear ho0); obtain ⟨Ao29, co29, eo29⟩ := Kd.R_slice HO174.out; subst eo29) | (go_at_call 13; (with_reducible refine (ringworklaw06_same.calls kj13 _ _ l1 _ _ t171 false _ ?side1 ?side2 ?side3 ?side4 A22.out).mono ?_); (case side1 => repeat (first | exact (Kd.C_below HR1.out HB.out) | (with_reducible refine Kd.C_alloc ?_ _) | (with_reducible refine Kd.C_drewN ?_ _) | (with_reducible refine Kd.C_drew ?_))); (case side2 => exact HC1.out); (case side3 => repeat (first | exact (Kd.R_reads' HO174.out).2.2 | (with_reducible refine Kd.C_alloc ?_ _) | (with_reducible refine Kd.C_drewN ?_ _) | (with_reducible refine Kd.C_drew ?_))); (case side4 => exact (Kd.R_reads' HO174.out).2.1); rintro e w' ⟨rfl, ⟨nd, rfl⟩⟩))
                      go_ret
                      exact ⟨by first | rfl | (simp [errW_none, errW_some] <;> rfl) | (simp [*, errW_none, errW_some] <;> rfl), by repeat (first | (with_reducible first | exact HB.out | apply below_alloc | apply pw_below_drewN | apply below_drew1) | exact HB.out)⟩
                  · rw [if_neg c21] at H
                    have c21b0 : (t172 == 0) = false := beq_eq_false_iff_ne.mpr c21
                    have c21b1 : (t172 != 0) = true := bne_iff_ne.mpr c21
                    obtain rfl := Option.some.inj H
                    go_wp2_with (first | ((with_reducible refine gate_callee (f := 12) rfl ?_); refine goesL_ (some 57) rfl rfl Try.func12 (by kernel_rfl) rfl #[.string t167] rfl (by (try simp only [List.map_toArray, List.map_cons, List.map_nil]); first | done | rfl | (simp only [List.length_drop, List.length_take]; rfl)) ?_; (with_reducible refine (page_Cells.calls t167 t171 t172 _ A20.out).mono ?_); rintro e w30 ⟨v173, rfl, ho0, hb⟩; refine ⟨_, rfl, ?_⟩; have n0_ := Aside0.mk (Kd.R_lower ho0 (below_size (by repeat (first | (with_reducible first | exact HB.out | apply below_alloc | apply pw_below_drewN | apply below_drew1) | exact HB.out)))); have n1_ := Aside0.mk (below_step (by repeat (first | (with_reducible first | exact HB.out | apply below_alloc | apply pw_below_drewN | apply below_drew1) | exact HB.out)) hb); clear HB; have HO174 := n0_; have HB := n1_; clear n0_ n1_; (try clear hb); (try clear hb2); (try clear hk); (try clear hi); (try clear ho0)))
                    go_ret
                    exact ⟨by first | rfl | (simp [errW_none, errW_some] <;> rfl) | (simp [*, errW_none, errW_some] <;> rfl), by repeat (first | (with_reducible first | exact HB.out | apply below_alloc | apply pw_below_drewN | apply below_drew1) | exact HB.out)⟩
                · rw [if_neg c19] at H
                  have c19b0 : (t168 == 0) = false := beq_eq_false_iff_ne.mpr c19
                  have c19b1 : (t168 != 0) = true := bne_iff_ne.mpr c19
                  replace H := Option.bind_eq_some_iff.mp H
                  obtain ⟨t177, A310, H⟩ := H
                  replace H : (some t177) = some r := H
                  have A31 := Aside0.mk A310
                  clear A310
                  obtain rfl := Option.some.inj H
                  go_wp2_with (first | ((with_reducible refine gate_callee (f := 11) rfl ?_); refine goesL_ (some 68) rfl rfl Try.func11 (by kernel_rfl) rfl #[] rfl (by (try simp only [List.map_toArray, List.map_cons, List.map_nil]); first | done | rfl | (simp only [List.length_drop, List.length_take]; rfl)) ?_; (with_reducible refine (ringworklaw06_awake.calls kj13  t177 _ A31.out).mono ?_); rintro e w32 ⟨rfl, hb⟩; refine ⟨_, rfl, ?_⟩; have n0_ := Aside0.mk (below_step (by repeat (first | (with_reducible first | exact HB.out | apply below_alloc | apply pw_below_drewN | apply below_drew1) | exact HB.out)) hb); clear HB; have HB := n0_; clear n0_; (try clear hb); (try clear hb2); (try clear hk); (try clear hi)))
                  go_ret
                  exact ⟨by first | rfl | (simp [errW_none, errW_some] <;> rfl) | (simp [*, errW_none, errW_some] <;> rfl), by repeat (first | (with_reducible first | exact HB.out | apply below_alloc | apply pw_below_drewN | apply below_drew1) | exact HB.out)⟩
  · replace c4 := Bool.eq_false_iff.mpr c4
    subst c4
    have H1 : ((ringworklaw06_awake.f k).bind fun t162 => (some t162)) = some r := by rw [if_neg (show ¬ (false = true) by decide)] at H; exact H
    clear H
    have H := H1
    clear H1
    replace H := Option.bind_eq_some_iff.mp H
    obtain ⟨t162, A330, H⟩ := H
    replace H : (some t162) = some r := H
    have A33 := Aside0.mk A330
    clear A330
    obtain rfl := Option.some.inj H
    go_enter Try.func4, Try.ntmps4
    go_wp2_with (first | ((with_reducible refine gate_callee (f := 14) rfl ?_); refine goesL_ (some 12) rfl rfl Try.func14 (by kernel_rfl) rfl #[.slice A1 l1.length c1] rfl (by (try simp only [List.map_toArray, List.map_cons, List.map_nil]); first | done | rfl | (simp only [List.length_drop, List.length_take]; rfl)) ?_; (with_reducible refine (ringworklaw06_Cells.calls k _ _ l1 false _ ?side1 ?side2 A3.out).mono ?_); (case side1 => repeat (first | exact HR1.out | (with_reducible refine Kd.C_alloc ?_ _) | (with_reducible refine Kd.C_drewN ?_ _) | (with_reducible refine Kd.C_drew ?_))); (case side2 => exact HC1.out); rintro e w' ⟨rfl, ⟨nd, rfl⟩⟩; refine ⟨_, rfl, ?_⟩) | ((with_reducible refine gate_callee (f := 11) rfl ?_); refine goesL_ (some 14) rfl rfl Try.func11 (by kernel_rfl) rfl #[] rfl (by (try simp only [List.map_toArray, List.map_cons, List.map_nil]); first | done | rfl | (simp only [List.length_drop, List.length_take]; rfl)) ?_; (with_reducible refine (ringworklaw06_awake.calls k  t162 _ A33.out).mono ?_); rintro e w34 ⟨rfl, hb⟩; refine ⟨_, rfl, ?_⟩; have n0_ := Aside0.mk (below_step (by repeat (first | (with_reducible first | exact HB.out | apply below_alloc | apply pw_below_drewN | apply below_drew1) | exact HB.out)) hb); clear HB; have HB := n0_; clear n0_; (try clear hb); (try clear hb2); (try clear hk); (try clear hi)))
    go_ret
    exact ⟨by first | rfl | (simp [errW_none, errW_some] <;> rfl) | (simp [*, errW_none, errW_some] <;> rfl), by repeat (first | (with_reducible first | exact HB.out | apply below_alloc | apply pw_below_drewN | apply below_drew1) | exact HB.out)⟩

end Go.Proofs.Ytemglmcddaeedaa.PA

namespace Go.Proofs.Ytemglmcddaeedaa.PA
open Go.RowKit Go.Proofs.YtemglmcddaeedaaW.PrintWords Go.Proofs.YtemglmcddaeedaaW.PrintLast Go.Proofs.YtemglmcddaeedaaW.PrintMore
set_option linter.unusedVariables false
set_option linter.unusedSimpArgs false
/-! #### a []api.Cell argument, opened -/
open Go.ChangeShapes Go.WideShapes Go.ChangeAt Go.Deep
theorem mem_weightsAll {H : Type} {P : Program} {e : TypeId} {n : Nat} : ∀ {ds : List (DataW H)} {d : DataW H}, d ∈ ds → n ∈ d.weights P e → n ∈ DataW.weightsAll P e ds
  | d0 :: r, d, hd, hn => by
    simp only [DataW.weightsAll, List.mem_append]
    rcases List.mem_cons.1 hd with rfl | hd
    · exact .inl hn
    · exact .inr (mem_weightsAll hd hn)
theorem open_cells {H : Type} {enc : TypeId × Value → H} {W : World} {base : Nat} {a : Option Addr} {len cap : Nat} {d : DataW H} {ps : List MemPlace}
    (h : DataW.Trod enc Try.prog W base (fun _ => true) true 22 (.slice a len cap) d ps) (hw : ∀ x ∈ d.weights Try.prog 22, x ≤ reachBytes) :
    ∃ l : List S45, l.length = len ∧ len ≤ cap ∧ Kd.C k45 W a l.length l ∧ len ≤ maxLen ∧ ∀ c ∈ l, c.f1.size ≤ reachBytes := by
  obtain ⟨fuel, hf⟩ := h
  rcases open_slice_pairs Try.underlying22 Try.underlying45 (by kernel_rfl) rfl rfl (by kernel_rfl) (by kernel_rfl) hf with ⟨hcs, _⟩ | ⟨x, n1, n2, m, n, V0, V1, D0, D1, P0, P1, hcs, hb, hl, hm, hmm, hx, hi⟩
  · simp [Value.cells] at hcs
    obtain ⟨rfl, rfl, rfl⟩ := hcs
    exact ⟨[], rfl, Nat.le_refl 0, ⟨rfl, by simp, fun h => by simp at h⟩, by simp, by simp⟩
  · simp [Value.cells] at hcs
    obtain ⟨e1, e2, e3⟩ := hcs
    simp only [if_true] at hmm
    rw [hmm] at hi
    obtain ⟨hd, _⟩ := Prod.mk.inj hx
    rw [hd] at hw
    have hex : ∀ i, ∃ c : S45, i < n2 → V0 i = .int .i64 c.f0 ∧ V1 i = .string c.f1 ∧ D1 i = .lit (.string c.f1.data.toList) := by
      intro i
      by_cases hic : i < n2
      · obtain ⟨_, _, t0, t1⟩ := hi i hic
        obtain ⟨z, hz, _, _⟩ := DataW.trod_int Try.underlying3 t0
        obtain ⟨s, hs, hs2, hsz⟩ := DataW.trod_string Try.underlying9 t1
        simp only [List.cons.injEq, and_true] at hz hs
        exact ⟨⟨z, s⟩, fun _ => ⟨hz, hs, (Prod.mk.inj hs2).1⟩⟩
      · exact ⟨z45, fun h => absurd h hic⟩
    obtain ⟨f, hfc⟩ := Classical.axiomOfChoice hex
    rw [e1, e2, e3]
    refine ⟨(List.range n1).map f, by simp, hl, ⟨rfl, by simp; have := hm; unfold maxLen at this; omega, fun _ => ⟨x, rfl, ?_⟩⟩, Nat.le_trans hl hm, ?_⟩
    · intro j p hj
      have hjl : j < n1 := by
        have := (List.getElem?_eq_some_iff.1 hj).1
        simpa using this
      have hp : p = f j := by
        rw [List.getElem?_map, List.getElem?_range hjl] at hj
        exact (Option.some.inj hj).symm
      obtain ⟨c0, c1, _, _⟩ := hi j (by omega)
      obtain ⟨v0, v1, _⟩ := hfc j (by omega)
      refine ⟨[.int .i64 p.f0, .string p.f1], rfl, k45_mk W p, fun i u hu => ?_⟩
      rw [hp] at hu
      match i with
      | 0 =>
        simp only [List.getElem?_cons_zero, Option.some.injEq] at hu
        subst hu
        exact c0.trans (by rw [v0])
      | 1 =>
        simp only [List.getElem?_cons_succ, List.getElem?_cons_zero, Option.some.injEq] at hu
        subst hu
        exact c1.trans (by rw [v1])
      | i + 2 => simp at hu
    · intro c hc
      obtain ⟨j, hj, rfl⟩ := List.mem_map.1 hc
      have hj' := List.mem_range.1 hj
      have hd1 := (hfc j (by omega)).2.2
      have hlen : (f j).f1.size = (f j).f1.data.toList.length := by rw [Array.length_toList]; rfl
      rw [hlen]
      apply hw
      simp only [DataW.weights, Try.underlying22, List.mem_cons, List.mem_append]
      refine .inr (.inl (mem_weightsAll (d := .agg [D0 j, D1 j]) (List.mem_map.2 ⟨j, hj, rfl⟩) ?_))
      simp only [DataW.weights, Try.underlying45, List.map_cons, List.map_nil, DataW.weightsEach, List.mem_append]
      refine .inr (.inl ?_)
      rw [hd1]
      simp [DataW.weights]
theorem bytes_bound (l : List S45) (B : Nat) (h : ∀ c ∈ l, c.f1.size ≤ B) : bytesL l ≤ l.length * B := by
  induction l with
  | nil => simp [bytesL]
  | cons c r ih =>
    have h1 := h c (by simp)
    have h2 := ih (fun d hd => h d (by simp [hd]))
    rw [bytesL_cons, List.length_cons, Nat.succ_mul]
    omega

end Go.Proofs.Ytemglmcddaeedaa.PA

namespace Go.Proofs.Ytemglmcddaeedaa.PA
open Go.RowKit Go.Proofs.YtemglmcddaeedaaW.PrintWords Go.Proofs.YtemglmcddaeedaaW.PrintLast Go.Proofs.YtemglmcddaeedaaW.PrintMore
set_option linter.unusedVariables false
set_option linter.unusedSimpArgs false
/-! #### PageFills, the plain law -/
theorem wrap_add (a b : Int) : wrap64 (wrap64 a + b) = wrap64 (a + b) := by unfold wrap64; omega
theorem lawCells_l0 (l : List S45) (hl : l.length ≤ 9223372036854775807) (hb : l.length ≤ 60 → bytesL l ≤ 9000000000000000) : ∀ (k i : Nat), i ≤ l.length → l.length - i < k →
    ringworklaw06_Cells.l0 k l (wrap64 (bytesL (l.take i) : Int)) (i : Int) = some (decide (l.length ≤ 60 ∧ bytesL l ≤ 6000)) := by
  intro k
  induction k with
  | zero => intro i _ h; omega
  | succ k ih =>
    intro i hi hk
    rw [ringworklaw06_Cells.l0]
    by_cases hlt : i < l.length
    · have h1 := bytesL_take_succ l i hlt
      rw [if_pos (by omega), if_pos (by omega), rd_get l i hlt, w64 ((i : Int) + 1) (by omega) (by omega), show (i : Int) + 1 = ((i + 1 : Nat) : Int) by omega, wrap_add, show (bytesL (l.take i) : Int) + (l[i].f1.size : Int) = (bytesL (l.take (i + 1)) : Int) by omega]
      exact ih (i + 1) (by omega) (by omega)
    · rw [if_neg (by omega), List.take_of_length_le (by omega)]
      by_cases h6 : l.length ≤ 60
      · have := hb h6
        rw [if_pos (by omega), w64 _ (by omega) (by omega)]
        congr 1
        by_cases h7 : bytesL l ≤ 6000
        · rw [decide_eq_true (show (bytesL l : Int) ≤ 6000 by omega), decide_eq_true ⟨h6, h7⟩]
        · rw [decide_eq_false (show ¬ (bytesL l : Int) ≤ 6000 by omega), decide_eq_false (fun h => h7 h.2)]
      · rw [if_neg (by omega), decide_eq_false (fun h => h6 h.1)]
theorem lawCells_f (l : List S45) (hl : l.length ≤ 9223372036854775807) (hb : l.length ≤ 60 → bytesL l ≤ 9000000000000000) (k : Nat) (hk : l.length < k) :
    ringworklaw06_Cells.f k l = some (decide (l.length ≤ 60 ∧ bytesL l ≤ 6000)) := by
  have := lawCells_l0 l hl hb k 0 (by omega) (by omega)
  rw [show wrap64 (bytesL (l.take 0) : Int) = 0 by simp [bytesL, wrap64]] at this
  exact this
theorem same_l0 (l : List S45) (hl : l.length ≤ 9223372036854775807) : ∀ (k i : Nat), i ≤ l.length → l.length - i < k → ringworklaw06_same.l0 k l l (i : Int) = some true := by
  intro k
  induction k with
  | zero => intro i _ h; omega
  | succ k ih =>
    intro i hi hk
    rw [ringworklaw06_same.l0]
    by_cases hlt : i < l.length
    · rw [if_pos (by omega), if_pos (by omega), if_pos (by omega), if_neg (by simp), w64 _ (by omega) (by omega), show (i : Int) + 1 = ((i + 1 : Nat) : Int) by omega]
      exact ih (i + 1) (by omega) (by omega)
    · rw [if_neg (by omega)]
theorem same_f (l : List S45) (hl : l.length ≤ 9223372036854775807) (k : Nat) (hk : l.length < k) : ringworklaw06_same.f k l l = some true := by
  unfold ringworklaw06_same.f
  rw [if_pos rfl]
  exact same_l0 l hl k 0 (by omega) (by omega)
theorem awake_f (k : Nat) (hk : 1 < k) : ringworklaw06_awake.f k = some true := by
  unfold ringworklaw06_awake.f
  rw [Fill_f 32 _ (by simp) (by decide +kernel) k (by simpa using hk)]
  have e : fillS 32 [(⟨1, (⟨#[97, 98]⟩ : ByteArray)⟩ : S45)] = (⟨#[0, 1, 0, 30, 0, 2, 0, 0, 0, 0, 0, 0, 0, 0, 0, 0, 0, 0, 0, 0, 0, 0, 0, 0, 0, 0, 0, 0, 0, 0, 97, 98]⟩, 0) := by decide +kernel
  rw [e]
  simp only [Option.bind_some, toList_data]
  decide +kernel
theorem PageFills_pure (n : Int) (l : List S45) (hl : l.length ≤ 9223372036854775807) (hb : l.length ≤ 60 → bytesL l ≤ 9000000000000000) : ∃ k, ringworklaw06_PageFills.f k n l = some true := by
  refine ⟨2 * l.length + 10, ?_⟩
  unfold ringworklaw06_PageFills.f
  rw [lawCells_f l hl hb _ (by omega), Option.bind_some]
  by_cases hc : l.length ≤ 60 ∧ bytesL l ≤ 6000
  · rw [if_pos (decide_eq_true hc), New_f n _ (by omega), Option.bind_some, refNew_f, Option.bind_some, if_pos rfl]
    have hb' : bytesL l ≤ 1000000000000 := by omega
    rw [show 2 * l.length + 10 = (2 * l.length + 8) + 1 + 1 by omega, ringworklaw06_PageFills.j0, if_neg (by simp), Fill_f n l hl hb' _ (by omega), Option.bind_some, refFill_f n l hl hb' _ (by omega), Option.bind_some, if_pos rfl, ringworklaw06_PageFills.j1, if_neg (by simp)]
    by_cases hf : (fillS n l).2 = 0
    · obtain ⟨g1, g2, g3, g4⟩ := fill_good n l hf
      obtain ⟨v1, v2, v3⟩ := built_cells n l g1 g2 g3
      obtain ⟨s1, s2, s3⟩ := g2
      rw [if_pos hf, g4, Cells_f _ (by rw [v3]; omega), Option.bind_some, if_pos v1, if_pos rfl, v2, same_f l hl _ (by omega), Option.bind_some, if_pos rfl, awake_f _ (by omega)]
      rfl
    · rw [if_neg hf, awake_f _ (by omega)]
      rfl
  · rw [if_neg (by simpa using hc), awake_f _ (by omega)]
    rfl
theorem bound60 (l : List S45) (h : ∀ c ∈ l, c.f1.size ≤ reachBytes) (h6 : l.length ≤ 60) : bytesL l ≤ 9000000000000000 := by
  have h1 := bytes_bound l reachBytes h
  have h2 : l.length * reachBytes ≤ 60 * reachBytes := Nat.mul_le_mul_right _ h6
  have h3 : 60 * reachBytes ≤ 9000000000000000 := by decide
  omega
theorem PageFills_law (n : Int) (hn : (Lit.int .i64 n).wf = true) (l : List S45) (hm : l.length ≤ maxLen) (hb : ∀ c ∈ l, c.f1.size ≤ reachBytes) : ∃ k, ringworklaw06_PageFills.f k n l = some true :=
  PageFills_pure n l (by unfold maxLen at hm; omega) (bound60 l hb)

end Go.Proofs.Ytemglmcddaeedaa.PA

namespace Go.Proofs.Ytemglmcddaeedaa.PA
open Go.RowKit Go.Proofs.YtemglmcddaeedaaW.PrintWords Go.Proofs.YtemglmcddaeedaaW.PrintLast Go.Proofs.YtemglmcddaeedaaW.PrintMore
set_option linter.unusedVariables false
set_option linter.unusedSimpArgs false
/-! #### PageReads, the plain law -/
theorem reads_l0 (p : ByteArray) (l : List S45) (hl : l.length ≤ 100000) (K : Nat) (R : Option Bool)
    (hend : ∀ k, K < k → ((page_Free.f p).bind fun bt232 => ((ringworkref06_Free.f k p).bind fun bt234 => (if bt232.1 = bt234.1 then (ringworklaw06_PageReads.j5 k p (bt232.2 != bt234.2)) else (ringworklaw06_PageReads.j5 k p true)))) = some true) :
    ∀ (k i : Nat), i ≤ l.length → l.length - i + K + 1 < k → ringworklaw06_PageReads.l0 k p l (l.map (fun c => c.f0)) (i : Int) = some true := by
  intro k
  induction k with
  | zero => intro i _ h; omega
  | succ k ih =>
    intro i hi hk
    rw [ringworklaw06_PageReads.l0]
    by_cases hlt : i < l.length
    · rw [if_pos (by rw [List.length_map]; omega), if_pos (by omega), if_pos (by omega), rd_get l i hlt]
      have e : rd (l.map (fun c => c.f0)) (i : Int) = l[i].f0 := by
        simp only [rd, Int.toNat_natCast, List.getD_eq_getElem?_getD, List.getElem?_map, List.getElem?_eq_getElem hlt, Option.map_some, Option.getD_some]
      rw [if_pos e, w64 _ (by omega) (by omega), show (i : Int) + 1 = ((i + 1 : Nat) : Int) by omega]
      exact ih (i + 1) (by omega) (by omega)
    · rw [if_neg (by rw [List.length_map]; omega)]
      exact hend k (by omega)
theorem PageReads_pure (p : ByteArray) : ∃ k, ringworklaw06_PageReads.f k p = some true := by
  refine ⟨20000, ?_⟩
  unfold ringworklaw06_PageReads.f
  by_cases h42 : (p.size : Int) > 4200
  · rw [if_pos h42, awake_f _ (by omega)]
    rfl
  · have hs : p.size ≤ 100000 := by omega
    rw [if_neg h42, Wrong_f p hs, Option.bind_some, refWrong_f p hs _ (by omega), Option.bind_some, if_pos rfl, if_pos rfl, Valid_f p hs, Option.bind_some, refValid_f p hs _ (by omega), Option.bind_some]
    have hC := Cells_f p hs
    have hLn : page_Lines.f p = some (if validS p then (linesS p (twoS p 0).toNat, 0) else ([], 1)) := by unfold page_Lines.f; rw [if_pos hs]
    have hFr : page_Free.f p = some (if validS p then ((p.size : Int) - needsL (cellsS p (twoS p 0).toNat), 0) else (0, 1)) := by unfold page_Free.f; rw [if_pos hs]
    have hNx : page_Next.f p = some (if validS p then (if leastL (cellsS p (twoS p 0).toNat) > 200 then (0, 13) else (leastL (cellsS p (twoS p 0).toNat), 0)) else (0, 1)) := by unfold page_Next.f; rw [if_pos hs]
    rw [lines_map] at hLn
    have hj5 : ∀ k, 6000 < k → ringworklaw06_PageReads.j5 k p false = some true := by
      intro k hk
      obtain ⟨k, rfl⟩ : ∃ k', k = k' + 1 := ⟨k - 1, by omega⟩
      rw [ringworklaw06_PageReads.j5, if_neg (by simp), hNx, Option.bind_some, refNext_f p hs k (by omega), Option.bind_some, if_pos rfl, if_pos rfl, awake_f _ (by omega)]
      rfl
    have hend : ∀ k, 6000 < k → ((page_Free.f p).bind fun bt232 => ((ringworkref06_Free.f k p).bind fun bt234 => (if bt232.1 = bt234.1 then (ringworklaw06_PageReads.j5 k p (bt232.2 != bt234.2)) else (ringworklaw06_PageReads.j5 k p true)))) = some true := by
      intro k hk
      rw [hFr, Option.bind_some, refFree_f p hs k (by omega), Option.bind_some, if_pos rfl]
      simp only [bne_self_eq_false]
      exact hj5 k hk
    rw [show (20000 : Nat) = 19996 + 1 + 1 + 1 + 1 by rfl, ringworklaw06_PageReads.j0, if_neg (by simp), hC, Option.bind_some, refCells_f p hs _ (by omega), Option.bind_some, if_pos rfl]
    by_cases hv : validS p
    · obtain ⟨g1, g2, g3, g4⟩ := valid_reads p hv
      obtain ⟨q1, q2, q3, q4, q5, _⟩ := validS_spec p hv
      have hb := valid_built p hv
      have hl := cellsS_length p (twoS p 0).toNat
      rw [if_pos hv] at hLn
      simp only [if_pos hv]
      generalize cellsS p (twoS p 0).toNat = l at *
      have h0 := lastL_nonneg g1
      have hbb : bytesL l ≤ 1000000000000 := by unfold needsL at g2; omega
      have hfill : fillS (p.size : Int) l = (p, 0) := by
        unfold fillS
        rw [if_pos g1, if_pos (show sizeOk (p.size : Int) from ⟨by omega, by omega, by omega⟩), if_neg (by omega), Int.toNat_natCast, hb]
      rw [same_f l (by omega) _ (by omega), Option.bind_some, ringworklaw06_PageReads.j1, if_neg (by simp), if_pos rfl, Fill_f _ l (by omega) hbb _ (by omega), Option.bind_some, hfill, if_pos rfl, if_pos rfl, ringworklaw06_PageReads.j2, hLn, Option.bind_some, if_pos rfl, ringworklaw06_PageReads.j3, if_neg (by simp)]
      exact reads_l0 p l (by omega) 6000 (some true) hend _ 0 (by omega) (by omega)
    · rw [if_neg hv] at hLn
      simp only [if_neg hv]
      rw [same_f [] (by simp) _ (by simp), Option.bind_some, ringworklaw06_PageReads.j1, if_neg (by simp), if_neg (by simp), ringworklaw06_PageReads.j2, hLn, Option.bind_some, if_pos rfl, ringworklaw06_PageReads.j3, if_neg (by simp)]
      exact reads_l0 p [] (by simp) 6000 (some true) hend _ 0 (by simp) (by simp)
theorem PageReads_law (p : ByteArray) (h : p.size ≤ 140737488351232) : ∃ k, ringworklaw06_PageReads.f k p = some true := PageReads_pure p

end Go.Proofs.Ytemglmcddaeedaa.PA
