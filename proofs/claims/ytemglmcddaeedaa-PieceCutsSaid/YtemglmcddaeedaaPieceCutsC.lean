/- Part of the proof: For every key, number and data the law PieceCuts returns true and never panics: Cut is that of the document; the statement's own conditions and no others. -/
import Derived.Test.YtemglmcddaeedaaPieceCutsB
import Derived.ArgAppend
import Derived.Below
import Derived.BigQuiet
import Derived.ChangeOld
import Derived.Deep.AppendLies
import Derived.Deep.CutBlock
import Derived.Deep.DeepCutAuto
import Derived.Deep.Draws
import Derived.Deep.LoopGhost
import Derived.Deep.OwnRows
import Derived.Deep.QuietTactic
import Derived.Deep.RegionHeld3
import Derived.Deep.RegionLaw
import Derived.Deep.SlicePairs
import Derived.Defers
import Derived.DefersIn
import Derived.KernelRfl
import Derived.Laws.BitsLemmas
import Derived.Laws.BytesArg
import Derived.Laws.CopyOwn
import Derived.Laws.IdiomCopy
import Derived.Laws.MakeOwn
import Derived.Laws.OwnMore
import Derived.Laws.Rows
import Derived.Laws.Slices
import Derived.Lib.AppendStr
import Derived.Lib.AppendZerosOnto
import Derived.Lib.BufferWrite
import Derived.Lib.ConvBytes
import Derived.Lib.Hide
import Derived.Lib.Overlaps
import Derived.LoopIn
import Derived.LoopNIn
import Derived.Maps.AppendAt
import Derived.OpenShut
import Derived.OrdersHeld
import Derived.OwnWalk
import Derived.OwnWalkIn
import Derived.ProofKit
import Derived.RangeFuncBound
import Derived.RangeFuncCalls
import Derived.RangeFuncLeaves
import Derived.RangeFuncNested
import Derived.RangeFuncRecord
import Derived.Recover
import Derived.RecoverIn
import Derived.RowKit
import Derived.RowKit3
import Derived.Shelf.Abstract
import Derived.Shelf.RegionOpen
import Derived.ShutString
import Derived.SizedLaws
import Derived.StillTailTactics
import Derived.Tactics
import Derived.TacticsInMore
import Derived.Test.YtemglmcddaeedaaProg
import Derived.Test.YtemglmcddaeedaaRows
import Derived.Test.YtemglmcddaeedaaWApart
import Derived.Test.YtemglmcddaeedaaWArr
import Derived.Test.YtemglmcddaeedaaWAt
import Derived.Test.YtemglmcddaeedaaWEqStruct
import Derived.Test.YtemglmcddaeedaaWFoot
import Derived.Test.YtemglmcddaeedaaWFootNe
import Derived.Test.YtemglmcddaeedaaWFour
import Derived.Test.YtemglmcddaeedaaWGuard
import Derived.Test.YtemglmcddaeedaaWInv
import Derived.Test.YtemglmcddaeedaaWInvWords
import Derived.Test.YtemglmcddaeedaaWKept
import Derived.Test.YtemglmcddaeedaaWLast
import Derived.Test.YtemglmcddaeedaaWMore
import Derived.Test.YtemglmcddaeedaaWN
import Derived.Test.YtemglmcddaeedaaWNEv
import Derived.Test.YtemglmcddaeedaaWQPut
import Derived.Test.YtemglmcddaeedaaWRepsOne
import Derived.Test.YtemglmcddaeedaaWShare
import Derived.Test.YtemglmcddaeedaaWTab
import Derived.Test.YtemglmcddaeedaaWWords
import Derived.Test.YtemglmcddaeedaaWZeros
import Derived.WalkKit
import Derived.WalkLawsBesides
import Derived.WalkSpells
import Derived.WideLaws
namespace Go.Proofs.Ytemglmcddaeedaa.PA
open Go.RowKit Go.Proofs.YtemglmcddaeedaaW.PrintWords Go.Proofs.YtemglmcddaeedaaW.PrintLast Go.Proofs.YtemglmcddaeedaaW.PrintMore
attribute [local go_sem] max2_int min2_int max_two min_two max_three min_three max_four min_four   -- for this text's walks alone
set_option linter.unusedVariables false
set_option linter.unusedSimpArgs false

/-! ### heap_write: function 0 -/
set_option maxHeartbeats 2000000 in
set_option maxRecDepth 100000 in
theorem heap_write_ok {base h g r cap b n : Nat} {most : Int} (near : Nat) (k : Int) (data : ByteArray) (l : List ByteArray) (kk : Nat) (hl : piece_parts.f kk most data = some l) (hl2 : l.length ≤ 100000)
    (A : Nat → AreaS) (N : Nat → Int × Int) (F : Nat → ByteArray) (hN0 : N 0 = (0, 0))
    (hF : ∀ j, j < l.length → piece_framed.f k ((l.length - 1 - j : Nat) : Int) data.size (N j).1 (N j).2 (rdOf ByteArray.empty l ((l.length - 1 - j : Nat) : Int)) = some (F j))
    (hPut : ∀ j, j < l.length → ∀ W : World, AreaAt W base g (.slice (some ⟨r, 0, none⟩) n cap) (A j) → Calls Try.prog 74 #[.pointer (some ⟨g, 0, none⟩), .int .i64 (near : Int), .string (F j)] W fun e w' =>
      e = .returned (.tuple #[.agg #[.int .i64 (N (j + 1)).1, .int .i64 (N (j + 1)).2], .int .i64 0]) ∧ AreaAt w' base g (.slice (some ⟨r, 0, none⟩) n cap) (A (j + 1)) ∧ Keep2 W w' g (some r))
    (w : World) (H : HeapAt w base h g (.slice (some ⟨r, 0, none⟩) n cap) (A 0) most b) (hb : w.heap[b]? = some (.map #[] 0)) (hbase : base ≤ w.heap.size) (hbb : base ≤ b) :
    Calls Try.prog 120 #[.pointer (some ⟨h, 0, none⟩), .int .i64 (near : Int), .int .i64 k, .string data] w fun e w' => e = .returned (.int .i64 0) ∧
      HeapAt w' base h g (.slice (some ⟨r, 0, none⟩) n cap) (A l.length) most b ∧ w'.heap[b]? = some (.map #[⟨.int .i64 k, .agg #[.int .i64 (N l.length).1, .int .i64 (N l.length).2], 0⟩] 1) ∧ Below base w w' := by
  obtain ⟨q, hq⟩ : ∃ q, w.heap.size = q := ⟨_, rfl⟩
  obtain ⟨W, hW⟩ : ∃ W, ((w.alloc (.cells #[.pointer (some ⟨h, 0, none⟩)] 109)).alloc (.cells #[.int .i64 0] 28)).alloc (.cells #[.slice none 0 0] 113) = W := ⟨_, rfl⟩
  have hB : Below q w W := by rw [← hW, ← hq]; exact below_alloc (below_alloc (below_alloc (Below.refl _ w) _) _) _
  have k4 : W.heap[q]? = some (.cells #[.pointer (some ⟨h, 0, none⟩)] 109 (0, 0)) := by rw [← hW, ← hq]; exact blk_alloc (blk_alloc (blk_new _ _) _) _
  have k8 : W.heap[q + 1]? = some (.cells #[.int .i64 0] 28 (0, 0)) := by
    rw [← hW, ← hq]
    have := blk_new (w.alloc (.cells #[.pointer (some ⟨h, 0, none⟩)] 109)) (.cells #[.int .i64 0] 28)
    rw [World.size_alloc] at this
    exact blk_alloc this _
  have k9 : W.heap[q + 1 + 1]? = some (.cells #[.slice none 0 0] 113 (0, 0)) := by
    rw [← hW, ← hq]
    have := blk_new ((w.alloc (.cells #[.pointer (some ⟨h, 0, none⟩)] 109)).alloc (.cells #[.int .i64 0] 28)) (.cells #[.slice none 0 0] 113)
    rw [World.size_alloc, World.size_alloc] at this
    exact this
  have hHW := H.below (by rw [hq]; exact hB)
  have hbW : W.heap[b]? = some (.map #[] 0) := (hB.block b (by rw [← hq]; exact blk_lt hb)).trans hb
  have c4 := (blk_cell k4 0).trans rfl
  have c1 := (blk_cell hHW.blk 1).trans rfl
  have HL := Aside0.mk (piece_parts.calls kk most data l W hl)
  have HH := Aside0.mk (And.intro hHW (And.intro hbW (And.intro k4 (And.intro k8 (And.intro k9 hB)))))
  have HFF := Aside0.mk hF
  have HPP := Aside0.mk hPut
  have HN := Aside0.mk hN0
  have HQ := Aside0.mk hq
  rw [hq] at hbase
  have HBB := Aside0.mk (And.intro hbase hbb)
  clear hbase hbb
  have HGR := Aside0.mk (show g < q ∧ r < q by
    rw [← hq]
    refine ⟨blk_lt H.area.blk, ?_⟩
    rcases H.area.row with ⟨h0, _⟩ | ⟨r', cap', sp, h1, _, _, _, _, h6⟩
    · cases h0
    · cases h1; exact blk_lt h6)
  clear hF hPut hN0 H hb hHW hbW k4 k8 k9 hB
  go_enter_defers Try.func120, Try.ntmps120
  go_wp2_with fail
  refine HL.out.mono ?_
  rintro e w1 ⟨v1, rfl, hR, hb1⟩
  have hRow := row_of_sR hR
  have hq3 : W.heap.size = q + 3 := by rw [← hW, ← hq]; simp only [World.size_alloc]
  rw [hq3] at hRow hb1
  obtain ⟨A1, cp, rfl, hcp, _⟩ := Kd.R_reads hR
  obtain ⟨q11, hq11⟩ : ∃ q11, w1.heap.size = q11 := ⟨_, rfl⟩
  obtain ⟨W2, hW2⟩ : ∃ W2, w1.alloc (.cells #[.int .i64 0, .int .i64 0] 93) = W2 := ⟨_, rfl⟩
  have hb2 : Below w1.heap.size w1 W2 := by rw [← hW2]; exact below_alloc (Below.refl _ w1) _
  have hb3 : Below W.heap.size W W2 := by rw [hq3]; exact below_then hb1 (by have := hb1.size; omega) hb2
  have hWA : WriteAt w W2 base h g r cap b n q q11 (.slice A1 l.length cp) most l (A 0) (0, 0) 0 := by
    obtain ⟨e1, e2, e3, e4, e5, e6⟩ := HH.out
    exact ⟨e1.below hb3, (hb3.block b (blk_lt e2)).trans e2, (hb3.block q (blk_lt e3)).trans e3, (hb3.block _ (blk_lt e4)).trans e4,
      ⟨_, [], (hb3.block _ (blk_lt e5)).trans e5, RowK.nil _ _ _, rfl⟩, by rw [← hW2, ← hq11]; exact blk_new _ _, hRow.below hb2, by rw [← hq11]; have := hb1.size; omega, HGR.out.1, HGR.out.2, HBB.out.1, by
        have h9 : Below base w W := ⟨e6.os, e6.tape, e6.output, e6.size, fun k hk => e6.block k (by have := HBB.out.1; omega)⟩
        exact below_then h9 (by rw [hq3]; have := HBB.out.1; omega) hb3⟩
  have HWA := Aside0.mk hWA
  have HB2 := Aside0.mk hb3
  clear hWA hb3 hb2 hb1 hRow hR HL c4 c1 hW hq
  have HW2 := Aside0.mk (And.intro hW2 hq11)
  clear hW2 hq11
  have e0 : IntKind.i64.wrap ((l.length : Int) - 1) = (l.length : Int) - 1 := IntWalk.i64_in _ (by omega)
  go_wp2_with fail
  simp only [HW2.out.1, HW2.out.2]
  go_loopw [12] (fun v12 wr => ∃ j : Nat, j ≤ l.length ∧ v12 = .int .i64 ((l.length : Int) - 1 - j) ∧ Aside0 (WriteAt w wr base h g r cap b n q q11 (.slice A1 l.length cp) most l (A j) (N j) j)) (fun v12 _ => (intOf v12 + 1).toNat)
  case atStart => exact ⟨0, by omega, by simp, by rw [HN.out]; exact HWA⟩
  case round =>
    clear HWA HB2 HH HW2 hq3
    obtain ⟨j, hj, rfl, HI⟩ := hrel
    by_cases hlt : j < l.length
    · have hd : decide ((0 : Int) ≤ (l.length : Int) - 1 - j) = true := decide_eq_true (by omega)
      obtain ⟨m, hm⟩ : ∃ m : Nat, (l.length : Int) - 1 - j = m := ⟨l.length - 1 - j, by omega⟩
      have hmN : m = l.length - 1 - j := by omega
      have hmL : m < l.length := by omega
      rw [hm] at hd
      simp only [hm]
      obtain ⟨X, hX⟩ : ∃ X, rdOf ByteArray.empty l (m : Int) = X := ⟨_, rfl⟩
      have HFJ := Aside0.mk (show piece_framed.f k (m : Int) data.size (N j).1 (N j).2 X = some (F j) by have := HFF.out j hlt; rw [← hmN, hX] at this; exact this)
      have HPJ := Aside0.mk (HPP.out j hlt)
      obtain ⟨rp, hA1, hcell⟩ : ∃ rp, A1 = some ⟨rp, 0, none⟩ ∧ ∀ V : World, ∀ a x, WriteAt w V base h g r cap b n q q11 (.slice A1 l.length cp) most l a x j → V.cell? ⟨rp, m, none⟩ = some (.string X) := by
        rcases HI.out.parts with ⟨h0, h1⟩ | ⟨rp, cap', sp, h1, _, _, _, _, h6⟩
        · rw [h1] at hlt; exact absurd hlt (Nat.not_lt_zero _)
        · cases h1
          refine ⟨rp, rfl, fun V a x HV => ?_⟩
          rcases HV.parts with ⟨h0, _⟩ | ⟨rp2, cap2, sp2, h1, _, _, _, _, h6⟩
          · cases h0
          · cases h1
            rw [blk_cell h6]
            simp only [List.getElem?_toArray]
            rw [List.getElem?_append_left (by rw [encs_len sEnc_len]; omega)]
            have := encs_get (enc := sEnc) sEnc_len l m 0 hmL (by decide)
            rw [Nat.mul_one, Nat.add_zero] at this
            rw [this, ← hX]
            unfold rdOf
            rw [Int.toNat_natCast, List.getD_eq_getElem?_getD, List.getElem?_eq_getElem hmL]; rfl
      subst hA1
      have hm0 : (0 : Int) ≤ m := by omega
      have hm1 : (m : Int) < l.length := by omega
      have HS := Aside0.mk (show ∀ (V : World) (a : AreaS), WriteAt w V base h g r cap b n q q11 (.slice (some ⟨rp, 0, none⟩) l.length cp) most l a (N j) j → V.cell? ⟨q, 0, none⟩ = some (.pointer (some ⟨h, 0, none⟩)) ∧ V.cell? ⟨h, 0, none⟩ = some (.pointer (some ⟨g, 0, none⟩)) ∧ V.cell? ⟨q11, 0, none⟩ = some (.int .i64 (N j).1) ∧ V.cell? ⟨q11, 1, none⟩ = some (.int .i64 (N j).2) ∧ V.cell? ⟨rp, m, none⟩ = some (.string X) from fun V a HV =>
        ⟨(blk_cell HV.box 0).trans rfl, (blk_cell HV.heap.blk 0).trans rfl, (blk_cell HV.next 0).trans rfl, (blk_cell HV.next 1).trans rfl, hcell V a _ HV⟩)
      have HMN := Aside0.mk (And.intro hm hmN)
      clear hcell hX hm hmN
      go_wp2_with fail
      refine wp_hide ?_
      intro Q HQ
      refine wp_region_noPanic ?_
      refine wp_region_held_drew (S := fun V : World => V.cell? ⟨q, 0, none⟩ = some (.pointer (some ⟨h, 0, none⟩)) ∧ V.cell? ⟨h, 0, none⟩ = some (.pointer (some ⟨g, 0, none⟩)) ∧ V.cell? ⟨q11, 0, none⟩ = some (.int .i64 (N j).1) ∧ V.cell? ⟨q11, 1, none⟩ = some (.int .i64 (N j).2) ∧ V.cell? ⟨rp, m, none⟩ = some (.string X)) (by kernel_rfl) (HS.out wr (A j) HI.out) (fun hS => ?_)
      have HD := Aside0.mk (HI.out.below (below_drew (Below.refl _ wr)))
      obtain ⟨U0, hV⟩ : ∃ V, wr.drew = V := ⟨_, rfl⟩
      rw [hV] at HD hS ⊢
      clear hV HI
      have HGU := Aside0.mk (show g < U0.heap.size ∧ r < U0.heap.size from ⟨Nat.lt_trans HD.out.gq (blk_lt HD.out.box), Nat.lt_trans HD.out.rq (blk_lt HD.out.box)⟩)
      have HSX := Aside0.mk (fun (X : World) (a : AreaS) (hk : Keep2 U0 X g (some r)) (hA : AreaAt X base g (.slice (some ⟨r, 0, none⟩) n cap) a) => HS.out X a (HD.out.put hk hA))
      have HK := Aside0.mk (Keep2.refl U0 g (some r))
      have HA := Aside0.mk HD.out.heap.area
      have HT := Aside0.mk (show ∀ (V : World) (p : Nat), U0.heap.size ≤ p → Keep2 U0 V g (some r) → AreaAt V base g (.slice (some ⟨r, 0, none⟩) n cap) (A (j + 1)) → V.heap[p]? = some (.cells #[.int .i64 (N (j + 1)).1, .int .i64 (N (j + 1)).2] 93 (0, 0)) →
          Q .normal { tmps := #[.pointer (some ⟨h, 0, none⟩), .int .i64 (near : Int), .int .i64 k, .string data, .pointer (some ⟨q, 0, none⟩), undef, undef, undef, .pointer (some ⟨q + 1, 0, none⟩), .pointer (some ⟨q + 1 + 1, 0, none⟩), .slice (some ⟨rp, 0, none⟩) l.length cp, .pointer (some ⟨q11, 0, none⟩), .int .i64 (m : Int), .pointer (some ⟨p, 0, none⟩), .int .i64 0, .func (.func 131) #[] #[.pointer (some ⟨q + 1, 0, none⟩), .pointer (some ⟨q + 1 + 1, 0, none⟩), .pointer (some ⟨q, 0, none⟩)], .pointer (some ⟨h, 0, none⟩), .pointer (some ⟨h, 0, none⟩), .pointer (some ⟨h, 0, none⟩), .pointer (some ⟨h, 1, none⟩), .int .i64 most, .string data, .slice (some ⟨rp, 0, none⟩) l.length cp, .agg #[.int .i64 0, .int .i64 0], .slice (some ⟨rp, 0, none⟩) l.length cp, .int .i64 l.length, .int .i64 ((l.length : Int) - 1), .int .i64 (m : Int), .bool true, u29, u30, .tuple #[.agg #[.int .i64 (N (j + 1)).1, .int .i64 (N (j + 1)).2], .int .i64 0], .pointer (some ⟨h, 0, none⟩), .pointer (some ⟨h, 0, none⟩), .pointer (some ⟨h, 0, none⟩), .pointer (some ⟨h, 0, none⟩), .pointer (some ⟨g, 0, none⟩), .int .i64 (near : Int), .int .i64 k, .int .i64 (m : Int), .string data, .int .i64 (data.size : Int), .agg #[.int .i64 (N j).1, .int .i64 (N j).2], .slice (some ⟨rp, 0, none⟩) l.length cp, .int .i64 (m : Int), .pointer (some ⟨rp, m, none⟩), .string X, .string (F j), .tuple #[.agg #[.int .i64 (N (j + 1)).1, .int .i64 (N (j + 1)).2], .int .i64 0], .agg #[.int .i64 (N (j + 1)).1, .int .i64 (N (j + 1)).2], .int .i64 0, u51, u52, u53, u54, u55, u56, u57, u58, undef, undef, undef, undef, undef, undef, undef], defers := [{ target := .fn (.func 131) #[.pointer (some ⟨q + 1, 0, none⟩), .pointer (some ⟨q + 1 + 1, 0, none⟩), .pointer (some ⟨q, 0, none⟩)], args := #[] }] } V by
        intro V p hp n1 n2 n3
        refine HQ.out _ _ _ ?_
        have hW := HD.out.put n1 n2
        obtain ⟨v9, d9, e1, e2, e3⟩ := hW.done
        obtain ⟨y1, y2, hy⟩ : ∃ y1 y2, N (j + 1) = (y1, y2) := ⟨_, _, rfl⟩
        have hpq : q11 < p := Nat.lt_of_lt_of_le (blk_lt HD.out.next) hp
        have hown := row_own e2
        have hU := n1.size
        have hown2 : some p ≠ v9.ownBlock := fun e => by
          rcases HD.out.done with ⟨v9', d9', k1, k2, k3⟩
          have h9 : V.heap[q + 1 + 1]? = U0.heap[q + 1 + 1]? := n1.block _ (blk_lt k1) (by have := HD.out.gq; omega) (by intro e; cases e; have := HD.out.rq; omega)
          rw [h9, k1] at e1
          injection (Option.some.inj e1) with h10 _ _
          have h11 : v9' = v9 := by simpa using h10
          rw [← h11] at e
          have := blk_lt (row_own k2 p e).2.choose_spec
          omega
        simp only [hy] at n3 ⊢
        have c0 := (blk_cell n3 0).trans rfl
        have c1 := (blk_cell n3 1).trans rfl
        have c9 := (blk_cell e1 0).trans rfl
        have hbw := below_alloc (Below.refl V.heap.size V) (.cells (aEnc (y1, y2)).toArray 93)
        have H0 := Aside0.mk (aR_of_row (e2.below hbw))
        have HR := Aside0.mk (a_reads (base := q11 + 1) (fun k => some k ≠ v9.ownBlock) (y1, y2) (blk_new V (.cells (aEnc (y1, y2)).toArray 93)))
        have hsz : (V.alloc (.cells (aEnc (y1, y2)).toArray 93)).heap.size = V.heap.size + 1 := World.size_alloc _ _
        have HB := Aside0.mk (show q11 + 1 ≤ (V.alloc (.cells (aEnc (y1, y2)).toArray 93)).heap.size by rw [hsz]; have := blk_lt n3; omega)
        have HX := Aside0.mk (show ∀ w1 : World, (V.alloc (.cells (aEnc (y1, y2)).toArray 93)).grownBy w1 v9.ownBlock → ∀ i, i < V.heap.size → some i ≠ v9.ownBlock → w1.heap[i]? = V.heap[i]? from fun w1 h3 i hi hn => by
          obtain ⟨_, _, _, _, hblk⟩ := h3
          exact (hblk i (by rw [hsz]; omega) hn).trans (hbw.block i hi))
        have HK9 := Aside0.mk (show ∀ w1 : World, (V.alloc (.cells (aEnc (y1, y2)).toArray 93)).grownBy w1 v9.ownBlock → w1.heap[q + 1 + 1]? = some (.cells #[v9] 113 (0, 0)) from fun w1 h3 =>
          (HX.out w1 h3 _ (blk_lt e1) (fun e => by have := (hown _ e).1; have := hW.far; omega)).trans e1)
        have HQ1 := Aside0.mk (show ∀ (w1 : World) (v1 : Value), (V.alloc (.cells (aEnc (y1, y2)).toArray 93)).grownBy w1 v9.ownBlock → (w1.setCell ⟨q + 1 + 1, 0, none⟩ v1).heap[p]? = some (.cells #[.int .i64 y1, .int .i64 y2] 93 (0, 0)) from fun w1 v1 h3 =>
          (Below.heap_setCell _ _ _ _ (by have := hW.far; simp only; omega)).trans ((HX.out w1 h3 _ (blk_lt n3) hown2).trans n3))
        have HQ2 := Aside0.mk (show ∀ (w1 : World) (v1 : Value), (V.alloc (.cells (aEnc (y1, y2)).toArray 93)).grownBy w1 v9.ownBlock → (w1.setCell ⟨q + 1 + 1, 0, none⟩ v1).heap[q11]? = some (.cells #[.int .i64 (N j).1, .int .i64 (N j).2] 93 (0, 0)) from fun w1 v1 h3 =>
          (Below.heap_setCell _ _ _ _ (by have := hW.far; simp only; omega)).trans ((HX.out w1 h3 q11 (blk_lt hW.next) (fun e => by have := (hown _ e).1; omega)).trans hW.next))
        have HE := Aside0.mk (And.intro hW (And.intro e1 (And.intro e2 (And.intro e3 (And.intro n3 (And.intro hpq (And.intro hown2 hown)))))))
        have HL := Aside0.mk hl2
        have hm2 : IntKind.i64.wrap ((m : Int) - 1) = (m : Int) - 1 := IntWalk.i64_in _ (by omega)
        obtain ⟨A9, cp9, rfl, hcp9, _⟩ := Kd.R_reads H0.out
        clear HK HA HS HSX hS HGU hW e1 e2 e3 n1 n2 n3 hown hown2 hbw hsz hU hpq HQ HD HPJ HFJ
        go_wp2_with (at_builtin; go_loud (refine Kd.R_append_rows kA (q11 + 1) rfl (.tmp 54) (.tmp 56) 113 93 (.agg #[.int .i64 0, .int .i64 0]) 16 rfl Try.underlying113 (by kernel_rfl) rfl (by decide) (by decide) _ d9 [(y1, y2)] _ 1 1 (fun _ => True) _ rfl rfl H0.out HR.out (fun _ _ h => h) (fun k h => ⟨trivial, h⟩) (fun _ _ => trivial) (Below.refl _ _) HB.out (by have := HE.out.2.2.2.1; have := HL.out; omega) ?_); intro v1 w1 h1 h2 h3 h4; obtain ⟨A2, cp2, rfl, hcp2, _⟩ := Kd.R_reads h1; have k9 := HK9.out w1 h3; have f9 := blk_frozen k9 0; have g9 := (blk_cell k9 0).trans rfl; have q1 := HQ1.out w1 (.slice A2 (d9.length + 1) cp2) h3; have q2 := HQ2.out w1 (.slice A2 (d9.length + 1) cp2) h3; have b0 := (blk_cell q1 0).trans rfl; have b1 := (blk_cell q1 1).trans rfl; have b2 := blk_frozen q2 0; have b3 := blk_frozen q2 1; have b4 := (blk_cell q2 0).trans rfl; have b5 := (blk_cell q2 1).trans rfl)
        go_roundw
        · refine ⟨_, _, _, _, _, _, _, _, _, _, _, _, _, _, _, _, _, _, _, _, _, _, _, _, _, _, _, _, _, _, _, _, _, _, _, ⟨j + 1, by omega, ?_, Aside0.mk ?_⟩, rfl⟩
          · have := HMN.out.1
            congr 1
            omega
          · have hd1 : ∀ i : Nat, i ≠ q + 1 + 1 → i ≠ q11 → (((w1.setCell ⟨q + 1 + 1, 0, none⟩ (.slice A2 (d9.length + 1) cp2)).setCell ⟨q11, 0, none⟩ (.int .i64 y1)).setCell ⟨q11, 1, none⟩ (.int .i64 y2)).heap[i]? = w1.heap[i]? := fun i h1 h2 =>
              ((Below.heap_setCell _ _ _ i h2).trans (Below.heap_setCell _ _ _ i h2)).trans (Below.heap_setCell _ _ _ i h1)
            have hq11 : q + 1 + 1 ≠ q11 := by have := HE.out.1.far; omega
            have hrow := row_of_aR h1
            simp only [List.length_append, List.length_cons, List.length_nil, Nat.zero_add] at hrow
            rw [hy]
            refine WriteAt.round (y := (y1, y2)) HE.out.1 HE.out.2.1 HE.out.2.2.1 (fun i h5 h6 h7 h8 => (hd1 i h5 h6).trans (HX.out w1 h3 i h8 h7)) (blk_far (blk_far (blk_set (HK9.out w1 h3) 0 (.slice A2 (d9.length + 1) cp2)) hq11 _) hq11 _)
              (hrow.behind (fun i hi hl => hd1 i (by have := HE.out.1.far; omega) (by omega))) (by rw [List.length_append, HE.out.2.2.2.1]; rfl) (blk_set (blk_set q2 0 _) 1 _) (((((HE.out.1.low.alloc (Nat.le_trans HE.out.1.bq (Nat.le_of_lt (blk_lt HE.out.1.box))) _).trans (h2.mono (by have := HE.out.1.bq; have := HE.out.1.far; omega))).setCell (by have := HE.out.1.bq; have := HE.out.1.far; simp only; omega) _).setCell (by have := HE.out.1.bq; have := HE.out.1.far; simp only; omega) _).setCell (by have := HE.out.1.bq; have := HE.out.1.far; simp only; omega) _)
        · simp [intOf])
      clear HQ
      refine wpAnyH_take (i := 0) (v := (.pointer (some ⟨h, 0, none⟩))) rfl (by kernel_rfl) (by kernel_rfl) (by kernel_rfl) (fun _ _ _ h => h) (Or.inl ⟨by rfl, by intro w hSw; (try dsimp only at hSw); obtain ⟨s1, s2, s3, s4, s5⟩ := hSw; first | (go_simp; done) | (go_simp; with_reducible rfl)⟩) hS ?_
      simp only [Act.put, List.setIfInBounds_toArray, List.set_cons_zero, List.set_cons_succ]
      refine wpAnyH_take (i := 1) (v := (.pointer (some ⟨h, 0, none⟩))) rfl (by kernel_rfl) (by kernel_rfl) (by kernel_rfl) (fun _ _ _ h => h) (Or.inl ⟨by rfl, by intro w hSw; (try dsimp only at hSw); obtain ⟨s1, s2, s3, s4, s5⟩ := hSw; first | (go_simp; done) | (go_simp; with_reducible rfl)⟩) hS ?_
      simp only [Act.put, List.setIfInBounds_toArray, List.set_cons_zero, List.set_cons_succ]
      refine wpAnyH_take (i := 2) (v := (.pointer (some ⟨h, 0, none⟩))) rfl (by kernel_rfl) (by kernel_rfl) (by kernel_rfl) (fun _ _ _ h => h) (Or.inl ⟨by rfl, by intro w hSw; (try dsimp only at hSw); obtain ⟨s1, s2, s3, s4, s5⟩ := hSw; first | (go_simp; done) | (go_simp; with_reducible rfl)⟩) hS ?_
      simp only [Act.put, List.setIfInBounds_toArray, List.set_cons_zero, List.set_cons_succ]
      refine wpAnyH_take (i := 3) (v := (.pointer (some ⟨h, 0, none⟩))) rfl (by kernel_rfl) (by kernel_rfl) (by kernel_rfl) (fun _ _ _ h => h) (Or.inl ⟨by rfl, by intro w hSw; (try dsimp only at hSw); obtain ⟨s1, s2, s3, s4, s5⟩ := hSw; first | (go_simp; done) | (go_simp; with_reducible rfl)⟩) hS ?_
      simp only [Act.put, List.setIfInBounds_toArray, List.set_cons_zero, List.set_cons_succ]
      refine wpAnyH_take (i := 4) (v := (.pointer (some ⟨g, 0, none⟩))) rfl (by kernel_rfl) (by kernel_rfl) (by kernel_rfl) (fun _ _ _ h => h) (Or.inl ⟨by rfl, by intro w hSw; (try dsimp only at hSw); obtain ⟨s1, s2, s3, s4, s5⟩ := hSw; first | (go_simp; done) | (go_simp; with_reducible rfl)⟩) hS ?_
      simp only [Act.put, List.setIfInBounds_toArray, List.set_cons_zero, List.set_cons_succ]
      refine wpAnyH_take (i := 5) (v := (.int .i64 (near : Int))) rfl (by kernel_rfl) (by kernel_rfl) (by kernel_rfl) (fun _ _ _ h => h) (Or.inl ⟨by rfl, by intro w hSw; (try dsimp only at hSw); obtain ⟨s1, s2, s3, s4, s5⟩ := hSw; first | (go_simp; done) | (go_simp; with_reducible rfl)⟩) hS ?_
      simp only [Act.put, List.setIfInBounds_toArray, List.set_cons_zero, List.set_cons_succ]
      refine wpAnyH_take (i := 6) (v := (.int .i64 k)) rfl (by kernel_rfl) (by kernel_rfl) (by kernel_rfl) (fun _ _ _ h => h) (Or.inl ⟨by rfl, by intro w hSw; (try dsimp only at hSw); obtain ⟨s1, s2, s3, s4, s5⟩ := hSw; first | (go_simp; done) | (go_simp; with_reducible rfl)⟩) hS ?_
      simp only [Act.put, List.setIfInBounds_toArray, List.set_cons_zero, List.set_cons_succ]
      refine wpAnyH_take (i := 7) (v := (.int .i64 (m : Int))) rfl (by kernel_rfl) (by kernel_rfl) (by kernel_rfl) (fun _ _ _ h => h) (Or.inl ⟨by rfl, by intro w hSw; (try dsimp only at hSw); obtain ⟨s1, s2, s3, s4, s5⟩ := hSw; first | (go_simp; done) | (go_simp; with_reducible rfl)⟩) hS ?_
      simp only [Act.put, List.setIfInBounds_toArray, List.set_cons_zero, List.set_cons_succ]
      refine wpAnyH_take (i := 8) (v := (.string data)) rfl (by kernel_rfl) (by kernel_rfl) (by kernel_rfl) (fun _ _ _ h => h) (Or.inl ⟨by rfl, by intro w hSw; (try dsimp only at hSw); obtain ⟨s1, s2, s3, s4, s5⟩ := hSw; first | (go_simp; done) | (go_simp; with_reducible rfl)⟩) hS ?_
      simp only [Act.put, List.setIfInBounds_toArray, List.set_cons_zero, List.set_cons_succ]
      refine wpAnyH_take (i := 9) (v := (.int .i64 (data.size : Int))) rfl (by kernel_rfl) (by kernel_rfl) (by kernel_rfl) (fun _ _ _ h => h) (Or.inl ⟨by rfl, by intro w hSw; (try dsimp only at hSw); obtain ⟨s1, s2, s3, s4, s5⟩ := hSw; first | (go_simp; done) | (go_simp; with_reducible rfl)⟩) hS ?_
      simp only [Act.put, List.setIfInBounds_toArray, List.set_cons_zero, List.set_cons_succ]
      refine wpAnyH_take (i := 10) (v := (.agg #[.int .i64 (N j).1, .int .i64 (N j).2])) rfl (by kernel_rfl) (by kernel_rfl) (by kernel_rfl) (fun _ _ _ h => h) (Or.inl ⟨by rfl, by intro w hSw; (try dsimp only at hSw); obtain ⟨s1, s2, s3, s4, s5⟩ := hSw; first | (go_simp; done) | (go_simp; with_reducible rfl)⟩) hS ?_
      simp only [Act.put, List.setIfInBounds_toArray, List.set_cons_zero, List.set_cons_succ]
      refine wpAnyH_take (i := 11) (v := (.slice (some ⟨rp, 0, none⟩) l.length cp)) rfl (by kernel_rfl) (by kernel_rfl) (by kernel_rfl) (fun _ _ _ h => h) (Or.inl ⟨by rfl, by intro w hSw; (try dsimp only at hSw); obtain ⟨s1, s2, s3, s4, s5⟩ := hSw; first | (go_simp; done) | (go_simp; with_reducible rfl)⟩) hS ?_
      simp only [Act.put, List.setIfInBounds_toArray, List.set_cons_zero, List.set_cons_succ]
      refine wpAnyH_take (i := 12) (v := (.int .i64 (m : Int))) rfl (by kernel_rfl) (by kernel_rfl) (by kernel_rfl) (fun _ _ _ h => h) (Or.inl ⟨by rfl, by intro w hSw; (try dsimp only at hSw); obtain ⟨s1, s2, s3, s4, s5⟩ := hSw; first | (go_simp; done) | (go_simp; with_reducible rfl)⟩) hS ?_
      simp only [Act.put, List.setIfInBounds_toArray, List.set_cons_zero, List.set_cons_succ]
      refine wpAnyH_take (i := 13) (v := (.pointer (some ⟨rp, m, none⟩))) rfl (by kernel_rfl) (by kernel_rfl) (by kernel_rfl) (fun _ _ _ h => h) (Or.inl ⟨by rfl, by intro w hSw; (try dsimp only at hSw); obtain ⟨s1, s2, s3, s4, s5⟩ := hSw; first | (go_simp; done) | (go_simp; with_reducible rfl)⟩) hS ?_
      simp only [Act.put, List.setIfInBounds_toArray, List.set_cons_zero, List.set_cons_succ]
      refine wpAnyH_take (i := 14) (v := (.string X)) rfl (by kernel_rfl) (by kernel_rfl) (by kernel_rfl) (fun _ _ _ h => h) (Or.inl ⟨by rfl, by intro w hSw; (try dsimp only at hSw); obtain ⟨s1, s2, s3, s4, s5⟩ := hSw; first | (go_simp; done) | (go_simp; with_reducible rfl)⟩) hS ?_
      simp only [Act.put, List.setIfInBounds_toArray, List.set_cons_zero, List.set_cons_succ]
      refine wpAnyH_ready (rs := [15, 20]) (by kernel_rfl) (by simp) ?_
      refine AllReadyH.cons rfl (fun K hK => ?_) (AllReadyH.cons rfl (fun K hK => ?_) AllReadyH.nil)
      · go_simp
        refine (piece_framed.calls _ _ _ _ _ _ (F j) _ HFJ.out).mono ?_
        rintro e V1 ⟨rfl, hb⟩
        have HK2 := Aside0.mk (HK.out.trans (Keep2.of_below hb g (some r)) (.inl rfl))
        have HA2 := Aside0.mk (HA.out.below hb)
        refine hK.out _ _ (HSX.out V1 (A j) HK2.out HA2.out) (fun hS2 => ?_)
        clear hb hK K hS HK HA
        have HK := HK2
        have HA := HA2
        have hS := hS2
        clear HK2 HA2 hS2
        try simp only [Act.put, List.setIfInBounds_toArray, List.set_cons_zero, List.set_cons_succ]
        refine wpAnyH_ready (rs := [16, 20]) (by kernel_rfl) (by simp) ?_
        refine AllReadyH.cons rfl (fun K hK => ?_) (AllReadyH.cons rfl (fun K hK => ?_) AllReadyH.nil)
        · go_simp
          refine (HPJ.out _ HA.out).mono ?_
          rintro e V2 ⟨rfl, hA, hk⟩
          have HK2 := Aside0.mk (HK.out.trans hk (.inl rfl))
          have HA2 := Aside0.mk hA
          refine hK.out _ _ (HSX.out V2 (A (j + 1)) HK2.out HA2.out) (fun hS2 => ?_)
          clear hA hk hK K hS HK HA
          have HK := HK2
          have HA := HA2
          have hS := hS2
          clear HK2 HA2 hS2
          try simp only [Act.put, List.setIfInBounds_toArray, List.set_cons_zero, List.set_cons_succ]
          refine wpAnyH_take (i := 17) (v := (.tuple #[(.agg #[.int .i64 (N (j + 1)).1, .int .i64 (N (j + 1)).2]), .int .i64 0])) rfl (by kernel_rfl) (by kernel_rfl) (by kernel_rfl) (fun _ _ _ h => h) (Or.inl ⟨by rfl, by intro w hSw; (try dsimp only at hSw); obtain ⟨s1, s2, s3, s4, s5⟩ := hSw; first | (go_simp; done) | (go_simp; with_reducible rfl)⟩) hS ?_
          simp only [Act.put, List.setIfInBounds_toArray, List.set_cons_zero, List.set_cons_succ]
          refine wpAnyH_take (i := 18) (v := (.agg #[.int .i64 (N (j + 1)).1, .int .i64 (N (j + 1)).2])) rfl (by kernel_rfl) (by kernel_rfl) (by kernel_rfl) (fun _ _ _ h => h) (Or.inl ⟨by rfl, by intro w hSw; (try dsimp only at hSw); obtain ⟨s1, s2, s3, s4, s5⟩ := hSw; first | (go_simp; done) | (go_simp; with_reducible rfl)⟩) hS ?_
          simp only [Act.put, List.setIfInBounds_toArray, List.set_cons_zero, List.set_cons_succ]
          refine wpAnyH_take (i := 19) (v := (.int .i64 0)) rfl (by kernel_rfl) (by kernel_rfl) (by kernel_rfl) (fun _ _ _ h => h) (Or.inl ⟨by rfl, by intro w hSw; (try dsimp only at hSw); obtain ⟨s1, s2, s3, s4, s5⟩ := hSw; first | (go_simp; done) | (go_simp; with_reducible rfl)⟩) hS ?_
          simp only [Act.put, List.setIfInBounds_toArray, List.set_cons_zero, List.set_cons_succ]
          refine wpAnyH_ready (rs := [20]) (by kernel_rfl) (by simp) ?_
          refine AllReadyH.cons rfl (fun K hK => ?_) AllReadyH.nil
          go_simp
          obtain ⟨p, hp⟩ : ∃ p, (V2).heap.size = p := ⟨_, rfl⟩
          obtain ⟨V3, hV3⟩ : ∃ V', (V2).alloc (.cells #[.int .i64 0, .int .i64 0] 93) = V' := ⟨_, rfl⟩
          have hbN := blk_new (V2) (.cells #[.int .i64 0, .int .i64 0] 93)
          have hbA : Below (V2).heap.size (V2) V3 := by rw [← hV3]; exact below_alloc (Below.refl _ _) _
          rw [hV3, hp] at hbN
          have PG := Aside0.mk (show U0.heap.size ≤ p by rw [← hp]; exact HK.out.size)
          simp only [hp, hV3]
          have HK2 := Aside0.mk (HK.out.trans (Keep2.of_below hbA g (some r)) (.inl rfl))
          have HA2 := Aside0.mk (HA.out.below hbA)
          have PB2 := Aside0.mk hbN
          clear hV3 hp hbN hbA
          refine hK.out _ _ (HSX.out V3 (A (j + 1)) HK2.out HA2.out) (fun hS2 => ?_)
          clear  hK K hS HK HA
          have HK := HK2
          have HA := HA2
          have hS := hS2
          clear HK2 HA2 hS2
          have PB := PB2
          clear PB2
          try simp only [Act.put, List.setIfInBounds_toArray, List.set_cons_zero, List.set_cons_succ]
          refine wpAnyH_ready (rs := [21]) (by kernel_rfl) (by simp) ?_
          refine AllReadyH.cons rfl (fun K hK => ?_) AllReadyH.nil
          have c0 := (blk_cell PB.out 0).trans rfl
          have c1 := (blk_cell PB.out 1).trans rfl
          have f0 := blk_frozen PB.out 0
          have f1 := blk_frozen PB.out 1
          obtain ⟨n1, n2, n3⟩ := wStore HK.out HA.out PG.out PB.out (.int .i64 (N (j + 1)).1) (.int .i64 (N (j + 1)).2)
          go_simp
          (try simp only [add_plain])
          refine hK.out _ _ (HSX.out _ (A (j + 1)) n1 n2) (fun hS2 => ?_)
          clear c0 c1 f0 f1 hK K hS HK HA PB
          have hS := hS2
          clear hS2
          try simp only [Act.put, List.setIfInBounds_toArray, List.set_cons_zero, List.set_cons_succ]
          refine wpAnyH_take (i := 22) (v := (.int .i64 0)) rfl (by kernel_rfl) (by kernel_rfl) (by kernel_rfl) (fun _ _ _ h => h) (Or.inl ⟨by rfl, by intro w hSw; (try dsimp only at hSw); obtain ⟨s1, s2, s3, s4, s5⟩ := hSw; first | (go_simp; done) | (go_simp; with_reducible rfl)⟩) hS ?_
          simp only [Act.put, List.setIfInBounds_toArray, List.set_cons_zero, List.set_cons_succ]
          refine wpAnyH_done (by kernel_rfl) ?_ _
          exact HT.out _ p PG.out n1 n2 n3
        · go_simp
          obtain ⟨p, hp⟩ : ∃ p, (V1).heap.size = p := ⟨_, rfl⟩
          obtain ⟨V2, hV2⟩ : ∃ V', (V1).alloc (.cells #[.int .i64 0, .int .i64 0] 93) = V' := ⟨_, rfl⟩
          have hbN := blk_new (V1) (.cells #[.int .i64 0, .int .i64 0] 93)
          have hbA : Below (V1).heap.size (V1) V2 := by rw [← hV2]; exact below_alloc (Below.refl _ _) _
          rw [hV2, hp] at hbN
          have PG := Aside0.mk (show U0.heap.size ≤ p by rw [← hp]; exact HK.out.size)
          simp only [hp, hV2]
          have HK2 := Aside0.mk (HK.out.trans (Keep2.of_below hbA g (some r)) (.inl rfl))
          have HA2 := Aside0.mk (HA.out.below hbA)
          have PB2 := Aside0.mk hbN
          clear hV2 hp hbN hbA
          refine hK.out _ _ (HSX.out V2 (A j) HK2.out HA2.out) (fun hS2 => ?_)
          clear  hK K hS HK HA
          have HK := HK2
          have HA := HA2
          have hS := hS2
          clear HK2 HA2 hS2
          have PB := PB2
          clear PB2
          try simp only [Act.put, List.setIfInBounds_toArray, List.set_cons_zero, List.set_cons_succ]
          refine wpAnyH_ready (rs := [16]) (by kernel_rfl) (by simp) ?_
          refine AllReadyH.cons rfl (fun K hK => ?_) AllReadyH.nil
          go_simp
          refine (HPJ.out _ HA.out).mono ?_
          rintro e V3 ⟨rfl, hA, hk⟩
          have HK2 := Aside0.mk (HK.out.trans hk (.inl rfl))
          have HA2 := Aside0.mk hA
          have PB2 := Aside0.mk ((hk.block _ (blk_lt PB.out) (by have := HGU.out.1; have := PG.out; omega) (by intro e; cases e; have := HGU.out.2; have := PG.out; omega)).trans PB.out)
          refine hK.out _ _ (HSX.out V3 (A (j + 1)) HK2.out HA2.out) (fun hS2 => ?_)
          clear hA hk hK K hS HK HA PB
          have HK := HK2
          have HA := HA2
          have hS := hS2
          clear HK2 HA2 hS2
          have PB := PB2
          clear PB2
          try simp only [Act.put, List.setIfInBounds_toArray, List.set_cons_zero, List.set_cons_succ]
          refine wpAnyH_take (i := 17) (v := (.tuple #[(.agg #[.int .i64 (N (j + 1)).1, .int .i64 (N (j + 1)).2]), .int .i64 0])) rfl (by kernel_rfl) (by kernel_rfl) (by kernel_rfl) (fun _ _ _ h => h) (Or.inl ⟨by rfl, by intro w hSw; (try dsimp only at hSw); obtain ⟨s1, s2, s3, s4, s5⟩ := hSw; first | (go_simp; done) | (go_simp; with_reducible rfl)⟩) hS ?_
          simp only [Act.put, List.setIfInBounds_toArray, List.set_cons_zero, List.set_cons_succ]
          refine wpAnyH_take (i := 18) (v := (.agg #[.int .i64 (N (j + 1)).1, .int .i64 (N (j + 1)).2])) rfl (by kernel_rfl) (by kernel_rfl) (by kernel_rfl) (fun _ _ _ h => h) (Or.inl ⟨by rfl, by intro w hSw; (try dsimp only at hSw); obtain ⟨s1, s2, s3, s4, s5⟩ := hSw; first | (go_simp; done) | (go_simp; with_reducible rfl)⟩) hS ?_
          simp only [Act.put, List.setIfInBounds_toArray, List.set_cons_zero, List.set_cons_succ]
          refine wpAnyH_take (i := 19) (v := (.int .i64 0)) rfl (by kernel_rfl) (by kernel_rfl) (by kernel_rfl) (fun _ _ _ h => h) (Or.inl ⟨by rfl, by intro w hSw; (try dsimp only at hSw); obtain ⟨s1, s2, s3, s4, s5⟩ := hSw; first | (go_simp; done) | (go_simp; with_reducible rfl)⟩) hS ?_
          simp only [Act.put, List.setIfInBounds_toArray, List.set_cons_zero, List.set_cons_succ]
          refine wpAnyH_ready (rs := [21]) (by kernel_rfl) (by simp) ?_
          refine AllReadyH.cons rfl (fun K hK => ?_) AllReadyH.nil
          have c0 := (blk_cell PB.out 0).trans rfl
          have c1 := (blk_cell PB.out 1).trans rfl
          have f0 := blk_frozen PB.out 0
          have f1 := blk_frozen PB.out 1
          obtain ⟨n1, n2, n3⟩ := wStore HK.out HA.out PG.out PB.out (.int .i64 (N (j + 1)).1) (.int .i64 (N (j + 1)).2)
          go_simp
          (try simp only [add_plain])
          refine hK.out _ _ (HSX.out _ (A (j + 1)) n1 n2) (fun hS2 => ?_)
          clear c0 c1 f0 f1 hK K hS HK HA PB
          have hS := hS2
          clear hS2
          try simp only [Act.put, List.setIfInBounds_toArray, List.set_cons_zero, List.set_cons_succ]
          refine wpAnyH_take (i := 22) (v := (.int .i64 0)) rfl (by kernel_rfl) (by kernel_rfl) (by kernel_rfl) (fun _ _ _ h => h) (Or.inl ⟨by rfl, by intro w hSw; (try dsimp only at hSw); obtain ⟨s1, s2, s3, s4, s5⟩ := hSw; first | (go_simp; done) | (go_simp; with_reducible rfl)⟩) hS ?_
          simp only [Act.put, List.setIfInBounds_toArray, List.set_cons_zero, List.set_cons_succ]
          refine wpAnyH_done (by kernel_rfl) ?_ _
          exact HT.out _ p PG.out n1 n2 n3
      · go_simp
        obtain ⟨p, hp⟩ : ∃ p, (U0).heap.size = p := ⟨_, rfl⟩
        obtain ⟨V1, hV1⟩ : ∃ V', (U0).alloc (.cells #[.int .i64 0, .int .i64 0] 93) = V' := ⟨_, rfl⟩
        have hbN := blk_new (U0) (.cells #[.int .i64 0, .int .i64 0] 93)
        have hbA : Below (U0).heap.size (U0) V1 := by rw [← hV1]; exact below_alloc (Below.refl _ _) _
        rw [hV1, hp] at hbN
        have PG := Aside0.mk (show U0.heap.size ≤ p by rw [← hp]; exact HK.out.size)
        simp only [hp, hV1]
        have HK2 := Aside0.mk (HK.out.trans (Keep2.of_below hbA g (some r)) (.inl rfl))
        have HA2 := Aside0.mk (HA.out.below hbA)
        have PB2 := Aside0.mk hbN
        clear hV1 hp hbN hbA
        refine hK.out _ _ (HSX.out V1 (A j) HK2.out HA2.out) (fun hS2 => ?_)
        clear  hK K hS HK HA
        have HK := HK2
        have HA := HA2
        have hS := hS2
        clear HK2 HA2 hS2
        have PB := PB2
        clear PB2
        try simp only [Act.put, List.setIfInBounds_toArray, List.set_cons_zero, List.set_cons_succ]
        refine wpAnyH_ready (rs := [15]) (by kernel_rfl) (by simp) ?_
        refine AllReadyH.cons rfl (fun K hK => ?_) AllReadyH.nil
        go_simp
        refine (piece_framed.calls _ _ _ _ _ _ (F j) _ HFJ.out).mono ?_
        rintro e V2 ⟨rfl, hb⟩
        have HK2 := Aside0.mk (HK.out.trans (Keep2.of_below hb g (some r)) (.inl rfl))
        have HA2 := Aside0.mk (HA.out.below hb)
        have PB2 := Aside0.mk ((hb.block _ (blk_lt PB.out)).trans PB.out)
        refine hK.out _ _ (HSX.out V2 (A j) HK2.out HA2.out) (fun hS2 => ?_)
        clear hb hK K hS HK HA PB
        have HK := HK2
        have HA := HA2
        have hS := hS2
        clear HK2 HA2 hS2
        have PB := PB2
        clear PB2
        try simp only [Act.put, List.setIfInBounds_toArray, List.set_cons_zero, List.set_cons_succ]
        refine wpAnyH_ready (rs := [16]) (by kernel_rfl) (by simp) ?_
        refine AllReadyH.cons rfl (fun K hK => ?_) AllReadyH.nil
        go_simp
        refine (HPJ.out _ HA.out).mono ?_
        rintro e V3 ⟨rfl, hA, hk⟩
        have HK2 := Aside0.mk (HK.out.trans hk (.inl rfl))
        have HA2 := Aside0.mk hA
        have PB2 := Aside0.mk ((hk.block _ (blk_lt PB.out) (by have := HGU.out.1; have := PG.out; omega) (by intro e; cases e; have := HGU.out.2; have := PG.out; omega)).trans PB.out)
        refine hK.out _ _ (HSX.out V3 (A (j + 1)) HK2.out HA2.out) (fun hS2 => ?_)
        clear hA hk hK K hS HK HA PB
        have HK := HK2
        have HA := HA2
        have hS := hS2
        clear HK2 HA2 hS2
        have PB := PB2
        clear PB2
        try simp only [Act.put, List.setIfInBounds_toArray, List.set_cons_zero, List.set_cons_succ]
        refine wpAnyH_take (i := 17) (v := (.tuple #[(.agg #[.int .i64 (N (j + 1)).1, .int .i64 (N (j + 1)).2]), .int .i64 0])) rfl (by kernel_rfl) (by kernel_rfl) (by kernel_rfl) (fun _ _ _ h => h) (Or.inl ⟨by rfl, by intro w hSw; (try dsimp only at hSw); obtain ⟨s1, s2, s3, s4, s5⟩ := hSw; first | (go_simp; done) | (go_simp; with_reducible rfl)⟩) hS ?_
        simp only [Act.put, List.setIfInBounds_toArray, List.set_cons_zero, List.set_cons_succ]
        refine wpAnyH_take (i := 18) (v := (.agg #[.int .i64 (N (j + 1)).1, .int .i64 (N (j + 1)).2])) rfl (by kernel_rfl) (by kernel_rfl) (by kernel_rfl) (fun _ _ _ h => h) (Or.inl ⟨by rfl, by intro w hSw; (try dsimp only at hSw); obtain ⟨s1, s2, s3, s4, s5⟩ := hSw; first | (go_simp; done) | (go_simp; with_reducible rfl)⟩) hS ?_
        simp only [Act.put, List.setIfInBounds_toArray, List.set_cons_zero, List.set_cons_succ]
        refine wpAnyH_take (i := 19) (v := (.int .i64 0)) rfl (by kernel_rfl) (by kernel_rfl) (by kernel_rfl) (fun _ _ _ h => h) (Or.inl ⟨by rfl, by intro w hSw; (try dsimp only at hSw); obtain ⟨s1, s2, s3, s4, s5⟩ := hSw; first | (go_simp; done) | (go_simp; with_reducible rfl)⟩) hS ?_
        simp only [Act.put, List.setIfInBounds_toArray, List.set_cons_zero, List.set_cons_succ]
        refine wpAnyH_ready (rs := [21]) (by kernel_rfl) (by simp) ?_
        refine AllReadyH.cons rfl (fun K hK => ?_) AllReadyH.nil
        have c0 := (blk_cell PB.out 0).trans rfl
        have c1 := (blk_cell PB.out 1).trans rfl
        have f0 := blk_frozen PB.out 0
        have f1 := blk_frozen PB.out 1
        obtain ⟨n1, n2, n3⟩ := wStore HK.out HA.out PG.out PB.out (.int .i64 (N (j + 1)).1) (.int .i64 (N (j + 1)).2)
        go_simp
        (try simp only [add_plain])
        refine hK.out _ _ (HSX.out _ (A (j + 1)) n1 n2) (fun hS2 => ?_)
        clear c0 c1 f0 f1 hK K hS HK HA PB
        have hS := hS2
        clear hS2
        try simp only [Act.put, List.setIfInBounds_toArray, List.set_cons_zero, List.set_cons_succ]
        refine wpAnyH_take (i := 22) (v := (.int .i64 0)) rfl (by kernel_rfl) (by kernel_rfl) (by kernel_rfl) (fun _ _ _ h => h) (Or.inl ⟨by rfl, by intro w hSw; (try dsimp only at hSw); obtain ⟨s1, s2, s3, s4, s5⟩ := hSw; first | (go_simp; done) | (go_simp; with_reducible rfl)⟩) hS ?_
        simp only [Act.put, List.setIfInBounds_toArray, List.set_cons_zero, List.set_cons_succ]
        refine wpAnyH_done (by kernel_rfl) ?_ _
        exact HT.out _ p PG.out n1 n2 n3
    · obtain rfl : j = l.length := by omega
      have hd : decide ((0 : Int) ≤ (l.length : Int) - 1 - l.length) = false := decide_eq_false (by omega)
      have c4 := (blk_cell HI.out.box 0).trans rfl
      have c2 := (blk_cell HI.out.heap.blk 2).trans rfl
      have n0 := (blk_cell HI.out.next 0).trans rfl
      have n1 := (blk_cell HI.out.next 1).trans rfl
      have c8 := (blk_cell HI.out.err 0).trans rfl
      have f8 := blk_frozen HI.out.err 0
      go_wp2_with fail
      go_still_tail 7, (by kernel_rfl)
      obtain ⟨V, hV⟩ : ∃ V : World, ({ heap := wr.heap, tape := wr.tape, drawn := wr.drawn + 1, os := wr.os, output := wr.output } : World) = V := ⟨_, rfl⟩
      have hVh : V.heap = wr.heap := by rw [← hV]
      rw [hV]
      have hup := update_first k (N l.length).1 (N l.length).2 b 0 V (by rw [hVh]; exact HI.out.map)
      obtain ⟨V2, hV2⟩ : ∃ V2 : World, ({ V with heap := V.heap.setIfInBounds b (.map #[{ key := .int .i64 k, val := .agg #[.int .i64 (N l.length).1, .int .i64 (N l.length).2], born := 0 }] (0 + 1)) } : World) = V2 := ⟨_, rfl⟩
      rw [hV2] at hup
      have hkeep : ∀ i : Nat, i ≠ b → V2.heap[i]? = wr.heap[i]? := by
        intro i hi
        rw [← hV2, ← hVh]
        exact Array.getElem?_setIfInBounds_ne (Ne.symm hi)
      have hnew : V2.heap[b]? = some (.map #[⟨.int .i64 k, .agg #[.int .i64 (N l.length).1, .int .i64 (N l.length).2], 0⟩] 1) := by
        rw [← hV2]
        exact Array.getElem?_setIfInBounds_self_of_lt (by rw [hVh]; exact blk_lt HI.out.map)
      have hne : ∀ (i : Nat) (cs : Array Value) (e : TypeId), wr.heap[i]? = some (.cells cs e (0, 0)) → i ≠ b := by
        intro i cs e h e2
        rw [e2, HI.out.map] at h
        cases h
      have HHK := Aside0.mk (And.intro hkeep (And.intro hnew hne))
      have k8 := (hkeep _ (hne _ _ _ HI.out.err)).trans HI.out.err
      have c9 := (blk_cell k8 0).trans rfl
      have f9 := blk_frozen k8 0
      clear hkeep hnew hne hVh c4 c2 n0 n1 c8 f8
      go_wp2_with fail
      have k9 := blk_set k8 0 (.int .i64 0)
      obtain ⟨V3, hV3⟩ : ∃ V3, V2.setCell ⟨q + 1, 0, none⟩ (.int .i64 0) = V3 := ⟨_, rfl⟩
      have hk3 : ∀ i : Nat, i ≠ b → i ≠ q + 1 → V3.heap[i]? = wr.heap[i]? := by
        intro i hi hi2
        rw [← hV3]
        exact (Below.heap_setCell V2 ⟨q + 1, 0, none⟩ (.int .i64 0) i hi2).trans (HHK.out.1 i hi)
      have hb3 : V3.heap[b]? = some (.map #[⟨.int .i64 k, .agg #[.int .i64 (N l.length).1, .int .i64 (N l.length).2], 0⟩] 1) := by
        rw [← hV3]
        exact (Below.heap_setCell V2 ⟨q + 1, 0, none⟩ (.int .i64 0) b (fun e => HHK.out.2.2 _ _ _ HI.out.err e.symm)).trans HHK.out.2.1
      have hs : ∀ (i : Nat) (cs : Array Value), wr.heap[i]? = some (.cells cs 9 (0, 0)) → V3.heap[i]? = wr.heap[i]? := by
        intro i cs h0
        refine hk3 i (HHK.out.2.2 _ _ _ h0) (fun e => ?_)
        rw [e, HI.out.err] at h0
        cases h0
      have hg : V3.heap[g]? = wr.heap[g]? := by
        have h0 := HI.out.heap.area.blk
        refine hk3 g (HHK.out.2.2 _ _ _ h0) (fun e => ?_)
        rw [e, HI.out.err] at h0
        injection (Option.some.inj h0) with _ h2 _
        exact absurd h2 (by decide)
      have hh : V3.heap[h]? = wr.heap[h]? := by
        have h0 := HI.out.heap.blk
        refine hk3 h (HHK.out.2.2 _ _ _ h0) (fun e => ?_)
        rw [e, HI.out.err] at h0
        cases h0
      have hH3 : HeapAt V3 base h g (.slice (some ⟨r, 0, none⟩) n cap) (A l.length) most b := ⟨hh.trans HI.out.heap.blk, HI.out.heap.ge, HI.out.heap.area.move hg hs⟩
      have hL2 : Below base w V2 := by
        have h9 := HI.out.low
        have hd : Below base w V := by rw [← hV]; exact ⟨h9.os, h9.tape, h9.output, h9.size, h9.block⟩
        rw [← hV2]
        exact ⟨hd.os, hd.tape, hd.output, by simpa using hd.size, fun k hk => (Array.getElem?_setIfInBounds_ne (by have := HBB.out.2; omega)).trans (hd.block k hk)⟩
      have hL3 : Below base w V3 := by rw [← hV3]; exact hL2.setCell (by have := HBB.out.1; simp only; omega) _
      have HLZ := Aside0.mk (And.intro hL3 (show base ≤ V3.heap.size by have := blk_lt hb3; have := HBB.out.2; omega))
      rw [hV3] at k9 ⊢
      refine write_leaves (q + 1) (q + 1 + 1) q V3 k9 rfl (fun w' hbw => ?_)
      exact ⟨rfl, hH3.below hbw, (hbw.block b (blk_lt hb3)).trans hb3, below_then HLZ.out.1 HLZ.out.2 hbw⟩

end Go.Proofs.Ytemglmcddaeedaa.PA

namespace Go.Proofs.Ytemglmcddaeedaa.PA
open Go.RowKit Go.Proofs.YtemglmcddaeedaaW.PrintWords Go.Proofs.YtemglmcddaeedaaW.PrintLast Go.Proofs.YtemglmcddaeedaaW.PrintMore
attribute [local go_sem] max2_int min2_int max_two min_two max_three min_three max_four min_four   -- for this text's walks alone
set_option linter.unusedVariables false
set_option linter.unusedSimpArgs false

/-! ### heap_put: function 0 -/
set_option maxRecDepth 100000 in
theorem heap_Put_ok {base h g r cap b n : Nat} {most : Int} (near : Nat) (k : Int) (hk : 1 ≤ k ∧ k ≤ 1000000) (data : ByteArray) (hd : data.size ≤ 4000) (l : List ByteArray) (kk : Nat) (hl : piece_parts.f kk most data = some l) (hl2 : l.length ≤ 100000)
    (A : Nat → AreaS) (N : Nat → Int × Int) (F : Nat → ByteArray) (hN0 : N 0 = (0, 0)) (hnear : near < (A 0).pages.length) (hpages : (A 0).pages.length ≤ 200)
    (hF : ∀ j, j < l.length → piece_framed.f k ((l.length - 1 - j : Nat) : Int) data.size (N j).1 (N j).2 (rdOf ByteArray.empty l ((l.length - 1 - j : Nat) : Int)) = some (F j))
    (hPut : ∀ j, j < l.length → ∀ W : World, AreaAt W base g (.slice (some ⟨r, 0, none⟩) n cap) (A j) → Calls Try.prog 74 #[.pointer (some ⟨g, 0, none⟩), .int .i64 (near : Int), .string (F j)] W fun e w' =>
      e = .returned (.tuple #[.agg #[.int .i64 (N (j + 1)).1, .int .i64 (N (j + 1)).2], .int .i64 0]) ∧ AreaAt w' base g (.slice (some ⟨r, 0, none⟩) n cap) (A (j + 1)) ∧ Keep2 W w' g (some r))
    (w : World) (H : HeapAt w base h g (.slice (some ⟨r, 0, none⟩) n cap) (A 0) most b) (hb : w.heap[b]? = some (.map #[] 0)) (hbase : base ≤ w.heap.size) (hbb : base ≤ b) :
    Calls Try.prog 89 #[.pointer (some ⟨h, 0, none⟩), .int .i64 (near : Int), .int .i64 k, .string data] w fun e w' => e = .returned (.int .i64 0) ∧
      HeapAt w' base h g (.slice (some ⟨r, 0, none⟩) n cap) (A l.length) most b ∧ w'.heap[b]? = some (.map #[⟨.int .i64 k, .agg #[.int .i64 (N l.length).1, .int .i64 (N l.length).2], 0⟩] 1) ∧ Below base w w' := by
  have HWR := Aside0.mk (fun (w : World) (H : HeapAt w base h g (.slice (some ⟨r, 0, none⟩) n cap) (A 0) most b) (hb : w.heap[b]? = some (.map #[] 0)) (hbase : base ≤ w.heap.size) => heap_write_ok near k data l kk hl hl2 A N F hN0 hF hPut w H hb hbase hbb)
  have HK := Aside0.mk (key_ok k hk)
  have HH := Aside0.mk (And.intro H (And.intro hb (And.intro hbase hbb)))
  have HPG := Aside0.mk (show 0 < (A 0).pages.length by omega)
  obtain ⟨P, hP⟩ : ∃ P, (A 0).pages.length = P := ⟨_, rfl⟩
  rw [hP] at hnear hpages
  have HP := Aside0.mk hP
  have d1 : decide ((4000 : Int) < data.size) = false := decide_eq_false (by omega)
  have d2 : decide ((near : Int) < 0) = false := decide_eq_false (by omega)
  have d3 : decide ((P : Int) ≤ near) = false := decide_eq_false (by omega)
  clear hl hl2 hN0 hF hPut H hb hbase hbb hk hd hP
  go_enter Try.func89, Try.ntmps89
  go_wp2_with fail
  refine (piece_key.calls k true w HK.out).mono ?_
  rintro e w1 ⟨rfl, ⟨nd, hw⟩⟩
  have HB1 := Aside0.mk (show Below w.heap.size w w1 by rw [hw]; exact pw_below_drewN (Below.refl _ w) nd)
  have HH1 := Aside0.mk (HH.out.1.below HB1.out)
  clear hw
  go_wp2_with fail
  refine (heap_Pages w1 HH1.out HPG.out).mono ?_
  rw [HP.out]
  rintro e w2 ⟨rfl, hb2⟩
  have HB2 := Aside0.mk (below_then HB1.out HB1.out.size hb2)
  have HH2 := Aside0.mk (HH1.out.below hb2)
  have hm2 : w2.heap[b]? = some (.map #[] 0) := (HB2.out.block b (blk_lt HH.out.2.1)).trans HH.out.2.1
  have hlk := look_none k b 0 w2 hm2
  have c2 := (blk_cell HH2.out.blk 2).trans rfl
  obtain ⟨W3, hW3⟩ : ∃ W3, w2.alloc (.cells #[.int .i64 0, .int .i64 0] 93) = W3 := ⟨_, rfl⟩
  have hb3 : Below w2.heap.size w2 W3 := by rw [← hW3]; exact below_alloc (Below.refl _ _) _
  have HB3 := Aside0.mk (below_then HB2.out HB2.out.size hb3)
  have HH3 := Aside0.mk (And.intro (HH2.out.below hb3) ((hb3.block b (blk_lt hm2)).trans hm2))
  have HW3 := Aside0.mk hW3
  clear hb2 hb3 hm2 HH1 HH2 HB1 HB2 hW3
  go_wp2_with fail
  (try simp only [HW3.out])
  refine (HWR.out W3 HH3.out.1 HH3.out.2 (Nat.le_trans HH.out.2.2.1 HB3.out.size)).mono ?_
  rintro e w4 ⟨rfl, hA4, hm4, hb4⟩
  have HE := Aside0.mk (And.intro hA4 (And.intro hm4 ((HB3.out.mono HH.out.2.2.1).trans hb4)))
  clear hA4 hm4 hb4
  go_wp2_with fail
  go_ret
  exact ⟨rfl, HE.out⟩

end Go.Proofs.Ytemglmcddaeedaa.PA

namespace Go.Proofs.Ytemglmcddaeedaa.PA
open Go.RowKit Go.Proofs.YtemglmcddaeedaaW.PrintWords Go.Proofs.YtemglmcddaeedaaW.PrintLast Go.Proofs.YtemglmcddaeedaaW.PrintMore
attribute [local go_sem] max2_int min2_int max_two min_two max_three min_three max_four min_four   -- for this text's walks alone
set_option linter.unusedVariables false
set_option linter.unusedSimpArgs false

/-! ### rff: function 0 -/
/-! #### a range over a function whose iterator has memory of its own -/
section
variable {P : Program}
/-- From W to W' only blocks of F and new blocks were written. -/
structure OwnF (F : Nat → Prop) (W W' : World) : Prop where
  os : W'.os = W.os
  tape : W'.tape = W.tape
  output : W'.output = W.output
  size : W.heap.size ≤ W'.heap.size
  block : ∀ k, k < W.heap.size → ¬ F k → W'.heap[k]? = W.heap[k]?
def growF (F : Nat → Prop) (W W' : World) : Nat → Prop := fun k => F k ∨ (W.heap.size ≤ k ∧ k < W'.heap.size)
/-- The blocks of F stay. -/
structure KeptF (F : Nat → Prop) (W W' : World) : Prop where
  size : W.heap.size ≤ W'.heap.size
  block : ∀ k, F k → k < W.heap.size → W'.heap[k]? = W.heap[k]?
theorem ownF_drewN (F : Nat → Prop) (W : World) (m : Nat) : OwnF F W (W.drewN m) := ⟨rfl, rfl, rfl, Nat.le_refl _, fun _ _ _ => rfl⟩
theorem ownF_below (F : Nat → Prop) {W W' : World} (h : Below W.heap.size W W') : OwnF F W W' := ⟨h.os, h.tape, h.output, h.size, fun k hk _ => h.block k hk⟩
theorem OwnF.trans {F : Nat → Prop} {W W1 W2 : World} (h : OwnF F W W1) (k : OwnF (growF F W W1) W1 W2) : OwnF F W W2 :=
  ⟨k.os.trans h.os, k.tape.trans h.tape, k.output.trans h.output, Nat.le_trans h.size k.size, fun i hi hF => (k.block i (Nat.lt_of_lt_of_le hi h.size) (fun hg => hg.elim hF (fun h9 => by omega))).trans (h.block i hi hF)⟩
theorem OwnF.set {F : Nat → Prop} {W W' : World} (h : OwnF F W W') {p : Addr} (hp : growF F W W' p.block) (v : Value) : OwnF F W (W'.setCell p v) :=
  ⟨h.os, h.tape, h.output, by simpa [World.setCell] using h.size, fun i hi hF => (Below.heap_setCell _ _ _ _ (fun e => by rw [← e] at hp; exact hp.elim hF (fun h9 => by omega))).trans (h.block i hi hF)⟩
theorem KeptF.trans {F : Nat → Prop} {W W1 W2 : World} (h : KeptF F W W1) (k : KeptF F W1 W2) : KeptF F W W2 :=
  ⟨Nat.le_trans h.size k.size, fun i hF hi => (k.block i hF (Nat.lt_of_lt_of_le hi h.size)).trans (h.block i hF hi)⟩
theorem keptF_below (F : Nat → Prop) {W W' : World} (h : Below W.heap.size W W') : KeptF F W W' := ⟨h.size, fun k _ hk => h.block k hk⟩
theorem keptF_putObj (F : Nat → Prop) (W : World) (l : Nat) (o : Obj) (hl : ¬ F l) : KeptF F W (W.putObj l o) :=
  ⟨by simp, fun k hF _ => World.putObj_heap_other (fun e => hl (by subst e; exact hF))⟩
theorem keptF_set (F : Nat → Prop) (W : World) (p : Addr) (v : Value) (hp : ¬ F p.block) : KeptF F W (W.setCell p v) :=
  ⟨by simp [World.setCell], fun k hF _ => Below.heap_setCell _ _ _ _ (fun e => hp (by rw [← e]; exact hF))⟩
/-- An iterator: it hands over xs in their order; between two rounds it writes only memory of its own. -/
def IterF (P : Program) (gf : Nat) (lb : Array Value) (np : Nat) (xs : List (Array Value)) (Kp : World → Prop) : Prop :=
  ∀ (l : Nat) (rec : Loop) (J : Nat → World → (Nat → Prop) → Prop) (R : Ending → World → Prop) (W : World), rec.params.size = np →
    (∀ i W W' F, J i W F → OwnF F W W' → J i W' (growF F W W')) → (∀ i W F, J i W F → Kp W) → (∀ i W F, J i W F → W.heap[l]? = some (.loop rec)) →
    (∀ e W m, R e W → R e (W.drewN m)) →
    (∀ i v W F, xs[i]? = some v → J i W F → RoundOf P l rec v W fun e W' =>
      (∃ go : Bool, e = .returned (.bool go) ∧ (go = true → J (i + 1) W' F ∧ KeptF F W W') ∧ (go = false → R (.returned unitV) W')) ∨ (∃ ch, e = .panicked ch ∧ R (.panicked ch) W')) →
    (∀ W F, J xs.length W F → R (.returned unitV) W) → J 0 W (fun _ => False) →
    CallsIn Fence.wide 0 P gf (#[.func (.yield l) #[] #[]] ++ lb) W R
variable {Q : Exit → Act → World → Prop} {a : Act} {w : World}
/-- The statement 'for .. := range g { .. }', at an outermost loop, for a frame of a function that there is. -/
theorem wpX_rangeF {g : Operand} {ps : Array Tmp} {assign body : Code} {gf : Nat} {lb : Array Value} {xs : List (Array Value)} {Kp : World → Prop}
    (hg : a.eval g = .func (.func gf) #[] lb) (eg : ∀ args w, (callFunc gf args).run P w = .ok (.enter gf args) w) (hit : IterF P gf lb ps.size xs Kp) (hsz : ∀ v ∈ xs, v.size = ps.size)
    (I : Nat → World → (Nat → Prop) → Prop) (A : Nat → Act → World → (Nat → Prop) → Prop) (Ix : Code → World → Prop) (Ip : List PanicEntry → World → Prop)
    (hI : ∀ i W F o o', I i W F → W.heap[w.heap.size + 1]? = some (.loop o') → I i (W.putObj (w.heap.size + 1) (.loop o)) F)
    (hA : ∀ i a₁ W F o o', A i a₁ W F → W.heap[w.heap.size + 1]? = some (.loop o') → A i a₁ (W.putObj (w.heap.size + 1) (.loop o)) F)
    (hIx : ∀ c W o o', Ix c W → W.heap[w.heap.size + 1]? = some (.loop o') → Ix c (W.putObj (w.heap.size + 1) (.loop o)))
    (hIs : ∀ i W W' F, I i W F → (∀ k, F k → w.heap.size + 2 ≤ k ∧ k < W.heap.size) → w.heap.size + 1 < W.heap.size → OwnF F W W' → I i W' (growF F W W')) (hIxd : ∀ c W m, Ix c W → Ix c (W.drewN m)) (hIpd : ∀ c W m, Ip c W → Ip c (W.drewN m))
    (hK : ∀ i W F, I i W F → Kp W)
    (h0 : ∀ rec, I 0 ((w.alloc (.deferred (some []))).alloc (.loop rec)) (fun _ => False))
    (hassign : ∀ i v W F, xs[i]? = some v → I i W F → (∀ k, F k → w.heap.size + 2 ≤ k ∧ k < W.heap.size) → w.heap.size + 1 < W.heap.size →
      assign.wpIn (Fence.wide.inRound (w.heap.size + 1)) 0 P (Exit.then (fun a₁ w₁ => A i a₁ w₁ F ∧ KeptF F W w₁ ∧ w₁.heap[w.heap.size + 1]? = W.heap[w.heap.size + 1]? ∧ w₁.heap[w.heap.size]? = W.heap[w.heap.size]?) (fun _ _ _ => False))
        { tmps := (ps.zip v).foldl (fun t (p, v) => t.setIfInBounds p v) a.tmps, defers := [] } W)
    (hbody : ∀ i v a₁ W F, xs[i]? = some v → A i a₁ W F → (∀ k, F k → w.heap.size + 2 ≤ k ∧ k < W.heap.size) → w.heap.size + 1 < W.heap.size →
      body.wpIn (Fence.wide.inRound (w.heap.size + 1)) 0 P (roundEnd (w.heap.size + 1) w.heap.size (fun W' => I (i + 1) W' F ∧ KeptF F W W') Ix Ip W) a₁ W)
    (hdone : ∀ W F, I xs.length W F → W.heap[w.heap.size]? = some (.deferred (some [])) → Q .normal { a with defers := { target := .collected w.heap.size, args := #[] } :: a.defers } W)
    (hstop : ∀ c W, Ix c W → W.heap[w.heap.size]? = some (.deferred (some [])) → wpX P c Q { a with defers := { target := .collected w.heap.size, args := #[] } :: a.defers } W)
    (hpanic : ∀ ch W, Ip ch W → W.heap[w.heap.size]? = some (.deferred (some [])) → Q (.panic ch) { a with defers := { target := .collected w.heap.size, args := #[] } :: a.defers } W) :
    wpX P (.rangeFunc g ps assign body) Q a w := by
  intro b k cs hro ⟨fnr, hfn⟩
  obtain ⟨rec, hrec⟩ : ∃ rec : LoopState → Option Code → Loop, rec = fun st pe => { state := st, pending := pe, fn := b.fn, tmps := a.tmps, params := ps, assign, body, defers := w.heap.size } := ⟨_, rfl⟩
  obtain ⟨W1, hW1⟩ : ∃ W1, (w.alloc (.deferred (some []))).alloc (.loop (rec .ready none)) = W1 := ⟨_, rfl⟩
  have hL1 : W1.heap[w.heap.size + 1]? = some (.loop (rec .ready none)) := by
    rw [← hW1]; have := World.alloc_heap_new (w.alloc (.deferred (some []))) (.loop (rec .ready none)); rwa [World.size_alloc] at this
  have hK1 : W1.heap[w.heap.size]? = some (.deferred (some [])) := by
    rw [← hW1]; exact (Below.heap_alloc _ _ _ (by simp)).trans (World.alloc_heap_new w _)
  have he : (Instr.enterLoop b.fn a.tmps ps assign body b.roundOf).run P w = .ok (w.heap.size + 1, [{ target := .collected w.heap.size, args := #[] }]) W1 := by
    rw [hro, ← hW1, hrec]; exact run_enterLoop_outer _ _ _ _ _
  have hres : (resolve a.eval (rangeCall g (w.heap.size + 1)) 0).run P W1 = .ok { target := .fn (.func gf) lb, args := #[.func (.yield (w.heap.size + 1)) #[] #[]] } W1 := by
    simp only [resolve, hg]
    simp [go_sem]
  have hinv : (invoke (Target.fn (.func gf) lb) #[.func (.yield (w.heap.size + 1)) #[] #[]]).run P W1 = .ok (.enter gf (#[.func (.yield (w.heap.size + 1)) #[] #[]] ++ lb)) W1 := by
    simp [invoke, go_sem, eg]
  have henter := stepR_rangeFunc (P := P) (b := b) (a := a) (k := k) (cs := cs) (w := w) he hres hinv
  have fin : ∀ (o : Loop) (W3 : World), W3.heap[w.heap.size + 1]? = some (.loop o) → W3.heap[w.heap.size]? = some (.deferred (some [])) → ∀ o',
      (W3.putObj (w.heap.size + 1) (.loop o')).heap[w.heap.size + 1]? = some (.loop o') ∧ (W3.putObj (w.heap.size + 1) (.loop o')).heap[w.heap.size]? = some (.deferred (some [])) := fun o W3 h1 h2 o' =>
    ⟨World.putObj_heap_same (Array.getElem?_eq_some_iff.1 h1).1, (World.putObj_heap_other (by omega)).trans h2⟩
  have hcall := hit (w.heap.size + 1) (rec .ready none)
    (fun i W F => I i W F ∧ W.heap[w.heap.size + 1]? = some (.loop (rec .ready none)) ∧ W.heap[w.heap.size]? = some (.deferred (some [])) ∧ ∀ k, F k → w.heap.size + 2 ≤ k ∧ k < W.heap.size)
    (fun e W => W.heap[w.heap.size]? = some (.deferred (some [])) ∧ match e with
      | .returned v => ((∃ F, I xs.length W F ∧ ∀ k, F k → w.heap.size + 2 ≤ k ∧ k < W.heap.size) ∧ W.heap[w.heap.size + 1]? = some (.loop (rec .ready none))) ∨ (∃ c, Ix c W ∧ W.heap[w.heap.size + 1]? = some (.loop (rec .done (some c))))
      | .panicked ch => Ip ch W
      | .outgrown => False) W1 (by rw [hrec])
    (fun i W W' F h ho => by
      have hlt : w.heap.size + 1 < W.heap.size := (Array.getElem?_eq_some_iff.1 h.2.1).1
      refine ⟨hIs i W W' F h.1 h.2.2.2 hlt ho, (ho.block _ hlt (fun hF => by have := h.2.2.2 _ hF; omega)).trans h.2.1, (ho.block _ (by omega) (fun hF => by have := h.2.2.2 _ hF; omega)).trans h.2.2.1, fun k hk => ?_⟩
      rcases hk with hk | ⟨h1, h2⟩
      · have h8 := h.2.2.2 k hk
        have h9 := ho.size
        omega
      · omega) (fun i W F h => hK i W F h.1) (fun i W F h => h.2.1)
    (fun e W m h => ⟨h.1, by
      cases e with
      | returned v => rcases h.2 with ⟨h1, h2⟩ | ⟨c, h1, h2⟩
                      · exact .inl ⟨⟨_, hIs _ _ _ _ h1.choose_spec.1 h1.choose_spec.2 (Array.getElem?_eq_some_iff.1 h2).1 (ownF_drewN _ _ m), fun k hk => hk.elim (h1.choose_spec.2 k) (fun h9 => by have h10 : (W.drewN m).heap.size = W.heap.size := rfl; omega)⟩, h2⟩
                      · exact .inr ⟨c, hIxd _ _ m h1, h2⟩
      | panicked ch => exact hIpd _ _ m h.2
      | outgrown => exact h.2⟩)
    (fun i v W F hv ⟨hi, hl, hk, hF⟩ => by
      have hlt : w.heap.size + 1 < W.heap.size := (Array.getElem?_eq_some_iff.1 hl).1
      have hfn' : P.funcs[(rec .ready none).fn]? = some fnr := by rw [hrec]; exact hfn
      refine roundIn_of_wpInP hfn' ?_
      have hrt : (rec .ready none).tmps = a.tmps := by rw [hrec]
      have hrp : (rec .ready none).params = ps := by rw [hrec]
      have hra : (rec .ready none).assign = assign := by rw [hrec]
      have hrb : (rec .ready none).body = body := by rw [hrec]
      rw [hrt, hrp, hra, hrb]
      refine wpIn_mono (hassign i v W F hv hi hF hlt) ?_
      rintro e a₁ w₁ hq
      cases e with
      | normal =>
        obtain ⟨ha₁, hq₁, hl₁, hk₁⟩ := hq
        have hl1 : w₁.heap[w.heap.size + 1]? = some (.loop (rec .ready none)) := hl₁.trans hl
        have hk1 : w₁.heap[w.heap.size]? = some (.deferred (some [])) := hk₁.trans hk
        refine ⟨_, run_beginRound hl1 (by rw [hrec]), ?_⟩
        obtain ⟨f1, f2⟩ := fin _ _ hl1 hk1 { rec .ready none with state := .busy }
        refine wpIn_mono (hbody i v a₁ _ F hv (hA i a₁ w₁ F _ _ ha₁ hl1) (fun k hk => ⟨(hF k hk).1, by have h8 := (hF k hk).2; have h9 := hq₁.size; simp only [World.putObj_size]; omega⟩) (by simpa using (Array.getElem?_eq_some_iff.1 hl1).1)) ?_
        rintro e₂ a₂ w₂ ⟨hl2, hk2, hq₂⟩
        have hl3 := hl2.trans f1
        have hk3 := hk2.trans f2
        have hend : ∀ jump, (Instr.endRound (w.heap.size + 1) jump).run P w₂ = .ok (.bool jump.isNone) (w₂.putObj (w.heap.size + 1) (.loop (rec (if jump.isNone then .ready else .done) jump))) := fun jump => by
          have := run_endRound (P := P) jump hl3
          rw [hrec] at this ⊢
          exact this
        have hf := fun jump => fin _ _ hl3 hk3 (rec (if Option.isNone jump then LoopState.ready else .done) jump)
        cases e₂ with
        | normal =>
          have hp1 : KeptF F w₁ (w₁.putObj (w.heap.size + 1) (.loop { rec .ready none with state := .busy })) := keptF_putObj _ _ _ _ (fun h => by have := hF _ h; omega)
          have hp2 : KeptF F W (w₂.putObj (w.heap.size + 1) (.loop (rec .ready none))) := ((hq₁.trans hp1).trans hq₂.2).trans (keptF_putObj _ _ _ _ (fun h => by have := hF _ h; omega))
          exact ⟨_, _, hend none, .inl ⟨true, rfl, fun _ => ⟨⟨hI _ _ _ _ _ hq₂.1 hl3, (hf none).1, (hf none).2, fun k hk => ⟨(hF k hk).1, Nat.lt_of_lt_of_le (hF k hk).2 hp2.size⟩⟩, hp2⟩, by simp⟩⟩
        | ret => exact ⟨_, _, hend (some .ret), .inl ⟨false, rfl, by simp, fun _ => ⟨(hf (some .ret)).2, .inr ⟨.ret, hIx _ _ _ _ hq₂ hl3, (hf (some .ret)).1⟩⟩⟩⟩
        | exit id => exact ⟨_, _, hend (some (.exit id)), .inl ⟨false, rfl, by simp, fun _ => ⟨(hf (some (.exit id))).2, .inr ⟨.exit id, hIx _ _ _ _ hq₂ hl3, (hf (some (.exit id))).1⟩⟩⟩⟩
        | goto t => exact ⟨_, _, hend (some (.goto t)), .inl ⟨false, rfl, by simp, fun _ => ⟨(hf (some (.goto t))).2, .inr ⟨.goto t, hIx _ _ _ _ hq₂ hl3, (hf (some (.goto t))).1⟩⟩⟩⟩
        | panic ch => exact ⟨hq₂.1, .inr ⟨ch, rfl, hk3, hq₂.2⟩⟩
        | outgrown => exact hq₂.elim
      | exit id => exact hq.elim
      | goto t => exact hq.elim
      | ret => exact hq.elim
      | panic chain => exact hq.elim
      | outgrown => exact hq.elim)
    (fun W F ⟨hi, hl, hk, hF⟩ => ⟨hk, .inl ⟨⟨F, hi, hF⟩, hl⟩⟩) ⟨by rw [← hW1]; exact h0 _, hL1, hK1, fun _ h => h.elim⟩
  obtain ⟨e, w₃, fr, hR, hsteps, hfnx, hleave⟩ := hcall.2 (b.atR { a with defers := [{ target := .collected w.heap.size, args := #[] }] ++ a.defers } (.inRangeFunc (w.heap.size + 1) :: k) :: cs) (room_wide _)
  obtain ⟨hk3, hR⟩ := hR
  have h0' : (lone (b.atR a (.code (.rangeFunc g ps assign body) :: k)) cs w).fenced P Fence.wide := fenced_wide _ _
  cases e with
  | outgrown => exact hR.elim
  | returned v =>
    have back : ∀ (jump : Option Code) (w₄ : World), (Instr.endLoop (w.heap.size + 1)).run P w₃ = .ok jump w₄ →
        StepsIn (Machine.fenced P Fence.wide) P (lone (b.atR a (.code (.rangeFunc g ps assign body) :: k)) cs w) (lone (b.atR { a with defers := [{ target := .collected w.heap.size, args := #[] }] ++ a.defers } ((jump.map Item.code).toList ++ k)) cs w₄) := fun jump w₄ hend => by
      refine .head h0' henter (StepsIn.trans hsteps (.head (fenced_wide _ _) ?_ (.one (fenced_wide _ _) (stepR_endRangeFunc hend))))
      rw [← finish_atR_inRangeFunc (w.heap.size + 1) v]; exact step_leave_returned hleave
    rcases hR with ⟨hi, hl⟩ | ⟨c, hi, hl⟩
    · have hend := run_endLoop (P := P) hl (by rw [hrec]; simp)
      have hp : (rec .ready none).pending = none := by rw [hrec]
      rw [hp] at hend
      exact ⟨.normal, _, _, hdone _ _ (hI _ _ _ _ _ hi.choose_spec.1 hl) ((World.putObj_heap_other (by omega)).trans hk3), back none _ hend⟩
    · have hend := run_endLoop (P := P) hl (by rw [hrec]; simp)
      have hp : (rec .done (some c)).pending = some c := by rw [hrec]
      rw [hp] at hend
      obtain ⟨e', a'', w₅, hq, harr⟩ := hstop c _ (hIx _ _ _ _ hi hl) ((World.putObj_heap_other (by omega)).trans hk3) b k cs hro ⟨fnr, hfn⟩
      exact ⟨e', a'', w₅, hq, .of_steps (back (some c) _ hend) harr⟩
  | panicked chain =>
    refine ⟨.panic chain, _, w₃, hpanic chain _ hR hk3, .inRangeFunc (w.heap.size + 1) :: k, .head h0' henter (StepsIn.trans hsteps (.one (fenced_wide _ _) ?_))⟩
    rw [← Frame.raise_atR]; exact step_leave_panicked hleave
theorem round_list {ops : Array Oper} {l n : Nat} (hno : ∀ a w, ¬ Q .outgrown a w) : ∀ (L : List Oper) (a : Act) (w : World), noDefer L = true → wpList P ops Q L a w → wpListIn (Fence.wide.inRound l) n P ops Q L a w
  | [], _, _, _, h => h
  | o :: rest, a, w, hd, h => by
    have hd2 : noDefer rest = true := by
      unfold noDefer at hd ⊢
      rw [List.all_cons, Bool.and_eq_true] at hd
      exact hd.2
    have hdo : ∀ c, o.op ≠ .defer c := noDefer_spec hd (i := 0) (o := o) rfl
    simp only [wpList] at h
    simp only [wpListIn]
    split
    · rename_i hw'
      rw [if_pos hw'] at h
      rcases h with h | ⟨_, a', w', h⟩
      · exact Oper.wpIn_mono (fun a' w' h' => round_list hno rest a' w' hd2 h') (wpIn_of_wp_round hdo h)
      · exact (hno _ _ h).elim
    · rename_i hw'
      rw [if_neg hw'] at h
      exact ⟨fun _ _ => trivial, round_list hno rest _ _ hd2 h⟩
/-- A region of a round in the order of its text, by the plain rules. -/
theorem round_region_list {id l n : Nat} {ops : List Oper} (hd : noDefer ops = true) (hno : ∀ a w, ¬ Q .outgrown a w) (h : wpList P ops.toArray Q ops a w) : (Code.region id ops.toArray false).wpIn (Fence.wide.inRound l) n P Q a w := by
  refine wpIn_region ?_
  have h1 : List.range ops.toArray.size = List.range' 0 ops.length := by rw [List.range_eq_range']; simp
  rw [h1, wpOpsIn_eq_wpListIn ops 0 (fun j => by simp)]
  exact round_list hno ops a w hd h
end

end Go.Proofs.Ytemglmcddaeedaa.PA

namespace Go.Proofs.Ytemglmcddaeedaa.PA
open Go.RowKit Go.Proofs.YtemglmcddaeedaaW.PrintWords Go.Proofs.YtemglmcddaeedaaW.PrintLast Go.Proofs.YtemglmcddaeedaaW.PrintMore
attribute [local go_sem] max2_int min2_int max_two min_two max_three min_three max_four min_four   -- for this text's walks alone
set_option linter.unusedVariables false
set_option linter.unusedSimpArgs false

/-! ### heap_frag1: function 0 -/
set_option maxHeartbeats 2000000 in
set_option maxRecDepth 100000 in
theorem frag1_iter {base h g b : Nat} {v : Value} {a : AreaS} {most : Int} (hb kb : Nat) (k : Int) (len : Nat) (hlen : len ≤ 100000) (ps : Nat → Int × Int) (fs : Nat → ByteArray) (hne : ∀ i, i < len → (ps i).2 ≠ 0) (hend : ps len = (0, 0))
    (hp : 0 < a.pages.length) (hs : ∀ p ∈ a.pages, p.size ≤ 100000) (hget : ∀ i, i < len → getA a (ps i).1 (ps i).2 = (fs i, 0)) (hrd : ∀ i, i < len → 10 ≤ (fs i).size ∧ (fs i).size ≤ 100000 ∧ (bt (fs i) 0 = 65 ∨ bt (fs i) 0 = 67))
    (hnx : ∀ i, i < len → ((fragOf (fs i)).page, (fragOf (fs i)).line) = ps (i + 1)) :
    IterF Try.prog 133 #[.pointer (some ⟨hb, 0, none⟩), .pointer (some ⟨kb, 0, none⟩)] 2 ((List.range len).map fun i => #[.agg #[.int .i64 (ps i).1, .int .i64 (ps i).2], .agg (fragOf (fs i)).cells])
      (fun W => W.heap[hb]? = some (.cells #[.pointer (some ⟨h, 0, none⟩)] 109 (0, 0)) ∧ W.heap[kb]? = some (.cells #[.int .i64 k] 3 (0, 0)) ∧ HeapAt W base h g v a most b ∧ W.heap[b]? = some (.map #[⟨.int .i64 k, .agg #[.int .i64 (ps 0).1, .int .i64 (ps 0).2], 0⟩] 1)) := by
  intro l rec J R W hps hJs hJK hJl hRd hround hdone h0
  have HJs := Aside0.mk hJs
  have HJK := Aside0.mk hJK
  have HJl := Aside0.mk hJl
  have HRd := Aside0.mk hRd
  have HR := Aside0.mk hround
  have HD := Aside0.mk hdone
  have HPS := Aside0.mk hps
  have HNE := Aside0.mk (And.intro hne hend)
  have HGET := Aside0.mk (fun i (hi : i < len) (W : World) (hA : AreaAt W base g v a) => show Calls Try.prog 75 #[.pointer (some ⟨g, 0, none⟩), .agg #[.int .i64 (ps i).1, .int .i64 (ps i).2]] W fun e w' => e = .returned (.tuple #[.string (fs i), .int .i64 0]) ∧ Below W.heap.size W w' by
    have := area_Get (ps i).1 (ps i).2 hp hs W hA
    rw [hget i hi] at this
    exact this)
  have HRDD := Aside0.mk (fun i (hi : i < len) (W : World) => read_ok (fs i) (hrd i hi).1 (hrd i hi).2.1 (hrd i hi).2.2 W)
  have HNX := Aside0.mk hnx
  clear hJs hJK hJl hRd hround hdone hps hne hend hget hrd hnx hp hs
  have H0 := Aside0.mk h0
  have HK0 := Aside0.mk (HJK.out 0 W _ h0)
  clear h0
  obtain ⟨X0, Y0, hXY⟩ : ∃ X0 Y0, ps 0 = (X0, Y0) := ⟨_, _, rfl⟩
  have HXY := Aside0.mk hXY
  refine callsIn_of_wp Try.func133 rfl trivial ?_ rfl
  simp only [Try.ntmps133, List.size_toArray, List.length_cons, List.length_nil, Nat.reduceAdd, Nat.reduceSub, Array.replicate_succ, Array.replicate_zero, List.push_toArray, List.append_toArray, List.nil_append, List.cons_append]
  gi_wp2_with fail
  refine wpIn_wide.2 ?_
  have hSX : ∀ V : World, Below W.heap.size W V → V.cell? ⟨hb, 0, none⟩ = some (.pointer (some ⟨h, 0, none⟩)) ∧ V.cell? ⟨kb, 0, none⟩ = some (.int .i64 k) ∧ V.cell? ⟨h, 2, none⟩ = some (.map (some b)) ∧ V.heap[b]? = some (.map #[⟨.int .i64 k, .agg #[.int .i64 X0, .int .i64 Y0], 0⟩] 1) := fun V hB => by
    obtain ⟨k1, k2, k3, k4⟩ := HK0.out
    rw [hXY] at k4
    have k3' := k3.below hB
    exact ⟨(blk_cell ((hB.block _ (blk_lt k1)).trans k1) 0).trans rfl, (blk_cell ((hB.block _ (blk_lt k2)).trans k2) 0).trans rfl, (blk_cell k3'.blk 2).trans rfl, (hB.block _ (blk_lt k4)).trans k4⟩
  clear hXY
  refine wp_region_held_drew (S := fun V : World => V.cell? ⟨hb, 0, none⟩ = some (.pointer (some ⟨h, 0, none⟩)) ∧ V.cell? ⟨kb, 0, none⟩ = some (.int .i64 k) ∧ V.cell? ⟨h, 2, none⟩ = some (.map (some b)) ∧ V.heap[b]? = some (.map #[⟨.int .i64 k, .agg #[.int .i64 X0, .int .i64 Y0], 0⟩] 1)) (by kernel_rfl) (hSX W (Below.refl _ _)) (fun hS => ?_)
  obtain ⟨U0, hU0⟩ : ∃ V, W.drew = V := ⟨_, rfl⟩
  have hBU : Below W.heap.size W U0 := by rw [← hU0]; exact below_drew (Below.refl _ _)
  have hOU : OwnF (fun _ => False) W U0 := ownF_below _ hBU
  have HSX := Aside0.mk (fun (V : World) (hB : Below U0.heap.size U0 V) => hSX V (below_then hBU hBU.size hB))
  have HOU := Aside0.mk hOU
  rw [hU0] at hS ⊢
  clear hU0 hSX hBU hOU
  refine wpAnyH_take (i := 0) (v := (.pointer (some ⟨h, 0, none⟩))) rfl (by kernel_rfl) (by kernel_rfl) (by kernel_rfl) (fun _ _ _ h => h) (Or.inl ⟨by rfl, by intro w hSw; (try dsimp only at hSw); obtain ⟨s1, s2, s3, s4⟩ := hSw; first | (go_simp; done) | (go_simp; with_reducible rfl)⟩) hS ?_
  simp only [Act.put, List.setIfInBounds_toArray, List.set_cons_zero, List.set_cons_succ]
  refine wpAnyH_take (i := 1) (v := (.pointer (some ⟨h, 0, none⟩))) rfl (by kernel_rfl) (by kernel_rfl) (by kernel_rfl) (fun _ _ _ h => h) (Or.inl ⟨by rfl, by intro w hSw; (try dsimp only at hSw); obtain ⟨s1, s2, s3, s4⟩ := hSw; first | (go_simp; done) | (go_simp; with_reducible rfl)⟩) hS ?_
  simp only [Act.put, List.setIfInBounds_toArray, List.set_cons_zero, List.set_cons_succ]
  refine wpAnyH_take (i := 2) (v := (.pointer (some ⟨h, 0, none⟩))) rfl (by kernel_rfl) (by kernel_rfl) (by kernel_rfl) (fun _ _ _ h => h) (Or.inl ⟨by rfl, by intro w hSw; (try dsimp only at hSw); obtain ⟨s1, s2, s3, s4⟩ := hSw; first | (go_simp; done) | (go_simp; with_reducible rfl)⟩) hS ?_
  simp only [Act.put, List.setIfInBounds_toArray, List.set_cons_zero, List.set_cons_succ]
  refine wpAnyH_take (i := 3) (v := (.pointer (some ⟨h, 2, none⟩))) rfl (by kernel_rfl) (by kernel_rfl) (by kernel_rfl) (fun _ _ _ h => h) (Or.inl ⟨by rfl, by intro w hSw; (try dsimp only at hSw); obtain ⟨s1, s2, s3, s4⟩ := hSw; first | (go_simp; done) | (go_simp; with_reducible rfl)⟩) hS ?_
  simp only [Act.put, List.setIfInBounds_toArray, List.set_cons_zero, List.set_cons_succ]
  refine wpAnyH_take (i := 4) (v := (.map (some b))) rfl (by kernel_rfl) (by kernel_rfl) (by kernel_rfl) (fun _ _ _ h => h) (Or.inl ⟨by rfl, by intro w hSw; (try dsimp only at hSw); obtain ⟨s1, s2, s3, s4⟩ := hSw; first | (go_simp; done) | (go_simp; with_reducible rfl)⟩) hS ?_
  simp only [Act.put, List.setIfInBounds_toArray, List.set_cons_zero, List.set_cons_succ]
  refine wpAnyH_take (i := 5) (v := (.int .i64 k)) rfl (by kernel_rfl) (by kernel_rfl) (by kernel_rfl) (fun _ _ _ h => h) (Or.inl ⟨by rfl, by intro w hSw; (try dsimp only at hSw); obtain ⟨s1, s2, s3, s4⟩ := hSw; first | (go_simp; done) | (go_simp; with_reducible rfl)⟩) hS ?_
  simp only [Act.put, List.setIfInBounds_toArray, List.set_cons_zero, List.set_cons_succ]
  refine wpAnyH_take (i := 6) (v := (.tuple #[(.agg #[.int .i64 X0, .int .i64 Y0]), .bool true])) rfl (by kernel_rfl) (by kernel_rfl) (by kernel_rfl) (fun _ _ _ h => h) (Or.inl ⟨by rfl, by intro w hSw; (try dsimp only at hSw); obtain ⟨s1, s2, s3, s4⟩ := hSw; have hlk := look_one k X0 Y0 b 0 1 w s4; first | (go_simp; done) | (go_simp; with_reducible rfl)⟩) hS ?_
  simp only [Act.put, List.setIfInBounds_toArray, List.set_cons_zero, List.set_cons_succ]
  refine wpAnyH_take (i := 7) (v := (.tuple #[(.agg #[.int .i64 X0, .int .i64 Y0]), .bool true])) rfl (by kernel_rfl) (by kernel_rfl) (by kernel_rfl) (fun _ _ _ h => h) (Or.inl ⟨by rfl, by intro w hSw; (try dsimp only at hSw); obtain ⟨s1, s2, s3, s4⟩ := hSw; first | (go_simp; done) | (go_simp; with_reducible rfl)⟩) hS ?_
  simp only [Act.put, List.setIfInBounds_toArray, List.set_cons_zero, List.set_cons_succ]
  refine wpAnyH_take (i := 8) (v := (.agg #[.int .i64 X0, .int .i64 Y0])) rfl (by kernel_rfl) (by kernel_rfl) (by kernel_rfl) (fun _ _ _ h => h) (Or.inl ⟨by rfl, by intro w hSw; (try dsimp only at hSw); obtain ⟨s1, s2, s3, s4⟩ := hSw; first | (go_simp; done) | (go_simp; with_reducible rfl)⟩) hS ?_
  simp only [Act.put, List.setIfInBounds_toArray, List.set_cons_zero, List.set_cons_succ]
  refine wpAnyH_take (i := 9) (v := (.bool true)) rfl (by kernel_rfl) (by kernel_rfl) (by kernel_rfl) (fun _ _ _ h => h) (Or.inl ⟨by rfl, by intro w hSw; (try dsimp only at hSw); obtain ⟨s1, s2, s3, s4⟩ := hSw; first | (go_simp; done) | (go_simp; with_reducible rfl)⟩) hS ?_
  simp only [Act.put, List.setIfInBounds_toArray, List.set_cons_zero, List.set_cons_succ]
  refine wpAnyH_ready (rs := [10]) (by kernel_rfl) (by simp) ?_
  refine AllReadyH.cons rfl (fun K hK => ?_) AllReadyH.nil
  go_simp
  obtain ⟨p, hp⟩ : ∃ p, U0.heap.size = p := ⟨_, rfl⟩
  obtain ⟨V1, hV1⟩ : ∃ V', U0.alloc (.cells #[.int .i64 0, .int .i64 0] 93) = V' := ⟨_, rfl⟩
  have hbN := blk_new U0 (.cells #[.int .i64 0, .int .i64 0] 93)
  have hbA : Below U0.heap.size U0 V1 := by rw [← hV1]; exact below_alloc (Below.refl _ _) _
  rw [hV1, hp] at hbN
  simp only [hp, hV1]
  refine hK.out _ _ (HSX.out V1 hbA) (fun hS2 => ?_)
  have hS := hS2
  clear hS2 hK K
  try simp only [Act.put, List.setIfInBounds_toArray, List.set_cons_zero, List.set_cons_succ]
  refine wpAnyH_ready (rs := [11]) (by kernel_rfl) (by simp) ?_
  refine AllReadyH.cons rfl (fun K hK => ?_) AllReadyH.nil
  have c0 := (blk_cell hbN 0).trans rfl
  have c1 := (blk_cell hbN 1).trans rfl
  have f0 := blk_frozen hbN 0
  have f1 := blk_frozen hbN 1
  have hB2 : Below U0.heap.size U0 ((V1.setCell ⟨p, 0, none⟩ (.int .i64 X0)).setCell ⟨p, 1, none⟩ (.int .i64 Y0)) := (hbA.setCell (by simp only; omega) _).setCell (by simp only; omega) _
  have hbM := blk_set (blk_set hbN 0 (.int .i64 X0)) 1 (.int .i64 Y0)
  go_simp
  (try simp only [add_plain])
  refine hK.out _ _ (HSX.out _ hB2) (fun hS2 => ?_)
  have hS := hS2
  clear hS2 hK K c0 c1 f0 f1 hbN hbA
  try simp only [Act.put, List.setIfInBounds_toArray, List.set_cons_zero, List.set_cons_succ]
  refine wpAnyH_take (i := 12) (v := (.bool true)) rfl (by kernel_rfl) (by kernel_rfl) (by kernel_rfl) (fun _ _ _ h => h) (Or.inl ⟨by rfl, by intro w hSw; (try dsimp only at hSw); obtain ⟨s1, s2, s3, s4⟩ := hSw; first | (go_simp; done) | (go_simp; with_reducible rfl)⟩) hS ?_
  simp only [Act.put, List.setIfInBounds_toArray, List.set_cons_zero, List.set_cons_succ]
  refine wpAnyH_done (by kernel_rfl) ?_ _
  have HJ0 := Aside0.mk (And.intro (HJs.out 0 W _ _ H0.out (HOU.out.trans (ownF_below _ hB2))) (And.intro (show growF (fun _ => False) W ((V1.setCell ⟨p, 0, none⟩ (.int .i64 X0)).setCell ⟨p, 1, none⟩ (.int .i64 Y0)) p from .inr ⟨by rw [← hp]; exact HOU.out.size, blk_lt hbM⟩) hbM))
  obtain ⟨F0, hF0⟩ : ∃ F0, growF (fun _ => False) W ((V1.setCell ⟨p, 0, none⟩ (.int .i64 X0)).setCell ⟨p, 1, none⟩ (.int .i64 Y0)) = F0 := ⟨_, rfl⟩
  rw [hF0] at HJ0
  obtain ⟨W1, hW1⟩ : ∃ V, ((V1.setCell ⟨p, 0, none⟩ (.int .i64 X0)).setCell ⟨p, 1, none⟩ (.int .i64 Y0)) = V := ⟨_, rfl⟩
  rw [hW1] at HJ0 ⊢
  clear hW1 hF0 hB2 hbM hp hS HSX HOU HK0 hV1 H0
  (try simp only [List.getElem_toArray, List.getElem_cons_succ, List.getElem_cons_zero, Act.put, List.setIfInBounds_toArray, List.set_cons_zero, List.set_cons_succ])
  obtain ⟨Rel, hRel⟩ : ∃ Rel : Nat → Value → World → Prop, ∀ m v4 wr, Rel m v4 wr ↔ ∃ i F p, i ≤ len ∧ m = len - i ∧ v4 = .pointer (some ⟨p, 0, none⟩) ∧ J i wr F ∧ F p ∧ wr.heap[p]? = some (.cells #[.int .i64 (ps i).1, .int .i64 (ps i).2] 93 (0, 0)) := ⟨_, fun _ _ _ => Iff.rfl⟩
  have HREL := Aside0.mk hRel
  clear hRel
  gi_wp2_with fail
  gi_loopw [4] (fun v4 wr => ∃ m, Rel m v4 wr) (fun v4 wr => leastOf (fun m => Rel m v4 wr))
  case atStart => exact ⟨len, (HREL.out _ _ _).2 ⟨0, F0, p, by omega, by omega, rfl, HJ0.out.1, HJ0.out.2.1, by rw [HXY.out]; exact HJ0.out.2.2⟩⟩
  case round =>
    clear HJ0
    obtain ⟨m0, hr0⟩ := hrel
    have hsp := (leastOf_spec (p := fun m => Rel m _ wr) ⟨m0, hr0⟩).1
    clear hr0
    obtain ⟨i, F, p, hi, hm, rfl, hJ, hFp, hbp⟩ := (HREL.out _ _ _).1 hsp
    clear hsp
    have HM := Aside0.mk hm
    have HJI := Aside0.mk (And.intro hJ (And.intro hFp hbp))
    obtain ⟨X, Y, hXY⟩ : ∃ X Y, ps i = (X, Y) := ⟨_, _, rfl⟩
    have HXI := Aside0.mk hXY
    rw [hXY] at hbp
    have c0 := (blk_cell hbp 0).trans rfl
    have c1 := (blk_cell hbp 1).trans rfl
    clear hm hJ hFp hXY
    by_cases hlt : i < len
    · have hy0 : ¬ (Y = 0) := fun e => HNE.out.1 i hlt (by rw [HXI.out]; exact e)
      have hy1 : (Y == 0) = false := by simpa using hy0
      clear hbp
      have HKI := Aside0.mk (HJK.out i wr F HJI.out.1)
      obtain ⟨D, hD⟩ : ∃ D, fs i = D := ⟨_, rfl⟩
      have HG := Aside0.mk (HGET.out i hlt)
      have HRI := Aside0.mk (HRDD.out i hlt)
      have hnx := HNX.out i hlt
      rw [hD] at HG HRI hnx
      rw [HXI.out] at HG
      have HDI := Aside0.mk hD
      obtain ⟨fa, fk, fn, fp, fl, fpt, hfr⟩ : ∃ fa fk fn fp fl fpt, (fragOf D).cells = #[.bool fa, .int .i64 fk, .int .i64 fn, .int .i64 fp, .int .i64 fl, .string fpt] ∧ (fp, fl) = ps (i + 1) := ⟨_, _, _, _, _, _, rfl, hnx⟩
      rw [hfr.1] at HRI
      have HFR := Aside0.mk hfr
      clear hnx hfr hD
      gi_wp2_with fail
      refine wpIn_wide.2 ?_
      have hSX : ∀ V : World, Below wr.heap.size wr V → V.cell? ⟨hb, 0, none⟩ = some (.pointer (some ⟨h, 0, none⟩)) ∧ V.cell? ⟨h, 0, none⟩ = some (.pointer (some ⟨g, 0, none⟩)) ∧ V.cell? ⟨p, 0, none⟩ = some (.int .i64 X) ∧ V.cell? ⟨p, 1, none⟩ = some (.int .i64 Y) := fun V hB => by
        obtain ⟨k1, k2, k3, k4⟩ := HKI.out
        have k3' := k3.below hB
        exact ⟨(blk_cell ((hB.block _ (blk_lt k1)).trans k1) 0).trans rfl, (blk_cell k3'.blk 0).trans rfl, pw_cell_below hB c0, pw_cell_below hB c1⟩
      refine wp_region_held_drew (S := fun V : World => V.cell? ⟨hb, 0, none⟩ = some (.pointer (some ⟨h, 0, none⟩)) ∧ V.cell? ⟨h, 0, none⟩ = some (.pointer (some ⟨g, 0, none⟩)) ∧ V.cell? ⟨p, 0, none⟩ = some (.int .i64 X) ∧ V.cell? ⟨p, 1, none⟩ = some (.int .i64 Y)) (by kernel_rfl) (hSX wr (Below.refl _ _)) (fun hS => ?_)
      obtain ⟨U0, hU0⟩ : ∃ V, wr.drew = V := ⟨_, rfl⟩
      have hBU : Below wr.heap.size wr U0 := by rw [← hU0]; exact below_drew (Below.refl _ _)
      have HSX := Aside0.mk (fun (V : World) (hB : Below U0.heap.size U0 V) => hSX V (below_then hBU hBU.size hB))
      have HU := Aside0.mk (HKI.out.2.2.1.area.below hBU)
      have HBU := Aside0.mk hBU
      rw [hU0] at hS ⊢
      clear hU0 hSX hBU c0 c1
      refine wpAnyH_take (i := 0) (v := (.pointer (some ⟨h, 0, none⟩))) rfl (by kernel_rfl) (by kernel_rfl) (by kernel_rfl) (fun _ _ _ h => h) (Or.inl ⟨by rfl, by intro w hSw; (try dsimp only at hSw); obtain ⟨s1, s2, s3, s4⟩ := hSw; first | (go_simp; done) | (go_simp; with_reducible rfl)⟩) hS ?_
      simp only [Act.put, List.setIfInBounds_toArray, List.set_cons_zero, List.set_cons_succ]
      refine wpAnyH_take (i := 1) (v := (.pointer (some ⟨h, 0, none⟩))) rfl (by kernel_rfl) (by kernel_rfl) (by kernel_rfl) (fun _ _ _ h => h) (Or.inl ⟨by rfl, by intro w hSw; (try dsimp only at hSw); obtain ⟨s1, s2, s3, s4⟩ := hSw; first | (go_simp; done) | (go_simp; with_reducible rfl)⟩) hS ?_
      simp only [Act.put, List.setIfInBounds_toArray, List.set_cons_zero, List.set_cons_succ]
      refine wpAnyH_take (i := 2) (v := (.pointer (some ⟨h, 0, none⟩))) rfl (by kernel_rfl) (by kernel_rfl) (by kernel_rfl) (fun _ _ _ h => h) (Or.inl ⟨by rfl, by intro w hSw; (try dsimp only at hSw); obtain ⟨s1, s2, s3, s4⟩ := hSw; first | (go_simp; done) | (go_simp; with_reducible rfl)⟩) hS ?_
      simp only [Act.put, List.setIfInBounds_toArray, List.set_cons_zero, List.set_cons_succ]
      refine wpAnyH_take (i := 3) (v := (.pointer (some ⟨h, 0, none⟩))) rfl (by kernel_rfl) (by kernel_rfl) (by kernel_rfl) (fun _ _ _ h => h) (Or.inl ⟨by rfl, by intro w hSw; (try dsimp only at hSw); obtain ⟨s1, s2, s3, s4⟩ := hSw; first | (go_simp; done) | (go_simp; with_reducible rfl)⟩) hS ?_
      simp only [Act.put, List.setIfInBounds_toArray, List.set_cons_zero, List.set_cons_succ]
      refine wpAnyH_take (i := 4) (v := (.pointer (some ⟨g, 0, none⟩))) rfl (by kernel_rfl) (by kernel_rfl) (by kernel_rfl) (fun _ _ _ h => h) (Or.inl ⟨by rfl, by intro w hSw; (try dsimp only at hSw); obtain ⟨s1, s2, s3, s4⟩ := hSw; first | (go_simp; done) | (go_simp; with_reducible rfl)⟩) hS ?_
      simp only [Act.put, List.setIfInBounds_toArray, List.set_cons_zero, List.set_cons_succ]
      refine wpAnyH_take (i := 5) (v := (.agg #[.int .i64 X, .int .i64 Y])) rfl (by kernel_rfl) (by kernel_rfl) (by kernel_rfl) (fun _ _ _ h => h) (Or.inl ⟨by rfl, by intro w hSw; (try dsimp only at hSw); obtain ⟨s1, s2, s3, s4⟩ := hSw; first | (go_simp; done) | (go_simp; with_reducible rfl)⟩) hS ?_
      simp only [Act.put, List.setIfInBounds_toArray, List.set_cons_zero, List.set_cons_succ]
      refine wpAnyH_ready (rs := [6]) (by kernel_rfl) (by simp) ?_
      refine AllReadyH.cons rfl (fun K hK => ?_) AllReadyH.nil
      go_simp
      refine (HG.out U0 HU.out).mono ?_
      rintro e V1 ⟨rfl, hb1⟩
      refine hK.out _ _ (HSX.out V1 hb1) (fun hS2 => ?_)
      have hS := hS2
      clear hS2 hK K
      try simp only [Act.put, List.setIfInBounds_toArray, List.set_cons_zero, List.set_cons_succ]
      refine wpAnyH_take (i := 7) (v := (.tuple #[.string D, .int .i64 0])) rfl (by kernel_rfl) (by kernel_rfl) (by kernel_rfl) (fun _ _ _ h => h) (Or.inl ⟨by rfl, by intro w hSw; (try dsimp only at hSw); obtain ⟨s1, s2, s3, s4⟩ := hSw; first | (go_simp; done) | (go_simp; with_reducible rfl)⟩) hS ?_
      simp only [Act.put, List.setIfInBounds_toArray, List.set_cons_zero, List.set_cons_succ]
      refine wpAnyH_take (i := 8) (v := (.string D)) rfl (by kernel_rfl) (by kernel_rfl) (by kernel_rfl) (fun _ _ _ h => h) (Or.inl ⟨by rfl, by intro w hSw; (try dsimp only at hSw); obtain ⟨s1, s2, s3, s4⟩ := hSw; first | (go_simp; done) | (go_simp; with_reducible rfl)⟩) hS ?_
      simp only [Act.put, List.setIfInBounds_toArray, List.set_cons_zero, List.set_cons_succ]
      refine wpAnyH_take (i := 9) (v := (.int .i64 0)) rfl (by kernel_rfl) (by kernel_rfl) (by kernel_rfl) (fun _ _ _ h => h) (Or.inl ⟨by rfl, by intro w hSw; (try dsimp only at hSw); obtain ⟨s1, s2, s3, s4⟩ := hSw; first | (go_simp; done) | (go_simp; with_reducible rfl)⟩) hS ?_
      simp only [Act.put, List.setIfInBounds_toArray, List.set_cons_zero, List.set_cons_succ]
      refine wpAnyH_take (i := 10) (v := (.string D)) rfl (by kernel_rfl) (by kernel_rfl) (by kernel_rfl) (fun _ _ _ h => h) (Or.inl ⟨by rfl, by intro w hSw; (try dsimp only at hSw); obtain ⟨s1, s2, s3, s4⟩ := hSw; first | (go_simp; done) | (go_simp; with_reducible rfl)⟩) hS ?_
      simp only [Act.put, List.setIfInBounds_toArray, List.set_cons_zero, List.set_cons_succ]
      refine wpAnyH_take (i := 11) (v := (.int .i64 0)) rfl (by kernel_rfl) (by kernel_rfl) (by kernel_rfl) (fun _ _ _ h => h) (Or.inl ⟨by rfl, by intro w hSw; (try dsimp only at hSw); obtain ⟨s1, s2, s3, s4⟩ := hSw; first | (go_simp; done) | (go_simp; with_reducible rfl)⟩) hS ?_
      simp only [Act.put, List.setIfInBounds_toArray, List.set_cons_zero, List.set_cons_succ]
      refine wpAnyH_done (by kernel_rfl) ?_ _
      have HB1 := Aside0.mk (below_then HBU.out HBU.out.size hb1)
      clear hb1 hS HSX HU HBU
      (try simp only [List.getElem_toArray, List.getElem_cons_succ, List.getElem_cons_zero, Act.put, List.setIfInBounds_toArray, List.set_cons_zero, List.set_cons_succ])
      gi_wp2_with fail
      refine ⟨trivial, rfl, (callsIn_wide.2 (HRI.out V1)).mono ?_⟩
      rintro e V2 ⟨rfl, hb2⟩
      have HB2 := Aside0.mk (below_then HB1.out HB1.out.size hb2)
      obtain ⟨s, hs⟩ : ∃ s, V2.heap.size = s := ⟨_, rfl⟩
      have hbS := blk_new V2 (.cells #[.bool fa, .int .i64 fk, .int .i64 fn, .int .i64 fp, .int .i64 fl, .string fpt] 157)
      rw [hs] at hbS
      have hbA := below_then HB2.out HB2.out.size (below_alloc (Below.refl _ V2) (.cells #[.bool fa, .int .i64 fk, .int .i64 fn, .int .i64 fp, .int .i64 fl, .string fpt] 157))
      obtain ⟨W3, hW3⟩ : ∃ W3, V2.alloc (.cells #[.bool fa, .int .i64 fk, .int .i64 fn, .int .i64 fp, .int .i64 fl, .string fpt] 157) = W3 := ⟨_, rfl⟩
      have HW3 := Aside0.mk (And.intro hW3 hs)
      rw [hW3] at hbS hbA
      have hJ3 := HJs.out i wr W3 F HJI.out.1 (ownF_below _ hbA)
      obtain ⟨F3, hF3⟩ : ∃ F3, growF F wr W3 = F3 := ⟨_, rfl⟩
      have hp3 : W3.heap[p]? = some (.cells #[.int .i64 X, .int .i64 Y] 93 (0, 0)) := by
        have := HJI.out.2.2
        rw [HXI.out] at this
        exact (hbA.block p (blk_lt this)).trans this
      have HF3 := Aside0.mk (show F3 p ∧ F3 s by
        rw [← hF3]
        exact ⟨.inl HJI.out.2.1, .inr ⟨by rw [← hs]; exact HB2.out.size, blk_lt hbS⟩⟩)
      rw [hF3] at hJ3
      have HJ3 := Aside0.mk (And.intro hJ3 (And.intro hbS hp3))
      have c0 := (blk_cell hp3 0).trans rfl
      have c1 := (blk_cell hp3 1).trans rfl
      have d0 := (blk_cell hbS 0).trans rfl
      have d1 := (blk_cell hbS 1).trans rfl
      have d2 := (blk_cell hbS 2).trans rfl
      have d3 := (blk_cell hbS 3).trans rfl
      have d4 := (blk_cell hbS 4).trans rfl
      have d5 := (blk_cell hbS 5).trans rfl
      have hl := HJl.out i W3 F3 hJ3
      have hv : ((List.range len).map fun i => #[Value.agg #[.int .i64 (ps i).1, .int .i64 (ps i).2], .agg (fragOf (fs i)).cells])[i]? = some #[.agg #[.int .i64 X, .int .i64 Y], .agg #[.bool fa, .int .i64 fk, .int .i64 fn, .int .i64 fp, .int .i64 fl, .string fpt]] := by
        rw [List.getElem?_map, List.getElem?_range hlt]
        simp only [Option.map_some, HXI.out, HDI.out, HFR.out.1]
      have hr := HR.out i _ W3 F3 hv hJ3
      have hy : (Instr.yield l #[.agg #[.int .i64 X, .int .i64 Y], .agg #[.bool fa, .int .i64 fk, .int .i64 fn, .int .i64 fp, .int .i64 fl, .string fpt]]).run Try.prog W3 = .ok (.round l rec.fn ((rec.params.zip #[.agg #[.int .i64 X, .int .i64 Y], .agg #[.bool fa, .int .i64 fk, .int .i64 fn, .int .i64 fp, .int .i64 fl, .string fpt]]).foldl (fun tmps (t, a) => tmps.setIfInBounds t a) rec.tmps) rec.assign rec.body) W3 := run_yield hl (by rw [HPS.out]; rfl)
      obtain ⟨tm, htm⟩ : ∃ tm, ((rec.params.zip #[Value.agg #[.int .i64 X, .int .i64 Y], .agg #[.bool fa, .int .i64 fk, .int .i64 fn, .int .i64 fp, .int .i64 fl, .string fpt]]).foldl (fun tmps (t, a) => tmps.setIfInBounds t a) rec.tmps) = tm := ⟨_, rfl⟩
      simp only [RoundOf, htm] at hr
      rw [htm] at hy
      have HR1 := Aside0.mk hr
      clear hb2 hbS hbA hF3 hp3 hJ3 hv hr htm hl HW3
      gi_wp2_with fail
      refine ⟨rfl, HR1.out.mono ?_⟩
      rintro e W4 (⟨go, rfl, hJ4, hR4⟩ | ⟨ch, rfl, hR4⟩)
      · cases go with
        | false =>
          clear hJ4 hW3 hs hy c0 c1 d0 d1 d2 d3 d4 d5
          have hR5 := hR4 rfl
          clear hR4
          have HR5 := Aside0.mk hR5
          clear hR5
          gi_wp2_with fail
          refine bodyPost_ret (results_none rfl _ _ _) rfl HR5.out
        | true =>
          obtain ⟨hJ5, hk⟩ := hJ4 rfl
          have hsb := (hk.block s HF3.out.2 (blk_lt HJ3.out.2.1)).trans HJ3.out.2.1
          have hpb := (hk.block p HF3.out.1 (blk_lt HJ3.out.2.2)).trans HJ3.out.2.2
          have e0 := (blk_cell hsb 3).trans rfl
          have e1 := (blk_cell hsb 4).trans rfl
          have e2 := (blk_cell hpb 0).trans rfl
          have e3 := (blk_cell hpb 1).trans rfl
          have f0 := blk_frozen hpb 0
          have f1 := blk_frozen hpb 1
          have hO5 : OwnF F3 W4 ((W4.setCell ⟨p, 0, none⟩ (.int .i64 fp)).setCell ⟨p, 1, none⟩ (.int .i64 fl)) := ((ownF_below F3 (Below.refl _ W4)).set (.inl HF3.out.1) _).set (.inl HF3.out.1) _
          have hp5 := blk_set (blk_set hpb 0 (.int .i64 fp)) 1 (.int .i64 fl)
          clear hW3 hs hy c0 c1 d0 d1 d2 d3 d4 d5 hJ4 hR4
          obtain ⟨W5, hW5⟩ : ∃ V, ((W4.setCell ⟨p, 0, none⟩ (.int .i64 fp)).setCell ⟨p, 1, none⟩ (.int .i64 fl)) = V := ⟨_, rfl⟩
          rw [hW5] at hO5 hp5
          have c0 := (blk_cell hp5 0).trans rfl
          have c1 := (blk_cell hp5 1).trans rfl
          obtain ⟨s5, hs5⟩ : ∃ s5, W5.heap.size = s5 := ⟨_, rfl⟩
          obtain ⟨W6, hW6⟩ : ∃ W6, W5.alloc (.cells #[.int .i64 fp, .int .i64 fl] 93) = W6 := ⟨_, rfl⟩
          have hb6 : W6.heap[s5]? = some (.cells #[.int .i64 fp, .int .i64 fl] 93 (0, 0)) := by rw [← hW6, ← hs5]; exact blk_new _ _
          have hO6 : OwnF F3 W4 W6 := hO5.trans (ownF_below _ (by rw [← hW6]; exact below_alloc (Below.refl _ W5) _))
          have hJ6 := HJs.out (i + 1) W4 W6 F3 hJ5 hO6
          have hF6 : growF F3 W4 W6 s5 := .inr ⟨by rw [← hs5]; exact hO5.size, blk_lt hb6⟩
          have hRN : Rel (len - (i + 1)) (.pointer (some ⟨s5, 0, none⟩)) W6 := (HREL.out _ _ _).2 ⟨i + 1, _, s5, by omega, rfl, rfl, hJ6, hF6, by rw [← HFR.out.2]; exact hb6⟩
          have HRN := Aside0.mk hRN
          have HLT := Aside0.mk hlt
          clear hJ5 hk hsb hpb hO5 hp5 hb6 hO6 hJ6 hF6 hRN
          gi_wp2_with fail
          go_roundw
          case rel => exact ⟨_, HRN.out⟩
          case measure =>
            have h1 := (leastOf_spec (p := fun m => Rel m (.pointer (some ⟨s5, 0, none⟩)) W6) ⟨_, HRN.out⟩).2 _ HRN.out
            have h2 := HM.out
            have h3 := HLT.out
            show leastOf (fun m => Rel m (.pointer (some ⟨s5, 0, none⟩)) W6) < leastOf (fun m => Rel m (.pointer (some ⟨p, 0, none⟩)) wr)
            omega
      · simp +zetaDelta only [Exit.then, Exit.inBlock, bodyPost]
        exact ⟨trivial, hR4⟩
    · obtain rfl : i = len := by omega
      have hz := HNE.out.2
      rw [HXI.out] at hz
      cases hz
      gi_wp2_with fail
      go_end0
      exact HD.out _ F (by simpa using HJI.out.1)

end Go.Proofs.Ytemglmcddaeedaa.PA

namespace Go.Proofs.Ytemglmcddaeedaa.PA
open Go.RowKit Go.Proofs.YtemglmcddaeedaaW.PrintWords Go.Proofs.YtemglmcddaeedaaW.PrintLast Go.Proofs.YtemglmcddaeedaaW.PrintMore
attribute [local go_sem] max2_int min2_int max_two min_two max_three min_three max_four min_four   -- for this text's walks alone
set_option linter.unusedVariables false
set_option linter.unusedSimpArgs false

/-! ### heap_data: function 0 -/
attribute [local go_sem] Oper.semAt_some
/-- A record's fragments: places and data. -/
structure ChainS (a : AreaS) (len : Nat) (ps : Nat → Int × Int) (fs : Nat → ByteArray) : Prop where
  hlen : len ≤ 100000
  hne : ∀ i, i < len → (ps i).2 ≠ 0
  hend : ps len = (0, 0)
  hp : 0 < a.pages.length
  hs : ∀ p ∈ a.pages, p.size ≤ 100000
  hget : ∀ i, i < len → getA a (ps i).1 (ps i).2 = (fs i, 0)
  hrd : ∀ i, i < len → 10 ≤ (fs i).size ∧ (fs i).size ≤ 100000 ∧ (bt (fs i) 0 = 65 ∨ bt (fs i) 0 = 67)
  hnx : ∀ i, i < len → ((fragOf (fs i)).page, (fragOf (fs i)).line) = ps (i + 1)
def accS (fs : Nat → ByteArray) : Nat → ByteArray
  | 0 => ⟨#[]⟩
  | n + 1 => accS fs n ++ (fragOf (fs n)).part
theorem part_size (s : ByteArray) : (fragOf s).part.size ≤ s.size := by
  show (s.extract 10 s.size).size ≤ s.size
  rw [ByteArray.size_extract]; omega
theorem accS_size (fs : Nat → ByteArray) : ∀ n, (∀ i, i < n → (fs i).size ≤ 100000) → (accS fs n).size ≤ n * 100000
  | 0, _ => by show (0 : Nat) ≤ _; omega
  | n + 1, h => by
    have h1 := accS_size fs n (fun i hi => h i (by omega))
    have h2 := part_size (fs n)
    have h3 := h n (by omega)
    rw [accS, ByteArray.size_append]
    omega
set_option maxHeartbeats 2000000 in
set_option maxRecDepth 100000 in
theorem heap_data_ok {base h g b : Nat} {v : Value} {a : AreaS} {most : Int} (k : Int) (len : Nat) (ps : Nat → Int × Int) (fs : Nat → ByteArray) (HC : ChainS a len ps fs) (w : World) (H : HeapAt w base h g v a most b)
    (hm : w.heap[b]? = some (.map #[⟨.int .i64 k, .agg #[.int .i64 (ps 0).1, .int .i64 (ps 0).2], 0⟩] 1)) :
    Calls Try.prog 122 #[.pointer (some ⟨h, 0, none⟩), .int .i64 k] w fun e w' => e = .returned (.string (accS fs len)) ∧ Below w.heap.size w w' := by
  refine calls_of_wpX Try.func122 rfl ?_
  simp only [Try.ntmps122, List.size_toArray, List.length_cons, List.length_nil, Nat.reduceAdd, Nat.reduceSub, Array.replicate_succ, Array.replicate_zero, List.push_toArray, List.append_toArray, List.nil_append, List.cons_append]
  obtain ⟨R, hR⟩ : ∃ R : Ending → World → Prop, (fun e w' => e = .returned (.string (accS fs len)) ∧ Below w.heap.size w w') = R := ⟨_, rfl⟩
  rw [hR]
  have HR := Aside0.mk hR
  have HCC := Aside0.mk HC
  have HH := Aside0.mk (And.intro H hm)
  clear hR HC H hm
  obtain ⟨q, hq⟩ : ∃ q, w.heap.size = q := ⟨_, rfl⟩
  obtain ⟨W0, hW0⟩ : ∃ W, w.alloc (.cells #[.string ⟨#[]⟩] 9) = W := ⟨_, rfl⟩
  obtain ⟨W1, hW1⟩ : ∃ W, (W0.alloc (.cells #[.pointer (some ⟨h, 0, none⟩)] 109)).alloc (.cells #[.int .i64 k] 3) = W := ⟨_, rfl⟩
  have hs0 : W0.heap.size = q + 1 := by rw [← hW0, ← hq]; simp
  have hs1 : W1.heap.size = q + 3 := by rw [← hW1]; simp [hs0]
  have hB0 : Below q w W0 := by rw [← hW0, ← hq]; exact below_alloc (Below.refl _ w) _
  have hB1 : Below q w W1 := by rw [← hW1]; exact (hB0.alloc (by omega) _).alloc (by simp; omega) _
  have k0 : W1.heap[q]? = some (.cells #[.string ⟨#[]⟩] 9 (0, 0)) := by rw [← hW1, ← hW0, ← hq]; exact blk_alloc (blk_alloc (blk_new _ _) _) _
  have k1 : W1.heap[q + 1]? = some (.cells #[.pointer (some ⟨h, 0, none⟩)] 109 (0, 0)) := by rw [← hW1, ← hs0]; exact blk_alloc (blk_new _ _) _
  have k2 : W1.heap[q + 2]? = some (.cells #[.int .i64 k] 3 (0, 0)) := by
    have := blk_new (W0.alloc (.cells #[.pointer (some ⟨h, 0, none⟩)] 109)) (.cells #[.int .i64 k] 3)
    rw [World.size_alloc, hs0] at this
    rw [← hW1]; exact this
  have HQ := Aside0.mk (And.intro hq (And.intro hW0 (And.intro hW1 (And.intro hs0 hs1))))
  have HB0 := Aside0.mk (And.intro hB0 hB1)
  have HK0 := Aside0.mk (And.intro k0 (And.intro k1 k2))
  clear hq hW0 hW1 hs0 hs1 hB0 hB1 k0 k1 k2
  refine wpX_seq_k ?_
  intro K hK
  go_wp2_with fail
  refine wpX_seq_k ?_
  intro K1 hK1
  go_wp2_with fail
  simp only [HQ.out.1, HQ.out.2.1]
  refine wpX_seq_x ?_
  intro K4 hK4
  refine wpX_seq_k ?_
  intro K5 hK5
  go_wp2_with fail
  refine (heap_fragments h k W0).mono ?_
  rintro e w1 ⟨rfl, rfl⟩
  rw [HQ.out.2.2.1]
  simp only [HQ.out.2.2.2.1, Nat.add_assoc, Nat.reduceAdd]
  go_wp2_with fail
  refine wpX_block ?_
  have HKP := Aside0.mk (show ∀ W : World, Below q w W → W.heap[q + 1]? = some (.cells #[.pointer (some ⟨h, 0, none⟩)] 109 (0, 0)) → W.heap[q + 2]? = some (.cells #[.int .i64 k] 3 (0, 0)) →
      (W.heap[q + 1]? = some (.cells #[.pointer (some ⟨h, 0, none⟩)] 109 (0, 0)) ∧ W.heap[q + 2]? = some (.cells #[.int .i64 k] 3 (0, 0)) ∧ HeapAt W base h g v a most b ∧ W.heap[b]? = some (.map #[⟨.int .i64 k, .agg #[.int .i64 (ps 0).1, .int .i64 (ps 0).2], 0⟩] 1)) from fun W hB h1 h2 => by
    rw [← HQ.out.1] at hB
    exact ⟨h1, h2, HH.out.1.below hB, (hB.block b (blk_lt HH.out.2)).trans HH.out.2⟩)
  obtain ⟨I, hI⟩ : ∃ I : Nat → World → Prop, ∀ i W, I i W ↔ (Below q w W ∧ W.heap[q]? = some (.cells #[.string (accS fs i)] 9 (0, 0)) ∧ W.heap[q + 1]? = some (.cells #[.pointer (some ⟨h, 0, none⟩)] 109 (0, 0)) ∧ W.heap[q + 2]? = some (.cells #[.int .i64 k] 3 (0, 0))) := ⟨_, fun _ _ => Iff.rfl⟩
  have HI := Aside0.mk hI
  have HST := Aside0.mk (show ∀ (i : Nat) (W W' : World), I i W → (∀ k, k < q + 3 → W'.heap[k]? = W.heap[k]?) → W'.os = W.os → W'.tape = W.tape → W'.output = W.output → W.heap.size ≤ W'.heap.size → I i W' from fun i W W' h0 hk h1 h2 h3 h4 => by
    obtain ⟨e1, e2, e3, e4⟩ := (hI i W).1 h0
    exact (hI i W').2 ⟨e1.trans ⟨h1, h2, h3, h4, fun k hk2 => hk k (by omega)⟩, (hk q (by omega)).trans e2, (hk _ (by omega)).trans e3, (hk _ (by omega)).trans e4⟩)
  clear hI
  refine wpX_rangeF (gf := 133) (lb := #[.pointer (some ⟨q + 1, 0, none⟩), .pointer (some ⟨q + 2, 0, none⟩)]) (xs := (List.range len).map fun i => #[.agg #[.int .i64 (ps i).1, .int .i64 (ps i).2], .agg (fragOf (fs i)).cells])
    (Kp := _) rfl (fun _ _ => rfl) (frag1_iter (base := base) (h := h) (g := g) (b := b) (v := v) (a := a) (most := most) (q + 1) (q + 2) k len HCC.out.hlen ps fs HCC.out.hne HCC.out.hend HCC.out.hp HCC.out.hs HCC.out.hget HCC.out.hrd HCC.out.hnx) (by simp)
    (fun i W _ => I i W)
    (fun i a₁ W _ => ∃ s, I i W ∧ q + 5 ≤ s ∧ W.heap[s]? = some (.cells (fragOf (fs i)).cells 157 (0, 0)) ∧ a₁ = { tmps := #[.pointer (some ⟨h, 0, none⟩), .int .i64 k, undef, undef, .string ⟨#[]⟩, .pointer (some ⟨q, 0, none⟩), undef, .pointer (some ⟨s, 0, none⟩), .pointer (some ⟨h, 0, none⟩), .int .i64 k, .func (.func 133) #[] #[.pointer (some ⟨q + 1, 0, none⟩), .pointer (some ⟨q + 2, 0, none⟩)], .agg #[.int .i64 (ps i).1, .int .i64 (ps i).2], .agg (fragOf (fs i)).cells, undef, undef, undef, undef, undef], defers := [] })
    (fun _ _ => False) (fun _ _ => False)
    ?_ ?_ ?_ ?_ ?_ ?_ ?_ ?_ ?_ ?_ ?_ ?_ ?_
  all_goals try simp only [HQ.out.2.2.2.2, Nat.add_assoc, Nat.reduceAdd]
  case refine_1 =>
    rintro i W _ o o' h1 h2
    exact HST.out i _ _ h1 (fun k hk => World.putObj_heap_other (by omega)) rfl rfl rfl (by simp)
  case refine_2 =>
    rintro i a₁ W _ o o' ⟨s, h1, hs, h2, h3⟩ h4
    exact ⟨s, HST.out i _ _ h1 (fun k hk => World.putObj_heap_other (by omega)) rfl rfl rfl (by simp), hs, (World.putObj_heap_other (by omega)).trans h2, h3⟩
  case refine_3 => exact fun _ _ _ _ h => h.elim
  case refine_4 =>
    rintro i W W' F h1 hF hlt ho
    exact HST.out i _ _ h1 (fun k hk => ho.block k (by omega) (fun h => by have := hF k h; omega)) ho.os ho.tape ho.output ho.size
  case refine_5 => exact fun _ _ _ h => h.elim
  case refine_6 => exact fun _ _ _ h => h.elim
  case refine_7 =>
    rintro i W _ h1
    obtain ⟨e1, e2, e3, e4⟩ := (HI.out i W).1 h1
    exact HKP.out W e1 e3 e4
  case refine_8 =>
    intro rec
    have hz : ∀ k, k < q + 3 → ((W1.alloc (.deferred (some []))).alloc (.loop rec)).heap[k]? = W1.heap[k]? := fun k hk =>
      (Below.heap_alloc _ _ _ (by rw [World.size_alloc, HQ.out.2.2.2.2]; omega)).trans (Below.heap_alloc _ _ _ (by rw [HQ.out.2.2.2.2]; omega))
    exact HST.out 0 W1 _ ((HI.out 0 W1).2 ⟨HB0.out.2, HK0.out⟩) hz rfl rfl rfl (by simp; omega)
  case refine_9 =>
    rintro i x W F hv h1 hF hlt
    refine wpIn_hide ?_
    intro Q HQ2
    have hi : i < len := by
      have := (List.getElem?_eq_some_iff.1 hv).1
      simpa using this
    have hvv : x = #[.agg #[.int .i64 (ps i).1, .int .i64 (ps i).2], .agg (fragOf (fs i)).cells] := by
      rcases List.getElem?_eq_some_iff.1 hv with ⟨q1, q2⟩
      rw [← q2]; simp
    clear hv
    subst hvv
    obtain ⟨fa, fk, fn, fp, fl, fpt, hfr⟩ : ∃ fa fk fn fp fl fpt, (fragOf (fs i)).cells = #[.bool fa, .int .i64 fk, .int .i64 fn, .int .i64 fp, .int .i64 fl, .string fpt] := ⟨_, _, _, _, _, _, rfl⟩
    obtain ⟨X, Y, hXY⟩ : ∃ X Y, ps i = (X, Y) := ⟨_, _, rfl⟩
    rw [hfr, hXY] at HQ2 ⊢
    have H1 := Aside0.mk (And.intro h1 (And.intro hF hlt))
    clear h1 hF hlt hfr hXY hi
    simp only [List.zip_toArray, List.zip_cons_cons, List.zip_nil_right, List.size_toArray, List.length_cons, List.length_nil, Nat.reduceAdd, List.foldl_toArray', List.foldl_cons, List.foldl_nil]
    gi_wp2_with fail
    have hb := below_alloc (Below.refl W.heap.size W) (.cells #[.bool fa, .int .i64 fk, .int .i64 fn, .int .i64 fp, .int .i64 fl, .string fpt] 157)
    refine HQ2.out _ _ _ ⟨⟨W.heap.size, HST.out i _ _ H1.out.1 (fun k hk => hb.block k (by have := H1.out.2.2; omega)) rfl rfl rfl (by simp), by have := H1.out.2.2; omega, blk_new _ _, rfl⟩, keptF_below F hb, hb.block _ (by have := H1.out.2.2; omega), hb.block _ (by have := H1.out.2.2; omega)⟩
  case refine_10 =>
    rintro i x a₁ W F hv ⟨s, h1, hs, h2, rfl⟩ hF hlt
    refine wpIn_hide ?_
    intro Q HQ2
    have hi : i < len := by
      have := (List.getElem?_eq_some_iff.1 hv).1
      simpa using this
    obtain ⟨e1, e2, e3, e4⟩ := (HI.out i W).1 h1
    obtain ⟨X, Y, hXY⟩ : ∃ X Y, ps i = (X, Y) := ⟨_, _, rfl⟩
    have hacc : accS fs (i + 1) = accS fs i ++ (fragOf (fs i)).part := rfl
    obtain ⟨fa, fk, fn, fp, fl, fpt, hfr, hpt⟩ : ∃ fa fk fn fp fl fpt, (fragOf (fs i)).cells = #[.bool fa, .int .i64 fk, .int .i64 fn, .int .i64 fp, .int .i64 fl, .string fpt] ∧ (fragOf (fs i)).part = fpt := ⟨_, _, _, _, _, _, rfl, rfl⟩
    have hz1 := accS_size fs i (fun j hj => (HCC.out.hrd j (by omega)).2.1)
    have hz2 := part_size (fs i)
    have hz3 := (HCC.out.hrd i hi).2.1
    have hz4 := HCC.out.hlen
    obtain ⟨AC, hAC⟩ : ∃ AC, accS fs i = AC := ⟨_, rfl⟩
    rw [hAC] at e2 hacc hz1
    rw [hpt] at hz2
    have hz : ¬ 9223372036854775807 < AC.size + fpt.size := by omega
    clear hz1 hz2 hz3 hz4
    rw [hpt] at hacc
    rw [hfr] at h2
    rw [hfr, hXY]
    have c0 := (blk_cell e2 0).trans rfl
    have f0 := blk_frozen e2 0
    have c1 := (blk_cell h2 5).trans rfl
    have HE := Aside0.mk (And.intro e1 (And.intro e2 (And.intro e3 (And.intro e4 (And.intro hs (And.intro hF hlt))))))
    have HAC := Aside0.mk hacc
    clear hv h1 e1 e2 e3 e4 hs hF hlt h2 hfr hXY hacc hpt hAC hi
    gi_wp2_with fail
    have hE := HE.out
    refine HQ2.out _ _ _ ⟨?_, ?_, ?_⟩
    · exact Below.heap_setCell _ _ _ _ (by simp only; omega)
    · exact Below.heap_setCell _ _ _ _ (by simp only; omega)
    · refine ⟨(HI.out (i + 1) _).2 ⟨hE.1.setCell (by simp) _, ?_, blk_far hE.2.2.1 (by simp) _, blk_far hE.2.2.2.1 (by simp) _⟩, keptF_set F _ _ _ (fun h => by have := hE.2.2.2.2.2.1 _ h; simp only at this; omega)⟩
      rw [HAC.out]
      exact blk_set hE.2.1 0 _
  case refine_11 =>
    rintro W F h1 hD
    have hlen : ((List.range len).map fun i => (#[.agg #[.int .i64 (ps i).1, .int .i64 (ps i).2], .agg (fragOf (fs i)).cells] : Array Value)).length = len := by simp
    rw [hlen] at h1
    refine hK4 _ _ ?_
    clear hK4
    refine wpX_of_wp ?_
    obtain ⟨e1, e2, e3, e4⟩ := (HI.out len W).1 h1
    have c0 := (blk_cell e2 0).trans rfl
    obtain ⟨AC, hAC⟩ : ∃ AC, accS fs len = AC := ⟨_, rfl⟩
    rw [hAC] at c0
    have HAC := Aside0.mk hAC
    have HD := Aside0.mk hD
    have HE := Aside0.mk e1
    clear h1 e1 e2 e3 e4 hD hAC hlen
    go_wp2_with fail
    refine leavesM_ret1 (v := .string AC) HD.out (by simp [results, Try.results122, go_sem]) ?_
    rw [← HR.out]
    refine ⟨by rw [HAC.out], ?_⟩
    rw [HQ.out.1]
    exact below_putObj HE.out (by omega) _
  case refine_12 => exact fun _ _ h => h.elim
  case refine_13 => exact fun _ _ h => h.elim

end Go.Proofs.Ytemglmcddaeedaa.PA

namespace Go.Proofs.Ytemglmcddaeedaa.PA
open Go.RowKit Go.Proofs.YtemglmcddaeedaaW.PrintWords Go.Proofs.YtemglmcddaeedaaW.PrintLast Go.Proofs.YtemglmcddaeedaaW.PrintMore
attribute [local go_sem] max2_int min2_int max_two min_two max_three min_three max_four min_four   -- for this text's walks alone
set_option linter.unusedVariables false
set_option linter.unusedSimpArgs false

/-! ### heap_frags: function 0 -/
attribute [local go_sem] Oper.semAt_some
theorem RowK.own {α : Type} {enc : α → List Value} {k : Nat} {e : TypeId} {w w' : World} {base : Nat} {v : Value} {l : List α} (h : RowK enc k e w base v l) (hk : ∀ r : Nat, some r = v.ownBlock → base ≤ r → r < w.heap.size → w'.heap[r]? = w.heap[r]?) : RowK enc k e w' base v l := by
  rcases h with h | ⟨r, cap, sp, rfl, h2, h3, h4, h5, h6⟩
  · exact .inl h
  · exact .inr ⟨r, cap, sp, rfl, h2, h3, h4, h5, (hk r (by simp [Value.ownBlock]) h2 (blk_lt h6)).trans h6⟩
structure FragI (w : World) (q h : Nat) (k : Int) (l : List (Int × Int)) (v9 : Value) (W : World) (F : Nat → Prop) : Prop where
  low : Below q w W
  out : W.heap[q]? = some (.cells #[v9] 113 (0, 0))
  row : RowK aEnc 2 93 W (q + 5) v9 l
  own : ∀ r, some r = v9.ownBlock → ¬ F r
  hb : W.heap[q + 1]? = some (.cells #[.pointer (some ⟨h, 0, none⟩)] 109 (0, 0))
  kb : W.heap[q + 2]? = some (.cells #[.int .i64 k] 3 (0, 0))
theorem FragI.step {w : World} {q h : Nat} {k : Int} {l : List (Int × Int)} {v9 : Value} {W W' : World} {F F' : Nat → Prop} (H : FragI w q h k l v9 W F) (h1 : ∀ k, k < q + 3 → W'.heap[k]? = W.heap[k]?) (h2 : ∀ k, q + 5 ≤ k → k < W.heap.size → ¬ F k → W'.heap[k]? = W.heap[k]?)
    (h3 : W'.os = W.os) (h4 : W'.tape = W.tape) (h5 : W'.output = W.output) (h6 : W.heap.size ≤ W'.heap.size) (h7 : ∀ k, k < W.heap.size → F' k → F k) : FragI w q h k l v9 W' F' :=
  ⟨H.low.trans ⟨h3, h4, h5, h6, fun k hk => h1 k (by omega)⟩, (h1 q (by omega)).trans H.out, H.row.own (fun r e hr hl => h2 r hr hl (H.own r e)), fun r e hF => by
    obtain ⟨_, cs, hc⟩ := row_own H.row r e
    exact H.own r e (h7 r (blk_lt hc) hF), (h1 _ (by omega)).trans H.hb, (h1 _ (by omega)).trans H.kb⟩
set_option maxHeartbeats 2000000 in
set_option maxRecDepth 100000 in
theorem heap_Fragments_ok {base h g b : Nat} {v : Value} {a : AreaS} {most : Int} (k : Int) (hk : 1 ≤ k ∧ k ≤ 1000000) (len : Nat) (ps : Nat → Int × Int) (fs : Nat → ByteArray) (HC : ChainS a len ps fs) (w : World) (H : HeapAt w base h g v a most b)
    (hm : w.heap[b]? = some (.map #[⟨.int .i64 k, .agg #[.int .i64 (ps 0).1, .int .i64 (ps 0).2], 0⟩] 1)) :
    Calls Try.prog 91 #[.pointer (some ⟨h, 0, none⟩), .int .i64 k] w fun e w' => ∃ v', e = .returned (.tuple #[v', .int .i64 0]) ∧ RowK aEnc 2 93 w' w.heap.size v' ((List.range len).map ps) ∧ Below w.heap.size w w' := by
  refine calls_of_wpX Try.func91 rfl ?_
  simp only [Try.ntmps91, List.size_toArray, List.length_cons, List.length_nil, Nat.reduceAdd, Nat.reduceSub, Array.replicate_succ, Array.replicate_zero, List.push_toArray, List.append_toArray, List.nil_append, List.cons_append]
  obtain ⟨R, hR⟩ : ∃ R : Ending → World → Prop, (fun e w' => ∃ v', e = .returned (.tuple #[v', .int .i64 0]) ∧ RowK aEnc 2 93 w' w.heap.size v' ((List.range len).map ps) ∧ Below w.heap.size w w') = R := ⟨_, rfl⟩
  rw [hR]
  have HR := Aside0.mk hR
  have HCC := Aside0.mk HC
  have HASK := Aside0.mk (heap_asked_there k hk (ps 0).1 (ps 0).2 0 1 w H hm)
  have HH := Aside0.mk (And.intro H hm)
  clear hR HC H hm hk
  refine wpX_seq_k ?_
  intro K hK
  go_wp2_with fail
  refine wpX_seq_k ?_
  intro K1 hK1
  go_wp2_with fail
  refine HASK.out.mono ?_
  rintro e w1 ⟨rfl, hb1⟩
  have HH1 := Aside0.mk (And.intro (HH.out.1.below hb1) ((hb1.block b (blk_lt HH.out.2)).trans HH.out.2))
  have HBW := Aside0.mk hb1
  clear hb1 HASK HH
  obtain ⟨q, hq⟩ : ∃ q, w1.heap.size = q := ⟨_, rfl⟩
  obtain ⟨W0, hW0⟩ : ∃ W, w1.alloc (.cells #[.slice none 0 0] 113) = W := ⟨_, rfl⟩
  obtain ⟨W1, hW1⟩ : ∃ W, (W0.alloc (.cells #[.pointer (some ⟨h, 0, none⟩)] 109)).alloc (.cells #[.int .i64 k] 3) = W := ⟨_, rfl⟩
  have hs0 : W0.heap.size = q + 1 := by rw [← hW0, ← hq]; simp
  have hs1 : W1.heap.size = q + 3 := by rw [← hW1]; simp [hs0]
  have hB0 : Below q w1 W0 := by rw [← hW0, ← hq]; exact below_alloc (Below.refl _ w1) _
  have hB1 : Below q w1 W1 := by rw [← hW1]; exact (hB0.alloc (by omega) _).alloc (by simp; omega) _
  have k0 : W1.heap[q]? = some (.cells #[.slice none 0 0] 113 (0, 0)) := by rw [← hW1, ← hW0, ← hq]; exact blk_alloc (blk_alloc (blk_new _ _) _) _
  have k1 : W1.heap[q + 1]? = some (.cells #[.pointer (some ⟨h, 0, none⟩)] 109 (0, 0)) := by rw [← hW1, ← hs0]; exact blk_alloc (blk_new _ _) _
  have k2 : W1.heap[q + 2]? = some (.cells #[.int .i64 k] 3 (0, 0)) := by
    have := blk_new (W0.alloc (.cells #[.pointer (some ⟨h, 0, none⟩)] 109)) (.cells #[.int .i64 k] 3)
    rw [World.size_alloc, hs0] at this
    rw [← hW1]; exact this
  have HQ := Aside0.mk (And.intro hq (And.intro hW0 (And.intro hW1 (And.intro hs0 hs1))))
  have HB0 := Aside0.mk (And.intro hB0 hB1)
  have HK0 := Aside0.mk (And.intro k0 (And.intro k1 k2))
  clear hq hW0 hW1 hs0 hs1 hB0 hB1 k0 k1 k2
  go_wp2_with fail
  refine wpX_seq_k ?_
  intro K2 hK2
  go_wp2_with fail
  simp only [HQ.out.1, HQ.out.2.1]
  refine wpX_seq_x ?_
  intro K4 hK4
  refine wpX_seq_k ?_
  intro K5 hK5
  go_wp2_with fail
  refine (heap_fragments h k W0).mono ?_
  rintro e w2 ⟨rfl, rfl⟩
  rw [HQ.out.2.2.1]
  simp only [HQ.out.2.2.2.1, Nat.add_assoc, Nat.reduceAdd]
  go_wp2_with fail
  refine wpX_block ?_
  have HKP := Aside0.mk (show ∀ W : World, Below q w1 W → W.heap[q + 1]? = some (.cells #[.pointer (some ⟨h, 0, none⟩)] 109 (0, 0)) → W.heap[q + 2]? = some (.cells #[.int .i64 k] 3 (0, 0)) →
      (W.heap[q + 1]? = some (.cells #[.pointer (some ⟨h, 0, none⟩)] 109 (0, 0)) ∧ W.heap[q + 2]? = some (.cells #[.int .i64 k] 3 (0, 0)) ∧ HeapAt W base h g v a most b ∧ W.heap[b]? = some (.map #[⟨.int .i64 k, .agg #[.int .i64 (ps 0).1, .int .i64 (ps 0).2], 0⟩] 1)) from fun W hB h1 h2 => by
    rw [← HQ.out.1] at hB
    exact ⟨h1, h2, HH1.out.1.below hB, (hB.block b (blk_lt HH1.out.2)).trans HH1.out.2⟩)
  refine wpX_rangeF (gf := 133) (lb := #[.pointer (some ⟨q + 1, 0, none⟩), .pointer (some ⟨q + 2, 0, none⟩)]) (xs := (List.range len).map fun i => #[.agg #[.int .i64 (ps i).1, .int .i64 (ps i).2], .agg (fragOf (fs i)).cells])
    (Kp := _) rfl (fun _ _ => rfl) (frag1_iter (base := base) (h := h) (g := g) (b := b) (v := v) (a := a) (most := most) (q + 1) (q + 2) k len HCC.out.hlen ps fs HCC.out.hne HCC.out.hend HCC.out.hp HCC.out.hs HCC.out.hget HCC.out.hrd HCC.out.hnx) (by simp)
    (fun i W F => ∃ v9, FragI w1 q h k ((List.range i).map ps) v9 W F)
    (fun i a₁ W F => ∃ s v9, FragI w1 q h k ((List.range i).map ps) v9 W F ∧ q + 5 ≤ s ∧ W.heap[s]? = some (.cells #[.int .i64 (ps i).1, .int .i64 (ps i).2] 93 (0, 0)) ∧ a₁ = { tmps := #[.pointer (some ⟨h, 0, none⟩), .int .i64 k, undef, undef, .slice none 0 0, .int .i64 0, .int .i64 0, .pointer (some ⟨q, 0, none⟩), .pointer (some ⟨s, 0, none⟩), .pointer (some ⟨h, 0, none⟩), .int .i64 k, .int .i64 0, .int .i64 0, .bool false, undef, .pointer (some ⟨h, 0, none⟩), .int .i64 k, .func (.func 133) #[] #[.pointer (some ⟨q + 1, 0, none⟩), .pointer (some ⟨q + 2, 0, none⟩)], .agg #[.int .i64 (ps i).1, .int .i64 (ps i).2], .agg (fragOf (fs i)).cells, undef, undef, undef, undef, undef], defers := [] })
    (fun _ _ => False) (fun _ _ => False)
    ?_ ?_ ?_ ?_ ?_ ?_ ?_ ?_ ?_ ?_ ?_ ?_ ?_
  all_goals try simp only [HQ.out.2.2.2.2, Nat.add_assoc, Nat.reduceAdd]
  case refine_1 =>
    rintro i W F o o' ⟨v9, h1⟩ h2
    exact ⟨v9, h1.step (fun k hk => World.putObj_heap_other (by omega)) (fun k hk _ _ => World.putObj_heap_other (by omega)) rfl rfl rfl (by simp) (fun _ _ h => h)⟩
  case refine_2 =>
    rintro i a₁ W F o o' ⟨s, v9, h1, hs, h2, h3⟩ h4
    exact ⟨s, v9, h1.step (fun k hk => World.putObj_heap_other (by omega)) (fun k hk _ _ => World.putObj_heap_other (by omega)) rfl rfl rfl (by simp) (fun _ _ h => h), hs, (World.putObj_heap_other (by omega)).trans h2, h3⟩
  case refine_3 => exact fun _ _ _ _ h => h.elim
  case refine_4 =>
    rintro i W W' F ⟨v9, h1⟩ hF hlt ho
    exact ⟨v9, h1.step (fun k hk => ho.block k (by omega) (fun h => by have := hF k h; omega)) (fun k _ hk hn => ho.block k hk hn) ho.os ho.tape ho.output ho.size (fun k hk h => h.elim id (fun h => by omega))⟩
  case refine_5 => exact fun _ _ _ h => h.elim
  case refine_6 => exact fun _ _ _ h => h.elim
  case refine_7 =>
    rintro i W _ ⟨v9, h1⟩
    exact HKP.out W h1.low h1.hb h1.kb
  case refine_8 =>
    intro rec
    have hz : ∀ k, k < q + 3 → ((W1.alloc (.deferred (some []))).alloc (.loop rec)).heap[k]? = W1.heap[k]? := fun k hk =>
      (Below.heap_alloc _ _ _ (by rw [World.size_alloc, HQ.out.2.2.2.2]; omega)).trans (Below.heap_alloc _ _ _ (by rw [HQ.out.2.2.2.2]; omega))
    have h0 : FragI w1 q h k [] (.slice none 0 0) W1 (fun _ => False) := ⟨HB0.out.2, HK0.out.1, RowK.nil _ _ _, fun _ _ h => h.elim, HK0.out.2.1, HK0.out.2.2⟩
    exact ⟨_, h0.step hz (fun k hk hl => by rw [HQ.out.2.2.2.2] at hl; omega) rfl rfl rfl (by simp; omega) (fun _ _ h => h)⟩
  case refine_9 =>
    rintro i x W F hv ⟨v9, h1⟩ hF hlt
    refine wpIn_hide ?_
    intro Q HQ2
    have hi : i < len := by
      have := (List.getElem?_eq_some_iff.1 hv).1
      simpa using this
    have hvv : x = #[.agg #[.int .i64 (ps i).1, .int .i64 (ps i).2], .agg (fragOf (fs i)).cells] := by
      rcases List.getElem?_eq_some_iff.1 hv with ⟨q1, q2⟩
      rw [← q2]; simp
    clear hv
    subst hvv
    obtain ⟨X, Y, hXY⟩ : ∃ X Y, ps i = (X, Y) := ⟨_, _, rfl⟩
    rw [hXY] at HQ2 ⊢
    have H1 := Aside0.mk (And.intro h1 (And.intro hF hlt))
    obtain ⟨CS, hCS⟩ : ∃ CS, (fragOf (fs i)).cells = CS := ⟨_, rfl⟩
    rw [hCS] at HQ2 ⊢
    clear h1 hF hlt hXY hi hCS
    simp only [List.zip_toArray, List.zip_cons_cons, List.zip_nil_right, List.size_toArray, List.length_cons, List.length_nil, Nat.reduceAdd, List.foldl_toArray', List.foldl_cons, List.foldl_nil]
    gi_wp2_with fail
    have hb := below_alloc (Below.refl W.heap.size W) (.cells #[.int .i64 X, .int .i64 Y] 93)
    refine HQ2.out _ _ _ ⟨⟨W.heap.size, v9, H1.out.1.step (fun k hk => hb.block k (by have := H1.out.2.2; omega)) (fun k _ hk _ => hb.block k hk) rfl rfl rfl (by simp) (fun _ _ h => h), by have := H1.out.2.2; omega, blk_new _ _, rfl⟩, keptF_below F hb, hb.block _ (by have := H1.out.2.2; omega), hb.block _ (by have := H1.out.2.2; omega)⟩
  case refine_10 =>
    rintro i x a₁ W F hv ⟨s, v9, h1, hs, h2, rfl⟩ hF hlt
    refine wpIn_hideN (fun a w h => h.2.2) ?_
    intro Q HQ2 HNO
    have hi : i < len := by
      have := (List.getElem?_eq_some_iff.1 hv).1
      simpa using this
    obtain ⟨X, Y, hXY⟩ : ∃ X Y, ps i = (X, Y) := ⟨_, _, rfl⟩
    obtain ⟨CS, hCS⟩ : ∃ CS, (fragOf (fs i)).cells = CS := ⟨_, rfl⟩
    obtain ⟨d9, hd9⟩ : ∃ d9, (List.range i).map ps = d9 := ⟨_, rfl⟩
    have hdn : (List.range (i + 1)).map ps = d9 ++ [(X, Y)] := by rw [List.range_succ, List.map_append, hd9, List.map_singleton, hXY]
    have hdl : d9.length = i := by rw [← hd9]; simp
    rw [hd9] at h1
    rw [hXY] at h2
    rw [hCS, hXY]
    have hlen : i ≤ 100000 := by have := HCC.out.hlen; omega
    have c0 := (blk_cell h2 0).trans rfl
    have c1 := (blk_cell h2 1).trans rfl
    have c9 := (blk_cell h1.out 0).trans rfl
    have hbw := below_alloc (Below.refl W.heap.size W) (.cells (aEnc (X, Y)).toArray 93)
    have H0 := Aside0.mk (aR_of_row (h1.row.below hbw))
    have HRR := Aside0.mk (a_reads (base := q + 5) (fun k => some k ≠ v9.ownBlock) (X, Y) (blk_new W (.cells (aEnc (X, Y)).toArray 93)))
    have hsz : (W.alloc (.cells (aEnc (X, Y)).toArray 93)).heap.size = W.heap.size + 1 := World.size_alloc _ _
    have HB := Aside0.mk (show q + 5 ≤ (W.alloc (.cells (aEnc (X, Y)).toArray 93)).heap.size by rw [hsz]; omega)
    have HX := Aside0.mk (show ∀ w1 : World, (W.alloc (.cells (aEnc (X, Y)).toArray 93)).grownBy w1 v9.ownBlock → ∀ i, i < W.heap.size → some i ≠ v9.ownBlock → w1.heap[i]? = W.heap[i]? from fun w1 h3 i hi hn =>
      (h3.block i (by rw [hsz]; omega) hn).trans (hbw.block i hi))
    have hown := row_own h1.row
    have HK9 := Aside0.mk (show ∀ w1 : World, (W.alloc (.cells (aEnc (X, Y)).toArray 93)).grownBy w1 v9.ownBlock → w1.heap[q]? = some (.cells #[v9] 113 (0, 0)) from fun w1 h3 =>
      (HX.out w1 h3 _ (blk_lt h1.out) (fun e => by have := (hown _ e).1; omega)).trans h1.out)
    have HE := Aside0.mk (And.intro h1 (And.intro hown (And.intro hF (And.intro hlt (And.intro hdl (And.intro hlen (And.intro hdn hsz)))))))
    obtain ⟨A9, cp9, rfl, hcp9, _⟩ := Kd.R_reads H0.out
    clear hv h1 hs h2 hF hlt hXY hCS hd9 hdn hdl hbw hsz hown hi hlen
    refine wpIn_block ?_
    refine round_region_list (by kernel_rfl) (fun a w h => HNO.out a w h) ?_
    go_wp2_with (at_builtin; go_loud (refine Kd.R_append_rows kA (q + 5) rfl (.tmp 20) (.tmp 22) 113 93 (.agg #[.int .i64 0, .int .i64 0]) 16 rfl Try.underlying113 (by kernel_rfl) rfl (by decide) (by decide) _ d9 [(X, Y)] _ 1 1 (fun _ => True) _ rfl rfl H0.out HRR.out (fun _ _ h => h) (fun k h => ⟨trivial, h⟩) (fun _ _ => trivial) (Below.refl _ _) HB.out (by have := HE.out.2.2.2.2.1; have := HE.out.2.2.2.2.2.1; omega) ?_); intro v1 w2 h1 h2 h3 h4; obtain ⟨A2, cp2, rfl, hcp2, _⟩ := Kd.R_reads h1; have k9 := HK9.out w2 h3; have f9 := blk_frozen k9 0; have g9 := (blk_cell k9 0).trans rfl)
    have hE := HE.out
    have hrow := row_of_aR h1
    refine HQ2.out _ _ _ ⟨?_, ?_, ?_⟩
    · exact (Below.heap_setCell _ _ _ _ (by simp only; omega)).trans (HX.out w2 h3 _ (by have := hE.2.2.2.1; omega) (fun e => by have := (hE.2.1 _ e).1; omega))
    · exact (Below.heap_setCell _ _ _ _ (by simp only; omega)).trans (HX.out w2 h3 _ (by have := hE.2.2.2.1; omega) (fun e => by have := (hE.2.1 _ e).1; omega))
    · have hd1 : ∀ (z : Value) (i : Nat), i ≠ q → (w2.setCell ⟨q, 0, none⟩ z).heap[i]? = w2.heap[i]? := fun z i h => Below.heap_setCell _ _ _ i h
      have hlow : Below q w1 w2 := (hE.1.low.alloc (Nat.le_of_lt (blk_lt hE.1.out)) _).trans (h2.mono (by omega))
      have hlt := hE.2.2.2.1
      refine ⟨⟨.slice A2 (d9.length + 1) cp2, hlow.setCell (by simp) _, blk_set (HK9.out w2 h3) 0 _, ?_, ?_, ?_, ?_⟩, ?_, ?_⟩
      · rw [hE.2.2.2.2.2.2.1]
        simp only [List.length_append, List.length_cons, List.length_nil, Nat.zero_add] at hrow
        exact hrow.own (fun r _ hr _ => hd1 _ r (by omega))
      · intro r er hF
        have h5 := hE.2.2.1 r hF
        rw [show (d9 ++ [(X, Y)]).length = d9.length + 1 by simp] at h4
        rcases h4 with h4 | ⟨b, h4, hb⟩
        · have h6 : (Value.slice A2 (d9.length + 1) cp2).ownBlock = (Value.slice A9 d9.length cp9).ownBlock := h4
          exact hE.1.own r (er.trans h6) hF
        · have h6 : (Value.slice A2 (d9.length + 1) cp2).ownBlock = some b := h4
          have e2 : some r = some b := er.trans h6
          have e3 : r = b := by simpa using e2
          rw [World.size_alloc] at hb
          omega
      · exact (hd1 _ _ (by omega)).trans ((HX.out w2 h3 _ (by omega) (fun e => by have := (hE.2.1 _ e).1; omega)).trans hE.1.hb)
      · exact (hd1 _ _ (by omega)).trans ((HX.out w2 h3 _ (by omega) (fun e => by have := (hE.2.1 _ e).1; omega)).trans hE.1.kb)
      · have h5 := h3.size
        rw [World.size_alloc] at h5
        simp only [World.setCell, Array.size_modify]
        omega
      · intro r hF hr
        exact (hd1 _ _ (by have := hE.2.2.1 r hF; omega)).trans (HX.out w2 h3 r hr (fun e => hE.1.own r e hF))
  case refine_11 =>
    rintro W F ⟨v9, h1⟩ hD
    have hlen : ((List.range len).map fun i => (#[.agg #[.int .i64 (ps i).1, .int .i64 (ps i).2], .agg (fragOf (fs i)).cells] : Array Value)).length = len := by simp
    rw [hlen] at h1
    refine hK4 _ _ ?_
    clear hK4
    refine wpX_of_wp ?_
    have c0 := (blk_cell h1.out 0).trans rfl
    have HD := Aside0.mk hD
    have HE := Aside0.mk h1
    obtain ⟨A9, cp9, rfl, hcp9, _⟩ := Kd.R_reads (aR_of_row h1.row)
    clear h1 hD hlen
    go_wp2_with fail
    refine leavesM_ret1 (v := .tuple #[.slice A9 ((List.range len).map ps).length cp9, .int .i64 0]) HD.out (by simp [results, Try.results91, go_sem]) ?_
    rw [← HR.out]
    have hlow : Below w.heap.size w W := below_then HBW.out HBW.out.size (by rw [HQ.out.1]; exact HE.out.low)
    have hle : w.heap.size ≤ q := by rw [← HQ.out.1]; exact HBW.out.size
    refine ⟨_, rfl, ?_, below_putObj hlow (by omega) _⟩
    have hr := HE.out.row
    have hr2 : RowK aEnc 2 93 (W.putObj (q + 3) (.deferred none)) (q + 5) (.slice A9 ((List.range len).map ps).length cp9) ((List.range len).map ps) := hr.own (fun r _ hr _ => World.putObj_heap_other (by omega))
    rcases hr2 with h9 | ⟨r, cap, sp, h1, h2, h3⟩
    · exact .inl h9
    · exact .inr ⟨r, cap, sp, h1, by omega, h3⟩
  case refine_12 => exact fun _ _ h => h.elim
  case refine_13 => exact fun _ _ h => h.elim

end Go.Proofs.Ytemglmcddaeedaa.PA

namespace Go.Proofs.Ytemglmcddaeedaa.PA
open Go.RowKit Go.Proofs.YtemglmcddaeedaaW.PrintWords Go.Proofs.YtemglmcddaeedaaW.PrintLast Go.Proofs.YtemglmcddaeedaaW.PrintMore
attribute [local go_sem] max2_int min2_int max_two min_two max_three min_three max_four min_four   -- for this text's walks alone
set_option linter.unusedVariables false
set_option linter.unusedSimpArgs false

/-! ### heap_get: function 0 -/
theorem heap_Get_ok {base h g b : Nat} {v : Value} {a : AreaS} {most : Int} (k : Int) (hk : 1 ≤ k ∧ k ≤ 1000000) (len : Nat) (ps : Nat → Int × Int) (fs : Nat → ByteArray) (HC : ChainS a len ps fs) (w : World) (H : HeapAt w base h g v a most b)
    (hm : w.heap[b]? = some (.map #[⟨.int .i64 k, .agg #[.int .i64 (ps 0).1, .int .i64 (ps 0).2], 0⟩] 1)) :
    Calls Try.prog 90 #[.pointer (some ⟨h, 0, none⟩), .int .i64 k] w fun e w' => e = .returned (.tuple #[.string (accS fs len), .int .i64 0]) ∧ Below w.heap.size w w' := by
  have HASK := Aside0.mk (heap_asked_there k hk (ps 0).1 (ps 0).2 0 1 w H hm)
  have HD := Aside0.mk (fun (W : World) (hB : Below w.heap.size w W) => heap_data_ok k len ps fs HC W (H.below hB) ((hB.block b (blk_lt hm)).trans hm))
  obtain ⟨AC, hAC⟩ : ∃ AC, accS fs len = AC := ⟨_, rfl⟩
  rw [hAC] at HD ⊢
  clear HC H hm hk hAC
  go_enter Try.func90, Try.ntmps90
  go_wp2_with fail
  refine HASK.out.mono ?_
  rintro e w1 ⟨rfl, hb1⟩
  have HD1 := Aside0.mk (And.intro (HD.out w1 hb1) hb1)
  clear hb1
  go_wp2_with fail
  refine HD1.out.1.mono ?_
  rintro e w2 ⟨rfl, hb2⟩
  have HB := Aside0.mk (below_then HD1.out.2 HD1.out.2.size hb2)
  clear hb2
  go_wp2_with fail
  go_ret2
  exact ⟨rfl, HB.out⟩

end Go.Proofs.Ytemglmcddaeedaa.PA

namespace Go.Proofs.Ytemglmcddaeedaa.PA
open Go.RowKit Go.Proofs.YtemglmcddaeedaaW.PrintWords Go.Proofs.YtemglmcddaeedaaW.PrintLast Go.Proofs.YtemglmcddaeedaaW.PrintMore
attribute [local go_sem] max2_int min2_int max_two min_two max_three min_three max_four min_four   -- for this text's walks alone
set_option linter.unusedVariables false
set_option linter.unusedSimpArgs false

/-! ### awake08: function 0 -/
/-! #### the law's awake -/
def f8e : ByteArray := ⟨#[67, 0, 0, 0, 7, 0, 2, 0, 0, 0, 101]⟩
def f8c : ByteArray := ⟨#[67, 0, 0, 0, 7, 0, 1, 0, 0, 1, 99, 100]⟩
def f8a : ByteArray := ⟨#[65, 0, 0, 0, 7, 0, 5, 0, 0, 2, 97, 98]⟩
def s8 : ByteArray := ⟨#[97, 98, 99, 100, 101]⟩
def l8 : List ByteArray := [⟨#[97, 98]⟩, ⟨#[99, 100]⟩, ⟨#[101]⟩]
structure PagesLaw08 (k : Nat) (p0 p1 p2 p3 : ByteArray) : Prop where
  new : page_New.f 1 64 = some (p0, 0)
  s0 : (p0.size : Int) = 64
  s1 : (p1.size : Int) = 64
  s2 : (p2.size : Int) = 64
  s3 : (p3.size : Int) = 64
  v0 : validS p0
  v1 : validS p1
  v2 : validS p2
  f0 : fitsS p0 11 = true
  f1 : fitsS p1 12 = true
  f2 : fitsS p2 12 = true
  r0 : 8 ≤ roomS p0
  r1 : 8 ≤ roomS p1
  r2 : 8 ≤ roomS p2
  put0 : page_Put.f k p0 f8e = some (p1, 1, 0)
  put1 : page_Put.f k p1 f8c = some (p2, 2, 0)
  put2 : page_Put.f k p2 f8a = some (p3, 3, 0)
  other : ∃ x, page_Put.f k p0 f8c = some x ∧ (x.2.2 = 0 → (x.1.size : Int) = 64)
  other2 : ∃ x, page_Put.f k p0 f8a = some x ∧ (x.2.2 = 0 → (x.1.size : Int) = 64)
  g1 : getS p3 1 = (f8e, 0)
  g2 : getS p3 2 = (f8c, 0)
  g3 : getS p3 3 = (f8a, 0)
def AwakeLaw08 : Prop := ∃ k p0 p1 p2 p3, PagesLaw08 k p0 p1 p2 p3
theorem parts8 : piece_parts.f 10 2 s8 = some l8 := by decide +kernel
theorem framed8 : piece_framed.f 7 2 5 0 0 ⟨#[101]⟩ = some f8e ∧ piece_framed.f 7 1 5 0 1 ⟨#[99, 100]⟩ = some f8c ∧ piece_framed.f 7 0 5 0 2 ⟨#[97, 98]⟩ = some f8a := by
  refine ⟨?_, ?_, ?_⟩ <;> decide +kernel
def N8 : Nat → Int × Int
  | 0 => (0, 0)
  | 1 => (0, 1)
  | 2 => (0, 2)
  | _ => (0, 3)
def F8 : Nat → ByteArray
  | 0 => f8e
  | 1 => f8c
  | _ => f8a
def ps8 (i : Nat) : Int × Int := N8 (3 - i)
def fs8 (i : Nat) : ByteArray := F8 (2 - i)
theorem frags8 : ((fragOf f8e).page, (fragOf f8e).line) = (0, 0) ∧ ((fragOf f8c).page, (fragOf f8c).line) = (0, 1) ∧ ((fragOf f8a).page, (fragOf f8a).line) = (0, 2) := by decide +kernel
theorem s8_list : (s8.toList == ([97, 98, 99, 100, 101] : List UInt8)) = true := by decide +kernel
theorem acc8 : accS fs8 3 = s8 := by decide +kernel
theorem heads8 : bt f8e 0 = 67 ∧ bt f8c 0 = 67 ∧ bt f8a 0 = 65 := by decide +kernel
theorem put8 {base g r cap k : Nat} {p p' p0 d : ByteArray} {line : Int} {lv : List Int} (hd0 : 1 ≤ d.size) (hd1 : d.size ≤ 15) (hs : (p.size : Int) = 64) (hs' : (p'.size : Int) = 64) (hv : validS p) (hv0 : validS p0) (hf : fitsS p d.size = true)
    (hr : ∀ x ∈ lv, 0 ≤ x ∧ x ≤ 255) (hl : 1 ≤ lv.getD 0 0) (hp : page_Put.f k p d = some (p', line, 0)) (ho : ∃ x, page_Put.f k p0 d = some x ∧ (x.2.2 = 0 → (x.1.size : Int) = 64)) (w : World) (h : AreaAt w base g (.slice (some ⟨r, 0, none⟩) 2 cap) ⟨64, [p, p0], lv⟩) :
    Calls Try.prog 74 #[.pointer (some ⟨g, 0, none⟩), .int .i64 ((0 : Nat) : Int), .string d] w fun e w' =>
      e = .returned (.tuple #[.agg #[.int .i64 0, .int .i64 line], .int .i64 0]) ∧ AreaAt w' base g (.slice (some ⟨r, 0, none⟩) 2 cap) ⟨64, [p', p0], lv.set 0 (roomS p' * 8 / 64)⟩ ∧ Keep2 w w' g (some r) := by
  obtain ⟨x, hx, hxs⟩ := ho
  have hput := area_Put (a := ⟨64, [p, p0], lv⟩) 0 (by simp) (by simp) d hd0 (show (d.size : Int) ≤ 64 by omega) (show (32 : Int) ≤ 64 ∧ (64 : Int) ≤ 4096 by decide) (fun i _ => getD_range hr i)
    (by intro q hq; simp only [List.mem_cons, List.not_mem_nil, or_false] at hq; rcases hq with rfl | rfl <;> first | exact hv | exact hv0) k (fun i => if i = 0 then (p', line, 0) else x)
    (by
      intro i hi
      match i, hi with
      | 0, _ => exact ⟨hp, fun _ => hs'⟩
      | 1, _ => exact ⟨hx, hxs⟩) w h
  have ht : tryAt ⟨64, [p, p0], lv⟩ 0 d.size 0 = true := by
    show (decide ((d.size * 8 / 64 : Int) ≤ lv.getD 0 0) && fitsS p d.size) = true
    rw [hf, Bool.and_true]
    exact decide_eq_true (by omega)
  have hfind : findA ⟨64, [p, p0], lv⟩ 0 ((d.size : Nat) : Int) = (0, 0) := by
    unfold findA
    have : (List.range 2).find? (tryAt ⟨64, [p, p0], lv⟩ 0 d.size) = some 0 := by
      rw [show List.range 2 = [0, 1] from rfl, List.find?_cons, ht]
    rw [show (AreaS.pages ⟨64, [p, p0], lv⟩).length = 2 from rfl, this]
    rfl
  have hpa : putA ⟨64, [p, p0], lv⟩ 0 d (fun i => if i = 0 then (p', line, 0) else x) = ((0, line, 0), ⟨64, [p', p0], lv.set 0 (roomS p' * 8 / 64)⟩) := by
    unfold putA
    rw [hfind]
    rfl
  rw [hpa] at hput
  exact hput
theorem lv_set {lv : List Int} (h : ∀ x ∈ lv, 0 ≤ x ∧ x ≤ 255) (h0 : 0 < lv.length) {p : ByteArray} (hs : (p.size : Int) = 64) (hr : 8 ≤ roomS p) :
    (∀ x ∈ lv.set 0 (roomS p * 8 / 64), 0 ≤ x ∧ x ≤ 255) ∧ 1 ≤ (lv.set 0 (roomS p * 8 / 64)).getD 0 0 ∧ 0 < (lv.set 0 (roomS p * 8 / 64)).length := by
  have hroom := roomS_range p (by omega)
  rw [hs] at hroom
  refine ⟨fun x hx => ?_, ?_, by simpa using h0⟩
  · rcases List.mem_or_eq_of_mem_set hx with h1 | h1
    · exact h x h1
    · rw [h1]; omega
  · cases lv with
    | nil => simp at h0
    | cons y ys => show 1 ≤ roomS p * 8 / 64; omega
def A8 (p0 p1 p2 p3 : ByteArray) (lv : List Int) : Nat → AreaS
  | 0 => ⟨64, [p0, p0], lv⟩
  | 1 => ⟨64, [p1, p0], lv.set 0 (roomS p1 * 8 / 64)⟩
  | 2 => ⟨64, [p2, p0], (lv.set 0 (roomS p1 * 8 / 64)).set 0 (roomS p2 * 8 / 64)⟩
  | _ => ⟨64, [p3, p0], ((lv.set 0 (roomS p1 * 8 / 64)).set 0 (roomS p2 * 8 / 64)).set 0 (roomS p3 * 8 / 64)⟩
theorem put8all {base g r cap k : Nat} {p0 p1 p2 p3 : ByteArray} (H : PagesLaw08 k p0 p1 p2 p3) {lv : List Int} (hr : ∀ x ∈ lv, 0 ≤ x ∧ x ≤ 255) (hl : 1 ≤ lv.getD 0 0) (hl0 : 0 < lv.length) :
    ∀ j, j < l8.length → ∀ W : World, AreaAt W base g (.slice (some ⟨r, 0, none⟩) 2 cap) (A8 p0 p1 p2 p3 lv j) → Calls Try.prog 74 #[.pointer (some ⟨g, 0, none⟩), .int .i64 ((0 : Nat) : Int), .string (F8 j)] W fun e w' =>
      e = .returned (.tuple #[.agg #[.int .i64 (N8 (j + 1)).1, .int .i64 (N8 (j + 1)).2], .int .i64 0]) ∧ AreaAt w' base g (.slice (some ⟨r, 0, none⟩) 2 cap) (A8 p0 p1 p2 p3 lv (j + 1)) ∧ Keep2 W w' g (some r) := by
  obtain ⟨a1, a2, a3⟩ := lv_set hr hl0 H.s1 H.r1
  obtain ⟨b1, b2, b3⟩ := lv_set a1 a3 H.s2 H.r2
  intro j hj W hA
  match j, hj with
  | 0, _ => exact put8 (d := f8e) (by decide) (by decide) H.s0 H.s1 H.v0 H.v0 H.f0 hr hl H.put0 ⟨_, H.put0, fun _ => H.s1⟩ W hA
  | 1, _ => exact put8 (d := f8c) (by decide) (by decide) H.s1 H.s2 H.v1 H.v0 H.f1 a1 a2 H.put1 H.other W hA
  | 2, _ => exact put8 (d := f8a) (by decide) (by decide) H.s2 H.s3 H.v2 H.v0 H.f2 b1 b2 H.put2 H.other2 W hA
theorem chain8 {k : Nat} {p0 p1 p2 p3 : ByteArray} (H : PagesLaw08 k p0 p1 p2 p3) (lv : List Int) : ChainS (A8 p0 p1 p2 p3 lv 3) 3 ps8 fs8 where
  hlen := by decide
  hne := by
    intro i hi
    match i, hi with
    | 0, _ => decide
    | 1, _ => decide
    | 2, _ => decide
  hend := rfl
  hp := by show 0 < 2; decide
  hs := by
    intro p hp
    have h1 := H.s3
    have h2 := H.s0
    have hp : p ∈ [p3, p0] := hp
    simp only [List.mem_cons, List.not_mem_nil, or_false] at hp
    rcases hp with rfl | rfl <;> omega
  hget := by
    intro i hi
    unfold getA
    have h2 : (0 : Int) ≤ 0 ∧ (0 : Int) < ((A8 p0 p1 p2 p3 lv 3).pages.length : Int) := ⟨by decide, by show (0 : Int) < 2; decide⟩
    match i, hi with
    | 0, _ => rw [show ps8 0 = (0, 3) from rfl]; rw [if_pos h2]; exact H.g3
    | 1, _ => rw [show ps8 1 = (0, 2) from rfl]; rw [if_pos h2]; exact H.g2
    | 2, _ => rw [show ps8 2 = (0, 1) from rfl]; rw [if_pos h2]; exact H.g1
  hrd := by
    intro i hi
    match i, hi with
    | 0, _ => exact ⟨by decide, by decide, .inl heads8.2.2⟩
    | 1, _ => exact ⟨by decide, by decide, .inr heads8.2.1⟩
    | 2, _ => exact ⟨by decide, by decide, .inr heads8.1⟩
  hnx := by
    intro i hi
    match i, hi with
    | 0, _ => exact frags8.2.2
    | 1, _ => exact frags8.2.1
    | 2, _ => exact frags8.1
set_option maxHeartbeats 2000000 in
set_option maxRecDepth 100000 in
theorem awake08 (H : AwakeLaw08) (w : World) : Calls Try.prog 46 #[] w fun e w' => e = .returned (.bool true) ∧ Below w.heap.size w w' := by
  obtain ⟨k, p0, p1, p2, p3, H⟩ := H
  have HNEW := Aside0.mk (piece_New_ok 64 (by decide) 2 (by decide) 2 (by decide) p0 H.new H.s0 w)
  have HH := Aside0.mk H
  have hroom := roomS_range p0 (by have := H.s0; omega)
  rw [H.s0] at hroom
  have hr0 := H.r0
  obtain ⟨L, hL⟩ : ∃ L, roomS p0 * 8 / 64 = L := ⟨_, rfl⟩
  have hL0 : 1 ≤ L ∧ L ≤ 255 := by omega
  rw [hL] at HNEW
  have hlv : ∀ x ∈ ([L, L] ++ zer 198), 0 ≤ x ∧ x ≤ 255 := by
    intro x hx
    rcases List.mem_append.1 hx with h | h
    · simp only [List.mem_cons, List.not_mem_nil, or_false, or_self] at h; rw [h]; omega
    · rw [zer_mem h]; decide
  have HPA := Aside0.mk (fun base g r cap => put8all (base := base) (g := g) (r := r) (cap := cap) H hlv (show (1 : Int) ≤ L from hL0.1) (by simp))
  have HCH := Aside0.mk (chain8 H ([L, L] ++ zer 198))
  clear hL hroom hr0 hL0 hlv H
  go_enter Try.func46, Try.ntmps46
  go_wp2_with fail
  refine HNEW.out.mono ?_
  rintro e w1 ⟨h, g, v, b, rfl, hA, hm, hbb, hb1⟩
  have hlist : (List.replicate 2 p0) = [p0, p0] := rfl
  rw [hlist] at hA
  obtain ⟨r, cap, rfl, hbr, _, _, _, _, _, _⟩ := hA.area.slice (by simp)
  have hA' : HeapAt w1 w.heap.size h g (.slice (some ⟨r, 0, none⟩) 2 cap) (A8 p0 p1 p2 p3 ([L, L] ++ zer 198) 0) 2 b := hA
  have hput := heap_Put_ok (n := 2) (most := 2) 0 7 (by decide) s8 (by decide) l8 10 parts8 (by decide) (A8 p0 p1 p2 p3 ([L, L] ++ zer 198)) N8 F8 rfl (by show 0 < 2; decide) (by show 2 ≤ 200; decide)
    (by
      intro j hj
      match j, hj with
      | 0, _ => exact framed8.1
      | 1, _ => exact framed8.2.1
      | 2, _ => exact framed8.2.2) (HPA.out _ _ _ _) w1 hA' hm hb1.size hbb
  have HPUT := Aside0.mk hput
  have HB1 := Aside0.mk hb1
  clear hput hA' hA hm hbb hb1 hlist HNEW HPA hbr
  go_wp2_with fail
  refine HPUT.out.mono ?_
  rintro e w2 ⟨rfl, hA2, hm2, hb2⟩
  have HB2 := Aside0.mk (HB1.out.trans hb2)
  have hm2' : w2.heap[b]? = some (.map #[⟨.int .i64 7, .agg #[.int .i64 (ps8 0).1, .int .i64 (ps8 0).2], 0⟩] 1) := hm2
  have hget := heap_Get_ok 7 (by decide) 3 ps8 fs8 HCH.out w2 hA2 hm2'
  rw [acc8] at hget
  have HGET := Aside0.mk hget
  have HA2 := Aside0.mk (And.intro hA2 hm2')
  clear hA2 hm2 hm2' hb2 hget HPUT HB1
  go_wp2_with fail
  refine HGET.out.mono ?_
  rintro e w3 ⟨rfl, hb3⟩
  have HB3 := Aside0.mk (below_then HB2.out HB2.out.size hb3)
  have HFR := Aside0.mk (heap_Fragments_ok 7 (by decide) 3 ps8 fs8 HCH.out w3 (HA2.out.1.below hb3) ((hb3.block b (blk_lt HA2.out.2)).trans HA2.out.2))
  clear hb3 HGET HA2 HB2
  go_wp2_with fail
  refine HFR.out.mono ?_
  rintro e w4 ⟨v', rfl, hrow, hb4⟩
  have HB4 := Aside0.mk (below_then HB3.out HB3.out.size hb4)
  obtain ⟨r4, c4, rfl, hc4⟩ : ∃ r4 c4, v' = .slice (some ⟨r4, 0, none⟩) 3 c4 ∧ w4.cell? ⟨r4, 5, none⟩ = some (.int .i64 1) := by
    rcases hrow with ⟨_, h0⟩ | ⟨r4, c4, sp, h1, _, _, _, _, h6⟩
    · cases h0
    · exact ⟨r4, c4, h1, (blk_cell h6 5).trans rfl⟩
  clear hrow hb4 HFR HB3
  have hs8 := s8_list
  go_wp2_with fail
  go_ret
  exact ⟨rfl, HB4.out⟩

end Go.Proofs.Ytemglmcddaeedaa.PA

namespace Go.Proofs.Ytemglmcddaeedaa.PA
open Go.RowKit Go.Proofs.YtemglmcddaeedaaW.PrintWords Go.Proofs.YtemglmcddaeedaaW.PrintLast Go.Proofs.YtemglmcddaeedaaW.PrintMore
attribute [local go_sem] max2_int min2_int max_two min_two max_three min_three max_four min_four   -- for this text's walks alone
set_option linter.unusedVariables false
set_option linter.unusedSimpArgs false

/-! ### piece_Cut: function 47 -/
def piece_Cut.l0 : Nat → Int → ByteArray → List ByteArray → List ByteArray → Int → Int → Option (List ByteArray × Int)
  | 0, _, _, _, _, _, _ => none
  | k + 1, x0, x2, x8, x29, x30, x31 => if x31 < x30 then (if 0 ≤ x31 then (if x31 < (x29.length : Int) then ((piece_framed.f x0 x31 (x2.size : Int) 0 0 (rdOf ByteArray.empty x29 x31)).bind fun t441 => (if x8.length < 8796093022208 then (piece_Cut.l0 k x0 x2 (x8 ++ [t441]) x29 x30 (wrap64 (x31 + 1))) else (none))) else (none)) else (none)) else (some (x8, 0))
def piece_Cut.f (k : Nat) (a0 : Int) (a1 : Int) (a2 : ByteArray) : Option (List ByteArray × Int) := if (a2.size : Int) > 4000 then (some (([] : List ByteArray), 1)) else ((piece_key.f a0).bind fun t436 => (if t436 = true then (if a1 < 1 then (some (([] : List ByteArray), 7)) else (if a1 > 1000 then (some (([] : List ByteArray), 7)) else ((piece_parts.f k a1 a2).bind fun t437 => (piece_Cut.l0 k a0 a2 ([] : List ByteArray) t437 (t437.length : Int) 0)))) else (some (([] : List ByteArray), 7))))
theorem piece_Cut.mono_l : ∀ k, (∀ y0 y1 y2 y3 y4 y5, LeO (piece_Cut.l0 k y0 y1 y2 y3 y4 y5) (piece_Cut.l0 (k + 1) y0 y1 y2 y3 y4 y5))
  | 0 => fun _ _ _ _ _ _ r h => by simp [piece_Cut.l0] at h
  | k + 1 => by
    have ih0 := piece_Cut.mono_l k
    · intro y0 y1 y2 y3 y4 y5
      unfold piece_Cut.l0
      repeat' first
      | (with_reducible exact ih0 _ _ _ _ _ _)
      | (with_reducible exact piece_parts.mono _ _ _)
      | (with_reducible exact LeO.refl _)
      | (with_reducible exact LeO.none _)
      | (with_reducible refine LeO.ite ?_ ?_)
      | (with_reducible refine LeO.bind ?_ (fun _ => ?_))
      | exact ih0 _ _ _ _ _ _
      | exact piece_parts.mono _ _ _
      | exact LeO.none _
      | refine LeO.ite ?_ ?_
      | refine LeO.bind ?_ (fun _ => ?_)
theorem piece_Cut.mono : ∀ a0 a1 a2 k, LeO (piece_Cut.f k a0 a1 a2) (piece_Cut.f (k + 1) a0 a1 a2) := by
  intro a0 a1 a2 k
  have ih0 := piece_Cut.mono_l k
  unfold piece_Cut.f
  repeat' first
      | (with_reducible exact ih0 _ _ _ _ _ _)
      | (with_reducible exact piece_parts.mono _ _ _)
      | (with_reducible exact LeO.refl _)
      | (with_reducible exact LeO.none _)
      | (with_reducible refine LeO.ite ?_ ?_)
      | (with_reducible refine LeO.bind ?_ (fun _ => ?_))
      | exact ih0 _ _ _ _ _ _
      | exact piece_parts.mono _ _ _
      | exact LeO.none _
      | refine LeO.ite ?_ ?_
      | refine LeO.bind ?_ (fun _ => ?_)
set_option maxHeartbeats 8000000 in
set_option maxRecDepth 100000 in
theorem piece_Cut.calls (k : Nat) (a0 : Int) (a1 : Int) (a2 : ByteArray) (r1 : List ByteArray) (r2 : Int) (w : World) (h : piece_Cut.f k a0 a1 a2 = some (r1, r2)) :
    Calls Try.prog 47 #[.int .i64 a0, .int .i64 a1, .string a2] w fun e w' => ∃ v0_ : Value, e = .returned (.tuple #[v0_, .int .i64 r2]) ∧ Kd.R Kd.string 9 w' w.heap.size (fun _ => True) v0_ r1 ∧ Below w.heap.size w w' := by
  have hu93 := Try.underlying93
  have HB := Aside0.mk (Below.refl w.heap.size w)
  have H : (if (a2.size : Int) > 4000 then (some (([] : List ByteArray), 1)) else ((piece_key.f a0).bind fun t436 => (if t436 = true then (if a1 < 1 then (some (([] : List ByteArray), 7)) else (if a1 > 1000 then (some (([] : List ByteArray), 7)) else ((piece_parts.f k a1 a2).bind fun t437 => (piece_Cut.l0 k a0 a2 ([] : List ByteArray) t437 (t437.length : Int) 0)))) else (some (([] : List ByteArray), 7))))) = some (r1, r2) := h
  clear h
  by_cases c4 : (a2.size : Int) > 4000
  · rw [if_pos c4] at H
    have c4b0 : decide (4000 < (a2.size : Int)) = true := decide_eq_true c4
    have c4b1 : decide (4000 < a2.size) = true := decide_eq_true (by omega)
    clear c4
    simp only [Option.some.injEq, Prod.mk.injEq] at H
    obtain ⟨rfl, rfl⟩ := H
    go_enter Try.func47, Try.ntmps47
    go_wp2
    go_ret2
    exact ⟨_, by first | rfl | (simp [errW_none, errW_some] <;> rfl) | (simp [*, errW_none, errW_some] <;> rfl), by first | exact Kd.R_nil _ _ _ _ _ | exact Kd.N_nil _ _ _ _ _ | exact Kd.V_nil _ _ _ _ _ | exact Kd.Q_nil _ _ _ _ _ | exact Kd.S_nil _ _ _ _ _, by repeat (first | (with_reducible first | exact HB.out | apply below_alloc | apply pw_below_drewN | apply below_drew1) | exact HB.out)⟩
  · rw [if_neg c4] at H
    have c4b0 : decide (4000 < (a2.size : Int)) = false := decide_eq_false c4
    have c4b1 : decide (4000 < a2.size) = false := decide_eq_false (by omega)
    clear c4
    replace H := Option.bind_eq_some_iff.mp H
    obtain ⟨t436, A50, H⟩ := H
    replace H : (if t436 = true then (if a1 < 1 then (some (([] : List ByteArray), 7)) else (if a1 > 1000 then (some (([] : List ByteArray), 7)) else ((piece_parts.f k a1 a2).bind fun t437 => (piece_Cut.l0 k a0 a2 ([] : List ByteArray) t437 (t437.length : Int) 0)))) else (some (([] : List ByteArray), 7))) = some (r1, r2) := H
    have A5 := Aside0.mk A50
    clear A50
    by_cases c6 : t436 = true
    · subst c6
      have H1 : (if a1 < 1 then (some (([] : List ByteArray), 7)) else (if a1 > 1000 then (some (([] : List ByteArray), 7)) else ((piece_parts.f k a1 a2).bind fun t437 => (piece_Cut.l0 k a0 a2 ([] : List ByteArray) t437 (t437.length : Int) 0)))) = some (r1, r2) := by rw [if_pos rfl] at H; exact H
      clear H
      have H := H1
      clear H1
      by_cases c7 : a1 < 1
      · rw [if_pos c7] at H
        have c7b0 : decide (a1 < 1) = true := decide_eq_true c7
        clear c7
        simp only [Option.some.injEq, Prod.mk.injEq] at H
        obtain ⟨rfl, rfl⟩ := H
        go_enter Try.func47, Try.ntmps47
        go_wp2_with (first | ((with_reducible refine gate_callee (f := 92) rfl ?_); refine goesL_ (some 17) rfl rfl Try.func92 (by kernel_rfl) rfl #[.int .i64 a0] rfl (by (try simp only [List.map_toArray, List.map_cons, List.map_nil]); first | done | rfl | (simp only [List.length_drop, List.length_take]; rfl)) ?_; (with_reducible refine (piece_key.calls a0 true _ A5.out).mono ?_); rintro e w' ⟨rfl, ⟨nd, rfl⟩⟩; refine ⟨_, rfl, ?_⟩))
        go_ret2
        exact ⟨_, by first | rfl | (simp [errW_none, errW_some] <;> rfl) | (simp [*, errW_none, errW_some] <;> rfl), by first | exact Kd.R_nil _ _ _ _ _ | exact Kd.N_nil _ _ _ _ _ | exact Kd.V_nil _ _ _ _ _ | exact Kd.Q_nil _ _ _ _ _ | exact Kd.S_nil _ _ _ _ _, by repeat (first | (with_reducible first | exact HB.out | apply below_alloc | apply pw_below_drewN | apply below_drew1) | exact HB.out)⟩
      · rw [if_neg c7] at H
        have c7b0 : decide (a1 < 1) = false := decide_eq_false c7
        clear c7
        by_cases c8 : a1 > 1000
        · rw [if_pos c8] at H
          have c8b0 : decide (1000 < a1) = true := decide_eq_true c8
          clear c8
          simp only [Option.some.injEq, Prod.mk.injEq] at H
          obtain ⟨rfl, rfl⟩ := H
          go_enter Try.func47, Try.ntmps47
          go_wp2_with (first | ((with_reducible refine gate_callee (f := 92) rfl ?_); refine goesL_ (some 17) rfl rfl Try.func92 (by kernel_rfl) rfl #[.int .i64 a0] rfl (by (try simp only [List.map_toArray, List.map_cons, List.map_nil]); first | done | rfl | (simp only [List.length_drop, List.length_take]; rfl)) ?_; (with_reducible refine (piece_key.calls a0 true _ A5.out).mono ?_); rintro e w' ⟨rfl, ⟨nd, rfl⟩⟩; refine ⟨_, rfl, ?_⟩))
          go_ret2
          exact ⟨_, by first | rfl | (simp [errW_none, errW_some] <;> rfl) | (simp [*, errW_none, errW_some] <;> rfl), by first | exact Kd.R_nil _ _ _ _ _ | exact Kd.N_nil _ _ _ _ _ | exact Kd.V_nil _ _ _ _ _ | exact Kd.Q_nil _ _ _ _ _ | exact Kd.S_nil _ _ _ _ _, by repeat (first | (with_reducible first | exact HB.out | apply below_alloc | apply pw_below_drewN | apply below_drew1) | exact HB.out)⟩
        · rw [if_neg c8] at H
          have c8b0 : decide (1000 < a1) = false := decide_eq_false c8
          clear c8
          replace H := Option.bind_eq_some_iff.mp H
          obtain ⟨t437, A90, H⟩ := H
          replace H : (piece_Cut.l0 k a0 a2 ([] : List ByteArray) t437 (t437.length : Int) 0) = some (r1, r2) := H
          have A9 := Aside0.mk A90
          clear A90
          have H' := Aside0.mk H
          clear H
          go_enter Try.func47, Try.ntmps47
          go_wp2_with (first | ((with_reducible refine gate_callee (f := 92) rfl ?_); refine goesL_ (some 17) rfl rfl Try.func92 (by kernel_rfl) rfl #[.int .i64 a0] rfl (by (try simp only [List.map_toArray, List.map_cons, List.map_nil]); first | done | rfl | (simp only [List.length_drop, List.length_take]; rfl)) ?_; (with_reducible refine (piece_key.calls a0 true _ A5.out).mono ?_); rintro e w' ⟨rfl, ⟨nd, rfl⟩⟩; refine ⟨_, rfl, ?_⟩) | ((with_reducible refine gate_callee (f := 93) rfl ?_); refine goesL_ (some 29) rfl rfl Try.func93 (by kernel_rfl) rfl #[.int .i64 a1, .string a2] rfl (by (try simp only [List.map_toArray, List.map_cons, List.map_nil]); first | done | rfl | (simp only [List.length_drop, List.length_take]; rfl)) ?_; (with_reducible refine (piece_parts.calls k a1 a2 t437 _ A9.out).mono ?_); rintro e w10 ⟨v438, rfl, ho0, hb⟩; refine ⟨_, rfl, ?_⟩; have n0_ := Aside0.mk (Kd.R_lower ho0 (below_size (by repeat (first | (with_reducible first | exact HB.out | apply below_alloc | apply pw_below_drewN | apply below_drew1) | exact HB.out)))); have n1_ := Aside0.mk (below_step (by repeat (first | (with_reducible first | exact HB.out | apply below_alloc | apply pw_below_drewN | apply below_drew1) | exact HB.out)) hb); clear HB; have HO439 := n0_; have HB := n1_; clear n0_ n1_; (try clear hb); (try clear hb2); (try clear hk); (try clear hi); (try clear ho0); obtain ⟨Ao11, co11, eo11⟩ := Kd.R_slice HO439.out; subst eo11))
          go_loopg [8, 31] k (fun kq v8 v31 w' => ∃ (x8_1 : List ByteArray) (x31_1 : Int), v31 = .int .i64 x31_1 ∧ Aside0 (piece_Cut.l0 kq a0 a2 x8_1 t437 (t437.length : Int) x31_1 = some (r1, r2)) ∧ Aside0 (kq ≤ k) ∧ Aside0 (Kd.R Kd.string 9 w' w.heap.size (fun k_ => some k_ ≠ ((.slice Ao11 t437.length co11) : Value).ownBlock) v8 x8_1) ∧ Aside0 (Kd.R Kd.string 9 w' w.heap.size (fun k_ => some k_ ≠ (v8 : Value).ownBlock) (.slice Ao11 t437.length co11) t437) ∧ Aside0 (Below w.heap.size w w'))
          case atStart => exact ⟨(([] : List ByteArray)), (0), (by first | rfl | (simp; done) | (simp [*]; done)), H', ⟨Nat.le_refl _⟩, ⟨by first | exact Kd.R_nil _ _ _ _ _ | exact Kd.N_nil _ _ _ _ _ | exact Kd.V_nil _ _ _ _ _ | exact Kd.Q_nil _ _ _ _ _ | exact Kd.S_nil _ _ _ _ _⟩, ⟨by (with_reducible repeat (first | apply Kd.R_alloc | apply Kd.R_drewN | apply Kd.R_drew)); exact Kd.R_mono HO439.out (fun _ hk => (by simp [Value.ownBlock]))⟩, ⟨by repeat (first | (with_reducible first | exact HB.out | apply below_alloc | apply pw_below_drewN | apply below_drew1) | exact HB.out)⟩⟩
          case round =>
            clear H'
            try clear p2
            try clear c4
            try clear c4b0
            try clear c4b1
            try clear c6
            try clear c7
            try clear c7b0
            try clear c8
            try clear c8b0
            try clear c9
            obtain ⟨x8_1, x31_1, rfl, HA, HK1, HO_8, HO_29, HB⟩ := hrel
            cases gk with
            | zero => exact absurd HA.out (by simp [piece_Cut.l0])
            | succ k1 =>
              have H := HA.out
              clear HA
              simp only [piece_Cut.l0] at H
              by_cases c12 : x31_1 < (t437.length : Int)
              · rw [if_pos c12] at H
                have c12b0 : decide (x31_1 < (t437.length : Int)) = true := decide_eq_true c12
                clear c12
                by_cases c13 : 0 ≤ x31_1
                · rw [if_pos c13] at H
                  have c13b0 : decide (0 ≤ x31_1) = true := decide_eq_true c13
                  clear c13
                  by_cases c14 : x31_1 < (t437.length : Int)
                  · rw [if_pos c14] at H
                    have c14b0 : decide (x31_1 < (t437.length : Int)) = true := decide_eq_true c14
                    clear c14
                    replace H := Option.bind_eq_some_iff.mp H
                    obtain ⟨t441, A150, H⟩ := H
                    replace H : (if x8_1.length < 8796093022208 then (piece_Cut.l0 k1 a0 a2 (x8_1 ++ [t441]) t437 (t437.length : Int) (wrap64 (x31_1 + 1))) else (none)) = some (r1, r2) := H
                    have A15 := Aside0.mk A150
                    clear A150
                    by_cases c16 : x8_1.length < 8796093022208
                    · rw [if_pos c16] at H
                      have LMc16 := Aside0.mk c16
                      clear c16
                      obtain ⟨y442, hy442⟩ : ∃ y_ : List ByteArray, y_ = (x8_1 ++ [t441]) := ⟨_, rfl⟩
                      replace H : (piece_Cut.l0 k1 a0 a2 y442 t437 (t437.length : Int) (wrap64 (x31_1 + 1))) = some (r1, r2) := by first | (rw [hy442]; with_reducible exact H) | (have H2_ := (Option.bind_some _ _).symm.trans H; rw [hy442]; with_reducible exact H2_) | (have H2_ := (Option.bind_some _ _).symm.trans H; with_reducible exact H2_) | with_reducible exact H | (rw [hy442]; exact H) | exact H
                      have Ny442 := Aside0.mk hy442
                      clear hy442
                      have H' := Aside0.mk H
                      clear H
                      have p440 : 0 ≤ (x31_1 : Int) := of_decide_eq_true (by first | (with_reducible assumption) | assumption)
                      have q440 : x31_1 < (t437.length : Int) := of_decide_eq_true (by first | (with_reducible assumption) | assumption)
                      obtain ⟨ad440, e440, hx440_0⟩ := Kd.at_string (Kd.R_reads' HO_29.out).2.2 x31_1 p440 q440
                      cases e440
                      replace p440 := eq_true p440
                      replace q440 := eq_true q440
                      go_wp2_with (first | ((with_reducible refine gate_callee (f := 94) rfl ?_); refine goesL_ (some 43) rfl rfl Try.func94 (by kernel_rfl) rfl #[.int .i64 a0, .int .i64 x31_1, .int .i64 (a2.size : Int), .agg #[.int .i64 0, .int .i64 0], .string (rdOf ByteArray.empty t437 x31_1)] rfl (by (try simp only [List.map_toArray, List.map_cons, List.map_nil]); first | done | rfl | (simp only [List.length_drop, List.length_take]; rfl)) ?_; (with_reducible refine (piece_framed.calls a0 x31_1 (a2.size : Int) 0 0 (rdOf ByteArray.empty t437 x31_1) t441 _ A15.out).mono ?_); rintro e w17 ⟨rfl, hb⟩; refine ⟨_, rfl, ?_⟩; have n0_ := Aside0.mk (Kd.R_below (by (with_reducible repeat (first | apply Kd.R_alloc | apply Kd.R_drewN | apply Kd.R_drew)); exact HO_8.out) hb); have n1_ := Aside0.mk (Kd.R_below (by (with_reducible repeat (first | apply Kd.R_alloc | apply Kd.R_drewN | apply Kd.R_drew)); exact HO_29.out) hb); have n2_ := Aside0.mk (below_step (by repeat (first | (with_reducible first | exact HB.out | apply below_alloc | apply pw_below_drewN | apply below_drew1) | exact HB.out)) hb); clear HO_8; clear HO_29; clear HB; have HO_8 := n0_; have HO_29 := n1_; have HB := n2_; clear n0_ n1_ n2_; (try clear hb); (try clear hb2); (try clear hk); (try clear hi)) | ((with_reducible refine gate_builtin (b := .append) (xs := #[.tmp 36, .tmp 44]) rfl ?_); at_builtin; refine Kd.R_append Kd.string (w0 := w) w.heap.size rfl (.tmp 36) (.tmp 44) 56 9 (.string ⟨#[]⟩) 16 rfl Try.underlying56 info9 rfl (by decide) (by omega) u8 x8_1 t441 [.string t441] (fun k_ => some k_ ≠ (.slice (some ad440) t437.length co11 : Value).ownBlock) (fun _ => False) rfl rfl ?aP (fun _ hk => hk.elim) ?aF ?aO ?aB ?aS ?aL ?_; (case aP => exact rfl); (case aB => exact (by repeat (first | (with_reducible first | exact HB.out | apply below_alloc | apply pw_below_drewN | apply below_drew1) | exact HB.out))); (case aF => exact (fun k_ hk => Kd.fresh' (Kd.R_lt (by (with_reducible repeat (first | apply Kd.R_alloc | apply Kd.R_drewN | apply Kd.R_drew)); exact HO_29.out)) k_ hk)); (case aO => exact (by (with_reducible repeat (first | apply Kd.R_alloc | apply Kd.R_drewN | apply Kd.R_drew)); exact HO_8.out)); (case aS => exact (below_size (by repeat (first | (with_reducible first | exact HB.out | apply below_alloc | apply pw_below_drewN | apply below_drew1) | exact HB.out)))); (case aL => have := LMc16.out; omega); intro v443 w18 ho hb hg hat; rw [← Ny442.out] at ho; have n0_ := Aside0.mk (Kd.R_after (ok := (fun _ => True)) (by (with_reducible repeat (first | apply Kd.R_alloc | apply Kd.R_drewN | apply Kd.R_drew)); exact Kd.R_mono HO_29.out (fun _ hk => ⟨trivial, hk⟩)) hg hat); have n1_ := Aside0.mk (hb); have n2_ := Aside0.mk (ho); clear HO_29; clear HB; clear HO_8; have HO_29 := n0_; have HB := n1_; have HO444 := n2_; clear n0_ n1_ n2_; clear ho hb hg hat))
                      go_roundg k1
                      case measure => have := HK1.out; omega
                      case rel => exact ⟨(y442), (wrap64 (x31_1 + 1)), (by first | rfl | (simp; done) | (simp [*]; done)), H', ⟨by have := HK1.out; omega⟩, ⟨by (with_reducible repeat (first | apply Kd.R_alloc | apply Kd.R_drewN | apply Kd.R_drew)); exact HO444.out⟩, ⟨by (with_reducible repeat (first | apply Kd.R_alloc | apply Kd.R_drewN | apply Kd.R_drew)); exact Kd.R_mono HO_29.out (fun _ hk => hk.2)⟩, ⟨by repeat (first | (with_reducible first | exact HB.out | apply below_alloc | apply pw_below_drewN | apply below_drew1) | exact HB.out)⟩⟩
                    · rw [if_neg c16] at H
                      exact absurd H (by simp)
                  · rw [if_neg c14] at H
                    exact absurd H (by simp)
                · rw [if_neg c13] at H
                  exact absurd H (by simp)
              · rw [if_neg c12] at H
                have c12b0 : decide (x31_1 < (t437.length : Int)) = false := decide_eq_false c12
                clear c12
                simp only [Option.some.injEq, Prod.mk.injEq] at H
                obtain ⟨rfl, rfl⟩ := H
                go_wp2
                go_ret2
                exact ⟨_, by first | rfl | (simp [errW_none, errW_some] <;> rfl) | (simp [*, errW_none, errW_some] <;> rfl), by (with_reducible repeat (first | apply Kd.R_alloc | apply Kd.R_drewN | apply Kd.R_drew)); exact Kd.R_mono HO_8.out (fun _ hk => trivial), by repeat (first | (with_reducible first | exact HB.out | apply below_alloc | apply pw_below_drewN | apply below_drew1) | exact HB.out)⟩
    · replace c6 := Bool.eq_false_iff.mpr c6
      subst c6
      have H1 : (some (([] : List ByteArray), 7)) = some (r1, r2) := by rw [if_neg (show ¬ (false = true) by decide)] at H; exact H
      clear H
      have H := H1
      clear H1
      simp only [Option.some.injEq, Prod.mk.injEq] at H
      obtain ⟨rfl, rfl⟩ := H
      go_enter Try.func47, Try.ntmps47
      go_wp2_with (first | ((with_reducible refine gate_callee (f := 92) rfl ?_); refine goesL_ (some 17) rfl rfl Try.func92 (by kernel_rfl) rfl #[.int .i64 a0] rfl (by (try simp only [List.map_toArray, List.map_cons, List.map_nil]); first | done | rfl | (simp only [List.length_drop, List.length_take]; rfl)) ?_; (with_reducible refine (piece_key.calls a0 false _ A5.out).mono ?_); rintro e w' ⟨rfl, ⟨nd, rfl⟩⟩; refine ⟨_, rfl, ?_⟩))
      go_ret2
      exact ⟨_, by first | rfl | (simp [errW_none, errW_some] <;> rfl) | (simp [*, errW_none, errW_some] <;> rfl), by first | exact Kd.R_nil _ _ _ _ _ | exact Kd.N_nil _ _ _ _ _ | exact Kd.V_nil _ _ _ _ _ | exact Kd.Q_nil _ _ _ _ _ | exact Kd.S_nil _ _ _ _ _, by repeat (first | (with_reducible first | exact HB.out | apply below_alloc | apply pw_below_drewN | apply below_drew1) | exact HB.out)⟩

end Go.Proofs.Ytemglmcddaeedaa.PA

namespace Go.Proofs.Ytemglmcddaeedaa.PA
open Go.RowKit Go.Proofs.YtemglmcddaeedaaW.PrintWords Go.Proofs.YtemglmcddaeedaaW.PrintLast Go.Proofs.YtemglmcddaeedaaW.PrintMore
attribute [local go_sem] max2_int min2_int max_two min_two max_three min_three max_four min_four   -- for this text's walks alone
set_option linter.unusedVariables false
set_option linter.unusedSimpArgs false

/-! ### ringworkref08_key: function 95 -/
def ringworkref08_key.f (a0 : Int) : Option (Bool) := if a0 ≥ 1 then (some (decide (a0 ≤ 1000000))) else (some false)
set_option maxHeartbeats 8000000 in
set_option maxRecDepth 100000 in
theorem ringworkref08_key.calls (a0 : Int) (r : Bool) (w : World) (h : ringworkref08_key.f a0 = some r) :
    Calls Try.prog 95 #[.int .i64 a0] w fun e w' => e = .returned (.bool r) ∧ Drawn0 w w' := by
  have H : (if a0 ≥ 1 then (some (decide (a0 ≤ 1000000))) else (some false)) = some r := h
  clear h
  by_cases c2 : a0 ≥ 1
  · rw [if_pos c2] at H
    have c2b0 : decide (1 ≤ a0) = true := decide_eq_true c2
    clear c2
    obtain rfl := Option.some.inj H
    go_enter Try.func95, Try.ntmps95
    go_wp2
    go_ret
    exact ⟨by first | rfl | (simp; done) | (simp [*]; done), by repeat (first | exact Drawn0.refl _ | apply Drawn0.step)⟩
  · rw [if_neg c2] at H
    have c2b0 : decide (1 ≤ a0) = false := decide_eq_false c2
    clear c2
    obtain rfl := Option.some.inj H
    go_enter Try.func95, Try.ntmps95
    go_wp2
    go_ret
    exact ⟨by first | rfl | (simp; done) | (simp [*]; done), by repeat (first | exact Drawn0.refl _ | apply Drawn0.step)⟩

end Go.Proofs.Ytemglmcddaeedaa.PA

namespace Go.Proofs.Ytemglmcddaeedaa.PA
open Go.RowKit Go.Proofs.YtemglmcddaeedaaW.PrintWords Go.Proofs.YtemglmcddaeedaaW.PrintLast Go.Proofs.YtemglmcddaeedaaW.PrintMore
attribute [local go_sem] max2_int min2_int max_two min_two max_three min_three max_four min_four   -- for this text's walks alone
set_option linter.unusedVariables false
set_option linter.unusedSimpArgs false

/-! ### ringworkref08_parts: function 96 -/
def ringworkref08_parts.l0 : Nat → ByteArray → Int → List ByteArray → Option (List ByteArray)
  | 0, _, _, _ => none
  | k + 1, x0, x1, x5 => if (x0.size : Int) > x1 then (if 0 ≤ x1 then (if x1 ≤ (x0.size : Int) then (if x5.length < 8796093022208 then (ringworkref08_parts.l0 k (x0.extract (x1 : Int).toNat x0.size) x1 (x5 ++ [x0.extract 0 (x1 : Int).toNat])) else (none)) else (none)) else (none)) else (if x5.length < 8796093022208 then (some (x5 ++ [x0])) else (none))
def ringworkref08_parts.f (k : Nat) (a0 : ByteArray) (a1 : Int) : Option (List ByteArray) := ringworkref08_parts.l0 k a0 a1 ([] : List ByteArray)
theorem ringworkref08_parts.mono_l : ∀ k, (∀ y0 y1 y2, LeO (ringworkref08_parts.l0 k y0 y1 y2) (ringworkref08_parts.l0 (k + 1) y0 y1 y2))
  | 0 => fun _ _ _ r h => by simp [ringworkref08_parts.l0] at h
  | k + 1 => by
    have ih0 := ringworkref08_parts.mono_l k
    · intro y0 y1 y2
      unfold ringworkref08_parts.l0
      repeat' first
      | (with_reducible exact ih0 _ _ _)
      | (with_reducible exact LeO.refl _)
      | (with_reducible exact LeO.none _)
      | (with_reducible refine LeO.ite ?_ ?_)
      | (with_reducible refine LeO.bind ?_ (fun _ => ?_))
      | exact ih0 _ _ _
      | exact LeO.none _
      | refine LeO.ite ?_ ?_
      | refine LeO.bind ?_ (fun _ => ?_)
theorem ringworkref08_parts.mono : ∀ a0 a1 k, LeO (ringworkref08_parts.f k a0 a1) (ringworkref08_parts.f (k + 1) a0 a1) := by
  intro a0 a1 k
  have ih0 := ringworkref08_parts.mono_l k
  unfold ringworkref08_parts.f
  repeat' first
      | (with_reducible exact ih0 _ _ _)
      | (with_reducible exact LeO.refl _)
      | (with_reducible exact LeO.none _)
      | (with_reducible refine LeO.ite ?_ ?_)
      | (with_reducible refine LeO.bind ?_ (fun _ => ?_))
      | exact ih0 _ _ _
      | exact LeO.none _
      | refine LeO.ite ?_ ?_
      | refine LeO.bind ?_ (fun _ => ?_)
set_option maxHeartbeats 8000000 in
set_option maxRecDepth 100000 in
theorem ringworkref08_parts.calls (k : Nat) (a0 : ByteArray) (a1 : Int) (r : List ByteArray) (w : World) (h : ringworkref08_parts.f k a0 a1 = some r) :
    Calls Try.prog 96 #[.string a0, .int .i64 a1] w fun e w' => ∃ v0_ : Value, e = .returned (v0_) ∧ Kd.R Kd.string 9 w' w.heap.size (fun _ => True) v0_ r ∧ Below w.heap.size w w' := by
  have HB := Aside0.mk (Below.refl w.heap.size w)
  have H : (ringworkref08_parts.l0 k a0 a1 ([] : List ByteArray)) = some r := h
  clear h
  have H' := Aside0.mk H
  clear H
  go_enter Try.func96, Try.ntmps96
  go_wp2
  go_loopg [0, 5] k (fun kq v0 v5 w' => ∃ (x0_1 : ByteArray) (x5_1 : List ByteArray), v0 = .string x0_1 ∧ Aside0 (ringworkref08_parts.l0 kq x0_1 a1 x5_1 = some r) ∧ Aside0 (kq ≤ k) ∧ Aside0 (Kd.R Kd.string 9 w' w.heap.size (fun _ => True) v5 x5_1) ∧ Aside0 (Below w.heap.size w w'))
  case atStart => exact ⟨(a0), (([] : List ByteArray)), (by first | rfl | (simp; done) | (simp [*]; done)), H', ⟨Nat.le_refl _⟩, ⟨by first | exact Kd.R_nil _ _ _ _ _ | exact Kd.N_nil _ _ _ _ _ | exact Kd.V_nil _ _ _ _ _ | exact Kd.Q_nil _ _ _ _ _ | exact Kd.S_nil _ _ _ _ _⟩, ⟨by repeat (first | (with_reducible first | exact HB.out | apply below_alloc | apply pw_below_drewN | apply below_drew1) | exact HB.out)⟩⟩
  case round =>
    clear H'
    try clear p2
    obtain ⟨x0_1, x5_1, rfl, HA, HK1, HO_5, HB⟩ := hrel
    cases gk with
    | zero => exact absurd HA.out (by simp [ringworkref08_parts.l0])
    | succ k1 =>
      have H := HA.out
      clear HA
      simp only [ringworkref08_parts.l0] at H
      by_cases c3 : (x0_1.size : Int) > a1
      · rw [if_pos c3] at H
        have c3b0 : decide (a1 < (x0_1.size : Int)) = true := decide_eq_true c3
        clear c3
        by_cases c4 : 0 ≤ a1
        · rw [if_pos c4] at H
          have c4b0 := eq_true c4
          have c4b1 : decide (0 ≤ a1) = true := decide_eq_true c4
          clear c4
          by_cases c5 : a1 ≤ (x0_1.size : Int)
          · rw [if_pos c5] at H
            have c5b0 := eq_true c5
            have c5b1 : decide (a1 ≤ (x0_1.size : Int)) = true := decide_eq_true c5
            clear c5
            by_cases c6 : x5_1.length < 8796093022208
            · rw [if_pos c6] at H
              have LMc6 := Aside0.mk c6
              clear c6
              obtain ⟨y445, hy445⟩ : ∃ y_ : List ByteArray, y_ = (x5_1 ++ [x0_1.extract 0 (a1 : Int).toNat]) := ⟨_, rfl⟩
              replace H : (ringworkref08_parts.l0 k1 (x0_1.extract (a1 : Int).toNat x0_1.size) a1 y445) = some r := by first | (rw [hy445]; with_reducible exact H) | (have H2_ := (Option.bind_some _ _).symm.trans H; rw [hy445]; with_reducible exact H2_) | (have H2_ := (Option.bind_some _ _).symm.trans H; with_reducible exact H2_) | with_reducible exact H | (rw [hy445]; exact H) | exact H
              have Ny445 := Aside0.mk hy445
              clear hy445
              have c7b0 := eq_true (of_decide_eq_true (by first | (with_reducible assumption) | assumption) : 0 ≤ a1)
              have c8b0 := eq_true (of_decide_eq_true (by first | (with_reducible assumption) | assumption) : a1 ≤ (x0_1.size : Int))
              have H' := Aside0.mk H
              clear H
              go_wp2_with (first | ((with_reducible refine gate_builtin (b := .append) (xs := #[.tmp 10, .tmp 14]) rfl ?_); at_builtin; refine Kd.R_append Kd.string (w0 := w) w.heap.size rfl (.tmp 10) (.tmp 14) 56 9 (.string ⟨#[]⟩) 16 rfl Try.underlying56 info9 rfl (by decide) (by omega) u5 x5_1 (x0_1.extract 0 (a1 : Int).toNat) [.string (x0_1.extract 0 (a1 : Int).toNat)] (fun _ => True) (fun _ => False) rfl rfl ?aP (fun _ hk => hk.elim) ?aF ?aO ?aB ?aS ?aL ?_; (case aP => exact rfl); (case aB => exact (by repeat (first | (with_reducible first | exact HB.out | apply below_alloc | apply pw_below_drewN | apply below_drew1) | exact HB.out))); (case aF => exact (fun _ _ => trivial)); (case aO => exact (by (with_reducible repeat (first | apply Kd.R_alloc | apply Kd.R_drewN | apply Kd.R_drew)); exact HO_5.out)); (case aS => exact (below_size (by repeat (first | (with_reducible first | exact HB.out | apply below_alloc | apply pw_below_drewN | apply below_drew1) | exact HB.out)))); (case aL => have := LMc6.out; omega); intro v446 w9 ho hb hg hat; rw [← Ny445.out] at ho; have n0_ := Aside0.mk (hb); have n1_ := Aside0.mk (ho); clear HB; clear HO_5; have HB := n0_; have HO447 := n1_; clear n0_ n1_; clear ho hb hg hat))
              go_roundg k1
              case measure => have := HK1.out; omega
              case rel => exact ⟨(x0_1.extract (a1 : Int).toNat x0_1.size), (y445), (by first | rfl | (simp; done) | (simp [*]; done)), H', ⟨by have := HK1.out; omega⟩, ⟨by (with_reducible repeat (first | apply Kd.R_alloc | apply Kd.R_drewN | apply Kd.R_drew)); exact HO447.out⟩, ⟨by repeat (first | (with_reducible first | exact HB.out | apply below_alloc | apply pw_below_drewN | apply below_drew1) | exact HB.out)⟩⟩
            · rw [if_neg c6] at H
              exact absurd H (by simp)
          · rw [if_neg c5] at H
            exact absurd H (by simp)
        · rw [if_neg c4] at H
          exact absurd H (by simp)
      · rw [if_neg c3] at H
        have c3b0 : decide (a1 < (x0_1.size : Int)) = false := decide_eq_false c3
        clear c3
        by_cases c10 : x5_1.length < 8796093022208
        · rw [if_pos c10] at H
          have LMc10 := Aside0.mk c10
          clear c10
          obtain ⟨y448, hy448⟩ : ∃ y_ : List ByteArray, y_ = (x5_1 ++ [x0_1]) := ⟨_, rfl⟩
          replace H : (some y448) = some r := by first | (rw [hy448]; with_reducible exact H) | (have H2_ := (Option.bind_some _ _).symm.trans H; rw [hy448]; with_reducible exact H2_) | (have H2_ := (Option.bind_some _ _).symm.trans H; with_reducible exact H2_) | with_reducible exact H | (rw [hy448]; exact H) | exact H
          have Ny448 := Aside0.mk hy448
          clear hy448
          obtain rfl := Option.some.inj H
          go_wp2_with (first | ((with_reducible refine gate_builtin (b := .append) (xs := #[.tmp 19, .tmp 21]) rfl ?_); at_builtin; refine Kd.R_append Kd.string (w0 := w) w.heap.size rfl (.tmp 19) (.tmp 21) 56 9 (.string ⟨#[]⟩) 16 rfl Try.underlying56 info9 rfl (by decide) (by omega) u5 x5_1 x0_1 [.string x0_1] (fun _ => True) (fun _ => False) rfl rfl ?aP (fun _ hk => hk.elim) ?aF ?aO ?aB ?aS ?aL ?_; (case aP => exact rfl); (case aB => exact (by repeat (first | (with_reducible first | exact HB.out | apply below_alloc | apply pw_below_drewN | apply below_drew1) | exact HB.out))); (case aF => exact (fun _ _ => trivial)); (case aO => exact (by (with_reducible repeat (first | apply Kd.R_alloc | apply Kd.R_drewN | apply Kd.R_drew)); exact HO_5.out)); (case aS => exact (below_size (by repeat (first | (with_reducible first | exact HB.out | apply below_alloc | apply pw_below_drewN | apply below_drew1) | exact HB.out)))); (case aL => have := LMc10.out; omega); intro v449 w11 ho hb hg hat; rw [← Ny448.out] at ho; have n0_ := Aside0.mk (hb); have n1_ := Aside0.mk (ho); clear HB; clear HO_5; have HB := n0_; have HO450 := n1_; clear n0_ n1_; clear ho hb hg hat))
          go_ret
          exact ⟨_, by first | rfl | (simp [errW_none, errW_some] <;> rfl) | (simp [*, errW_none, errW_some] <;> rfl), by (with_reducible repeat (first | apply Kd.R_alloc | apply Kd.R_drewN | apply Kd.R_drew)); exact HO450.out, by repeat (first | (with_reducible first | exact HB.out | apply below_alloc | apply pw_below_drewN | apply below_drew1) | exact HB.out)⟩
        · rw [if_neg c10] at H
          exact absurd H (by simp)

end Go.Proofs.Ytemglmcddaeedaa.PA

namespace Go.Proofs.Ytemglmcddaeedaa.PA
open Go.RowKit Go.Proofs.YtemglmcddaeedaaW.PrintWords Go.Proofs.YtemglmcddaeedaaW.PrintLast Go.Proofs.YtemglmcddaeedaaW.PrintMore
attribute [local go_sem] max2_int min2_int max_two min_two max_three min_three max_four min_four   -- for this text's walks alone
set_option linter.unusedVariables false
set_option linter.unusedSimpArgs false

/-! ### ringworkref08_head: function 124 -/
def ringworkref08_head.f (a0 : Int) (a1 : Int) (a2 : Int) (a3_0 : Int) (a3_1 : Int) : Option (ByteArray) := some (strOfNums (([a0, (a1 / 16777216) % 256, (a1 / 65536) % 256, (a1 / 256) % 256, (a1) % 256, (a2 / 256) % 256, (a2) % 256, (a3_0 / 256) % 256, (a3_0) % 256, (a3_1) % 256] : List Int)))
set_option maxHeartbeats 8000000 in
set_option maxRecDepth 100000 in
theorem ringworkref08_head.calls (a0 : Int) (a1 : Int) (a2 : Int) (a3_0 : Int) (a3_1 : Int) (r : ByteArray) (w : World) (h : ringworkref08_head.f a0 a1 a2 a3_0 a3_1 = some r) :
    Calls Try.prog 124 #[.int .u8 a0, .int .i64 a1, .int .i64 a2, .agg #[.int .i64 a3_0, .int .i64 a3_1]] w fun e w' => e = .returned (.string r) ∧ Below w.heap.size w w' := by
  have hu93 := Try.underlying93
  have HB := Aside0.mk (Below.refl w.heap.size w)
  have H : (some (strOfNums (([a0, (a1 / 16777216) % 256, (a1 / 65536) % 256, (a1 / 256) % 256, (a1) % 256, (a2 / 256) % 256, (a2) % 256, (a3_0 / 256) % 256, (a3_0) % 256, (a3_1) % 256] : List Int)))) = some r := h
  clear h
  obtain ⟨y452, hy452⟩ : ∃ y_ : List Int, y_ = (([a0, (a1 / 16777216) % 256, (a1 / 65536) % 256, (a1 / 256) % 256, (a1) % 256, (a2 / 256) % 256, (a2) % 256, (a3_0 / 256) % 256, (a3_0) % 256, (a3_1) % 256] : List Int)) := ⟨_, rfl⟩
  replace H : (some (strOfNums y452)) = some r := by first | (rw [hy452]; with_reducible exact H) | (have H2_ := (Option.bind_some _ _).symm.trans H; rw [hy452]; with_reducible exact H2_) | (have H2_ := (Option.bind_some _ _).symm.trans H; with_reducible exact H2_) | with_reducible exact H | (rw [hy452]; exact H) | exact H
  have Ny452 := Aside0.mk hy452
  clear hy452
  obtain rfl := Option.some.inj H
  go_enter Try.func124, Try.ntmps124
  go_wp2_with (first | ((with_reducible refine gate_dst (N := 7) rfl ?_); refine box_event ?hg (N := 7) ?hd (cs := #[.int .i64 a3_0, .int .i64 a3_1]) (t := 93) ?hr ?_; (case hd => rfl); (case hg => rfl); (case hr => first | (go_simp; done) | (go_simp; rfl)); intro gb451 hg w5 hbox hb; have n0_ := Aside0.mk (below_step (by repeat (first | (with_reducible first | exact HB.out | apply below_alloc | apply pw_below_drewN | apply below_drew1) | exact HB.out)) hb); have n1_ := Aside0.mk (hbox); have n2_ := Aside0.mk ((by rw [hg]; exact (below_size (by repeat (first | (with_reducible first | exact HB.out | apply below_alloc | apply pw_below_drewN | apply below_drew1) | exact HB.out))) : w.heap.size ≤ gb451)); have n3_ := Aside0.mk ((by rw [hg]; exact (below_size (by repeat (first | (with_reducible first | exact HB.out | apply below_alloc | apply pw_below_drewN | apply below_drew1) | exact HB.out))) : w.heap.size ≤ gb451)); clear HB; have HB := n0_; have BK451 := n1_; have GW451 := n2_; have GE451 := n3_; clear n0_ n1_ n2_ n3_; clear hb hbox hg; have hcz6_0 : w5.cell? ⟨gb451, 0, none⟩ = some (.int .i64 a3_0) := (blk_cell BK451.out 0).trans rfl; have hcz6_1 : w5.cell? ⟨gb451, 1, none⟩ = some (.int .i64 a3_1) := (blk_cell BK451.out 1).trans rfl; have hfz6_0 := blk_frozen BK451.out 0; have hfz6_1 := blk_frozen BK451.out 1) | ((with_reducible refine gate_dst (N := 36) rfl ?_); refine Kd.R_lit (Kd.int .u8) _ 5 ?hg (N := 36) ?hd (xs := ([a0, (a1 / 16777216) % 256, (a1 / 65536) % 256, (a1 / 256) % 256, (a1) % 256, (a2 / 256) % 256, (a2) % 256, (a3_0 / 256) % 256, (a3_0) % 256, (a3_1) % 256] : List Int)) (inner := [.int .u8 a0, .int .u8 ((a1 / 16777216) % 256), .int .u8 ((a1 / 65536) % 256), .int .u8 ((a1 / 256) % 256), .int .u8 ((a1) % 256), .int .u8 ((a2 / 256) % 256), .int .u8 ((a2) % 256), .int .u8 ((a3_0 / 256) % 256), .int .u8 ((a3_0) % 256), .int .u8 ((a3_1) % 256)]) (ok := fun _ => True) (okp := fun _ => True) ?hr ?hp (fun _ hk => hk) trivial (Below.refl _ _) (Nat.le_refl _) (by simp) ?_; (case hd => rfl); (case hg => rfl); (case hr => first | (go_simp; done) | (go_simp; rfl)); (case hp => exact (Reps.one (show Kd.M (Kd.int .u8) _ _ _ a0 [.int .u8 a0] from rfl) (Reps.one (show Kd.M (Kd.int .u8) _ _ _ ((a1 / 16777216) % 256) [.int .u8 ((a1 / 16777216) % 256)] from rfl) (Reps.one (show Kd.M (Kd.int .u8) _ _ _ ((a1 / 65536) % 256) [.int .u8 ((a1 / 65536) % 256)] from rfl) (Reps.one (show Kd.M (Kd.int .u8) _ _ _ ((a1 / 256) % 256) [.int .u8 ((a1 / 256) % 256)] from rfl) (Reps.one (show Kd.M (Kd.int .u8) _ _ _ ((a1) % 256) [.int .u8 ((a1) % 256)] from rfl) (Reps.one (show Kd.M (Kd.int .u8) _ _ _ ((a2 / 256) % 256) [.int .u8 ((a2 / 256) % 256)] from rfl) (Reps.one (show Kd.M (Kd.int .u8) _ _ _ ((a2) % 256) [.int .u8 ((a2) % 256)] from rfl) (Reps.one (show Kd.M (Kd.int .u8) _ _ _ ((a3_0 / 256) % 256) [.int .u8 ((a3_0 / 256) % 256)] from rfl) (Reps.one (show Kd.M (Kd.int .u8) _ _ _ ((a3_0) % 256) [.int .u8 ((a3_0) % 256)] from rfl) (Reps.one (show Kd.M (Kd.int .u8) _ _ _ ((a3_1) % 256) [.int .u8 ((a3_1) % 256)] from rfl) (Reps.none _ _)))))))))))); intro v453 w7 ho8 hb hg_ hnew_; clear hg_ hnew_; (first | rw [← Ny452.out] at ho8 | (simp only [Int.reduceToNat] at ho8; rw [← Ny452.out] at ho8)); have n0_ := Aside0.mk (Kd.R_lower ho8 (below_size (by repeat (first | (with_reducible first | exact HB.out | apply below_alloc | apply pw_below_drewN | apply below_drew1 | refine below_set ?_ GE451.out) | exact HB.out)))); have n1_ := Aside0.mk (blk_below (g := gb451) (o := .cells #[.int .i64 a3_0, .int .i64 a3_1] 93 (0, 0)) (by (with_reducible repeat (first | refine blk_drewN ?_ _ | refine blk_drew ?_ | refine blk_alloc ?_ _)); exact BK451.out) hb); have n2_ := Aside0.mk (below_step (by repeat (first | (with_reducible first | exact HB.out | apply below_alloc | apply pw_below_drewN | apply below_drew1 | refine below_set ?_ GE451.out) | exact HB.out)) hb); clear BK451; clear HB; have HO454 := n0_; have BK451 := n1_; have HB := n2_; clear n0_ n1_ n2_; clear hb ho8; have hcv9 := own_string (P := Try.prog) Try.underlying27 Try.underlying5 Try.underlying9 (Kd.own_of_R HO454.out)))
  go_ret
  exact ⟨by first | rfl | (simp [errW_none, errW_some] <;> rfl) | (simp [*, errW_none, errW_some] <;> rfl), by repeat (first | (with_reducible first | exact HB.out | apply below_alloc | apply pw_below_drewN | apply below_drew1 | refine below_set ?_ GE451.out) | exact HB.out)⟩

end Go.Proofs.Ytemglmcddaeedaa.PA

namespace Go.Proofs.Ytemglmcddaeedaa.PA
open Go.RowKit Go.Proofs.YtemglmcddaeedaaW.PrintWords Go.Proofs.YtemglmcddaeedaaW.PrintLast Go.Proofs.YtemglmcddaeedaaW.PrintMore
attribute [local go_sem] max2_int min2_int max_two min_two max_three min_three max_four min_four   -- for this text's walks alone
set_option linter.unusedVariables false
set_option linter.unusedSimpArgs false

/-! ### ringworkref08_fragment: function 97 -/
def ringworkref08_fragment.f (a0 : Int) (l1 : List ByteArray) (a2 : Int) (a3 : Int) (a4_0 : Int) (a4_1 : Int) : Option (ByteArray) := if a2 = 0 then ((ringworkref08_head.f 65 a0 a3 a4_0 a4_1).bind fun t456 => (if 0 < (l1.length : Int) then (if t456.size + (rdOf ByteArray.empty l1 0).size ≤ 9223372036854775807 then (some (t456 ++ (rdOf ByteArray.empty l1 0))) else (none)) else (none))) else ((ringworkref08_head.f 67 a0 a2 a4_0 a4_1).bind fun t458 => (if 0 ≤ a2 then (if a2 < (l1.length : Int) then (if t458.size + (rdOf ByteArray.empty l1 a2).size ≤ 9223372036854775807 then (some (t458 ++ (rdOf ByteArray.empty l1 a2))) else (none)) else (none)) else (none)))
def ringworkref08_fragment.T2 : Bool × List (List Nat × List Nat) := (true, [([], []), ([], []), ([], []), ([0, 1, 2], [0, 1, 2]), ([], []), ([4], [4]), ([5], [5]), ([3, 6], [3, 6]), ([7, 3, 0, 1, 2, 3, 4, 5, 6, 7], [7])])
def ringworkref08_fragment.B2 : List Nat := [0, 0, 0, 7, 0, 16, 48, 127, 255]
theorem ringworkref08_fragment.tab2 : rtab .any (opsOf Try.f97 2) = ringworkref08_fragment.T2 := by kernel_rfl
theorem ringworkref08_fragment.bits2 : waitsOk ringworkref08_fragment.T2.2 ringworkref08_fragment.B2 = true := by kernel_rfl
def ringworkref08_fragment.T3 : Bool × List (List Nat × List Nat) := (true, [([], []), ([], []), ([], []), ([0, 1, 2], [0, 1, 2]), ([], []), ([], []), ([4, 5], [4, 5]), ([6], [6]), ([3, 7], [3, 7]), ([8, 3, 0, 1, 2, 3, 4, 5, 6, 7, 8], [8])])
def ringworkref08_fragment.B3 : List Nat := [0, 0, 0, 7, 0, 0, 48, 112, 255, 511]
theorem ringworkref08_fragment.tab3 : rtab .any (opsOf Try.f97 3) = ringworkref08_fragment.T3 := by kernel_rfl
theorem ringworkref08_fragment.bits3 : waitsOk ringworkref08_fragment.T3.2 ringworkref08_fragment.B3 = true := by kernel_rfl
set_option maxHeartbeats 8000000 in
set_option maxRecDepth 100000 in
theorem ringworkref08_fragment.calls (a0 : Int) (A1 : Option Addr) (c1 : Nat) (l1 : List ByteArray) (a2 : Int) (a3 : Int) (a4_0 : Int) (a4_1 : Int) (r : ByteArray) (w : World) (hr1 : Kd.C Kd.string w A1 l1.length l1) (hc1 : l1.length ≤ c1) (h : ringworkref08_fragment.f a0 l1 a2 a3 a4_0 a4_1 = some r) :
    Calls Try.prog 97 #[.int .i64 a0, .slice A1 l1.length c1, .int .i64 a2, .int .i64 a3, .agg #[.int .i64 a4_0, .int .i64 a4_1]] w fun e w' => e = .returned (.string r) ∧ Below w.heap.size w w' := by
  have hu93 := Try.underlying93
  have HR1 := Aside0.mk hr1
  have HC1 := Aside0.mk hc1
  clear hr1 hc1
  have HB := Aside0.mk (Below.refl w.heap.size w)
  have H : (if a2 = 0 then ((ringworkref08_head.f 65 a0 a3 a4_0 a4_1).bind fun t456 => (if 0 < (l1.length : Int) then (if t456.size + (rdOf ByteArray.empty l1 0).size ≤ 9223372036854775807 then (some (t456 ++ (rdOf ByteArray.empty l1 0))) else (none)) else (none))) else ((ringworkref08_head.f 67 a0 a2 a4_0 a4_1).bind fun t458 => (if 0 ≤ a2 then (if a2 < (l1.length : Int) then (if t458.size + (rdOf ByteArray.empty l1 a2).size ≤ 9223372036854775807 then (some (t458 ++ (rdOf ByteArray.empty l1 a2))) else (none)) else (none)) else (none)))) = some r := h
  clear h
  by_cases c6 : a2 = 0
  · rw [if_pos c6] at H
    have c6b0 : (a2 == 0) = true := beq_iff_eq.mpr c6
    have c6b1 : (a2 != 0) = false := bne_eq_false_iff_eq.mpr c6
    clear c6
    replace H := Option.bind_eq_some_iff.mp H
    obtain ⟨t456, A70, H⟩ := H
    replace H : (if 0 < (l1.length : Int) then (if t456.size + (rdOf ByteArray.empty l1 0).size ≤ 9223372036854775807 then (some (t456 ++ (rdOf ByteArray.empty l1 0))) else (none)) else (none)) = some r := H
    have A7 := Aside0.mk A70
    clear A70
    by_cases c8 : 0 < (l1.length : Int)
    · rw [if_pos c8] at H
      have c8b0 : decide (0 < (l1.length : Int)) = true := decide_eq_true c8
      have c8b1 : decide (0 < l1.length) = true := decide_eq_true (by omega)
      clear c8
      by_cases c9 : t456.size + (rdOf ByteArray.empty l1 0).size ≤ 9223372036854775807
      · rw [if_pos c9] at H
        have c9b0 := eq_true c9
        have c9b1 : decide (t456.size + (rdOf ByteArray.empty l1 0).size ≤ 9223372036854775807) = true := decide_eq_true c9
        try have c9b2 : (9223372036854775807 < t456.size + (rdOf ByteArray.empty l1 0).size) = False := eq_false (Nat.not_lt.2 c9)
        obtain rfl := Option.some.inj H
        go_enter Try.func97, Try.ntmps97
        try go_wp2_with (first | ((with_reducible refine gate_dst (N := 9) rfl ?_); refine box_event ?hg (N := 9) ?hd (cs := #[.int .i64 a4_0, .int .i64 a4_1]) (t := 93) ?hr ?_; (case hd => rfl); (case hg => rfl); (case hr => first | (go_simp; done) | (go_simp; rfl)); intro gb455 hg w10 hbox hb; have n0_ := Aside0.mk (below_step (by repeat (first | (with_reducible first | exact HB.out | apply below_alloc | apply pw_below_drewN | apply below_drew1) | exact HB.out)) hb); have n1_ := Aside0.mk (hbox); have n2_ := Aside0.mk ((by rw [hg]; exact (below_size (by repeat (first | (with_reducible first | exact HB.out | apply below_alloc | apply pw_below_drewN | apply below_drew1) | exact HB.out))) : w.heap.size ≤ gb455)); have n3_ := Aside0.mk ((by rw [hg]; exact (below_size (by repeat (first | (with_reducible first | exact HB.out | apply below_alloc | apply pw_below_drewN | apply below_drew1) | exact HB.out))) : w.heap.size ≤ gb455)); clear HB; have HB := n0_; have BK455 := n1_; have GW455 := n2_; have GE455 := n3_; clear n0_ n1_ n2_ n3_; clear hb hbox hg))
        have n0_ := Aside0.mk (blk_drew BK455.out)
        have n1_ := Aside0.mk (below_drew1 HB.out)
        clear BK455
        clear HB
        have BK455 := n0_
        have HB := n1_
        clear n0_ n1_
        have p457 : 0 ≤ (0 : Int) := (by omega)
        have q457 : 0 < (l1.length : Int) := of_decide_eq_true (by first | (with_reducible assumption) | assumption)
        obtain ⟨ad457, e457, hx457_0⟩ := Kd.at_string HR1.out 0 p457 q457
        have hw457_0 := hx457_0
        (try rw [show ((0 : Int)).toNat = 0 from rfl] at hw457_0)
        (try rw [show 0 * 1 = 0 from rfl] at hw457_0)
        (try rw [Addr.add_zero'] at hw457_0)
        cases e457
        have qi457 : (0 < l1.length) = True := eq_true (by omega)
        (try rw [show ((0 : Int)).toNat = 0 from rfl] at hx457_0)
        (try rw [Addr.add_zero'] at hx457_0)
        replace hx457_0 := (HB.out.cell (World.block_lt_of_cell? w _ hx457_0)).trans hx457_0
        replace p457 := eq_true p457
        replace q457 := eq_true q457
        refine start_ (n := 9) (S := fun w' => w'.cell? ⟨gb455, 0, none⟩ = some (.int .i64 a4_0) ∧ w'.cell? ⟨gb455, 1, none⟩ = some (.int .i64 a4_1) ∧ w'.cell? ad457 = some (.string (rdOf ByteArray.empty l1 0))) (ds := []) #[false, false, false, false, false, false, false, false, false] (by kernel_rfl) rfl rfl ⟨(blk_cell BK455.out 0).trans rfl, (blk_cell BK455.out 1).trans rfl, ((HB.out.cell (World.block_lt_of_cell? w _ hw457_0)).trans hw457_0)⟩ (fun hHeld => ?_); refine with_tabW ringworkref08_fragment.tab2 ringworkref08_fragment.bits2 (fun HT_ HW_ => ?_)
        generalize w10.drew = w11 at BK455 HB hx457_0 hHeld ⊢
        refine pure_ (i := 0) (N := some 13) (v := ?_) (a' := ?_) #[true, false, false, false, false, false, false, false, false] rfl rfl (any_of HT_.out (by kernel_rfl)) (fun _ _ _ h => h) (Or.inl ⟨by rfl, ?_⟩) ?_ ?_
        rotate_left
        · intro w'
          go_simp
          with_reducible rfl
        rotate_left
        · simp only [Act.put, List.setIfInBounds_toArray, List.set_cons_zero, List.set_cons_succ, i64_w, i32_w]
          rfl
        refine pure_ (i := 1) (N := some 14) (v := ?_) (a' := ?_) #[true, true, false, false, false, false, false, false, false] rfl rfl (any_of HT_.out (by kernel_rfl)) (fun _ _ _ h => h) (Or.inl ⟨by rfl, ?_⟩) ?_ ?_
        rotate_left
        · intro w'
          go_simp
          with_reducible rfl
        rotate_left
        · simp only [Act.put, List.setIfInBounds_toArray, List.set_cons_zero, List.set_cons_succ, i64_w, i32_w]
          rfl
        refine pure_ (i := 4) (N := some 17) (v := ?_) (a' := ?_) #[true, true, false, false, true, false, false, false, false] rfl rfl (any_of HT_.out (by kernel_rfl)) (fun _ _ _ h => h) (Or.inl ⟨by rfl, ?_⟩) ?_ ?_
        rotate_left
        · intro w'
          go_simp
          with_reducible rfl
        rotate_left
        · simp only [Act.put, List.setIfInBounds_toArray, List.set_cons_zero, List.set_cons_succ, i64_w, i32_w]
          rfl
        refine pure_ (i := 5) (N := some 18) (v := ?_) (a' := ?_) #[true, true, false, false, true, true, false, false, false] rfl rfl (any_of HT_.out (by kernel_rfl)) (fun _ _ _ h => h) (Or.inl ⟨by rfl, ?_⟩) ?_ ?_
        rotate_left
        · intro w'
          go_simp
          with_reducible rfl
        rotate_left
        · simp only [Act.put, List.setIfInBounds_toArray, List.set_cons_zero, List.set_cons_succ, i64_w, i32_w]
          rfl
        refine take_ (i := 2) (N := some 15) (v := ?_) (a' := ?_) #[true, true, true, false, true, true, false, false, false] rfl rfl (take_ofW HT_.out HW_.out (by kernel_rfl)) (fun _ _ _ h => h) (Or.inl ⟨by rfl, ?_⟩) hHeld ?_ ?_
        rotate_left
        · rintro w' ⟨s0, s1, s2⟩
          go_simp
          with_reducible rfl
        rotate_left
        · simp only [Act.put, List.setIfInBounds_toArray, List.set_cons_zero, List.set_cons_succ, i64_w, i32_w]
          rfl
        refine take_ (i := 6) (N := some 19) (v := ?_) (a' := ?_) #[true, true, true, false, true, true, true, false, false] rfl rfl (take_ofW HT_.out HW_.out (by kernel_rfl)) (fun _ _ _ h => h) (Or.inl ⟨by rfl, ?_⟩) hHeld ?_ ?_
        rotate_left
        · rintro w' ⟨s0, s1, s2⟩
          go_simp
          with_reducible rfl
        rotate_left
        · simp only [Act.put, List.setIfInBounds_toArray, List.set_cons_zero, List.set_cons_succ, i64_w, i32_w]
          rfl
        refine one_ (i := 3) (N := some 16) #[true, true, true, true, true, true, true, false, false] rfl rfl (one_of HT_.out (by kernel_rfl)) (by decide) (fun K hK => ?_)
        refine goes_ Try.func124 (by kernel_rfl) rfl #[.int .u8 65, .int .i64 a0, .int .i64 a3, .agg #[.int .i64 a4_0, .int .i64 a4_1]] (by rfl) rfl rfl (by (try simp only [List.map_toArray, List.map_cons, List.map_nil]); first | done | rfl | (simp only [List.length_drop, List.length_take]; rfl)) ?_
        with_reducible refine (ringworkref08_head.calls 65 a0 a3 a4_0 a4_1 t456 _ A7.out).mono ?_
        rintro e w12 ⟨rfl, hb⟩
        refine ⟨_, rfl, ?_⟩
        have n0_ := Aside0.mk (blk_below (g := gb455) (o := .cells #[.int .i64 a4_0, .int .i64 a4_1] 93 (0, 0)) (by (with_reducible repeat (first | refine blk_drewN ?_ _ | refine blk_drew ?_ | refine blk_alloc ?_ _)); exact BK455.out) hb)
        have n1_ := Aside0.mk (below_step (by repeat (first | (with_reducible first | exact HB.out | apply below_alloc | apply pw_below_drewN | apply below_drew1 | refine below_set ?_ GE455.out) | exact HB.out)) hb)
        clear BK455
        clear HB
        have BK455 := n0_
        have HB := n1_
        clear n0_ n1_
        (try clear hb)
        (try clear hb2)
        (try clear hk)
        (try clear hi)
        refine hK.out _ _ ⟨(blk_cell BK455.out 0).trans rfl, (blk_cell BK455.out 1).trans rfl, ((HB.out.cell (World.block_lt_of_cell? w _ hw457_0)).trans hw457_0)⟩ (fun hHeld => ?_)
        clear hK K
        refine norm_ (a' := ?_) ?_ ?_
        rotate_left
        · show Act.put _ (some 16) _ = _
          simp only [Act.put, List.setIfInBounds_toArray, List.set_cons_zero, List.set_cons_succ, i64_w, i32_w]
          rfl
        refine pure_ (i := 7) (N := some 20) (v := ?_) (a' := ?_) #[true, true, true, true, true, true, true, true, false] rfl rfl (any_of HT_.out (by kernel_rfl)) (fun _ _ _ h => h) (Or.inl ⟨by rfl, ?_⟩) ?_ ?_
        rotate_left
        · intro w'
          go_simp
          with_reducible rfl
        rotate_left
        · simp only [Act.put, List.setIfInBounds_toArray, List.set_cons_zero, List.set_cons_succ, i64_w, i32_w]
          rfl
        refine pure_ (i := 8) (N := some 10) (v := ?_) (a' := ?_) #[true, true, true, true, true, true, true, true, true] rfl rfl (any_of HT_.out (by kernel_rfl)) (fun _ _ _ h => h) (Or.inl ⟨by rfl, ?_⟩) ?_ ?_
        rotate_left
        · intro w'
          go_simp
          with_reducible rfl
        rotate_left
        · simp only [Act.put, List.setIfInBounds_toArray, List.set_cons_zero, List.set_cons_succ, i64_w, i32_w]
          rfl
        refine done_ (done_of HT_.out (by kernel_rfl)) ?_
        try go_wp2
        go_ret
        exact ⟨by first | rfl | (simp [errW_none, errW_some] <;> rfl) | (simp [*, errW_none, errW_some] <;> rfl), by repeat (first | (with_reducible first | exact HB.out | apply below_alloc | apply pw_below_drewN | apply below_drew1 | refine below_set ?_ GE455.out) | exact HB.out)⟩
      · rw [if_neg c9] at H
        exact absurd H (by simp)
    · rw [if_neg c8] at H
      exact absurd H (by simp)
  · rw [if_neg c6] at H
    have c6b0 : (a2 == 0) = false := beq_eq_false_iff_ne.mpr c6
    have c6b1 : (a2 != 0) = true := bne_iff_ne.mpr c6
    replace H := Option.bind_eq_some_iff.mp H
    obtain ⟨t458, A130, H⟩ := H
    replace H : (if 0 ≤ a2 then (if a2 < (l1.length : Int) then (if t458.size + (rdOf ByteArray.empty l1 a2).size ≤ 9223372036854775807 then (some (t458 ++ (rdOf ByteArray.empty l1 a2))) else (none)) else (none)) else (none)) = some r := H
    have A13 := Aside0.mk A130
    clear A130
    by_cases c14 : 0 ≤ a2
    · rw [if_pos c14] at H
      have c14b0 : decide (0 ≤ a2) = true := decide_eq_true c14
      clear c14
      by_cases c15 : a2 < (l1.length : Int)
      · rw [if_pos c15] at H
        have c15b0 : decide (a2 < (l1.length : Int)) = true := decide_eq_true c15
        clear c15
        by_cases c16 : t458.size + (rdOf ByteArray.empty l1 a2).size ≤ 9223372036854775807
        · rw [if_pos c16] at H
          have c16b0 := eq_true c16
          have c16b1 : decide (t458.size + (rdOf ByteArray.empty l1 a2).size ≤ 9223372036854775807) = true := decide_eq_true c16
          try have c16b2 : (9223372036854775807 < t458.size + (rdOf ByteArray.empty l1 a2).size) = False := eq_false (Nat.not_lt.2 c16)
          obtain rfl := Option.some.inj H
          go_enter Try.func97, Try.ntmps97
          try go_wp2_with (first | ((with_reducible refine gate_dst (N := 9) rfl ?_); refine box_event ?hg (N := 9) ?hd (cs := #[.int .i64 a4_0, .int .i64 a4_1]) (t := 93) ?hr ?_; (case hd => rfl); (case hg => rfl); (case hr => first | (go_simp; done) | (go_simp; rfl)); intro gb455 hg w17 hbox hb; have n0_ := Aside0.mk (below_step (by repeat (first | (with_reducible first | exact HB.out | apply below_alloc | apply pw_below_drewN | apply below_drew1) | exact HB.out)) hb); have n1_ := Aside0.mk (hbox); have n2_ := Aside0.mk ((by rw [hg]; exact (below_size (by repeat (first | (with_reducible first | exact HB.out | apply below_alloc | apply pw_below_drewN | apply below_drew1) | exact HB.out))) : w.heap.size ≤ gb455)); have n3_ := Aside0.mk ((by rw [hg]; exact (below_size (by repeat (first | (with_reducible first | exact HB.out | apply below_alloc | apply pw_below_drewN | apply below_drew1) | exact HB.out))) : w.heap.size ≤ gb455)); clear HB; have HB := n0_; have BK455 := n1_; have GW455 := n2_; have GE455 := n3_; clear n0_ n1_ n2_ n3_; clear hb hbox hg))
          have n0_ := Aside0.mk (blk_drew BK455.out)
          have n1_ := Aside0.mk (below_drew1 HB.out)
          clear BK455
          clear HB
          have BK455 := n0_
          have HB := n1_
          clear n0_ n1_
          have p459 : 0 ≤ (a2 : Int) := of_decide_eq_true (by first | (with_reducible assumption) | assumption)
          have q459 : a2 < (l1.length : Int) := of_decide_eq_true (by first | (with_reducible assumption) | assumption)
          obtain ⟨ad459, e459, hx459_0⟩ := Kd.at_string HR1.out a2 p459 q459
          have hw459_0 := hx459_0
          cases e459
          replace hx459_0 := (HB.out.cell (World.block_lt_of_cell? w _ hx459_0)).trans hx459_0
          replace p459 := eq_true p459
          replace q459 := eq_true q459
          refine start_ (n := 10) (S := fun w' => w'.cell? ⟨gb455, 0, none⟩ = some (.int .i64 a4_0) ∧ w'.cell? ⟨gb455, 1, none⟩ = some (.int .i64 a4_1) ∧ w'.cell? (ad459.add (a2).toNat) = some (.string (rdOf ByteArray.empty l1 a2))) (ds := []) #[false, false, false, false, false, false, false, false, false, false] (by kernel_rfl) rfl rfl ⟨(blk_cell BK455.out 0).trans rfl, (blk_cell BK455.out 1).trans rfl, ((HB.out.cell (World.block_lt_of_cell? w _ hw459_0)).trans hw459_0)⟩ (fun hHeld => ?_); refine with_tabW ringworkref08_fragment.tab3 ringworkref08_fragment.bits3 (fun HT_ HW_ => ?_)
          generalize w17.drew = w18 at BK455 HB hx459_0 hHeld ⊢
          refine pure_ (i := 0) (N := some 21) (v := ?_) (a' := ?_) #[true, false, false, false, false, false, false, false, false, false] rfl rfl (any_of HT_.out (by kernel_rfl)) (fun _ _ _ h => h) (Or.inl ⟨by rfl, ?_⟩) ?_ ?_
          rotate_left
          · intro w'
            go_simp
            with_reducible rfl
          rotate_left
          · simp only [Act.put, List.setIfInBounds_toArray, List.set_cons_zero, List.set_cons_succ, i64_w, i32_w]
            rfl
          refine pure_ (i := 1) (N := some 22) (v := ?_) (a' := ?_) #[true, true, false, false, false, false, false, false, false, false] rfl rfl (any_of HT_.out (by kernel_rfl)) (fun _ _ _ h => h) (Or.inl ⟨by rfl, ?_⟩) ?_ ?_
          rotate_left
          · intro w'
            go_simp
            with_reducible rfl
          rotate_left
          · simp only [Act.put, List.setIfInBounds_toArray, List.set_cons_zero, List.set_cons_succ, i64_w, i32_w]
            rfl
          refine pure_ (i := 4) (N := some 25) (v := ?_) (a' := ?_) #[true, true, false, false, true, false, false, false, false, false] rfl rfl (any_of HT_.out (by kernel_rfl)) (fun _ _ _ h => h) (Or.inl ⟨by rfl, ?_⟩) ?_ ?_
          rotate_left
          · intro w'
            go_simp
            with_reducible rfl
          rotate_left
          · simp only [Act.put, List.setIfInBounds_toArray, List.set_cons_zero, List.set_cons_succ, i64_w, i32_w]
            rfl
          refine pure_ (i := 5) (N := some 26) (v := ?_) (a' := ?_) #[true, true, false, false, true, true, false, false, false, false] rfl rfl (any_of HT_.out (by kernel_rfl)) (fun _ _ _ h => h) (Or.inl ⟨by rfl, ?_⟩) ?_ ?_
          rotate_left
          · intro w'
            go_simp
            with_reducible rfl
          rotate_left
          · simp only [Act.put, List.setIfInBounds_toArray, List.set_cons_zero, List.set_cons_succ, i64_w, i32_w]
            rfl
          refine pure_ (i := 6) (N := some 27) (v := ?_) (a' := ?_) #[true, true, false, false, true, true, true, false, false, false] rfl rfl (any_of HT_.out (by kernel_rfl)) (fun _ _ _ h => h) (Or.inl ⟨by rfl, ?_⟩) ?_ ?_
          rotate_left
          · intro w'
            go_simp
            with_reducible rfl
          rotate_left
          · simp only [Act.put, List.setIfInBounds_toArray, List.set_cons_zero, List.set_cons_succ, i64_w, i32_w]
            rfl
          refine take_ (i := 2) (N := some 23) (v := ?_) (a' := ?_) #[true, true, true, false, true, true, true, false, false, false] rfl rfl (take_ofW HT_.out HW_.out (by kernel_rfl)) (fun _ _ _ h => h) (Or.inl ⟨by rfl, ?_⟩) hHeld ?_ ?_
          rotate_left
          · rintro w' ⟨s0, s1, s2⟩
            go_simp
            with_reducible rfl
          rotate_left
          · simp only [Act.put, List.setIfInBounds_toArray, List.set_cons_zero, List.set_cons_succ, i64_w, i32_w]
            rfl
          refine take_ (i := 7) (N := some 28) (v := ?_) (a' := ?_) #[true, true, true, false, true, true, true, true, false, false] rfl rfl (take_ofW HT_.out HW_.out (by kernel_rfl)) (fun _ _ _ h => h) (Or.inl ⟨by rfl, ?_⟩) hHeld ?_ ?_
          rotate_left
          · rintro w' ⟨s0, s1, s2⟩
            go_simp
            with_reducible rfl
          rotate_left
          · simp only [Act.put, List.setIfInBounds_toArray, List.set_cons_zero, List.set_cons_succ, i64_w, i32_w]
            rfl
          refine one_ (i := 3) (N := some 24) #[true, true, true, true, true, true, true, true, false, false] rfl rfl (one_of HT_.out (by kernel_rfl)) (by decide) (fun K hK => ?_)
          refine goes_ Try.func124 (by kernel_rfl) rfl #[.int .u8 67, .int .i64 a0, .int .i64 a2, .agg #[.int .i64 a4_0, .int .i64 a4_1]] (by rfl) rfl rfl (by (try simp only [List.map_toArray, List.map_cons, List.map_nil]); first | done | rfl | (simp only [List.length_drop, List.length_take]; rfl)) ?_
          with_reducible refine (ringworkref08_head.calls 67 a0 a2 a4_0 a4_1 t458 _ A13.out).mono ?_
          rintro e w19 ⟨rfl, hb⟩
          refine ⟨_, rfl, ?_⟩
          have n0_ := Aside0.mk (blk_below (g := gb455) (o := .cells #[.int .i64 a4_0, .int .i64 a4_1] 93 (0, 0)) (by (with_reducible repeat (first | refine blk_drewN ?_ _ | refine blk_drew ?_ | refine blk_alloc ?_ _)); exact BK455.out) hb)
          have n1_ := Aside0.mk (below_step (by repeat (first | (with_reducible first | exact HB.out | apply below_alloc | apply pw_below_drewN | apply below_drew1 | refine below_set ?_ GE455.out) | exact HB.out)) hb)
          clear BK455
          clear HB
          have BK455 := n0_
          have HB := n1_
          clear n0_ n1_
          (try clear hb)
          (try clear hb2)
          (try clear hk)
          (try clear hi)
          refine hK.out _ _ ⟨(blk_cell BK455.out 0).trans rfl, (blk_cell BK455.out 1).trans rfl, ((HB.out.cell (World.block_lt_of_cell? w _ hw459_0)).trans hw459_0)⟩ (fun hHeld => ?_)
          clear hK K
          refine norm_ (a' := ?_) ?_ ?_
          rotate_left
          · show Act.put _ (some 24) _ = _
            simp only [Act.put, List.setIfInBounds_toArray, List.set_cons_zero, List.set_cons_succ, i64_w, i32_w]
            rfl
          refine pure_ (i := 8) (N := some 29) (v := ?_) (a' := ?_) #[true, true, true, true, true, true, true, true, true, false] rfl rfl (any_of HT_.out (by kernel_rfl)) (fun _ _ _ h => h) (Or.inl ⟨by rfl, ?_⟩) ?_ ?_
          rotate_left
          · intro w'
            go_simp
            with_reducible rfl
          rotate_left
          · simp only [Act.put, List.setIfInBounds_toArray, List.set_cons_zero, List.set_cons_succ, i64_w, i32_w]
            rfl
          refine pure_ (i := 9) (N := some 10) (v := ?_) (a' := ?_) #[true, true, true, true, true, true, true, true, true, true] rfl rfl (any_of HT_.out (by kernel_rfl)) (fun _ _ _ h => h) (Or.inl ⟨by rfl, ?_⟩) ?_ ?_
          rotate_left
          · intro w'
            go_simp
            with_reducible rfl
          rotate_left
          · simp only [Act.put, List.setIfInBounds_toArray, List.set_cons_zero, List.set_cons_succ, i64_w, i32_w]
            rfl
          refine done_ (done_of HT_.out (by kernel_rfl)) ?_
          try go_wp2
          go_ret
          exact ⟨by first | rfl | (simp [errW_none, errW_some] <;> rfl) | (simp [*, errW_none, errW_some] <;> rfl), by repeat (first | (with_reducible first | exact HB.out | apply below_alloc | apply pw_below_drewN | apply below_drew1 | refine below_set ?_ GE455.out) | exact HB.out)⟩
        · rw [if_neg c16] at H
          exact absurd H (by simp)
      · rw [if_neg c15] at H
        exact absurd H (by simp)
    · rw [if_neg c14] at H
      exact absurd H (by simp)

end Go.Proofs.Ytemglmcddaeedaa.PA

namespace Go.Proofs.Ytemglmcddaeedaa.PA
open Go.RowKit Go.Proofs.YtemglmcddaeedaaW.PrintWords Go.Proofs.YtemglmcddaeedaaW.PrintLast Go.Proofs.YtemglmcddaeedaaW.PrintMore
attribute [local go_sem] max2_int min2_int max_two min_two max_three min_three max_four min_four   -- for this text's walks alone
set_option linter.unusedVariables false
set_option linter.unusedSimpArgs false

/-! ### ringworkref08_Cut: function 48 -/
def ringworkref08_Cut.l0 : Nat → Int → ByteArray → List ByteArray → List ByteArray → Int → Option (List ByteArray × Int)
  | 0, _, _, _, _, _ => none
  | k + 1, x0, x2, x8, x9, x10 => if x10 < (x8.length : Int) then ((ringworkref08_fragment.f x0 x8 x10 (x2.size : Int) 0 0).bind fun t464 => (if x9.length < 8796093022208 then (ringworkref08_Cut.l0 k x0 x2 x8 (x9 ++ [t464]) (wrap64 (x10 + 1))) else (none))) else (some (x9, 0))
def ringworkref08_Cut.f (k : Nat) (a0 : Int) (a1 : Int) (a2 : ByteArray) : Option (List ByteArray × Int) := if (a2.size : Int) > 4000 then (some (([] : List ByteArray), 1)) else ((ringworkref08_key.f a0).bind fun t460 => (if t460 = true then (if a1 < 1 then (some (([] : List ByteArray), 7)) else (if a1 > 1000 then (some (([] : List ByteArray), 7)) else ((ringworkref08_parts.f k a2 a1).bind fun t461 => (ringworkref08_Cut.l0 k a0 a2 t461 ([] : List ByteArray) 0)))) else (some (([] : List ByteArray), 7))))
theorem ringworkref08_Cut.mono_l : ∀ k, (∀ y0 y1 y2 y3 y4, LeO (ringworkref08_Cut.l0 k y0 y1 y2 y3 y4) (ringworkref08_Cut.l0 (k + 1) y0 y1 y2 y3 y4))
  | 0 => fun _ _ _ _ _ r h => by simp [ringworkref08_Cut.l0] at h
  | k + 1 => by
    have ih0 := ringworkref08_Cut.mono_l k
    · intro y0 y1 y2 y3 y4
      unfold ringworkref08_Cut.l0
      repeat' first
      | (with_reducible exact ih0 _ _ _ _ _)
      | (with_reducible exact ringworkref08_parts.mono _ _ _)
      | (with_reducible exact LeO.refl _)
      | (with_reducible exact LeO.none _)
      | (with_reducible refine LeO.ite ?_ ?_)
      | (with_reducible refine LeO.bind ?_ (fun _ => ?_))
      | exact ih0 _ _ _ _ _
      | exact ringworkref08_parts.mono _ _ _
      | exact LeO.none _
      | refine LeO.ite ?_ ?_
      | refine LeO.bind ?_ (fun _ => ?_)
theorem ringworkref08_Cut.mono : ∀ a0 a1 a2 k, LeO (ringworkref08_Cut.f k a0 a1 a2) (ringworkref08_Cut.f (k + 1) a0 a1 a2) := by
  intro a0 a1 a2 k
  have ih0 := ringworkref08_Cut.mono_l k
  unfold ringworkref08_Cut.f
  repeat' first
      | (with_reducible exact ih0 _ _ _ _ _)
      | (with_reducible exact ringworkref08_parts.mono _ _ _)
      | (with_reducible exact LeO.refl _)
      | (with_reducible exact LeO.none _)
      | (with_reducible refine LeO.ite ?_ ?_)
      | (with_reducible refine LeO.bind ?_ (fun _ => ?_))
      | exact ih0 _ _ _ _ _
      | exact ringworkref08_parts.mono _ _ _
      | exact LeO.none _
      | refine LeO.ite ?_ ?_
      | refine LeO.bind ?_ (fun _ => ?_)
set_option maxHeartbeats 8000000 in
set_option maxRecDepth 100000 in
theorem ringworkref08_Cut.calls (k : Nat) (a0 : Int) (a1 : Int) (a2 : ByteArray) (r1 : List ByteArray) (r2 : Int) (w : World) (h : ringworkref08_Cut.f k a0 a1 a2 = some (r1, r2)) :
    Calls Try.prog 48 #[.int .i64 a0, .int .i64 a1, .string a2] w fun e w' => ∃ v0_ : Value, e = .returned (.tuple #[v0_, .int .i64 r2]) ∧ Kd.R Kd.string 9 w' w.heap.size (fun _ => True) v0_ r1 ∧ Below w.heap.size w w' := by
  have hu93 := Try.underlying93
  have HB := Aside0.mk (Below.refl w.heap.size w)
  have H : (if (a2.size : Int) > 4000 then (some (([] : List ByteArray), 1)) else ((ringworkref08_key.f a0).bind fun t460 => (if t460 = true then (if a1 < 1 then (some (([] : List ByteArray), 7)) else (if a1 > 1000 then (some (([] : List ByteArray), 7)) else ((ringworkref08_parts.f k a2 a1).bind fun t461 => (ringworkref08_Cut.l0 k a0 a2 t461 ([] : List ByteArray) 0)))) else (some (([] : List ByteArray), 7))))) = some (r1, r2) := h
  clear h
  by_cases c4 : (a2.size : Int) > 4000
  · rw [if_pos c4] at H
    have c4b0 : decide (4000 < (a2.size : Int)) = true := decide_eq_true c4
    have c4b1 : decide (4000 < a2.size) = true := decide_eq_true (by omega)
    clear c4
    simp only [Option.some.injEq, Prod.mk.injEq] at H
    obtain ⟨rfl, rfl⟩ := H
    go_enter Try.func48, Try.ntmps48
    go_wp2
    go_ret2
    exact ⟨_, by first | rfl | (simp [errW_none, errW_some] <;> rfl) | (simp [*, errW_none, errW_some] <;> rfl), by first | exact Kd.R_nil _ _ _ _ _ | exact Kd.N_nil _ _ _ _ _ | exact Kd.V_nil _ _ _ _ _ | exact Kd.Q_nil _ _ _ _ _ | exact Kd.S_nil _ _ _ _ _, by repeat (first | (with_reducible first | exact HB.out | apply below_alloc | apply pw_below_drewN | apply below_drew1) | exact HB.out)⟩
  · rw [if_neg c4] at H
    have c4b0 : decide (4000 < (a2.size : Int)) = false := decide_eq_false c4
    have c4b1 : decide (4000 < a2.size) = false := decide_eq_false (by omega)
    clear c4
    replace H := Option.bind_eq_some_iff.mp H
    obtain ⟨t460, A50, H⟩ := H
    replace H : (if t460 = true then (if a1 < 1 then (some (([] : List ByteArray), 7)) else (if a1 > 1000 then (some (([] : List ByteArray), 7)) else ((ringworkref08_parts.f k a2 a1).bind fun t461 => (ringworkref08_Cut.l0 k a0 a2 t461 ([] : List ByteArray) 0)))) else (some (([] : List ByteArray), 7))) = some (r1, r2) := H
    have A5 := Aside0.mk A50
    clear A50
    by_cases c6 : t460 = true
    · subst c6
      have H1 : (if a1 < 1 then (some (([] : List ByteArray), 7)) else (if a1 > 1000 then (some (([] : List ByteArray), 7)) else ((ringworkref08_parts.f k a2 a1).bind fun t461 => (ringworkref08_Cut.l0 k a0 a2 t461 ([] : List ByteArray) 0)))) = some (r1, r2) := by rw [if_pos rfl] at H; exact H
      clear H
      have H := H1
      clear H1
      by_cases c7 : a1 < 1
      · rw [if_pos c7] at H
        have c7b0 : decide (a1 < 1) = true := decide_eq_true c7
        clear c7
        simp only [Option.some.injEq, Prod.mk.injEq] at H
        obtain ⟨rfl, rfl⟩ := H
        go_enter Try.func48, Try.ntmps48
        go_wp2_with (first | ((with_reducible refine gate_callee (f := 95) rfl ?_); refine goesL_ (some 17) rfl rfl Try.func95 (by kernel_rfl) rfl #[.int .i64 a0] rfl (by (try simp only [List.map_toArray, List.map_cons, List.map_nil]); first | done | rfl | (simp only [List.length_drop, List.length_take]; rfl)) ?_; (with_reducible refine (ringworkref08_key.calls a0 true _ A5.out).mono ?_); rintro e w' ⟨rfl, ⟨nd, rfl⟩⟩; refine ⟨_, rfl, ?_⟩))
        go_ret2
        exact ⟨_, by first | rfl | (simp [errW_none, errW_some] <;> rfl) | (simp [*, errW_none, errW_some] <;> rfl), by first | exact Kd.R_nil _ _ _ _ _ | exact Kd.N_nil _ _ _ _ _ | exact Kd.V_nil _ _ _ _ _ | exact Kd.Q_nil _ _ _ _ _ | exact Kd.S_nil _ _ _ _ _, by repeat (first | (with_reducible first | exact HB.out | apply below_alloc | apply pw_below_drewN | apply below_drew1) | exact HB.out)⟩
      · rw [if_neg c7] at H
        have c7b0 : decide (a1 < 1) = false := decide_eq_false c7
        clear c7
        by_cases c8 : a1 > 1000
        · rw [if_pos c8] at H
          have c8b0 : decide (1000 < a1) = true := decide_eq_true c8
          clear c8
          simp only [Option.some.injEq, Prod.mk.injEq] at H
          obtain ⟨rfl, rfl⟩ := H
          go_enter Try.func48, Try.ntmps48
          go_wp2_with (first | ((with_reducible refine gate_callee (f := 95) rfl ?_); refine goesL_ (some 17) rfl rfl Try.func95 (by kernel_rfl) rfl #[.int .i64 a0] rfl (by (try simp only [List.map_toArray, List.map_cons, List.map_nil]); first | done | rfl | (simp only [List.length_drop, List.length_take]; rfl)) ?_; (with_reducible refine (ringworkref08_key.calls a0 true _ A5.out).mono ?_); rintro e w' ⟨rfl, ⟨nd, rfl⟩⟩; refine ⟨_, rfl, ?_⟩))
          go_ret2
          exact ⟨_, by first | rfl | (simp [errW_none, errW_some] <;> rfl) | (simp [*, errW_none, errW_some] <;> rfl), by first | exact Kd.R_nil _ _ _ _ _ | exact Kd.N_nil _ _ _ _ _ | exact Kd.V_nil _ _ _ _ _ | exact Kd.Q_nil _ _ _ _ _ | exact Kd.S_nil _ _ _ _ _, by repeat (first | (with_reducible first | exact HB.out | apply below_alloc | apply pw_below_drewN | apply below_drew1) | exact HB.out)⟩
        · rw [if_neg c8] at H
          have c8b0 : decide (1000 < a1) = false := decide_eq_false c8
          clear c8
          replace H := Option.bind_eq_some_iff.mp H
          obtain ⟨t461, A90, H⟩ := H
          replace H : (ringworkref08_Cut.l0 k a0 a2 t461 ([] : List ByteArray) 0) = some (r1, r2) := H
          have A9 := Aside0.mk A90
          clear A90
          have H' := Aside0.mk H
          clear H
          go_enter Try.func48, Try.ntmps48
          go_wp2_with (first | ((with_reducible refine gate_callee (f := 95) rfl ?_); refine goesL_ (some 17) rfl rfl Try.func95 (by kernel_rfl) rfl #[.int .i64 a0] rfl (by (try simp only [List.map_toArray, List.map_cons, List.map_nil]); first | done | rfl | (simp only [List.length_drop, List.length_take]; rfl)) ?_; (with_reducible refine (ringworkref08_key.calls a0 true _ A5.out).mono ?_); rintro e w' ⟨rfl, ⟨nd, rfl⟩⟩; refine ⟨_, rfl, ?_⟩) | ((with_reducible refine gate_callee (f := 96) rfl ?_); refine goesL_ (some 29) rfl rfl Try.func96 (by kernel_rfl) rfl #[.string a2, .int .i64 a1] rfl (by (try simp only [List.map_toArray, List.map_cons, List.map_nil]); first | done | rfl | (simp only [List.length_drop, List.length_take]; rfl)) ?_; (with_reducible refine (ringworkref08_parts.calls k a2 a1 t461 _ A9.out).mono ?_); rintro e w10 ⟨v462, rfl, ho0, hb⟩; refine ⟨_, rfl, ?_⟩; have n0_ := Aside0.mk (Kd.R_lower ho0 (below_size (by repeat (first | (with_reducible first | exact HB.out | apply below_alloc | apply pw_below_drewN | apply below_drew1) | exact HB.out)))); have n1_ := Aside0.mk (below_step (by repeat (first | (with_reducible first | exact HB.out | apply below_alloc | apply pw_below_drewN | apply below_drew1) | exact HB.out)) hb); clear HB; have HO463 := n0_; have HB := n1_; clear n0_ n1_; (try clear hb); (try clear hb2); (try clear hk); (try clear hi); (try clear ho0)))
          go_loopg [9, 10] k (fun kq v9 v10 w' => ∃ (x9_1 : List ByteArray) (x10_1 : Int), v10 = .int .i64 x10_1 ∧ Aside0 (ringworkref08_Cut.l0 kq a0 a2 t461 x9_1 x10_1 = some (r1, r2)) ∧ Aside0 (kq ≤ k) ∧ Aside0 (Kd.R Kd.string 9 w' w.heap.size (fun k_ => some k_ ≠ (v9 : Value).ownBlock) v462 t461) ∧ Aside0 (Kd.R Kd.string 9 w' w.heap.size (fun k_ => some k_ ≠ (v462 : Value).ownBlock) v9 x9_1) ∧ Aside0 (Below w.heap.size w w'))
          case atStart => exact ⟨(([] : List ByteArray)), (0), (by first | rfl | (simp; done) | (simp [*]; done)), H', ⟨Nat.le_refl _⟩, ⟨by (with_reducible repeat (first | apply Kd.R_alloc | apply Kd.R_drewN | apply Kd.R_drew)); exact Kd.R_mono HO463.out (fun _ hk => (by simp [Value.ownBlock]))⟩, ⟨by first | exact Kd.R_nil _ _ _ _ _ | exact Kd.N_nil _ _ _ _ _ | exact Kd.V_nil _ _ _ _ _ | exact Kd.Q_nil _ _ _ _ _ | exact Kd.S_nil _ _ _ _ _⟩, ⟨by repeat (first | (with_reducible first | exact HB.out | apply below_alloc | apply pw_below_drewN | apply below_drew1) | exact HB.out)⟩⟩
          case round =>
            clear H'
            try clear p2
            try clear c4
            try clear c4b0
            try clear c4b1
            try clear c6
            try clear c7
            try clear c7b0
            try clear c8
            try clear c8b0
            try clear c9
            obtain ⟨x9_1, x10_1, rfl, HA, HK1, HO_8, HO_9, HB⟩ := hrel
            cases gk with
            | zero => exact absurd HA.out (by simp [ringworkref08_Cut.l0])
            | succ k1 =>
              have H := HA.out
              clear HA
              simp only [ringworkref08_Cut.l0] at H
              by_cases c11 : x10_1 < (t461.length : Int)
              · rw [if_pos c11] at H
                have c11b0 : decide (x10_1 < (t461.length : Int)) = true := decide_eq_true c11
                clear c11
                replace H := Option.bind_eq_some_iff.mp H
                obtain ⟨t464, A120, H⟩ := H
                replace H : (if x9_1.length < 8796093022208 then (ringworkref08_Cut.l0 k1 a0 a2 t461 (x9_1 ++ [t464]) (wrap64 (x10_1 + 1))) else (none)) = some (r1, r2) := H
                have A12 := Aside0.mk A120
                clear A120
                by_cases c13 : x9_1.length < 8796093022208
                · rw [if_pos c13] at H
                  have LMc13 := Aside0.mk c13
                  clear c13
                  obtain ⟨y465, hy465⟩ : ∃ y_ : List ByteArray, y_ = (x9_1 ++ [t464]) := ⟨_, rfl⟩
                  replace H : (ringworkref08_Cut.l0 k1 a0 a2 t461 y465 (wrap64 (x10_1 + 1))) = some (r1, r2) := by first | (rw [hy465]; with_reducible exact H) | (have H2_ := (Option.bind_some _ _).symm.trans H; rw [hy465]; with_reducible exact H2_) | (have H2_ := (Option.bind_some _ _).symm.trans H; with_reducible exact H2_) | with_reducible exact H | (rw [hy465]; exact H) | exact H
                  have Ny465 := Aside0.mk hy465
                  clear hy465
                  have H' := Aside0.mk H
                  clear H
                  obtain ⟨Ao14, co14, eo14⟩ := Kd.R_slice HO_8.out
                  subst eo14
                  go_wp2_with (first | ((with_reducible refine gate_callee (f := 97) rfl ?_); refine goesL_ (some 43) rfl rfl Try.func97 (by kernel_rfl) rfl #[.int .i64 a0, .slice Ao14 t461.length co14, .int .i64 x10_1, .int .i64 (a2.size : Int), .agg #[.int .i64 0, .int .i64 0]] rfl (by (try simp only [List.map_toArray, List.map_cons, List.map_nil]); first | done | rfl | (simp only [List.length_drop, List.length_take]; rfl)) ?_; (with_reducible refine (ringworkref08_fragment.calls a0 _ _ t461 x10_1 (a2.size : Int) 0 0 t464 _ ?side1 ?side2 A12.out).mono ?_); (case side1 => repeat (first | exact (Kd.R_reads' HO_8.out).2.2 | (with_reducible refine Kd.C_alloc ?_ _) | (with_reducible refine Kd.C_drewN ?_ _) | (with_reducible refine Kd.C_drew ?_))); (case side2 => exact (Kd.R_reads' HO_8.out).2.1); rintro e w15 ⟨rfl, hb⟩; refine ⟨_, rfl, ?_⟩; have n0_ := Aside0.mk (Kd.R_below (by (with_reducible repeat (first | apply Kd.R_alloc | apply Kd.R_drewN | apply Kd.R_drew)); exact HO_8.out) hb); have n1_ := Aside0.mk (Kd.R_below (by (with_reducible repeat (first | apply Kd.R_alloc | apply Kd.R_drewN | apply Kd.R_drew)); exact HO_9.out) hb); have n2_ := Aside0.mk (below_step (by repeat (first | (with_reducible first | exact HB.out | apply below_alloc | apply pw_below_drewN | apply below_drew1) | exact HB.out)) hb); clear HO_8; clear HO_9; clear HB; have HO_8 := n0_; have HO_9 := n1_; have HB := n2_; clear n0_ n1_ n2_; (try clear hb); (try clear hb2); (try clear hk); (try clear hi)) | ((with_reducible refine gate_builtin (b := .append) (xs := #[.tmp 36, .tmp 44]) rfl ?_); at_builtin; refine Kd.R_append Kd.string (w0 := w) w.heap.size rfl (.tmp 36) (.tmp 44) 56 9 (.string ⟨#[]⟩) 16 rfl Try.underlying56 info9 rfl (by decide) (by omega) u9 x9_1 t464 [.string t464] (fun k_ => some k_ ≠ (.slice Ao14 t461.length co14 : Value).ownBlock) (fun _ => False) rfl rfl ?aP (fun _ hk => hk.elim) ?aF ?aO ?aB ?aS ?aL ?_; (case aP => exact rfl); (case aB => exact (by repeat (first | (with_reducible first | exact HB.out | apply below_alloc | apply pw_below_drewN | apply below_drew1) | exact HB.out))); (case aF => exact (fun k_ hk => Kd.fresh' (Kd.R_lt (by (with_reducible repeat (first | apply Kd.R_alloc | apply Kd.R_drewN | apply Kd.R_drew)); exact HO_8.out)) k_ hk)); (case aO => exact (by (with_reducible repeat (first | apply Kd.R_alloc | apply Kd.R_drewN | apply Kd.R_drew)); exact HO_9.out)); (case aS => exact (below_size (by repeat (first | (with_reducible first | exact HB.out | apply below_alloc | apply pw_below_drewN | apply below_drew1) | exact HB.out)))); (case aL => have := LMc13.out; omega); intro v466 w16 ho hb hg hat; rw [← Ny465.out] at ho; have n0_ := Aside0.mk (Kd.R_after (ok := (fun _ => True)) (by (with_reducible repeat (first | apply Kd.R_alloc | apply Kd.R_drewN | apply Kd.R_drew)); exact Kd.R_mono HO_8.out (fun _ hk => ⟨trivial, hk⟩)) hg hat); have n1_ := Aside0.mk (hb); have n2_ := Aside0.mk (ho); clear HO_8; clear HB; clear HO_9; have HO_8 := n0_; have HB := n1_; have HO467 := n2_; clear n0_ n1_ n2_; clear ho hb hg hat))
                  go_roundg k1
                  case measure => have := HK1.out; omega
                  case rel => exact ⟨(y465), (wrap64 (x10_1 + 1)), (by first | rfl | (simp; done) | (simp [*]; done)), H', ⟨by have := HK1.out; omega⟩, ⟨by (with_reducible repeat (first | apply Kd.R_alloc | apply Kd.R_drewN | apply Kd.R_drew)); exact Kd.R_mono HO_8.out (fun _ hk => hk.2)⟩, ⟨by (with_reducible repeat (first | apply Kd.R_alloc | apply Kd.R_drewN | apply Kd.R_drew)); exact HO467.out⟩, ⟨by repeat (first | (with_reducible first | exact HB.out | apply below_alloc | apply pw_below_drewN | apply below_drew1) | exact HB.out)⟩⟩
                · rw [if_neg c13] at H
                  exact absurd H (by simp)
              · rw [if_neg c11] at H
                have c11b0 : decide (x10_1 < (t461.length : Int)) = false := decide_eq_false c11
                clear c11
                simp only [Option.some.injEq, Prod.mk.injEq] at H
                obtain ⟨rfl, rfl⟩ := H
                obtain ⟨Ao17, co17, eo17⟩ := Kd.R_slice HO_8.out
                subst eo17
                go_wp2
                go_ret2
                exact ⟨_, by first | rfl | (simp [errW_none, errW_some] <;> rfl) | (simp [*, errW_none, errW_some] <;> rfl), by (with_reducible repeat (first | apply Kd.R_alloc | apply Kd.R_drewN | apply Kd.R_drew)); exact Kd.R_mono HO_9.out (fun _ hk => trivial), by repeat (first | (with_reducible first | exact HB.out | apply below_alloc | apply pw_below_drewN | apply below_drew1) | exact HB.out)⟩
    · replace c6 := Bool.eq_false_iff.mpr c6
      subst c6
      have H1 : (some (([] : List ByteArray), 7)) = some (r1, r2) := by rw [if_neg (show ¬ (false = true) by decide)] at H; exact H
      clear H
      have H := H1
      clear H1
      simp only [Option.some.injEq, Prod.mk.injEq] at H
      obtain ⟨rfl, rfl⟩ := H
      go_enter Try.func48, Try.ntmps48
      go_wp2_with (first | ((with_reducible refine gate_callee (f := 95) rfl ?_); refine goesL_ (some 17) rfl rfl Try.func95 (by kernel_rfl) rfl #[.int .i64 a0] rfl (by (try simp only [List.map_toArray, List.map_cons, List.map_nil]); first | done | rfl | (simp only [List.length_drop, List.length_take]; rfl)) ?_; (with_reducible refine (ringworkref08_key.calls a0 false _ A5.out).mono ?_); rintro e w' ⟨rfl, ⟨nd, rfl⟩⟩; refine ⟨_, rfl, ?_⟩))
      go_ret2
      exact ⟨_, by first | rfl | (simp [errW_none, errW_some] <;> rfl) | (simp [*, errW_none, errW_some] <;> rfl), by first | exact Kd.R_nil _ _ _ _ _ | exact Kd.N_nil _ _ _ _ _ | exact Kd.V_nil _ _ _ _ _ | exact Kd.Q_nil _ _ _ _ _ | exact Kd.S_nil _ _ _ _ _, by repeat (first | (with_reducible first | exact HB.out | apply below_alloc | apply pw_below_drewN | apply below_drew1) | exact HB.out)⟩

end Go.Proofs.Ytemglmcddaeedaa.PA

namespace Go.Proofs.Ytemglmcddaeedaa.PA
open Go.RowKit Go.Proofs.YtemglmcddaeedaaW.PrintWords Go.Proofs.YtemglmcddaeedaaW.PrintLast Go.Proofs.YtemglmcddaeedaaW.PrintMore
attribute [local go_sem] max2_int min2_int max_two min_two max_three min_three max_four min_four   -- for this text's walks alone
set_option linter.unusedVariables false
set_option linter.unusedSimpArgs false

/-! ### law08: function 0 -/
/-! #### the law PieceCuts -/
theorem row_cell {w : World} {base : Nat} {v : Value} {l : List ByteArray} (h : RowK sEnc 1 9 w base v l) (i : Nat) (hi : i < l.length) : ∃ ad cp, v = .slice (some ⟨ad, 0, none⟩) l.length cp ∧ w.cell? ⟨ad, i, none⟩ = some (.string (l[i]'hi)) := by
  rcases h with ⟨_, h1⟩ | ⟨rp, cap', sp, h1, _, _, _, _, h6⟩
  · rw [h1] at hi; exact absurd hi (Nat.not_lt_zero _)
  · refine ⟨rp, cap', h1, ?_⟩
    rw [blk_cell h6]
    simp only [List.getElem?_toArray]
    rw [List.getElem?_append_left (by rw [encs_len sEnc_len]; omega)]
    have := encs_get (enc := sEnc) sEnc_len l i 0 hi (by decide)
    rw [Nat.mul_one, Nat.add_zero] at this
    rw [this]; rfl
set_option maxHeartbeats 2000000 in
set_option maxRecDepth 100000 in
theorem law08_cuts (HW : AwakeLaw08) (k0 most : Int) (p : ByteArray) (HR : p.size ≤ 4100 → ∃ k r1 r2, piece_Cut.f k k0 most p = some (r1, r2) ∧ ringworkref08_Cut.f k k0 most p = some (r1, r2) ∧ r1.length ≤ 100000) (w : World) :
    Calls Try.prog 9 #[.int .i64 k0, .int .i64 most, .string p] w fun e w' => e = .returned (.bool true) ∧ Below w.heap.size w w' := by
  have HWW := Aside0.mk HW
  clear HW
  by_cases hbig : 4100 < p.size
  · have d1 : decide ((4100 : Int) < p.size) = true := decide_eq_true (by omega)
    clear HR
    go_enter Try.func9, Try.ntmps9
    go_wp2_with fail
    refine (awake08 HWW.out _).mono ?_
    rintro e w1 ⟨rfl, hb⟩
    go_wp2_with fail
    go_ret
    exact ⟨rfl, hb⟩
  · have d1 : decide ((4100 : Int) < p.size) = false := decide_eq_false (by omega)
    obtain ⟨k, l, e0, h1, h2, hl⟩ := HR (by omega)
    have HF := Aside0.mk (And.intro h1 h2)
    clear HR h1 h2
    obtain ⟨n, hn⟩ : ∃ n, l.length = n := ⟨_, rfl⟩
    have HN := Aside0.mk hn
    rw [hn] at hl
    clear hn
    go_enter Try.func9, Try.ntmps9
    go_wp2_with fail
    refine (piece_Cut.calls k k0 most p l e0 w HF.out.1).mono ?_
    rintro e w1 ⟨v1, rfl, hR1, hb1⟩
    have HB1 := Aside0.mk hb1
    have HR1 := Aside0.mk (row_of_sR hR1)
    obtain ⟨A1, c1, rfl, hc1, _⟩ := Kd.R_reads hR1
    rw [HN.out] at hc1
    simp only [HN.out] at HR1 ⊢
    clear hb1 hR1
    go_wp2_with fail
    refine (ringworkref08_Cut.calls k k0 most p l e0 w1 HF.out.2).mono ?_
    rintro e w2 ⟨v2, rfl, hR2, hb2⟩
    have HB2 := Aside0.mk (below_then HB1.out HB1.out.size hb2)
    have hrow2 := row_of_sR hR2
    have hrow1 := HR1.out.below hb2
    obtain ⟨A2, c2, rfl, hc2, _⟩ := Kd.R_reads hR2
    rw [HN.out] at hc2
    simp only [HN.out] at hrow2 ⊢
    have HC := Aside0.mk (show ∀ i (hi : i < n), ∃ a1 a2 X, A1 = some ⟨a1, 0, none⟩ ∧ A2 = some ⟨a2, 0, none⟩ ∧ w2.cell? ⟨a1, i, none⟩ = some (.string X) ∧ w2.cell? ⟨a2, i, none⟩ = some (.string X) from fun i hi => by
      have hi' : i < l.length := by rw [HN.out]; exact hi
      obtain ⟨a1, q1, x1, y1⟩ := row_cell hrow1 i hi'
      obtain ⟨a2, q2, x2, y2⟩ := row_cell hrow2 i hi'
      cases x1
      cases x2
      exact ⟨a1, a2, l[i], rfl, rfl, y1, y2⟩)
    have hee : (e0 != e0) = false := by simp
    have hnn : ((n : Int) != (n : Int)) = false := by simp
    clear hb2 hR2 hrow1 hrow2 HR1 HB1
    go_wp2_with fail
    go_loopw [11] (fun v11 wr => ∃ i nd : Nat, i ≤ n ∧ v11 = .int .i64 (i : Int) ∧ wr = w2.drewN nd) (fun v11 _ => n - (intOf v11).toNat)
    case atStart => exact ⟨0, 0, by omega, rfl, rfl⟩
    case round =>
      obtain ⟨i, nd, hi, rfl, rfl⟩ := hrel
      by_cases hlt : i < n
      · obtain ⟨a1, a2, X, rfl, rfl, k1, k2⟩ := HC.out i hlt
        have hlt1 : (i : Int) < n := by omega
        have hi0 : (0 : Int) ≤ i := by omega
        go_wp2_with fail
        go_quiet (fail)
        go_wp2_with fail
        exact ⟨⟨i + 1, nd + nq, by omega, by simp, rfl⟩, by simp [intOf]; omega⟩
      · obtain rfl : i = n := by omega
        go_wp2_with fail
        refine (awake08 HWW.out _).mono ?_
        rintro e w3 ⟨rfl, hb3⟩
        have HB3 := Aside0.mk (below_then (pw_below_drewN HB2.out nd) HB2.out.size hb3)
        clear hb3
        go_wp2_with fail
        go_ret
        exact ⟨rfl, HB3.out⟩

end Go.Proofs.Ytemglmcddaeedaa.PA

namespace Go.Proofs.Ytemglmcddaeedaa.PA
open Go.RowKit Go.Proofs.YtemglmcddaeedaaW.PrintWords Go.Proofs.YtemglmcddaeedaaW.PrintLast Go.Proofs.YtemglmcddaeedaaW.PrintMore
set_option linter.unusedVariables false
set_option linter.unusedSimpArgs false
def sizeOk (n : Int) : Prop := 32 ≤ n ∧ n ≤ 4096 ∧ n % 8 = 0
instance sizeOk.dec (n : Int) : Decidable (sizeOk n) := by unfold sizeOk; infer_instance
def fillS (n : Int) (l : List S45) : ByteArray × Int :=
  if CellsOk l then (if sizeOk n then (if needsL l > n then (⟨#[]⟩, 13) else (strOfNums (builtL n.toNat l), 0)) else (⟨#[]⟩, 7)) else (⟨#[]⟩, 1)
theorem w64 (x : Int) (h0 : -9223372036854775808 ≤ x) (h1 : x < 9223372036854775808) : wrap64 x = x := by unfold wrap64; omega
theorem size_f (n : Int) : page_size.f n = some (decide (sizeOk n)) := by
  unfold page_size.f
  split
  · split
    · rw [Int.tmod_eq_emod_of_nonneg (by omega)]
      congr 1
      by_cases h : n % 8 = 0
      · rw [decide_eq_true (show sizeOk n from ⟨by omega, by omega, h⟩), h]; rfl
      · rw [decide_eq_false (fun hs : sizeOk n => h hs.2.2)]; simpa using h
    · rw [decide_eq_false (fun hs : sizeOk n => by have := hs.2.1; omega)]
  · rw [decide_eq_false (fun hs : sizeOk n => by have := hs.1; omega)]
theorem line_f (n : Int) : page_line.f n = some (decide (1 ≤ n ∧ n ≤ 200)) := by
  unfold page_line.f
  split
  · rename_i h; simp; omega
  · rename_i h; simp; omega
theorem CellsOk_take {l : List S45} (h : CellsOk l) (i : Nat) : CellsOk (l.take i) := by
  rw [← List.take_append_drop i l] at h; exact h.append.1
/-- What one more cell asks. -/
theorem ok_next {l : List S45} (i : Nat) (hi : i < l.length) (h : CellsOk (l.take i)) :
    CellsOk (l.take (i + 1)) ↔ (1 ≤ l[i].f0 ∧ l[i].f0 ≤ 200 ∧ 0 < l[i].f1.size ∧ lastL (l.take i) < l[i].f0) := by
  rw [take_snoc l i hi]
  constructor
  · intro hc
    have h1 := hc.each l[i] (List.mem_append.2 (.inr (List.mem_singleton.2 rfl)))
    exact ⟨h1.1, h1.2.1, h1.2.2, lastL_lt hc⟩
  · rintro ⟨h1, h2, h3, h4⟩
    exact h.snoc ⟨h1, h2, h3⟩ h4
theorem lastL_take {l : List S45} (i : Nat) (hi : i ≤ l.length) (hp : 0 < i) : lastL (l.take i) = (l[i - 1]'(by omega)).f0 := by
  have e : l.take i = l.take (i - 1) ++ [l[i - 1]'(by omega)] := by
    have := take_snoc l (i - 1) (by omega)
    rw [show i - 1 + 1 = i by omega] at this
    exact this
  rw [e, lastL_snoc]
theorem lastL_zero {l : List S45} (i : Nat) (hp : ¬ 0 < i) : lastL (l.take i) = 0 := by
  have : i = 0 := by omega
  subst this
  rfl
theorem not_ok {l : List S45} (i : Nat) (h : ¬ CellsOk (l.take i)) : ¬ CellsOk l := fun hl => h (CellsOk_take hl i)
theorem fill_bad {l : List S45} (n : Int) (h : ¬ CellsOk l) : fillS n l = (⟨#[]⟩, 1) := by unfold fillS; rw [if_neg h]
theorem Fill_l0 (n : Int) (l : List S45) (hl : l.length ≤ 9223372036854775807) (hb : bytesL l ≤ 1000000000000) : ∀ (k i : Nat), i ≤ l.length → l.length - i < k → CellsOk (l.take i) →
    page_Fill.l0 k n l l (l.length : Int) (i : Int) = some (fillS n l) := by
  intro k
  induction k with
  | zero => intro i _ h; omega
  | succ k ih =>
    intro i hi hk hok
    rw [page_Fill.l0]
    by_cases hlt : i < l.length
    · have hn := ok_next i hlt hok
      rw [if_pos (by omega), if_pos (by omega), if_pos (by omega), rd_get l i hlt, line_f]
      simp only [Option.bind_some, decide_eq_true_eq]
      by_cases h1 : 1 ≤ l[i].f0 ∧ l[i].f0 ≤ 200
      · rw [if_pos h1]
        by_cases h2 : l[i].f1.toList = ([] : List UInt8)
        · rw [if_pos h2, fill_bad n (not_ok (i + 1) (fun hc => by have := (hn.1 hc).2.2.1; have := (toList_nil _).1 h2; omega))]
        · rw [if_neg h2]
          have h2' : 0 < l[i].f1.size := by
            rcases Nat.eq_zero_or_pos l[i].f1.size with h | h
            · exact absurd ((toList_nil _).2 h) h2
            · exact h
          by_cases h3 : (i : Int) > 0
          · rw [if_pos h3, w64 _ (by omega) (by omega), if_pos (by omega), if_pos (by omega), show (i : Int) - 1 = ((i - 1 : Nat) : Int) by omega, rd_get l (i - 1) (by omega)]
            by_cases h4 : (l[i - 1]'(by omega)).f0 ≥ l[i].f0
            · rw [if_pos h4, fill_bad n (not_ok (i + 1) (fun hc => by have := (hn.1 hc).2.2.2; rw [lastL_take i hi (by omega)] at this; omega))]
            · rw [if_neg h4, w64 _ (by omega) (by omega), show (i : Int) + 1 = ((i + 1 : Nat) : Int) by omega]
              exact ih (i + 1) (by omega) (by omega) (hn.2 ⟨h1.1, h1.2, h2', by rw [lastL_take i hi (by omega)]; omega⟩)
          · rw [if_neg h3, w64 _ (by omega) (by omega), show (i : Int) + 1 = ((i + 1 : Nat) : Int) by omega]
            exact ih (i + 1) (by omega) (by omega) (hn.2 ⟨h1.1, h1.2, h2', by rw [lastL_zero i (by omega)]; omega⟩)
      · rw [if_neg h1, fill_bad n (not_ok (i + 1) (fun hc => h1 ⟨(hn.1 hc).1, (hn.1 hc).2.1⟩))]
    · have hil : i = l.length := by omega
      rw [if_neg (by omega), size_f]
      rw [hil, List.take_length] at hok
      simp only [Option.bind_some, decide_eq_true_eq]
      unfold fillS
      rw [if_pos hok]
      by_cases hs : sizeOk n
      · rw [if_pos hs, if_pos hs]
        obtain ⟨s1, s2, s3⟩ := hs
        unfold page_filled.f
        rw [if_pos ⟨s1, s2, hok, hb⟩]
        split <;> rfl
      · rw [if_neg hs, if_neg hs]
theorem Fill_f (n : Int) (l : List S45) (hl : l.length ≤ 9223372036854775807) (hb : bytesL l ≤ 1000000000000) (k : Nat) (hk : l.length < k) : page_Fill.f k n l = some (fillS n l) :=
  Fill_l0 n l hl hb k 0 (by omega) (by omega) trivial
theorem New_f (n : Int) (k : Nat) (hk : 0 < k) : page_New.f k n = some (fillS n []) := by
  unfold page_New.f
  rw [Fill_f n [] (by simp) (by simp [bytesL]) k (by simpa using hk)]
  rfl
theorem Wrong_f (p : ByteArray) (h : p.size ≤ 100000) : page_Wrong.f p = some (wrongS p) := by unfold page_Wrong.f; rw [if_pos h]
theorem Valid_f (p : ByteArray) (h : p.size ≤ 100000) : page_Valid.f p = some (decide (validS p)) := by
  unfold page_Valid.f validS
  rw [Wrong_f p h, Option.bind_some]
  congr 1
theorem built_cells (n : Int) (l : List S45) (h1 : CellsOk l) (h2 : sizeOk n) (h3 : needsL l ≤ n) :
    validS (strOfNums (builtL n.toNat l)) ∧ cellsS (strOfNums (builtL n.toNat l)) (twoS (strOfNums (builtL n.toNat l)) 0).toNat = l ∧ (strOfNums (builtL n.toNat l)).size = n.toNat := by
  obtain ⟨s1, s2, s3⟩ := h2
  obtain ⟨e1, e2, e3⟩ := built_valid (N := n.toNat) (by omega) (by omega) (by omega) h1 (by omega)
  exact ⟨by unfold validS; rw [e1], by rw [e2]; exact e3, built_size h1 (by omega)⟩
open Go.ChangeShapes Go.WideShapes Go.ChangeAt Go.Deep
def atS (l : List S45) (n : Int) : ByteArray := match l.find? (fun c => c.f0 == n) with | some c => c.f1 | none => ⟨#[]⟩
theorem atS_pos {l : List S45} (h : CellsOk l) (n : Int) : 0 < (atS l n).size ↔ ∃ c ∈ l, c.f0 = n := by
  unfold atS
  cases hf : l.find? (fun c => c.f0 == n) with
  | none =>
    constructor
    · intro h0
      exact absurd h0 (by decide)
    · rintro ⟨c, hc, hn⟩
      have := List.find?_eq_none.1 hf c hc
      simp [hn] at this
  | some c =>
    have h1 := List.mem_of_find?_eq_some hf
    have h2 := List.find?_some hf
    exact ⟨fun _ => ⟨c, h1, by simpa using h2⟩, fun _ => (h.each c h1).2.2⟩
theorem leastL_spec : ∀ (l : List S45), CellsOk l → 1 ≤ leastL l ∧ leastL l ≤ 201 ∧ (∀ j, 1 ≤ j → j < leastL l → ∃ c ∈ l, c.f0 = j) ∧ (∀ c ∈ l, c.f0 ≠ leastL l) := by
  intro l
  induction hl : l.length generalizing l with
  | zero =>
    intro _
    have : l = [] := List.length_eq_zero_iff.1 hl
    subst this
    refine ⟨by decide, by decide, fun j h1 h2 => ?_, by simp⟩
    have : leastL ([] : List S45) = 1 := rfl
    omega
  | succ m ih =>
    intro h
    have hne : l ≠ [] := by intro h; rw [h] at hl; cases hl
    obtain ⟨a, c, rfl⟩ : ∃ a c, l = a ++ [c] := ⟨l.dropLast, l.getLast hne, (List.dropLast_concat_getLast hne).symm⟩
    obtain ⟨i1, i2, i3, i4⟩ := ih a (by simp at hl; exact hl) h.append.1
    have hc := h.append.2.1.head
    have hlt := fun x hx => h.append.2.2 x hx c (by simp)
    rw [leastL_snoc]
    split
    · rename_i he
      refine ⟨by omega, by omega, fun j h1 h2 => ?_, fun x hx => ?_⟩
      · by_cases hj : j < leastL a
        · obtain ⟨d, hd, hdj⟩ := i3 j h1 hj
          exact ⟨d, by simp [hd], hdj⟩
        · exact ⟨c, by simp, by omega⟩
      · rcases List.mem_append.1 hx with hx | hx
        · have := hlt x hx; omega
        · simp only [List.mem_singleton] at hx; subst hx; omega
    · rename_i he
      refine ⟨i1, i2, fun j h1 h2 => ?_, fun x hx => ?_⟩
      · obtain ⟨d, hd, hdj⟩ := i3 j h1 h2
        exact ⟨d, by simp [hd], hdj⟩
      · rcases List.mem_append.1 hx with hx | hx
        · exact i4 x hx
        · simp only [List.mem_singleton] at hx; subst hx; exact he
theorem dropIdx {l : List S45} (h : CellsOk l) {n : Int} (hf : foundS l n = true) : ∃ c, l.drop (idxS l n) = c :: l.drop (idxS l n + 1) ∧ c.f0 = n ∧ rd_T45 l (idxS l n) = c ∧ c ∈ l := by
  obtain ⟨c, hc, hcn⟩ := (idx_split h n).2.2.1 hf
  obtain ⟨hlt, he⟩ := List.getElem?_eq_some_iff.1 hc
  exact ⟨c, by rw [List.drop_eq_getElem_cons hlt, he], hcn, by rw [rd_get l _ hlt, he], by rw [← he]; exact List.getElem_mem _⟩
theorem find_lt {a : List S45} {n : Int} (h : ∀ x ∈ a, x.f0 ≠ n) : a.find? (fun c => c.f0 == n) = none := by
  rw [List.find?_eq_none]; intro x hx; simpa using h x hx
theorem atS_app {a b : List S45} {n : Int} (h : ∀ x ∈ a, x.f0 ≠ n) : atS (a ++ b) n = atS b n := by
  unfold atS; rw [List.find?_append, find_lt h]; rfl
theorem atS_cons {c : S45} {b : List S45} {n : Int} : atS (c :: b) n = if c.f0 = n then c.f1 else atS b n := by
  unfold atS
  rw [List.find?_cons]
  by_cases h : c.f0 = n
  · rw [if_pos h]; simp [h]
  · rw [if_neg h]
    have : (c.f0 == n) = false := by simpa using h
    rw [this]
theorem atS_none {b : List S45} {n : Int} (h : ∀ x ∈ b, x.f0 ≠ n) : atS b n = ⟨#[]⟩ := by unfold atS; rw [find_lt h]
theorem atS_found {l : List S45} (h : CellsOk l) (n : Int) : (foundS l n = true → atS l n = (rd_T45 l (idxS l n)).f1 ∧ 0 < (atS l n).size) ∧ (foundS l n = false → atS l n = ⟨#[]⟩) := by
  have hs := idx_split h n
  have ha : ∀ x ∈ l.take (idxS l n), x.f0 ≠ n := fun x hx => by have := hs.1 x hx; omega
  have e : atS l n = atS (l.drop (idxS l n)) n := by
    have := atS_app (b := l.drop (idxS l n)) ha
    rwa [List.take_append_drop] at this
  constructor
  · intro hf
    obtain ⟨c, h1, h2, h3, h4⟩ := dropIdx h hf
    rw [e, h1, atS_cons, if_pos h2, h3]
    exact ⟨rfl, (h.each c h4).2.2⟩
  · intro hf
    rw [e]
    exact atS_none (fun x hx => by have := hs.2.2.2 hf x hx; omega)
theorem found_iff {l : List S45} (h : CellsOk l) (n : Int) : foundS l n = true ↔ ∃ c ∈ l, c.f0 = n := by
  rw [← atS_pos h n]
  constructor
  · intro hf; exact ((atS_found h n).1 hf).2
  · intro h0
    cases hf : foundS l n with
    | true => rfl
    | false => rw [(atS_found h n).2 hf] at h0; exact absurd h0 (by decide)
theorem emptyB (d : ByteArray) : (d.toList == ([] : List UInt8)) = decide (d.size = 0) := by
  rw [Bool.eq_iff_iff]; simp only [beq_iff_eq, decide_eq_true_eq]; exact toList_nil d
theorem least_free {l : List S45} (h : CellsOk l) : foundS l (leastL l) = false := by
  cases hf : foundS l (leastL l) with
  | false => rfl
  | true =>
    obtain ⟨c, hc, hn⟩ := (found_iff h _).1 hf
    exact absurd hn ((leastL_spec l h).2.2.2 c hc)
/-- What page.Put answers. -/
def putS (p : ByteArray) (d : ByteArray) : ByteArray × Int × Int :=
  if validS p ∧ d.size ≠ 0 then
    (if leastL (cellsP p) > 200 then (⟨#[]⟩, 0, 13) else if needsL (insS (cellsP p) (leastL (cellsP p)) d) > p.size then (⟨#[]⟩, 0, 13) else (strOfNums (builtL p.size (insS (cellsP p) (leastL (cellsP p)) d)), leastL (cellsP p), 0))
  else (⟨#[]⟩, 0, 1)
theorem Put_f (p : ByteArray) (hs : p.size ≤ 100000) (d : ByteArray) (hd : d.size ≤ 100000) (k : Nat) (hk : 0 < k) : page_Put.f k p d = some (putS p d) := by
  obtain ⟨k, rfl⟩ : ∃ k', k = k' + 1 := ⟨k - 1, by omega⟩
  unfold page_Put.f putS
  rw [Valid_f p hs, Option.bind_some]
  by_cases hv : validS p
  · rw [if_pos (decide_eq_true hv), page_Put.j0, emptyB]
    by_cases h0 : d.size = 0
    · rw [if_pos (decide_eq_true h0), if_neg (by simp [h0])]
    · rw [if_neg (by simpa using h0), if_pos ⟨hv, h0⟩]
      obtain ⟨hok, k2, k3, k4, k5⟩ := cellsP_ok hv
      have hl := leastL_spec _ hok
      by_cases hb : leastL (cellsP p) > 200
      · have hN : page_Next.f p = some (0, 13) := by unfold page_Next.f; rw [if_pos hs, if_pos hv, if_pos (show leastL (cellsS p (twoS p 0).toNat) > 200 from hb)]
        rw [hN, Option.bind_some, if_pos hb]; rfl
      · have hN : page_Next.f p = some (leastL (cellsP p), 0) := by unfold page_Next.f; rw [if_pos hs, if_pos hv, if_neg (show ¬ leastL (cellsS p (twoS p 0).toNat) > 200 from hb)]; rfl
        rw [hN, Option.bind_some, if_neg hb]
        simp only
        have hP : page_PutAt.f p (leastL (cellsP p)) d = some (if needsL (insS (cellsP p) (leastL (cellsP p)) d) > (p.size : Int) then (⟨#[]⟩, 13) else (strOfNums (builtL p.size (insS (cellsP p) (leastL (cellsP p)) d)), 0)) := by
          unfold page_PutAt.f
          rw [if_pos ⟨hs, hd⟩]
          unfold putAtS filledS
          rw [if_neg h0, if_pos hv, if_pos (show 1 ≤ leastL (cellsP p) ∧ leastL (cellsP p) ≤ 200 from ⟨by omega, by omega⟩), if_neg (by simp [least_free hok]), Int.toNat_natCast]
        rw [if_pos trivial, hP, Option.bind_some]
        by_cases hf : needsL (insS (cellsP p) (leastL (cellsP p)) d) > (p.size : Int)
        · rw [if_pos hf, if_pos hf]; rfl
        · rw [if_neg hf, if_neg hf]; rfl
  · rw [if_neg (by simpa using hv), page_Put.j0, if_pos rfl, if_neg (by simp [hv])]
/-! #### PieceCuts: what the law asks of the pages, and that program and reference cut alike -/
theorem page08 (l : List S45) (h1 : CellsOk l) (h3 : needsL l ≤ 64) : validS (strOfNums (builtL 64 l)) ∧ cellsP (strOfNums (builtL 64 l)) = l ∧ (strOfNums (builtL 64 l)).size = 64 :=
  built_cells 64 l h1 ⟨by decide, by decide, by decide⟩ h3
theorem put08 (l l' : List S45) (d : ByteArray) (line : Int) (h1 : CellsOk l) (h3 : needsL l ≤ 64) (hd : 1 ≤ d.size ∧ d.size ≤ 64) (hl : leastL l = line) (hline : line ≤ 200) (hi : insS l line d = l') (hn : needsL l' ≤ 64) :
    page_Put.f 1 (strOfNums (builtL 64 l)) d = some (strOfNums (builtL 64 l'), line, 0) := by
  obtain ⟨v, c, s⟩ := page08 l h1 h3
  rw [Put_f _ (by rw [s]; decide) _ (by omega) 1 (by decide)]
  unfold putS
  rw [if_pos ⟨v, by omega⟩, c, hl, if_neg (by omega), hi, s, if_neg (by omega)]
theorem awakeLaw08 : AwakeLaw08 := by
  have k0 : CellsOk [] := trivial
  have k1 : CellsOk [⟨1, f8e⟩] := ⟨by decide, by decide, by decide⟩
  have k2 : CellsOk [⟨1, f8e⟩, ⟨2, f8c⟩] := by decide
  have k3 : CellsOk [⟨1, f8e⟩, ⟨2, f8c⟩, ⟨3, f8a⟩] := by decide
  obtain ⟨v0, c0, s0⟩ := page08 [] k0 (by decide)
  obtain ⟨v1, c1, s1⟩ := page08 [⟨1, f8e⟩] k1 (by decide)
  obtain ⟨v2, c2, s2⟩ := page08 [⟨1, f8e⟩, ⟨2, f8c⟩] k2 (by decide)
  obtain ⟨v3, c3, s3⟩ := page08 [⟨1, f8e⟩, ⟨2, f8c⟩, ⟨3, f8a⟩] k3 (by decide)
  refine ⟨1, strOfNums (builtL 64 []), strOfNums (builtL 64 [⟨1, f8e⟩]), strOfNums (builtL 64 [⟨1, f8e⟩, ⟨2, f8c⟩]), strOfNums (builtL 64 [⟨1, f8e⟩, ⟨2, f8c⟩, ⟨3, f8a⟩]), ⟨?_, by rw [s0]; rfl, by rw [s1]; rfl, by rw [s2]; rfl, by rw [s3]; rfl, v0, v1, v2, ?_, ?_, ?_, ?_, ?_, ?_, put08 _ _ _ _ k0 (by decide) (by decide) (by decide) (by decide) rfl (by decide), put08 _ _ _ _ k1 (by decide) (by decide) (by decide) (by decide) rfl (by decide), put08 _ _ _ _ k2 (by decide) (by decide) (by decide) (by decide) rfl (by decide), ⟨_, put08 [] [⟨1, f8c⟩] f8c 1 k0 (by decide) (by decide) (by decide) (by decide) rfl (by decide), fun _ => ?_⟩, ⟨_, put08 [] [⟨1, f8a⟩] f8a 1 k0 (by decide) (by decide) (by decide) (by decide) rfl (by decide), fun _ => ?_⟩, ?_, ?_, ?_⟩⟩
  · rw [New_f 64 1 (by decide)]
    unfold fillS
    rw [if_pos k0, if_pos ⟨by decide, by decide, by decide⟩, if_neg (by decide)]; rfl
  · unfold fitsS; rw [c0, s0]; decide
  · unfold fitsS; rw [c1, s1]; decide
  · unfold fitsS; rw [c2, s2]; decide
  · unfold roomS; rw [if_pos v0, c0, s0]; decide
  · unfold roomS; rw [if_pos v1, c1, s1]; decide
  · unfold roomS; rw [if_pos v2, c2, s2]; decide
  · rw [(page08 [⟨1, f8c⟩] ⟨by decide, by decide, by decide⟩ (by decide)).2.2]; rfl
  · rw [(page08 [⟨1, f8a⟩] ⟨by decide, by decide, by decide⟩ (by decide)).2.2]; rfl
  · unfold getS; rw [if_pos v3, if_pos (by decide), c3]; rfl
  · unfold getS; rw [if_pos v3, if_pos (by decide), c3]; rfl
  · unfold getS; rw [if_pos v3, if_pos (by decide), c3]; rfl
theorem parts_eq : ∀ (k : Nat) (m : Int) (p : ByteArray) (acc : List ByteArray), piece_parts.l0 k m p acc = ringworkref08_parts.l0 k p m acc := by
  intro k
  induction k with
  | zero => intros; rfl
  | succ k ih => intro m p acc; simp only [piece_parts.l0, ringworkref08_parts.l0, ih]
theorem parts_some (m : Int) (hm : 1 ≤ m) : ∀ (k : Nat) (p : ByteArray) (acc : List ByteArray), p.size < k → acc.length + p.size + 1 ≤ 10000 → ∃ l, piece_parts.l0 k m p acc = some l ∧ l.length ≤ 10000 := by
  intro k
  induction k with
  | zero => intro p acc h; omega
  | succ k ih =>
    intro p acc hk hl
    rw [piece_parts.l0]
    by_cases h : (p.size : Int) > m
    · rw [if_pos h, if_pos (by omega), if_pos (by omega), if_pos (by omega)]
      have hs : (p.extract m.toNat p.size).size = p.size - m.toNat := by rw [ByteArray.size_extract]; omega
      exact ih _ _ (by rw [hs]; omega) (by rw [hs, List.length_append]; simp only [List.length_cons, List.length_nil]; omega)
    · rw [if_neg h, if_pos (by omega)]
      exact ⟨_, rfl, by rw [List.length_append]; simp only [List.length_cons, List.length_nil]; omega⟩
theorem parts_sizes (m : Int) : ∀ (k : Nat) (p : ByteArray) (acc l : List ByteArray), piece_parts.l0 k m p acc = some l → p.size ≤ 4100 → (∀ x ∈ acc, x.size ≤ 4100) → ∀ x ∈ l, x.size ≤ 4100 := by
  intro k
  induction k with
  | zero => intro p acc l h; cases h
  | succ k ih =>
    intro p acc l h hp ha
    rw [piece_parts.l0] at h
    have hx : ∀ i j, (p.extract i j).size ≤ 4100 := fun i j => by rw [ByteArray.size_extract]; omega
    split at h
    · split at h
      · split at h
        · split at h
          · refine ih _ _ _ h (hx _ _) (fun x hm => ?_)
            rcases List.mem_append.1 hm with h9 | h9
            · exact ha x h9
            · simp only [List.mem_cons, List.not_mem_nil, or_false] at h9
              rw [h9]; exact hx _ _
          · cases h
        · cases h
      · cases h
    · split at h
      · cases h
        intro x hm
        rcases List.mem_append.1 hm with h9 | h9
        · exact ha x h9
        · simp only [List.mem_cons, List.not_mem_nil, or_false] at h9
          rw [h9]; exact hp
      · cases h
theorem rd_size {l : List ByteArray} (h : ∀ x ∈ l, x.size ≤ 4100) (i : Int) : (rdOf ByteArray.empty l i).size ≤ 100000 := by
  unfold rdOf
  rw [List.getD_eq_getElem?_getD]
  cases hx : l[i.toNat]? with
  | none => decide
  | some x => have := h x (List.mem_of_getElem? hx); show x.size ≤ 100000; omega
theorem str_cat (y : List Int) (hy : ∀ x ∈ y, 0 ≤ x ∧ x ≤ 255) (p : ByteArray) : strOfNums (y ++ bytesOf p) = strOfNums y ++ p :=
  bytesOf_inj (by
    rw [bytesOf_append, bytesOf_strOfNums y hy, bytesOf_strOfNums]
    intro x hx
    rcases List.mem_append.1 hx with h | h
    · exact hy x h
    · exact bytesOf_range p x h)
theorem str_size (y : List Int) (hy : ∀ x ∈ y, 0 ≤ x ∧ x ≤ 255) : (strOfNums y).size = y.length := by rw [← bytesOf_length, bytesOf_strOfNums y hy]
theorem byte_mod (x : Int) : 0 ≤ x % 256 ∧ x % 256 ≤ 255 := by omega
theorem frag_eq (k : Int) (l : List ByteArray) (i n : Int) (hi : 0 ≤ i) (hl : i < l.length) (hs : (rdOf ByteArray.empty l i).size ≤ 100000) :
    ∃ s, piece_framed.f k i n 0 0 (rdOf ByteArray.empty l i) = some s ∧ ringworkref08_fragment.f k l i n 0 0 = some s := by
  unfold piece_framed.f ringworkref08_fragment.f ringworkref08_head.f
  by_cases h : i = 0
  · subst h
    rw [if_pos rfl, if_pos rfl, Option.bind_some, Option.bind_some]
    have hy : ∀ x ∈ ([65, (k / 16777216) % 256, (k / 65536) % 256, (k / 256) % 256, (k) % 256, (n / 256) % 256, (n) % 256, (0 / 256) % 256, (0) % 256, (0) % 256] : List Int), 0 ≤ x ∧ x ≤ 255 := by
      intro x hx
      simp only [List.mem_cons, List.not_mem_nil, or_false] at hx
      rcases hx with rfl | rfl | rfl | rfl | rfl | rfl | rfl | rfl | rfl | rfl <;> omega
    rw [if_pos (by simp only [List.length_cons, List.length_nil]; omega), if_pos hl, if_pos (by rw [str_size _ hy]; simp only [List.length_cons, List.length_nil]; omega)]
    exact ⟨_, rfl, by rw [str_cat _ hy]⟩
  · rw [if_neg h, if_neg h, Option.bind_some, Option.bind_some]
    have hy : ∀ x ∈ ([67, (k / 16777216) % 256, (k / 65536) % 256, (k / 256) % 256, (k) % 256, (i / 256) % 256, (i) % 256, (0 / 256) % 256, (0) % 256, (0) % 256] : List Int), 0 ≤ x ∧ x ≤ 255 := by
      intro x hx
      simp only [List.mem_cons, List.not_mem_nil, or_false] at hx
      rcases hx with rfl | rfl | rfl | rfl | rfl | rfl | rfl | rfl | rfl | rfl <;> omega
    rw [if_pos (by simp only [List.length_cons, List.length_nil]; omega), if_pos hi, if_pos hl, if_pos (by rw [str_size _ hy]; simp only [List.length_cons, List.length_nil]; omega)]
    exact ⟨_, rfl, by rw [str_cat _ hy]⟩
theorem cut_l0 (k0 : Int) (p : ByteArray) (l : List ByteArray) (hl : l.length ≤ 10000) (hs : ∀ i, (rdOf ByteArray.empty l i).size ≤ 100000) : ∀ (k i : Nat) (acc : List ByteArray), i ≤ l.length → acc.length = i → l.length - i < k →
    ∃ r, piece_Cut.l0 k k0 p acc l (l.length : Int) (i : Int) = some (r, 0) ∧ ringworkref08_Cut.l0 k k0 p l acc (i : Int) = some (r, 0) ∧ r.length ≤ 10000 := by
  intro k
  induction k with
  | zero => intro i acc h1 h2 h3; omega
  | succ k ih =>
    intro i acc h1 h2 h3
    rw [piece_Cut.l0, ringworkref08_Cut.l0]
    by_cases h : i < l.length
    · obtain ⟨s, e1, e2⟩ := frag_eq k0 l i p.size (by omega) (by omega) (hs _)
      rw [if_pos (by omega), if_pos (by omega), if_pos (by omega), e1, Option.bind_some, if_pos (by omega), if_pos (by omega), e2, Option.bind_some, if_pos (by omega), w64 ((i : Int) + 1) (by omega) (by omega)]
      exact ih (i + 1) _ (by omega) (by rw [List.length_append, h2]; rfl) (by omega)
    · rw [if_neg (by omega), if_neg (by omega)]
      exact ⟨acc, rfl, rfl, by omega⟩
theorem cut_f (k0 m : Int) (p : ByteArray) (hp : p.size ≤ 4100) : ∃ r1 r2, piece_Cut.f 20000 k0 m p = some (r1, r2) ∧ ringworkref08_Cut.f 20000 k0 m p = some (r1, r2) ∧ r1.length ≤ 100000 := by
  unfold piece_Cut.f ringworkref08_Cut.f
  by_cases h : (p.size : Int) > 4000
  · rw [if_pos h, if_pos h]; exact ⟨[], 1, rfl, rfl, by simp⟩
  · rw [if_neg h, if_neg h]
    unfold piece_key.f ringworkref08_key.f
    by_cases h1 : k0 ≥ 1
    · rw [if_pos h1, Option.bind_some, Option.bind_some]
      by_cases h2 : k0 ≤ 1000000
      · rw [if_pos (decide_eq_true h2), if_pos (decide_eq_true h2)]
        by_cases h3 : m < 1
        · rw [if_pos h3, if_pos h3]; exact ⟨[], 7, rfl, rfl, by simp⟩
        · rw [if_neg h3, if_neg h3]
          by_cases h4 : m > 1000
          · rw [if_pos h4, if_pos h4]; exact ⟨[], 7, rfl, rfl, by simp⟩
          · rw [if_neg h4, if_neg h4]
            obtain ⟨l, e1, e2⟩ := parts_some m (by omega) 20000 p [] (by omega) (by simp only [List.length_nil]; omega)
            have hs := parts_sizes m 20000 p [] l e1 (by omega) (fun x hx => by cases hx)
            have e3 : ringworkref08_parts.f 20000 p m = some l := by unfold ringworkref08_parts.f; rw [← parts_eq]; exact e1
            rw [show piece_parts.f 20000 m p = some l from e1, e3, Option.bind_some, Option.bind_some]
            obtain ⟨r, f1, f2, f3⟩ := cut_l0 k0 p l e2 (fun i => rd_size hs i) 20000 0 [] (by omega) rfl (by omega)
            exact ⟨r, 0, f1, f2, by omega⟩
      · rw [if_neg (by simpa using h2), if_neg (by simpa using h2)]; exact ⟨[], 7, rfl, rfl, by simp⟩
    · rw [if_neg h1, Option.bind_some, Option.bind_some, if_neg (by decide), if_neg (by decide)]; exact ⟨[], 7, rfl, rfl, by simp⟩
theorem pieceCuts_calls (a0 a1 : Int) (a2 : ByteArray) (r : Bool) (w : World) (h : r = true) : Calls Try.prog 9 #[.int .i64 a0, .int .i64 a1, .string a2] w fun e w' => e = .returned (.bool r) ∧ Below w.heap.size w w' := by
  subst h
  exact law08_cuts awakeLaw08 a0 a1 a2 (fun hp => by
    obtain ⟨r1, r2, f1, f2, f3⟩ := cut_f a0 a1 a2 hp
    exact ⟨20000, r1, r2, f1, f2, f3⟩) w
theorem PieceCuts_law (a0 : Int) (_ : (Lit.int IntKind.i64 a0).wf = true) (a1 : Int) (_ : (Lit.int IntKind.i64 a1).wf = true) (a2 : ByteArray) (_ : a2.size ≤ 140737488351232) : true = true := rfl

end Go.Proofs.Ytemglmcddaeedaa.PA
