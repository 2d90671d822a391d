/- Part of the proof: The law PageBack of the page layer holds for every size, cells and data: what Put put Drop takes away again, and Set with the old data changes nothing. No condition. -/
import Derived.Test.YtemglmcddaeedaaPageBackA
import Derived.ArgAppend
import Derived.Below
import Derived.BigQuiet
import Derived.ChangeOld
import Derived.Deep.AppendLies
import Derived.Deep.CutBlock
import Derived.Deep.DeepCutAuto
import Derived.Deep.Draws
import Derived.Deep.LoopGhost
import Derived.Deep.OwnRows
import Derived.Deep.QuietTactic
import Derived.Deep.RegionHeld3
import Derived.Deep.RegionLaw
import Derived.Deep.SlicePairs
import Derived.Defers
import Derived.DefersIn
import Derived.KernelRfl
import Derived.Laws.BitsLemmas
import Derived.Laws.BytesArg
import Derived.Laws.CopyOwn
import Derived.Laws.IdiomCopy
import Derived.Laws.MakeOwn
import Derived.Laws.OwnMore
import Derived.Laws.Rows
import Derived.Laws.Slices
import Derived.Lib.AppendStr
import Derived.Lib.AppendZerosOnto
import Derived.Lib.BufferWrite
import Derived.Lib.ConvBytes
import Derived.Lib.Hide
import Derived.Lib.Overlaps
import Derived.LoopIn
import Derived.LoopNIn
import Derived.Maps.AppendAt
import Derived.OpenShut
import Derived.OrdersHeld
import Derived.OwnWalk
import Derived.OwnWalkIn
import Derived.ProofKit
import Derived.RangeFuncBound
import Derived.RangeFuncCalls
import Derived.RangeFuncLeaves
import Derived.RangeFuncNested
import Derived.RangeFuncRecord
import Derived.Recover
import Derived.RecoverIn
import Derived.RowKit
import Derived.RowKit3
import Derived.Shelf.Abstract
import Derived.Shelf.RegionOpen
import Derived.ShutString
import Derived.SizedLaws
import Derived.StillTailTactics
import Derived.Tactics
import Derived.TacticsInMore
import Derived.Test.YtemglmcddaeedaaProg
import Derived.Test.YtemglmcddaeedaaRows
import Derived.Test.YtemglmcddaeedaaWApart
import Derived.Test.YtemglmcddaeedaaWArr
import Derived.Test.YtemglmcddaeedaaWAt
import Derived.Test.YtemglmcddaeedaaWEqStruct
import Derived.Test.YtemglmcddaeedaaWFoot
import Derived.Test.YtemglmcddaeedaaWFootNe
import Derived.Test.YtemglmcddaeedaaWFour
import Derived.Test.YtemglmcddaeedaaWGuard
import Derived.Test.YtemglmcddaeedaaWInv
import Derived.Test.YtemglmcddaeedaaWInvWords
import Derived.Test.YtemglmcddaeedaaWKept
import Derived.Test.YtemglmcddaeedaaWLast
import Derived.Test.YtemglmcddaeedaaWMore
import Derived.Test.YtemglmcddaeedaaWN
import Derived.Test.YtemglmcddaeedaaWNEv
import Derived.Test.YtemglmcddaeedaaWQPut
import Derived.Test.YtemglmcddaeedaaWRepsOne
import Derived.Test.YtemglmcddaeedaaWShare
import Derived.Test.YtemglmcddaeedaaWTab
import Derived.Test.YtemglmcddaeedaaWWords
import Derived.Test.YtemglmcddaeedaaWZeros
import Derived.WalkKit
import Derived.WalkLawsBesides
import Derived.WalkSpells
import Derived.WideLaws
namespace Go.Proofs.Ytemglmcddaeedaa.PA
open Go.RowKit Go.Proofs.YtemglmcddaeedaaW.PrintWords Go.Proofs.YtemglmcddaeedaaW.PrintLast Go.Proofs.YtemglmcddaeedaaW.PrintMore
attribute [local go_sem] max2_int min2_int max_two min_two max_three min_three max_four min_four   -- for this text's walks alone
set_option linter.unusedVariables false
set_option linter.unusedSimpArgs false

/-! ### page_Wrong: function 19 -/
def page_Wrong.f (a0 : ByteArray) : Option (Int × Int) := if a0.size ≤ 100000 then some (wrongS a0) else none
/-- A region whose first operation is 'recover()', in a deferred call of a frame that panics. -/
theorem wpList_hide {P : Program} {ops : Array Oper} {l : List Oper} {a : Act} {w : World} {Q : Exit → Act → World → Prop}
    (h : ∀ K, Aside0 (∀ e a w, Q e a w → K e a w) → wpList P ops K l a w) : wpList P ops Q l a w := h Q (Aside0.mk fun _ _ _ h => h)
theorem wp_hide {P : Program} {c : Code} {a : Act} {w : World} {Q : Exit → Act → World → Prop}
    (h : ∀ K, Aside0 (∀ e a w, Q e a w → K e a w) → c.wp P K a w) : c.wp P Q a w := h Q (Aside0.mk fun _ _ _ h => h)
theorem wpS_recover {P : Program} {id : Nat} {o : Oper} {l : List Oper} {a : Act} {cs cs' : List Frame} {w : World} {v : Value} {Q : Exit → Act → List Frame → World → Prop}
    (hw : Region.wanted o (yielded (o :: l).toArray a.tmps) = true) (hr : (execOp a.eval o).run P w = .ok .recover w) (hrec : recoverD cs = some (v, cs'))
    (h : wpList P (o :: l).toArray (fun e a w => Q e a cs' w) l (a.put o.dst v) w) : (Code.region id (o :: l).toArray false).wpS P Q a cs w := by
  intro b k hb hro
  have ho : (o :: l).toArray[0]? = some o := by simp
  have hk : (b.at a (.inRegion (o :: l).toArray (0 :: List.range' 1 l.length) :: k)).kind = .deferred := hb
  have htr := tryRecover_deferred hk cs
  rw [← wpOps_eq_wpList l 1 (by intro j; rw [List.getElem?_toArray, Nat.add_comm, List.getElem?_cons_succ])] at h
  obtain ⟨e, a', w', hq, harr⟩ := wp_ops _ _ _ h b k cs'
  have hfin : ∀ v, (b.at a (.inRegion (o :: l).toArray (0 :: List.range' 1 l.length) :: k)).finish v = b.at (a.put o.dst v) (.inRegion (o :: l).toArray (List.range' 1 l.length) :: k) := by
    intro v; rw [Frame.finish_at, ho]; rfl
  have hrg : List.range (o :: l).toArray.size = 0 :: List.range' 1 l.length := by
    rw [List.range_eq_range']; simp [List.range'_succ]
  have hsr := step_region (P := P) (b := b) (a := a) (k := k) (cs := cs) (w := w) (ops := (o :: l).toArray) (id := id)
  rw [hrg] at hsr
  refine ⟨e, a', cs', w', hq, .of_steps (.head hsr (.one (step_lone_go ?_))) harr⟩
  rw [stepG_op ho hw, ← hfin]
  simp only [Frame.at] at htr ⊢
  simp [stepG.apply, hr, htr, hrec]
/-- .. of a frame that returns: it yields nil. -/
theorem wpS_recover_idle {P : Program} {id : Nat} {o : Oper} {l : List Oper} {a : Act} {cs : List Frame} {w : World} {Q : Exit → Act → List Frame → World → Prop}
    (hw : Region.wanted o (yielded (o :: l).toArray a.tmps) = true) (hr : (execOp a.eval o).run P w = .ok .recover w) (hrec : recoverD cs = none)
    (h : wpList P (o :: l).toArray (fun e a w => Q e a cs w) l (a.put o.dst .nilIface) w) : (Code.region id (o :: l).toArray false).wpS P Q a cs w := by
  intro b k hb hro
  have ho : (o :: l).toArray[0]? = some o := by simp
  have hk : (b.at a (.inRegion (o :: l).toArray (0 :: List.range' 1 l.length) :: k)).kind = .deferred := hb
  have htr := tryRecover_deferred hk cs
  rw [← wpOps_eq_wpList l 1 (by intro j; rw [List.getElem?_toArray, Nat.add_comm, List.getElem?_cons_succ])] at h
  obtain ⟨e, a', w', hq, harr⟩ := wp_ops _ _ _ h b k cs
  have hfin : ∀ v, (b.at a (.inRegion (o :: l).toArray (0 :: List.range' 1 l.length) :: k)).finish v = b.at (a.put o.dst v) (.inRegion (o :: l).toArray (List.range' 1 l.length) :: k) := by
    intro v; rw [Frame.finish_at, ho]; rfl
  have hrg : List.range (o :: l).toArray.size = 0 :: List.range' 1 l.length := by
    rw [List.range_eq_range']; simp [List.range'_succ]
  have hsr := step_region (P := P) (b := b) (a := a) (k := k) (cs := cs) (w := w) (ops := (o :: l).toArray) (id := id)
  rw [hrg] at hsr
  refine ⟨e, a', cs, w', hq, .of_steps (.head hsr (.one (step_lone_go ?_))) harr⟩
  rw [stepG_op ho hw, ← hfin]
  simp only [Frame.at] at htr ⊢
  simp [stepG.apply, hr, htr, hrec]
set_option maxHeartbeats 4000000 in
set_option maxRecDepth 100000 in
/-- The recovering closure, entered while the page is told wrong. -/
theorem wrong1_panics (g : Nat) (x0 : Int) (e0 : Int) (a e : Int) (w : World) (h1 : w.heap[g]? = some (.cells #[.int .i64 x0] 3)) (h2 : w.heap[g + 1]? = some (.cells #[.int .i64 e0] 28)) :
    CallsD Try.prog 56 #[.pointer (some ⟨g, 0, none⟩), .pointer (some ⟨g + 1, 0, none⟩)] (.panicking [{ v := .iface 70 (.agg #[.int .i64 a, .int .i64 e]), recovered := false }]) w fun en u' w' =>
      en = .returned (.tuple #[]) ∧ u' = .panicking [{ v := .iface 70 (.agg #[.int .i64 a, .int .i64 e]), recovered := true }] ∧
      w'.heap[g]? = some (.cells #[.int .i64 a] 3) ∧ w'.heap[g + 1]? = some (.cells #[.int .i64 e] 28) ∧ (∀ w0, Below g w0 w → Below g w0 w') := by
  refine callsD_of_wpS Try.func56 rfl fun c₀ cs hu => ?_
  simp only [Try.ntmps56, List.size_toArray, List.length_cons, List.length_nil, Nat.reduceAdd, Nat.reduceSub, Array.replicate_succ, Array.replicate_zero, List.push_toArray, List.append_toArray, List.nil_append, List.cons_append]
  have hta : ∀ x W, (Instr.typeAssert (.iface 70 x) 20 70 true).run Try.prog W = .ok (.tuple #[x, .bool true]) W := fun _ _ => by kernel_rfl
  have c1 := (blk_cell h1 0).trans rfl
  have c2 := (blk_cell h2 0).trans rfl
  have f1 := blk_frozen h1 0
  have f2 := blk_frozen h2 0
  apply wpS_seq
  refine wpS_recover (v := .iface 70 (.agg #[.int .i64 a, .int .i64 e])) rfl rfl (by simp only [recoverD, hu]; rfl) ?_
  refine wpList_hide ?_
  intro K HK
  dsimp only [Act.put]
  repeat go_step
  refine HK.out _ _ _ ?_
  clear HK K hta c1 c2 f1 f2
  refine wpS_of_wp ?_
  have hB : ∀ w0, Below g w0 w → Below g w0 (w.alloc (.cells #[.int .i64 a, .int .i64 e] 70)) := fun w0 hb => ⟨hb.os, hb.tape, hb.output, by have := hb.size; simp; omega, fun k hk => (Below.heap_alloc _ _ _ (by have := blk_lt h1; omega)).trans (hb.block k hk)⟩
  have h3 := blk_new w (.cells #[.int .i64 a, .int .i64 e] 70)
  have hl := blk_lt h2
  replace h1 := blk_alloc h1 (.cells #[.int .i64 a, .int .i64 e] 70)
  replace h2 := blk_alloc h2 (.cells #[.int .i64 a, .int .i64 e] 70)
  obtain ⟨b, hb⟩ : ∃ b, w.heap.size = b := ⟨_, rfl⟩
  obtain ⟨W, hW⟩ : ∃ W, w.alloc (.cells #[.int .i64 a, .int .i64 e] 70) = W := ⟨_, rfl⟩
  rw [hW] at h1 h2 h3 hB
  rw [hb] at h3 hl
  simp only [hb, hW]
  clear hb hW
  have c1 := (blk_cell h1 0).trans rfl
  have c2 := (blk_cell h2 0).trans rfl
  have c3 := (blk_cell h3 0).trans rfl
  have c4 := (blk_cell h3 1).trans rfl
  have f1 := blk_frozen h1 0
  have f2 := blk_frozen h2 0
  have HH := Aside0.mk (And.intro h1 (And.intro h2 (And.intro hB hu)))
  clear h1 h2 h3 hB hu
  refine wp_hide ?_
  intro K HK
  go_wp2_with fail
  go_region
  all_goals
    refine HK.out _ _ _ ?_
    obtain ⟨h1, h2, hB, hu⟩ := HH.out
    refine ⟨rfl, _, rfl, _, results_none rfl _ _ _, rfl, rfl, ?_, ?_, ?_⟩
    · exact blk_far (blk_set (blk_drew h1) 0 _) (by simp) _
    · exact blk_set (blk_far (blk_drew h2) (by simp) _) 0 _
    · exact fun w0 hw0 => (((hB w0 hw0).drew).setCell (Nat.le_refl g) _).setCell (Nat.le_succ g) _
set_option maxHeartbeats 4000000 in
set_option maxRecDepth 100000 in
/-- .. entered while Wrong returns. -/
theorem wrong1_idle (p q : Option Addr) (w : World) :
    CallsD Try.prog 56 #[.pointer p, .pointer q] .returning w fun en u' w' =>
      en = .returned (.tuple #[]) ∧ u' = .returning ∧ ∃ o, w' = w.alloc o := by
  refine callsD_of_wpS Try.func56 rfl fun c₀ cs hu => ?_
  simp only [Try.ntmps56, List.size_toArray, List.length_cons, List.length_nil, Nat.reduceAdd, Nat.reduceSub, Array.replicate_succ, Array.replicate_zero, List.push_toArray, List.append_toArray, List.nil_append, List.cons_append]
  have hta : ∀ W, (Instr.typeAssert .nilIface 20 70 true).run Try.prog W = .ok (.tuple #[.agg #[.int .i64 0, .int .i64 0], .bool false]) W := fun _ => by kernel_rfl
  apply wpS_seq
  refine wpS_recover_idle rfl rfl (by simp only [recoverD, hu]) ?_
  refine wpList_hide ?_
  intro K HK
  dsimp only [Act.put]
  repeat go_step
  refine HK.out _ _ _ ?_
  clear HK K hta
  refine wpS_of_wp ?_
  refine wp_hide ?_
  intro K HK
  go_wp2_with fail
  refine HK.out _ _ _ ?_
  refine ⟨rfl, .returning, ?_, _, results_none rfl _ _ _, rfl, rfl, _, rfl⟩
  cases c₀
  cases hu
  rfl
set_option maxRecDepth 100000 in
theorem wrong_leaves_panic (g : Nat) (tm : Array Value) (t2 : tm[2]?.getD undef = .pointer (some ⟨g, 0, none⟩)) (t3 : tm[3]?.getD undef = .pointer (some ⟨g + 1, 0, none⟩)) (w0 W : World) (x0 e0 a e : Int)
    (b1 : W.heap[g]? = some (.cells #[.int .i64 x0] 3)) (b2 : W.heap[g + 1]? = some (.cells #[.int .i64 e0] 28)) (hb : Below g w0 W) (R : Ending → World → Prop)
    (hR : ∀ W', Below g w0 W' → R (.returned (.tuple #[.int .i64 a, .int .i64 e])) W') :
    Leaves Try.prog Try.f19 tm R [{ target := .fn (.func 56) #[.pointer (some ⟨g, 0, none⟩), .pointer (some ⟨g + 1, 0, none⟩)], args := #[] }] (.panicking [{ v := .iface 70 (.agg #[.int .i64 a, .int .i64 e]), recovered := false }]) W := by
  refine leaves_cons (f := 56) (args := #[.pointer (some ⟨g, 0, none⟩), .pointer (some ⟨g + 1, 0, none⟩)]) (by simp) (by simp [go_sem]) ?_
  refine (wrong1_panics g x0 e0 a e W b1 b2).mono ?_
  rintro en u' W' ⟨rfl, rfl, h1, h2, hB⟩
  have c1 : W'.cell? ⟨g, 0, none⟩ = some (.int .i64 a) := (blk_cell h1 0).trans rfl
  have c2 : W'.cell? ⟨g + 1, 0, none⟩ = some (.int .i64 e) := (blk_cell h2 0).trans rfl
  refine ⟨_, ?_, hR _ (hB w0 hb)⟩
  simp [results, Try.results19, go_sem, c1, c2, t2, t3]
set_option maxRecDepth 100000 in
theorem wrong_leaves_ret (g : Nat) (tm : Array Value) (t2 : tm[2]?.getD undef = .pointer (some ⟨g, 0, none⟩)) (t3 : tm[3]?.getD undef = .pointer (some ⟨g + 1, 0, none⟩)) (w0 W : World) (a e : Int)
    (b1 : W.heap[g]? = some (.cells #[.int .i64 a] 3)) (b2 : W.heap[g + 1]? = some (.cells #[.int .i64 e] 28)) (hb : Below g w0 W) (hg : w0.heap.size = g) (R : Ending → World → Prop)
    (hR : ∀ W', Below g w0 W' → R (.returned (.tuple #[.int .i64 a, .int .i64 e])) W') :
    Leaves Try.prog Try.f19 tm R [{ target := .fn (.func 56) #[.pointer (some ⟨g, 0, none⟩), .pointer (some ⟨g + 1, 0, none⟩)], args := #[] }] .returning W := by
  refine leaves_cons (f := 56) (args := #[.pointer (some ⟨g, 0, none⟩), .pointer (some ⟨g + 1, 0, none⟩)]) (by simp) (by simp [go_sem]) ?_
  refine (wrong1_idle _ _ W).mono ?_
  rintro en u' W' ⟨rfl, rfl, o, rfl⟩
  have c1 : (W.alloc o).cell? ⟨g, 0, none⟩ = some (.int .i64 a) := (World.cell?_alloc_lt _ _ _ (blk_lt b1)).trans ((blk_cell b1 0).trans rfl)
  have c2 : (W.alloc o).cell? ⟨g + 1, 0, none⟩ = some (.int .i64 e) := (World.cell?_alloc_lt _ _ _ (blk_lt b2)).trans ((blk_cell b2 0).trans rfl)
  refine ⟨_, ?_, hR _ (hg ▸ below_alloc (hg ▸ hb) o)⟩
  simp [results, Try.results19, go_sem, c1, c2, t2, t3]
theorem page_size_f (n : Nat) (hn : n ≤ 100000) : page_size.f n = some (decide (32 ≤ n ∧ n ≤ 4096 ∧ n % 8 = 0)) := by
  unfold page_size.f
  split
  · split
    · have h1 : (Int.tmod (n : Int) 8) = ((n % 8 : Nat) : Int) := by rw [Int.tmod_eq_emod_of_nonneg (by omega)]; omega
      rw [h1]
      congr 1
      by_cases h : n % 8 = 0
      · rw [h]; simp; omega
      · have : ¬ ((n % 8 : Nat) : Int) = 0 := by omega
        rw [decide_eq_false (by omega)]
        simpa using this
    · rw [decide_eq_false (by omega)]
  · rw [decide_eq_false (by omega)]
set_option maxHeartbeats 4000000 in
set_option maxRecDepth 100000 in
theorem page_Wrong.calls (a0 : ByteArray) (r1 r2 : Int) (w : World) (h : page_Wrong.f a0 = some (r1, r2)) :
    Calls Try.prog 19 #[.string a0] w fun e w' => e = .returned (.tuple #[.int .i64 r1, .int .i64 r2]) ∧ Below w.heap.size w w' := by
  unfold page_Wrong.f at h
  split at h
  rotate_left
  · cases h
  rename_i hsz
  have h := Option.some.inj h
  have HX := Aside0.mk h
  clear h
  obtain ⟨g, hg⟩ : ∃ g, w.heap.size = g := ⟨_, rfl⟩
  have hB0 : ∀ v v' t t', Below g w ((w.alloc (.cells #[v] t)).alloc (.cells #[v'] t')) := fun v v' t t' => by rw [← hg]; exact below_alloc (below_alloc (Below.refl _ w) _) _
  have HP1 := Aside0.mk (hB0 (.int .i64 0) (.int .i64 0) 3 28)
  clear hB0
  have h1 : ((w.alloc (.cells #[.int .i64 0] 3)).alloc (.cells #[.int .i64 0] 28)).heap[g]? = some (.cells #[.int .i64 0] 3) := by rw [← hg]; exact blk_alloc (blk_new _ _) _
  have h2 : ((w.alloc (.cells #[.int .i64 0] 3)).alloc (.cells #[.int .i64 0] 28)).heap[g + 1]? = some (.cells #[.int .i64 0] 28) := by
    rw [← hg]; have := blk_new (w.alloc (.cells #[.int .i64 0] 3)) (.cells #[.int .i64 0] 28); simpa using this
  obtain ⟨W, hW⟩ : ∃ W, (w.alloc (.cells #[.int .i64 0] 3)).alloc (.cells #[.int .i64 0] 28) = W := ⟨_, rfl⟩
  rw [hW] at h1 h2 HP1
  have HZ := Aside0.mk (page_size_f a0.size hsz)
  have HH := Aside0.mk (And.intro h1 h2)
  clear h1 h2
  go_enter_defers Try.func19, Try.ntmps19
  refine wp_hide ?_
  intro K HK
  by_cases hok : 32 ≤ a0.size ∧ a0.size ≤ 4096 ∧ a0.size % 8 = 0
  · have hf := HZ.out
    rw [decide_eq_true hok] at hf
    have HF := Aside0.mk hf
    clear hf
    obtain ⟨hk1, hk2, hk3⟩ := hok
    have hcn := twoS_range a0 0
    obtain ⟨n, hn⟩ : ∃ n : Nat, twoS a0 0 = n := ⟨(twoS a0 0).toNat, by omega⟩
    have hcf := page_count_f a0 (by omega) (by omega)
    have HX2 := Aside0.mk hn
    rw [hn] at hcf hcn
    have HC := Aside0.mk hcf
    clear hcf
    have hn2 : (n : Int) ≤ 65535 := hcn.2
    by_cases hbig : n > 200 ∨ 2 + 4 * n > a0.size
    · by_cases hb1 : (n : Int) > 200
      all_goals go_wp2_with (first
        | (go_at_call 53; refine (page_size.calls _ _ _ HF.out).mono ?_; rintro e w' ⟨rfl, ⟨nd, rfl⟩⟩; simp only [hg, hW])
        | (go_at_call 57; refine (page_count.calls _ _ _ HC.out).mono ?_; rintro e w' ⟨rfl, ⟨nd2, rfl⟩⟩))
      all_goals
        refine HK.out _ _ _ ?_
        rw [hg]
        refine wrong_leaves_panic g _ (by rfl) (by rfl) w (W.drewN (nd + nd2)) 0 0 0 12 (blk_drewN HH.out.1 _) (blk_drewN HH.out.2 _) (pw_below_drewN HP1.out _) _ ?_
        intro W' hb
        have hx := HX.out
        unfold wrongS at hx
        rw [if_pos ⟨hk1, hk2, hk3⟩, HX2.out, if_pos (by omega)] at hx
        cases hx
        exact ⟨rfl, hb⟩
    · obtain ⟨hb1, hb2⟩ : ¬ ((n : Int) > 200) ∧ 2 + 4 * (n : Int) ≤ a0.size := by omega
      have HE := Aside0.mk (fun w => page_entries_calls a0 n HX2.out (by omega) hsz w)
      cases he : entriesS a0 n with
      | error a =>
        go_wp2_with (first
          | (go_at_call 53; refine (page_size.calls _ _ _ HF.out).mono ?_; rintro e w' ⟨rfl, ⟨nd, rfl⟩⟩; simp only [hg, hW])
          | (go_at_call 57; refine (page_count.calls _ _ _ HC.out).mono ?_; rintro e w' ⟨rfl, ⟨nd2, rfl⟩⟩)
          | (go_at_call 58; refine (HE.out _).mono ?_; rw [he]; rintro e w' ⟨hbe, rfl⟩))
        refine HK.out _ _ _ ?_
        rw [hg]
        refine wrong_leaves_panic g _ (by rfl) (by rfl) w w' 0 0 a 12 (blk_below (blk_drewN HH.out.1 _) hbe) (blk_below (blk_drewN HH.out.2 _) hbe) (below_then (pw_below_drewN HP1.out _) (Nat.le_of_lt (blk_lt HH.out.1)) hbe) _ ?_
        intro W' hb
        have hx := HX.out
        unfold wrongS at hx
        rw [if_pos ⟨hk1, hk2, hk3⟩, HX2.out, if_neg (by omega), Int.toNat_natCast, he] at hx
        cases hx
        exact ⟨rfl, hb⟩
      | ok top =>
        go_wp2_with (first
          | (go_at_call 53; refine (page_size.calls _ _ _ HF.out).mono ?_; rintro e w' ⟨rfl, ⟨nd, rfl⟩⟩; simp only [hg, hW])
          | (go_at_call 57; refine (page_count.calls _ _ _ HC.out).mono ?_; rintro e w' ⟨rfl, ⟨nd2, rfl⟩⟩)
          | (go_at_call 58; refine (HE.out _).mono ?_; rw [he]; rintro e w' ⟨hbe, rfl⟩))
        have ht := entriesS_top a0 n top he
        have hw1 := blk_below (blk_drewN HH.out.1 _) hbe
        have hw2 := blk_below (blk_drewN HH.out.2 _) hbe
        have hw3 := below_then (pw_below_drewN HP1.out _) (Nat.le_of_lt (blk_lt HH.out.1)) hbe
        have HW := Aside0.mk (And.intro hw1 (And.intro hw2 hw3))
        have c1 := (blk_cell hw1 0).trans rfl
        have c2 := (blk_cell hw2 0).trans rfl
        have f1 := blk_frozen hw1 0
        have f2 := blk_frozen hw2 0
        have hx := HX.out
        unfold wrongS at hx
        rw [if_pos ⟨hk1, hk2, hk3⟩, HX2.out, if_neg (by omega), Int.toNat_natCast, he] at hx
        have HX3 := Aside0.mk hx
        clear hx hw1 hw2 hw3 hbe he HE HX
        go_loopw [5] (fun v5 wr => ∃ i : Int, v5 = .int .i64 i ∧ 0 ≤ i ∧ i ≤ a0.size ∧ Aside0 (firstNZ a0 top i.toNat = firstNZ a0 top (2 + 4 * n)) ∧ wr = w') (fun v5 _ => a0.size - (intOf v5).toNat)
        case atStart => exact ⟨2 + 4 * n, by simp, by omega, by omega, Aside0.mk (by congr 1), rfl⟩
        case round =>
          obtain ⟨i, rfl, hi0, hi, HF1, rfl⟩ := hrel
          by_cases hlt : i < top
          · have hx5 := bt_at a0 i
            have p5 := eq_true hi0
            have q5 := eq_true (show i < (a0.size : Int) by omega)
            by_cases hz : bt a0 i = 0
            · have hst := HF1.out
              rw [firstNZ, if_pos (by omega), if_neg (by rw [Int.toNat_of_nonneg hi0]; simp [hz])] at hst
              have HF2 := Aside0.mk hst
              clear hst
              rw [hz] at hx5
              go_wp2_with fail
              go_roundw
              case rel => exact ⟨i + 1, rfl, by omega, by omega, Aside0.mk (by rw [show (i + 1).toNat = i.toNat + 1 by omega]; exact HF2.out), trivial⟩
              case measure => simp [intOf]; omega
            · have hst := HF1.out
              rw [firstNZ, if_pos (by omega), if_pos (by rw [Int.toNat_of_nonneg hi0]; simpa using hz)] at hst
              have HF2 := Aside0.mk hst
              clear hst
              go_wp2_with fail
              refine HK.out _ _ _ ?_
              rw [hg]
              refine wrong_leaves_panic g _ (by rfl) (by rfl) w wr 0 0 i 12 HW.out.1 HW.out.2.1 HW.out.2.2 _ ?_
              intro W' hb
              have hx := HX3.out
              simp only [← HF2.out] at hx
              rw [Int.toNat_of_nonneg hi0] at hx
              cases hx
              exact ⟨rfl, hb⟩
          · have hst := HF1.out
            rw [firstNZ, if_neg (by omega)] at hst
            have HF2 := Aside0.mk hst
            clear hst
            go_wp2_with fail
            refine HK.out _ _ _ ?_
            rw [hg]
            refine wrong_leaves_ret g _ (by rfl) (by rfl) w _ a0.size 0 (blk_far (blk_set HW.out.1 0 _) (by simp) _) (blk_set (blk_far HW.out.2.1 (by simp) _) 0 _) ((HW.out.2.2.setCell (Nat.le_refl g) _).setCell (Nat.le_succ g) _) hg _ ?_
            intro W' hb
            have hx := HX3.out
            simp only [← HF2.out] at hx
            cases hx
            exact ⟨rfl, hb⟩
  · have hf := HZ.out
    rw [decide_eq_false hok] at hf
    have HF := Aside0.mk hf
    clear hf
    go_wp2_with ((go_at_call 53; refine (page_size.calls _ _ _ HF.out).mono ?_; rintro e w' ⟨rfl, ⟨nd, rfl⟩⟩; simp only [hg, hW]))
    refine HK.out _ _ _ ?_
    rw [hg]
    refine wrong_leaves_panic g _ (by rfl) (by rfl) w (W.drewN nd) 0 0 0 11 (blk_drewN HH.out.1 _) (blk_drewN HH.out.2 _) (pw_below_drewN HP1.out _) _ ?_
    intro W' hb
    have hx := HX.out
    unfold wrongS at hx
    rw [if_neg hok] at hx
    cases hx
    exact ⟨rfl, hb⟩

end Go.Proofs.Ytemglmcddaeedaa.PA

namespace Go.Proofs.Ytemglmcddaeedaa.PA
open Go.RowKit Go.Proofs.YtemglmcddaeedaaW.PrintWords Go.Proofs.YtemglmcddaeedaaW.PrintLast Go.Proofs.YtemglmcddaeedaaW.PrintMore
attribute [local go_sem] max2_int min2_int max_two min_two max_three min_three max_four min_four   -- for this text's walks alone
set_option linter.unusedVariables false
set_option linter.unusedSimpArgs false

/-! ### page_Valid: function 21 -/
def page_Valid.f (a0 : ByteArray) : Option (Bool) := (page_Wrong.f a0).bind fun bt136 => (some (bt136.2 == 0))
set_option maxHeartbeats 8000000 in
set_option maxRecDepth 100000 in
theorem page_Valid.calls (a0 : ByteArray) (r : Bool) (w : World) (h : page_Valid.f a0 = some r) :
    Calls Try.prog 21 #[.string a0] w fun e w' => e = .returned (.bool r) ∧ Below w.heap.size w w' := by
  have HB := Aside0.mk (Below.refl w.heap.size w)
  have H : ((page_Wrong.f a0).bind fun bt136 => (some (bt136.2 == 0))) = some r := h
  clear h
  replace H := Option.bind_eq_some_iff.mp H
  obtain ⟨⟨t136, t137⟩, A20, H⟩ := H
  replace H : (some (t137 == 0)) = some r := H
  have A2 := Aside0.mk A20
  clear A20
  obtain rfl := Option.some.inj H
  go_enter Try.func21, Try.ntmps21
  go_wp2_with (first | ((with_reducible refine gate_callee (f := 19) rfl ?_); refine goesL_ (some 7) rfl rfl Try.func19 (by kernel_rfl) rfl #[.string a0] rfl (by (try simp only [List.map_toArray, List.map_cons, List.map_nil]); first | done | rfl | (simp only [List.length_drop, List.length_take]; rfl)) ?_; (with_reducible refine (page_Wrong.calls a0 t136 t137 _ A2.out).mono ?_); rintro e w3 ⟨rfl, hb⟩; refine ⟨_, rfl, ?_⟩; have n0_ := Aside0.mk (below_step (by repeat (first | (with_reducible first | exact HB.out | apply below_alloc | apply pw_below_drewN | apply below_drew1) | exact HB.out)) hb); clear HB; have HB := n0_; clear n0_; (try clear hb); (try clear hb2); (try clear hk); (try clear hi)))
  go_ret
  exact ⟨by first | rfl | (simp [errW_none, errW_some] <;> rfl) | (simp [*, errW_none, errW_some] <;> rfl), by repeat (first | (with_reducible first | exact HB.out | apply below_alloc | apply pw_below_drewN | apply below_drew1) | exact HB.out)⟩

end Go.Proofs.Ytemglmcddaeedaa.PA

namespace Go.Proofs.Ytemglmcddaeedaa.PA
open Go.RowKit Go.Proofs.YtemglmcddaeedaaW.PrintWords Go.Proofs.YtemglmcddaeedaaW.PrintLast Go.Proofs.YtemglmcddaeedaaW.PrintMore
attribute [local go_sem] max2_int min2_int max_two min_two max_three min_three max_four min_four   -- for this text's walks alone
set_option linter.unusedVariables false
set_option linter.unusedSimpArgs false

/-! ### page_cells1: function 0 -/
set_option maxHeartbeats 4000000 in
set_option maxRecDepth 100000 in
theorem page_cells1_calls (p : ByteArray) (b : Nat) (ln off len : Int) (h0 : 0 ≤ off) (h1 : 0 ≤ len) (h2 : off + len ≤ p.size) (h3 : p.size ≤ 100000) (w : World) (hb : w.heap[b]? = some (.cells #[.string p] 9)) :
    Calls Try.prog 99 #[.agg #[.int .i64 ln, .int .i64 off, .int .i64 len], .pointer (some ⟨b, 0, none⟩)] w fun e w' => e = .returned (.agg #[.int .i64 ln, .string (p.extract off.toNat (off + len).toNat)]) ∧ Below w.heap.size w w' := by
  have hlt := blk_lt hb
  have hb' := blk_alloc (blk_alloc hb (.cells #[.int .i64 ln, .int .i64 off, .int .i64 len] 76)) (.cells #[.int .i64 0, .string ⟨#[]⟩] 45)
  have hc := blk_alloc (blk_new w (.cells #[.int .i64 ln, .int .i64 off, .int .i64 len] 76)) (.cells #[.int .i64 0, .string ⟨#[]⟩] 45)
  have hd := blk_new (w.alloc (.cells #[.int .i64 ln, .int .i64 off, .int .i64 len] 76)) (.cells #[.int .i64 0, .string ⟨#[]⟩] 45)
  have hB := below_alloc (below_alloc (Below.refl _ w) (.cells #[.int .i64 ln, .int .i64 off, .int .i64 len] 76)) (.cells #[.int .i64 0, .string ⟨#[]⟩] 45)
  obtain ⟨W, hW⟩ : ∃ W, (w.alloc (.cells #[.int .i64 ln, .int .i64 off, .int .i64 len] 76)).alloc (.cells #[.int .i64 0, .string ⟨#[]⟩] 45) = W := ⟨_, rfl⟩
  obtain ⟨g, hg⟩ : ∃ g, w.heap.size = g := ⟨_, rfl⟩
  simp only [World.size_alloc] at hd
  rw [hW] at hb' hc hd hB
  rw [hg] at hc hd hB hlt
  clear hb
  have HB := Aside0.mk (And.intro hd hB)
  have c1 := (blk_cell hb' 0).trans rfl
  have c2 := (blk_cell hc 0).trans rfl
  have c3 := (blk_cell hc 1).trans rfl
  have c4 := (blk_cell hc 2).trans rfl
  have c5 := (blk_cell hd 0).trans rfl
  have c6 := (blk_cell hd 1).trans rfl
  have f5 := blk_frozen hd 0
  have f6 := blk_frozen hd 1
  clear hb' hc hd hB
  have hx := IntWalk.i64_in (off + len) (by omega)
  have p1 := eq_true h0
  have p2 := eq_true (show off ≤ off + len by omega)
  have p3 := eq_true h2
  go_enter Try.func99, Try.ntmps99
  go_wp2_with fail
  go_still_tail 12, (by kernel_rfl)
  repeat go_step
  have k1 := blk_set (blk_set (blk_drew HB.out.1) 0 (.int .i64 ln)) 1 (.string (p.extract off.toNat (off + len).toNat))
  obtain ⟨W3, hW3⟩ : ∃ W3, ((W.setCell ⟨g + 1, 0, none⟩ (.int .i64 ln)).setCell ⟨g + 1, 1, none⟩ (.string (p.extract off.toNat (off + len).toNat))).drew = W3 := ⟨_, rfl⟩
  have d1 : W3.cell? ⟨g + 1, 0, none⟩ = some (.int .i64 ln) := by rw [← hW3]; exact (blk_cell k1 0).trans rfl
  have d2 : W3.cell? ⟨g + 1, 1, none⟩ = some (.string (p.extract off.toNat (off + len).toNat)) := by rw [← hW3]; exact (blk_cell k1 1).trans rfl
  have d3 : Below g w W3 := by rw [← hW3]; exact ((HB.out.2.drew).setCell (Nat.le_succ g) _).setCell (Nat.le_succ g) _
  rw [hW3]
  refine ⟨rfl, .agg #[.int .i64 ln, .string (p.extract off.toNat (off + len).toNat)], ?_, rfl, hg ▸ d3⟩
  simp [results, Try.results99, go_sem, d1, d2]

end Go.Proofs.Ytemglmcddaeedaa.PA

namespace Go.Proofs.Ytemglmcddaeedaa.PA
open Go.RowKit Go.Proofs.YtemglmcddaeedaaW.PrintWords Go.Proofs.YtemglmcddaeedaaW.PrintLast Go.Proofs.YtemglmcddaeedaaW.PrintMore
attribute [local go_sem] max2_int min2_int max_two min_two max_three min_three max_four min_four   -- for this text's walks alone
set_option linter.unusedVariables false
set_option linter.unusedSimpArgs false

/-! ### page_gcell: function 0 -/
attribute [local go_sem] Oper.semAt_some
theorem R_is_slice {α : Type} {d : Kd α} {e : Nat} {w : World} {base : Nat} {ok : Nat → Prop} {v : Value} {xs : List α} (h : Kd.R d e w base ok v xs) : ∃ A n c, v = .slice A n c := by
  obtain ⟨_, inner, ho, _⟩ := h
  rcases ho.2 with ⟨rfl, _⟩ | ⟨g, cap, cur, rfl, _⟩
  · exact ⟨_, _, _, rfl⟩
  · exact ⟨_, _, _, rfl⟩
set_option maxHeartbeats 4000000 in
set_option maxRecDepth 100000 in
theorem page_gcell_calls (p : ByteArray) (n : Nat) (hn : twoS p 0 = n) (hs : 2 + 4 * n ≤ p.size) (hs2 : p.size ≤ 100000) (pb : Nat) (w : World) (hpb : w.heap[pb]? = some (.cells #[.string p] 9))
    (hgood : ∀ i : Nat, i < n → 0 < twoS p (4 + 4 * (i : Int)) → twoS p (2 + 4 * (i : Int)) + twoS p (4 + 4 * (i : Int)) ≤ p.size) :
    Calls Try.prog 98 #[.string p, .func (.func 99) #[] #[.pointer (some ⟨pb, 0, none⟩)]] w fun e w' => ∃ v, e = .returned v ∧ Kd.R k45 45 w' w.heap.size (fun _ => True) v (cellsS p n) ∧ Below w.heap.size w w' := by
  refine calls_of_wpX Try.func98 rfl ?_
  simp only [Try.ntmps98, List.size_toArray, List.length_cons, List.length_nil, Nat.reduceAdd, Nat.reduceSub, Array.replicate_succ, Array.replicate_zero, List.push_toArray, List.append_toArray, List.nil_append, List.cons_append]
  obtain ⟨R, hR⟩ : ∃ R : Ending → World → Prop, (fun e w' => ∃ v, e = .returned v ∧ Kd.R k45 45 w' w.heap.size (fun _ => True) v (cellsS p n) ∧ Below w.heap.size w w') = R := ⟨_, rfl⟩
  rw [hR]
  have HR := Aside0.mk hR
  clear hR
  refine wpX_seq_k ?_
  intro K hK
  go_wp2_with fail
  refine wpX_seq_k ?_
  intro K hK
  go_wp2_with fail
  refine wpX_seq_x ?_
  intro K0 hK0
  refine wpX_seq_k ?_
  intro K hK
  go_wp2_with (go_at_call 106; refine (page_slots_calls p _).mono ?_; rintro e w1 ⟨rfl, rfl⟩)
  obtain ⟨g, hg⟩ : ∃ g, w.heap.size = g := ⟨_, rfl⟩
  obtain ⟨W0, hW⟩ : ∃ W, (((w.alloc (.cells #[.func (.func 99) #[] #[.pointer (some ⟨pb, 0, none⟩)]] 121)).alloc (.cells #[.slice none 0 0] 22)).alloc (.cells #[.string p] 9)) = W := ⟨_, rfl⟩
  have hsz : W0.heap.size = g + 3 := by rw [← hW, ← hg]; simp
  have hB0 : Below w.heap.size w W0 := by rw [← hW]; exact below_alloc (below_alloc (below_alloc (Below.refl _ w) _) _) _
  have h1 : W0.heap[g]? = some (.cells #[.func (.func 99) #[] #[.pointer (some ⟨pb, 0, none⟩)]] 121) := by rw [← hW, ← hg]; exact blk_alloc (blk_alloc (blk_new _ _) _) _
  have h2 : W0.heap[g + 1]? = some (.cells #[.slice none 0 0] 22) := by
    rw [← hW, ← hg]; have := blk_alloc (blk_new (w.alloc (.cells #[.func (.func 99) #[] #[.pointer (some ⟨pb, 0, none⟩)]] 121)) (.cells #[.slice none 0 0] 22)) (.cells #[.string p] 9); simpa using this
  have h3 : W0.heap[g + 2]? = some (.cells #[.string p] 9) := by
    rw [← hW, ← hg]; have := blk_new ((w.alloc (.cells #[.func (.func 99) #[] #[.pointer (some ⟨pb, 0, none⟩)]] 121)).alloc (.cells #[.slice none 0 0] 22)) (.cells #[.string p] 9); simpa using this
  simp only [hg, hW, Nat.add_assoc, Nat.reduceAdd]
  rw [hg] at HR hB0
  have hplt : pb < g := by rw [← hg]; exact blk_lt hpb
  have HPB := Aside0.mk hpb
  clear hW hpb
  refine wpX_block ?_
  refine wpX_range (gf := 125) (lb := #[.pointer (some ⟨g + 2, 0, none⟩)]) (xs := (List.range n).map (slotV p)) (Kp := fun W => W.cell? ⟨g + 2, 0, none⟩ = some (.string p)) rfl (fun _ _ => rfl) (slots1_iter p n hn hs hs2 _) (by simp [slotV])
    (fun i W => ∃ v, Kd.R k45 45 W g (fun k => g + 4 < k) v (cellsS p i) ∧ Below g w W ∧ W.heap[g]? = some (.cells #[.func (.func 99) #[] #[.pointer (some ⟨pb, 0, none⟩)]] 121) ∧ W.heap[g + 1]? = some (.cells #[v] 22) ∧ W.heap[g + 2]? = some (.cells #[.string p] 9))
    (fun i a₁ W => ∃ v b, Kd.R k45 45 W g (fun k => g + 4 < k) v (cellsS p i) ∧ Below g w W ∧ W.heap[g]? = some (.cells #[.func (.func 99) #[] #[.pointer (some ⟨pb, 0, none⟩)]] 121) ∧ W.heap[g + 1]? = some (.cells #[v] 22) ∧ W.heap[g + 2]? = some (.cells #[.string p] 9) ∧ g + 4 < b ∧
      W.heap[b]? = some (.cells #[.int .i64 ((i : Int) + 1), .int .i64 (twoS p (2 + 4 * (i : Int))), .int .i64 (twoS p (4 + 4 * (i : Int)))] 76) ∧
      a₁ = { tmps := #[.string p, .func (.func 99) #[] #[.pointer (some ⟨pb, 0, none⟩)], undef, .pointer (some ⟨g, 0, none⟩), .slice none 0 0, .pointer (some ⟨g + 1, 0, none⟩), .pointer (some ⟨b, 0, none⟩), .string p, .func (.func 125) #[] #[.pointer (some ⟨g + 2, 0, none⟩)], .agg #[.int .i64 ((i : Int) + 1), .int .i64 (twoS p (2 + 4 * (i : Int))), .int .i64 (twoS p (4 + 4 * (i : Int)))]] ++ Array.replicate 10 undef, defers := [] })
    (fun _ _ => False) (fun _ _ => False)
    ?_ ?_ ?_ ?_ ?_ ?_ ?_ ?_ ?_ ?_ ?_ ?_ ?_
  all_goals try simp only [hsz, Nat.add_assoc, Nat.reduceAdd]
  case refine_1 =>
    rintro i W o o' ⟨v, e1, e2, e3, e4, e5⟩ -
    exact ⟨v, Kd.R_step e1 (fun k hk _ => World.putObj_heap_other (by omega)), below_putObj e2 (by omega) _, blk_putObj e3 (by omega), blk_putObj e4 (by omega), blk_putObj e5 (by omega)⟩
  case refine_2 =>
    rintro i a₁ W o o' ⟨v, b, e1, e2, e3, e4, e5, e7, e8, e9⟩ -
    exact ⟨v, b, Kd.R_step e1 (fun k hk _ => World.putObj_heap_other (by omega)), below_putObj e2 (by omega) _, blk_putObj e3 (by omega), blk_putObj e4 (by omega), blk_putObj e5 (by omega), e7, blk_putObj e8 (by omega), e9⟩
  case refine_3 => exact fun _ _ _ _ h => h.elim
  case refine_4 =>
    rintro i W m ⟨v, e1, e2, e3, e4, e5⟩
    exact ⟨v, Kd.R_drewN e1 m, pw_below_drewN e2 m, e3, e4, e5⟩
  case refine_5 => exact fun _ _ _ h => h.elim
  case refine_6 => exact fun _ _ _ h => h.elim
  case refine_7 =>
    rintro i W ⟨v, e1, e2, e3, e4, e5⟩
    exact (blk_cell e5 0).trans rfl
  case refine_8 =>
    intro rec
    exact ⟨_, Kd.R_nil _ _ _ _ _, hg ▸ below_alloc (hg ▸ below_alloc (hg ▸ hB0) _) _, blk_alloc (blk_alloc h1 _) _, blk_alloc (blk_alloc h2 _) _, blk_alloc (blk_alloc h3 _) _⟩
  case refine_9 =>
    rintro i v W hv ⟨v1, e1, e2, e3, e4, e5⟩ hlt
    refine wpIn_hide ?_
    intro Q HQ
    have HR1 := Aside0.mk (And.intro HQ.out hv)
    clear HQ hv
    have hvv : v = slotV p i := by
      rcases List.getElem?_eq_some_iff.1 HR1.out.2 with ⟨q1, q2⟩
      rw [← q2]; simp
    subst hvv
    unfold slotV
    simp only [List.zip_toArray, List.zip_cons_cons, List.zip_nil_right, List.size_toArray, List.length_cons, List.length_nil, Nat.reduceAdd, List.foldl_toArray', List.foldl_cons, List.foldl_nil]
    gi_wp2_with fail
    refine HR1.out.1 _ _ _ ⟨⟨v1, W.heap.size, Kd.R_alloc e1 _, hg ▸ below_alloc (hg ▸ e2) _, blk_alloc e3 _, blk_alloc e4 _, blk_alloc e5 _, hlt, blk_new _ _, ?_⟩, ?_, ?_⟩
    · simp [Array.replicate_succ]
    · exact Below.heap_alloc _ _ _ hlt
    · exact Below.heap_alloc _ _ _ (by omega)
  case refine_10 =>
    rintro i v a₁ W hv ⟨v1, b, e1, e2, e3, e4, e5, e7, e8, rfl⟩ hlt
    clear hK0 h1 h2 h3 hB0 hsz
    simp only [Array.replicate_succ, Array.replicate_zero, List.push_toArray, List.append_toArray, List.nil_append, List.cons_append]
    refine wpIn_hideN (by rintro a w ⟨_, _, h⟩; exact h) ?_
    intro Q HQ HN
    have HPB := HPB.out
    clear HR
    have hx := twoS_range p (2 + 4 * (i : Int))
    have hy := twoS_range p (4 + 4 * (i : Int))
    have hi : i < n := by
      have := (List.getElem?_eq_some_iff.1 hv).1
      simpa using this
    have hgd := hgood i hi
    have hlen := cellsS_length p i
    have hcs : cellsS p (i + 1) = if 0 < twoS p (4 + 4 * (i : Int)) then cellsS p i ++ [⟨(i : Int) + 1, p.extract (twoS p (2 + 4 * (i : Int))).toNat (twoS p (2 + 4 * (i : Int)) + twoS p (4 + 4 * (i : Int))).toNat⟩] else cellsS p i := rfl
    have c1 := (blk_cell e3 0).trans rfl
    have c2 := (blk_cell e4 0).trans rfl
    have c3 := (blk_cell e8 0).trans rfl
    have c4 := (blk_cell e8 1).trans rfl
    have c5 := (blk_cell e8 2).trans rfl
    have f2 := blk_frozen e4 0
    have hown := e1.1
    have HB := Aside0.mk (And.intro e1 (And.intro e2 (And.intro e3 (And.intro e4 e5))))
    have hblt := blk_lt e8
    have hbe := Below.block e2
    have hpbW : W.heap[pb]? = some (.cells #[.string p] 9) := (e2.block pb hplt).trans HPB
    have HP := Aside0.mk hpbW
    clear e1 e2 e3 e4 e5 e8 hgood hv hpbW hbe HPB
    obtain ⟨x, HX⟩ : ∃ x, twoS p (2 + 4 * (i : Int)) = x := ⟨_, rfl⟩
    obtain ⟨y, HY⟩ : ∃ y, twoS p (4 + 4 * (i : Int)) = y := ⟨_, rfl⟩
    simp only [HX, HY] at hx hy c4 c5 hgd hcs ⊢
    clear HX HY
    by_cases hy0 : 0 < y
    · rw [if_pos hy0] at hcs
      have HCS := Aside0.mk hcs
      replace hgd := hgd hy0
      clear hcs
      gi_wp2_with fail
      refine round_region_any (by kernel_rfl) (by kernel_rfl) (fun a w h => HN.out _ _ h) ?_
      change wpAny _ _ _ _ _ _ _ (World.drew _)
      all_goals first
        | refine wpAny_ready (rs := [0, 1, 2]) (by decide +kernel) (by simp) ?_
        | refine wpAny_ready (rs := [1, 2]) (by decide +kernel) (by simp) ?_
        | refine wpAny_ready (rs := [0, 2]) (by decide +kernel) (by simp) ?_
        | refine wpAny_ready (rs := [0, 1]) (by decide +kernel) (by simp) ?_
        | refine wpAny_ready (rs := [2]) (by decide +kernel) (by simp) ?_
        | refine wpAny_ready (rs := [1]) (by decide +kernel) (by simp) ?_
        | refine wpAny_ready (rs := [0, 3]) (by decide +kernel) (by simp) ?_
        | refine wpAny_ready (rs := [3]) (by decide +kernel) (by simp) ?_
        | refine wpAny_ready (rs := [0, 4]) (by decide +kernel) (by simp) ?_
        | refine wpAny_ready (rs := [4]) (by decide +kernel) (by simp) ?_
        | refine wpAny_ready (rs := [0]) (by decide +kernel) (by simp) ?_
        | refine wpAny_ready (rs := [5]) (by decide +kernel) (by simp) ?_
        | refine wpAny_ready (rs := [6]) (by decide +kernel) (by simp) ?_
      all_goals repeat' (first | exact AllReady.nil | refine AllReady.cons rfl (fun K hK => ?_) ?_)
      all_goals first
        | (go_simp
           first
           | (refine hK _ _ ?_
              clear hK K)
           | (go_at_call 99
              refine (page_cells1_calls p pb _ x y hx.1 (by omega) hgd hs2 _ (blk_drew HP.out)).mono ?_
              rintro e w' ⟨rfl, hcb⟩
              have g2 := blk_below (blk_drew HB.out.2.2.2.1) hcb
              have d1 := (blk_cell g2 0).trans rfl
              have d2 := blk_frozen g2 0
              have d5 := blk_lt g2
              have HW := Aside0.mk (And.intro (Kd.R_below (Kd.R_drew HB.out.1) hcb) (And.intro (below_then HB.out.2.1.drew (by have := hblt; simp; omega) hcb) (And.intro g2 (Nat.lt_of_lt_of_le hblt hcb.size))))
              have HW2 := Aside0.mk hcb
              clear g2 hcb
              refine hK _ _ ?_
              clear hK K))
      all_goals first
        | refine wpAny_ready (rs := [0, 1, 2]) (by decide +kernel) (by simp) ?_
        | refine wpAny_ready (rs := [1, 2]) (by decide +kernel) (by simp) ?_
        | refine wpAny_ready (rs := [0, 2]) (by decide +kernel) (by simp) ?_
        | refine wpAny_ready (rs := [0, 1]) (by decide +kernel) (by simp) ?_
        | refine wpAny_ready (rs := [2]) (by decide +kernel) (by simp) ?_
        | refine wpAny_ready (rs := [1]) (by decide +kernel) (by simp) ?_
        | refine wpAny_ready (rs := [0, 3]) (by decide +kernel) (by simp) ?_
        | refine wpAny_ready (rs := [3]) (by decide +kernel) (by simp) ?_
        | refine wpAny_ready (rs := [0, 4]) (by decide +kernel) (by simp) ?_
        | refine wpAny_ready (rs := [4]) (by decide +kernel) (by simp) ?_
        | refine wpAny_ready (rs := [0]) (by decide +kernel) (by simp) ?_
        | refine wpAny_ready (rs := [5]) (by decide +kernel) (by simp) ?_
        | refine wpAny_ready (rs := [6]) (by decide +kernel) (by simp) ?_
      all_goals repeat' (first | exact AllReady.nil | refine AllReady.cons rfl (fun K hK => ?_) ?_)
      all_goals first
        | (go_simp
           first
           | (refine hK _ _ ?_
              clear hK K)
           | (go_at_call 99
              refine (page_cells1_calls p pb _ x y hx.1 (by omega) hgd hs2 _ (blk_drew HP.out)).mono ?_
              rintro e w' ⟨rfl, hcb⟩
              have g2 := blk_below (blk_drew HB.out.2.2.2.1) hcb
              have d1 := (blk_cell g2 0).trans rfl
              have d2 := blk_frozen g2 0
              have d5 := blk_lt g2
              have HW := Aside0.mk (And.intro (Kd.R_below (Kd.R_drew HB.out.1) hcb) (And.intro (below_then HB.out.2.1.drew (by have := hblt; simp; omega) hcb) (And.intro g2 (Nat.lt_of_lt_of_le hblt hcb.size))))
              have HW2 := Aside0.mk hcb
              clear g2 hcb
              refine hK _ _ ?_
              clear hK K))
      all_goals first
        | refine wpAny_ready (rs := [0, 1, 2]) (by decide +kernel) (by simp) ?_
        | refine wpAny_ready (rs := [1, 2]) (by decide +kernel) (by simp) ?_
        | refine wpAny_ready (rs := [0, 2]) (by decide +kernel) (by simp) ?_
        | refine wpAny_ready (rs := [0, 1]) (by decide +kernel) (by simp) ?_
        | refine wpAny_ready (rs := [2]) (by decide +kernel) (by simp) ?_
        | refine wpAny_ready (rs := [1]) (by decide +kernel) (by simp) ?_
        | refine wpAny_ready (rs := [0, 3]) (by decide +kernel) (by simp) ?_
        | refine wpAny_ready (rs := [3]) (by decide +kernel) (by simp) ?_
        | refine wpAny_ready (rs := [0, 4]) (by decide +kernel) (by simp) ?_
        | refine wpAny_ready (rs := [4]) (by decide +kernel) (by simp) ?_
        | refine wpAny_ready (rs := [0]) (by decide +kernel) (by simp) ?_
        | refine wpAny_ready (rs := [5]) (by decide +kernel) (by simp) ?_
        | refine wpAny_ready (rs := [6]) (by decide +kernel) (by simp) ?_
      all_goals repeat' (first | exact AllReady.nil | refine AllReady.cons rfl (fun K hK => ?_) ?_)
      all_goals first
        | (go_simp
           first
           | (refine hK _ _ ?_
              clear hK K)
           | (go_at_call 99
              refine (page_cells1_calls p pb _ x y hx.1 (by omega) hgd hs2 _ (blk_drew HP.out)).mono ?_
              rintro e w' ⟨rfl, hcb⟩
              have g2 := blk_below (blk_drew HB.out.2.2.2.1) hcb
              have d1 := (blk_cell g2 0).trans rfl
              have d2 := blk_frozen g2 0
              have d5 := blk_lt g2
              have HW := Aside0.mk (And.intro (Kd.R_below (Kd.R_drew HB.out.1) hcb) (And.intro (below_then HB.out.2.1.drew (by have := hblt; simp; omega) hcb) (And.intro g2 (Nat.lt_of_lt_of_le hblt hcb.size))))
              have HW2 := Aside0.mk hcb
              clear g2 hcb
              refine hK _ _ ?_
              clear hK K))
      all_goals first
        | refine wpAny_ready (rs := [0, 1, 2]) (by decide +kernel) (by simp) ?_
        | refine wpAny_ready (rs := [1, 2]) (by decide +kernel) (by simp) ?_
        | refine wpAny_ready (rs := [0, 2]) (by decide +kernel) (by simp) ?_
        | refine wpAny_ready (rs := [0, 1]) (by decide +kernel) (by simp) ?_
        | refine wpAny_ready (rs := [2]) (by decide +kernel) (by simp) ?_
        | refine wpAny_ready (rs := [1]) (by decide +kernel) (by simp) ?_
        | refine wpAny_ready (rs := [0, 3]) (by decide +kernel) (by simp) ?_
        | refine wpAny_ready (rs := [3]) (by decide +kernel) (by simp) ?_
        | refine wpAny_ready (rs := [0, 4]) (by decide +kernel) (by simp) ?_
        | refine wpAny_ready (rs := [4]) (by decide +kernel) (by simp) ?_
        | refine wpAny_ready (rs := [0]) (by decide +kernel) (by simp) ?_
        | refine wpAny_ready (rs := [5]) (by decide +kernel) (by simp) ?_
        | refine wpAny_ready (rs := [6]) (by decide +kernel) (by simp) ?_
      all_goals repeat' (first | exact AllReady.nil | refine AllReady.cons rfl (fun K hK => ?_) ?_)
      all_goals first
        | (go_simp
           first
           | (refine hK _ _ ?_
              clear hK K)
           | (go_at_call 99
              refine (page_cells1_calls p pb _ x y hx.1 (by omega) hgd hs2 _ (blk_drew HP.out)).mono ?_
              rintro e w' ⟨rfl, hcb⟩
              have g2 := blk_below (blk_drew HB.out.2.2.2.1) hcb
              have d1 := (blk_cell g2 0).trans rfl
              have d2 := blk_frozen g2 0
              have d5 := blk_lt g2
              have HW := Aside0.mk (And.intro (Kd.R_below (Kd.R_drew HB.out.1) hcb) (And.intro (below_then HB.out.2.1.drew (by have := hblt; simp; omega) hcb) (And.intro g2 (Nat.lt_of_lt_of_le hblt hcb.size))))
              have HW2 := Aside0.mk hcb
              clear g2 hcb
              refine hK _ _ ?_
              clear hK K))
      all_goals first
        | refine wpAny_ready (rs := [0, 1, 2]) (by decide +kernel) (by simp) ?_
        | refine wpAny_ready (rs := [1, 2]) (by decide +kernel) (by simp) ?_
        | refine wpAny_ready (rs := [0, 2]) (by decide +kernel) (by simp) ?_
        | refine wpAny_ready (rs := [0, 1]) (by decide +kernel) (by simp) ?_
        | refine wpAny_ready (rs := [2]) (by decide +kernel) (by simp) ?_
        | refine wpAny_ready (rs := [1]) (by decide +kernel) (by simp) ?_
        | refine wpAny_ready (rs := [0, 3]) (by decide +kernel) (by simp) ?_
        | refine wpAny_ready (rs := [3]) (by decide +kernel) (by simp) ?_
        | refine wpAny_ready (rs := [0, 4]) (by decide +kernel) (by simp) ?_
        | refine wpAny_ready (rs := [4]) (by decide +kernel) (by simp) ?_
        | refine wpAny_ready (rs := [0]) (by decide +kernel) (by simp) ?_
        | refine wpAny_ready (rs := [5]) (by decide +kernel) (by simp) ?_
        | refine wpAny_ready (rs := [6]) (by decide +kernel) (by simp) ?_
      all_goals repeat' (first | exact AllReady.nil | refine AllReady.cons rfl (fun K hK => ?_) ?_)
      all_goals first
        | (go_simp
           first
           | (refine hK _ _ ?_
              clear hK K)
           | (go_at_call 99
              refine (page_cells1_calls p pb _ x y hx.1 (by omega) hgd hs2 _ (blk_drew HP.out)).mono ?_
              rintro e w' ⟨rfl, hcb⟩
              have g2 := blk_below (blk_drew HB.out.2.2.2.1) hcb
              have d1 := (blk_cell g2 0).trans rfl
              have d2 := blk_frozen g2 0
              have d5 := blk_lt g2
              have HW := Aside0.mk (And.intro (Kd.R_below (Kd.R_drew HB.out.1) hcb) (And.intro (below_then HB.out.2.1.drew (by have := hblt; simp; omega) hcb) (And.intro g2 (Nat.lt_of_lt_of_le hblt hcb.size))))
              have HW2 := Aside0.mk hcb
              clear g2 hcb
              refine hK _ _ ?_
              clear hK K))
      all_goals first
        | refine wpAny_ready (rs := [0, 1, 2]) (by decide +kernel) (by simp) ?_
        | refine wpAny_ready (rs := [1, 2]) (by decide +kernel) (by simp) ?_
        | refine wpAny_ready (rs := [0, 2]) (by decide +kernel) (by simp) ?_
        | refine wpAny_ready (rs := [0, 1]) (by decide +kernel) (by simp) ?_
        | refine wpAny_ready (rs := [2]) (by decide +kernel) (by simp) ?_
        | refine wpAny_ready (rs := [1]) (by decide +kernel) (by simp) ?_
        | refine wpAny_ready (rs := [0, 3]) (by decide +kernel) (by simp) ?_
        | refine wpAny_ready (rs := [3]) (by decide +kernel) (by simp) ?_
        | refine wpAny_ready (rs := [0, 4]) (by decide +kernel) (by simp) ?_
        | refine wpAny_ready (rs := [4]) (by decide +kernel) (by simp) ?_
        | refine wpAny_ready (rs := [0]) (by decide +kernel) (by simp) ?_
        | refine wpAny_ready (rs := [5]) (by decide +kernel) (by simp) ?_
        | refine wpAny_ready (rs := [6]) (by decide +kernel) (by simp) ?_
      all_goals repeat' (first | exact AllReady.nil | refine AllReady.cons rfl (fun K hK => ?_) ?_)
      all_goals first
        | (refine Kd.R_append_step k45 (w0 := w) g (by rfl) (.tmp 13) (.tmp 17) 22 45 (.agg #[.int .i64 0, .string ⟨#[]⟩]) 24 rfl Try.underlying22 info45 rfl (by decide) (by omega) v1 (cellsS p i) ⟨(i : Int) + 1, p.extract x.toNat (x + y).toNat⟩ [.int .i64 ((i : Int) + 1), .string (p.extract x.toNat (x + y).toNat)] (fun k => g + 4 < k) (fun _ => False) rfl rfl (k45_mkM _ _ _ _) (fun _ hk => hk.elim) ?aF ?aO ?aB ?aS ?aL ?_
           case aF => exact fun k hk => Nat.lt_of_lt_of_le (Nat.lt_trans e7 HW.out.2.2.2) hk
           case aO => exact HW.out.1
           case aB => exact HW.out.2.1
           case aS => exact Nat.le_of_lt (Nat.lt_trans (by omega) HW.out.2.2.2)
           case aL => omega
           intro v2 w2 hr2 hb2 hg2 hat2
           obtain ⟨A2, l2, c2_, rfl⟩ := R_is_slice hr2
           have g3 := blk_grown HW.out.2.2.1 hg2 (by intro h; have := hown _ h.symm; omega)
           have d3 := (blk_cell g3 0).trans rfl
           have d4 := blk_frozen g3 0
           have HZ := Aside0.mk (And.intro hr2 (And.intro hb2 (And.intro g3 (And.intro hg2 hat2))))
           clear hr2 hb2 g3 hg2 hat2
           refine hK _ _ ?_
           clear hK K)
      all_goals first
        | refine wpAny_ready (rs := [0, 1, 2]) (by decide +kernel) (by simp) ?_
        | refine wpAny_ready (rs := [1, 2]) (by decide +kernel) (by simp) ?_
        | refine wpAny_ready (rs := [0, 2]) (by decide +kernel) (by simp) ?_
        | refine wpAny_ready (rs := [0, 1]) (by decide +kernel) (by simp) ?_
        | refine wpAny_ready (rs := [2]) (by decide +kernel) (by simp) ?_
        | refine wpAny_ready (rs := [1]) (by decide +kernel) (by simp) ?_
        | refine wpAny_ready (rs := [0, 3]) (by decide +kernel) (by simp) ?_
        | refine wpAny_ready (rs := [3]) (by decide +kernel) (by simp) ?_
        | refine wpAny_ready (rs := [0, 4]) (by decide +kernel) (by simp) ?_
        | refine wpAny_ready (rs := [4]) (by decide +kernel) (by simp) ?_
        | refine wpAny_ready (rs := [0]) (by decide +kernel) (by simp) ?_
        | refine wpAny_ready (rs := [5]) (by decide +kernel) (by simp) ?_
        | refine wpAny_ready (rs := [6]) (by decide +kernel) (by simp) ?_
      all_goals repeat' (first | exact AllReady.nil | refine AllReady.cons rfl (fun K hK => ?_) ?_)
      all_goals
        go_simp
        refine hK _ _ ?_
        clear hK K
      all_goals refine wpAny_done (by decide +kernel) ?_ _
      all_goals
        refine HQ.out _ _ _ ⟨?_, ?_, .slice A2 l2 c2_, by rw [HCS.out]; exact Kd.R_far HZ.out.1 (fun k hk => by simp; omega) _, HZ.out.2.1.setCell (by simp) _, ?_, blk_set HZ.out.2.2.1 0 _, ?_⟩
        · exact (Below.heap_setCell _ _ _ _ (by simp)).trans ((HZ.out.2.2.2.1.block _ (Nat.lt_of_lt_of_le (by simpa using hlt) HW2.out.size) (by intro h; have := hown _ h.symm; omega)).trans (HW2.out.block _ (by simpa using hlt)))
        · exact (Below.heap_setCell _ _ _ _ (by simp)).trans ((HZ.out.2.2.2.1.block _ (Nat.lt_of_lt_of_le (show g + 3 < W.heap.size by omega) HW2.out.size) (by intro h; have := hown _ h.symm; omega)).trans (HW2.out.block _ (show g + 3 < W.heap.size by omega)))
        · exact blk_far (blk_grown (blk_below (blk_drew HB.out.2.2.1) HW2.out) HZ.out.2.2.2.1 (by intro h; have := hown _ h.symm; omega)) (by simp) _
        · exact blk_far (blk_grown (blk_below (blk_drew HB.out.2.2.2.2) HW2.out) HZ.out.2.2.2.1 (by intro h; have := hown _ h.symm; omega)) (by simp) _
    · rw [if_neg hy0] at hcs
      have HCS := Aside0.mk hcs
      clear hcs hgd
      gi_wp2_with fail
      refine HQ.out _ _ _ ⟨rfl, rfl, v1, by rw [HCS.out]; exact HB.out.1, HB.out.2.1, HB.out.2.2.1, HB.out.2.2.2.1, HB.out.2.2.2.2⟩
  case refine_11 =>
    rintro W ⟨v, e1, e2, e3, e4, e5⟩ hD
    refine hK0 _ _ ?_
    clear hK0
    refine wpX_of_wp ?_
    have c1 := (blk_cell e4 0).trans rfl
    have HB := Aside0.mk e2
    have HS := Aside0.mk e1
    have HD := Aside0.mk hD
    clear e1 e2 e3 e4 e5 hD h1 h2 h3
    go_wp2_with fail
    refine leavesM_ret HD.out (fun _ => results_tmp rfl _ _ _) ?_
    rw [← HR.out]
    have h8 := HS.out
    simp only [List.length_map, List.length_range] at h8
    exact ⟨v, rfl, Kd.R_mono (Kd.R_step h8 (fun k hk _ => World.putObj_heap_other (by omega))) (fun _ _ => trivial), below_putObj HB.out (by omega) _⟩
  case refine_12 => exact fun _ _ h => h.elim
  case refine_13 => exact fun _ _ h => h.elim

end Go.Proofs.Ytemglmcddaeedaa.PA

namespace Go.Proofs.Ytemglmcddaeedaa.PA
open Go.RowKit Go.Proofs.YtemglmcddaeedaaW.PrintWords Go.Proofs.YtemglmcddaeedaaW.PrintLast Go.Proofs.YtemglmcddaeedaaW.PrintMore
attribute [local go_sem] max2_int min2_int max_two min_two max_three min_three max_four min_four   -- for this text's walks alone
set_option linter.unusedVariables false
set_option linter.unusedSimpArgs false

/-! ### page_cells: function 49 -/
def page_cells.f (a0 : ByteArray) : Option (List S45) := if validS a0 then some (cellsS a0 (twoS a0 0).toNat) else none
set_option maxHeartbeats 4000000 in
set_option maxRecDepth 100000 in
theorem page_cells.calls (a0 : ByteArray) (r : List S45) (w : World) (h : page_cells.f a0 = some r) :
    Calls Try.prog 49 #[.string a0] w fun e w' => ∃ v0_ : Value, e = .returned (v0_) ∧ Kd.R k45 45 w' w.heap.size (fun _ => True) v0_ r ∧ Below w.heap.size w w' := by
  unfold page_cells.f at h
  split at h
  rotate_left
  · cases h
  rename_i hv
  obtain rfl := Option.some.inj h
  clear h
  obtain ⟨q1, q2, q3, q4, q5, top, q6, q7⟩ := validS_spec a0 hv
  have hr := twoS_range a0 0
  obtain ⟨n, hn⟩ : ∃ n : Nat, twoS a0 0 = n := ⟨(twoS a0 0).toNat, by omega⟩
  rw [hn, Int.toNat_natCast] at q6
  have hb := blk_new w (.cells #[.string a0] 9)
  have HG := Aside0.mk (page_gcell_calls a0 n hn (by omega) (by omega) w.heap.size (w.alloc (.cells #[.string a0] 9)) hb (fun i hi hy => (entriesS_good a0 n top q6 i hi hy).2))
  have HN := Aside0.mk hn
  clear hn hr q6 q7 hv hb
  go_enter Try.func49, Try.ntmps49
  go_wp2_with (go_at_call 98; refine HG.out.mono ?_; rintro e w' ⟨v, rfl, hr1, hb1⟩)
  go_ret
  rw [HN.out, Int.toNat_natCast]
  exact ⟨v, rfl, Kd.R_lower hr1 (by simp), below_then (below_alloc (Below.refl _ w) _) (by simp) hb1⟩

end Go.Proofs.Ytemglmcddaeedaa.PA

namespace Go.Proofs.Ytemglmcddaeedaa.PA
open Go.RowKit Go.Proofs.YtemglmcddaeedaaW.PrintWords Go.Proofs.YtemglmcddaeedaaW.PrintLast Go.Proofs.YtemglmcddaeedaaW.PrintMore
attribute [local go_sem] max2_int min2_int max_two min_two max_three min_three max_four min_four   -- for this text's walks alone
set_option linter.unusedVariables false
set_option linter.unusedSimpArgs false

/-! ### page_gint: function 0 -/
/-- The used lines of the first i entries. -/
def linesS (p : ByteArray) : Nat → List Int
  | 0 => []
  | i + 1 => if 0 < twoS p (4 + 4 * (i : Int)) then linesS p i ++ [(i : Int) + 1] else linesS p i
theorem linesS_length (p : ByteArray) (i : Nat) : (linesS p i).length ≤ i := by
  induction i with
  | zero => simp [linesS]
  | succ i ih =>
    simp only [linesS]
    split
    · simp; omega
    · omega
theorem page_Lines1_calls (ln off len : Int) (w : World) :
    Calls Try.prog 62 #[.agg #[.int .i64 ln, .int .i64 off, .int .i64 len]] w fun e w' => e = .returned (.int .i64 ln) ∧ Below w.heap.size w w' := by
  have hc := blk_new w (.cells #[.int .i64 ln, .int .i64 off, .int .i64 len] 76)
  have c1 := (blk_cell hc 0).trans rfl
  go_enter Try.func62, Try.ntmps62
  go_wp2_with fail
  go_ret
  exact ⟨rfl, below_alloc (Below.refl _ w) _⟩
attribute [local go_sem] Oper.semAt_some
set_option maxHeartbeats 4000000 in
set_option maxRecDepth 100000 in
theorem page_gint_calls (p : ByteArray) (n : Nat) (hn : twoS p 0 = n) (hs : 2 + 4 * n ≤ p.size) (hs2 : p.size ≤ 100000) (w : World) :
    Calls Try.prog 61 #[.string p, .func (.func 62) #[] #[]] w fun e w' => ∃ v, e = .returned v ∧ Kd.R (Kd.int .i64) 3 w' w.heap.size (fun _ => True) v (linesS p n) ∧ Below w.heap.size w w' := by
  refine calls_of_wpX Try.func61 rfl ?_
  simp only [Try.ntmps61, List.size_toArray, List.length_cons, List.length_nil, Nat.reduceAdd, Nat.reduceSub, Array.replicate_succ, Array.replicate_zero, List.push_toArray, List.append_toArray, List.nil_append, List.cons_append]
  obtain ⟨R, hR⟩ : ∃ R : Ending → World → Prop, (fun e w' => ∃ v, e = .returned v ∧ Kd.R (Kd.int .i64) 3 w' w.heap.size (fun _ => True) v (linesS p n) ∧ Below w.heap.size w w') = R := ⟨_, rfl⟩
  rw [hR]
  have HR := Aside0.mk hR
  clear hR
  refine wpX_seq_k ?_
  intro K hK
  go_wp2_with fail
  refine wpX_seq_k ?_
  intro K hK
  go_wp2_with fail
  refine wpX_seq_x ?_
  intro K0 hK0
  refine wpX_seq_k ?_
  intro K hK
  go_wp2_with (go_at_call 106; refine (page_slots_calls p _).mono ?_; rintro e w1 ⟨rfl, rfl⟩)
  obtain ⟨g, hg⟩ : ∃ g, w.heap.size = g := ⟨_, rfl⟩
  obtain ⟨W0, hW⟩ : ∃ W, (((w.alloc (.cells #[.func (.func 62) #[] #[]] 77)).alloc (.cells #[.slice none 0 0] 41)).alloc (.cells #[.string p] 9)) = W := ⟨_, rfl⟩
  have hsz : W0.heap.size = g + 3 := by rw [← hW, ← hg]; simp
  have hB0 : Below w.heap.size w W0 := by rw [← hW]; exact below_alloc (below_alloc (below_alloc (Below.refl _ w) _) _) _
  have h1 : W0.heap[g]? = some (.cells #[.func (.func 62) #[] #[]] 77) := by rw [← hW, ← hg]; exact blk_alloc (blk_alloc (blk_new _ _) _) _
  have h2 : W0.heap[g + 1]? = some (.cells #[.slice none 0 0] 41) := by
    rw [← hW, ← hg]; have := blk_alloc (blk_new (w.alloc (.cells #[.func (.func 62) #[] #[]] 77)) (.cells #[.slice none 0 0] 41)) (.cells #[.string p] 9); simpa using this
  have h3 : W0.heap[g + 2]? = some (.cells #[.string p] 9) := by
    rw [← hW, ← hg]; have := blk_new ((w.alloc (.cells #[.func (.func 62) #[] #[]] 77)).alloc (.cells #[.slice none 0 0] 41)) (.cells #[.string p] 9); simpa using this
  simp only [hg, hW, Nat.add_assoc, Nat.reduceAdd]
  rw [hg] at HR hB0
  clear hW
  refine wpX_block ?_
  refine wpX_range (gf := 125) (lb := #[.pointer (some ⟨g + 2, 0, none⟩)]) (xs := (List.range n).map (slotV p)) (Kp := fun W => W.cell? ⟨g + 2, 0, none⟩ = some (.string p)) rfl (fun _ _ => rfl) (slots1_iter p n hn hs hs2 _) (by simp [slotV])
    (fun i W => ∃ v, Kd.R (Kd.int .i64) 3 W g (fun k => g + 4 < k) v (linesS p i) ∧ Below g w W ∧ W.heap[g]? = some (.cells #[.func (.func 62) #[] #[]] 77) ∧ W.heap[g + 1]? = some (.cells #[v] 41) ∧ W.heap[g + 2]? = some (.cells #[.string p] 9))
    (fun i a₁ W => ∃ v b, Kd.R (Kd.int .i64) 3 W g (fun k => g + 4 < k) v (linesS p i) ∧ Below g w W ∧ W.heap[g]? = some (.cells #[.func (.func 62) #[] #[]] 77) ∧ W.heap[g + 1]? = some (.cells #[v] 41) ∧ W.heap[g + 2]? = some (.cells #[.string p] 9) ∧ g + 4 < b ∧
      W.heap[b]? = some (.cells #[.int .i64 ((i : Int) + 1), .int .i64 (twoS p (2 + 4 * (i : Int))), .int .i64 (twoS p (4 + 4 * (i : Int)))] 76) ∧
      a₁ = { tmps := #[.string p, .func (.func 62) #[] #[], undef, .pointer (some ⟨g, 0, none⟩), .slice none 0 0, .pointer (some ⟨g + 1, 0, none⟩), .pointer (some ⟨b, 0, none⟩), .string p, .func (.func 125) #[] #[.pointer (some ⟨g + 2, 0, none⟩)], .agg #[.int .i64 ((i : Int) + 1), .int .i64 (twoS p (2 + 4 * (i : Int))), .int .i64 (twoS p (4 + 4 * (i : Int)))]] ++ Array.replicate 10 undef, defers := [] })
    (fun _ _ => False) (fun _ _ => False)
    ?_ ?_ ?_ ?_ ?_ ?_ ?_ ?_ ?_ ?_ ?_ ?_ ?_
  all_goals try simp only [hsz, Nat.add_assoc, Nat.reduceAdd]
  case refine_1 =>
    rintro i W o o' ⟨v, e1, e2, e3, e4, e5⟩ -
    exact ⟨v, Kd.R_step e1 (fun k hk _ => World.putObj_heap_other (by omega)), below_putObj e2 (by omega) _, blk_putObj e3 (by omega), blk_putObj e4 (by omega), blk_putObj e5 (by omega)⟩
  case refine_2 =>
    rintro i a₁ W o o' ⟨v, b, e1, e2, e3, e4, e5, e7, e8, e9⟩ -
    exact ⟨v, b, Kd.R_step e1 (fun k hk _ => World.putObj_heap_other (by omega)), below_putObj e2 (by omega) _, blk_putObj e3 (by omega), blk_putObj e4 (by omega), blk_putObj e5 (by omega), e7, blk_putObj e8 (by omega), e9⟩
  case refine_3 => exact fun _ _ _ _ h => h.elim
  case refine_4 =>
    rintro i W m ⟨v, e1, e2, e3, e4, e5⟩
    exact ⟨v, Kd.R_drewN e1 m, pw_below_drewN e2 m, e3, e4, e5⟩
  case refine_5 => exact fun _ _ _ h => h.elim
  case refine_6 => exact fun _ _ _ h => h.elim
  case refine_7 =>
    rintro i W ⟨v, e1, e2, e3, e4, e5⟩
    exact (blk_cell e5 0).trans rfl
  case refine_8 =>
    intro rec
    exact ⟨_, Kd.R_nil _ _ _ _ _, hg ▸ below_alloc (hg ▸ below_alloc (hg ▸ hB0) _) _, blk_alloc (blk_alloc h1 _) _, blk_alloc (blk_alloc h2 _) _, blk_alloc (blk_alloc h3 _) _⟩
  case refine_9 =>
    rintro i v W hv ⟨v1, e1, e2, e3, e4, e5⟩ hlt
    refine wpIn_hide ?_
    intro Q HQ
    have HR1 := Aside0.mk (And.intro HQ.out hv)
    clear HQ hv
    have hvv : v = slotV p i := by
      rcases List.getElem?_eq_some_iff.1 HR1.out.2 with ⟨q1, q2⟩
      rw [← q2]; simp
    subst hvv
    unfold slotV
    simp only [List.zip_toArray, List.zip_cons_cons, List.zip_nil_right, List.size_toArray, List.length_cons, List.length_nil, Nat.reduceAdd, List.foldl_toArray', List.foldl_cons, List.foldl_nil]
    gi_wp2_with fail
    refine HR1.out.1 _ _ _ ⟨⟨v1, W.heap.size, Kd.R_alloc e1 _, hg ▸ below_alloc (hg ▸ e2) _, blk_alloc e3 _, blk_alloc e4 _, blk_alloc e5 _, hlt, blk_new _ _, ?_⟩, ?_, ?_⟩
    · simp [Array.replicate_succ]
    · exact Below.heap_alloc _ _ _ hlt
    · exact Below.heap_alloc _ _ _ (by omega)
  case refine_10 =>
    rintro i v a₁ W hv ⟨v1, b, e1, e2, e3, e4, e5, e7, e8, rfl⟩ hlt
    clear hK0 h1 h2 h3 hB0 hsz
    simp only [Array.replicate_succ, Array.replicate_zero, List.push_toArray, List.append_toArray, List.nil_append, List.cons_append]
    refine wpIn_hideN (by rintro a w ⟨_, _, h⟩; exact h) ?_
    intro Q HQ HN
    clear HR
    have hx := twoS_range p (2 + 4 * (i : Int))
    have hy := twoS_range p (4 + 4 * (i : Int))
    have hi : i < n := by
      have := (List.getElem?_eq_some_iff.1 hv).1
      simpa using this
    have hlen := linesS_length p i
    have hcs : linesS p (i + 1) = if 0 < twoS p (4 + 4 * (i : Int)) then linesS p i ++ [(i : Int) + 1] else linesS p i := rfl
    have c1 := (blk_cell e3 0).trans rfl
    have c2 := (blk_cell e4 0).trans rfl
    have c3 := (blk_cell e8 0).trans rfl
    have c4 := (blk_cell e8 1).trans rfl
    have c5 := (blk_cell e8 2).trans rfl
    have f2 := blk_frozen e4 0
    have hown := e1.1
    have HB := Aside0.mk (And.intro e1 (And.intro e2 (And.intro e3 (And.intro e4 e5))))
    have hblt := blk_lt e8
    have hbe := Below.block e2
    clear e1 e2 e3 e4 e5 e8 hv hbe
    obtain ⟨x, HX⟩ : ∃ x, twoS p (2 + 4 * (i : Int)) = x := ⟨_, rfl⟩
    obtain ⟨y, HY⟩ : ∃ y, twoS p (4 + 4 * (i : Int)) = y := ⟨_, rfl⟩
    simp only [HX, HY] at hx hy c4 c5 hcs ⊢
    clear HX HY
    by_cases hy0 : 0 < y
    · rw [if_pos hy0] at hcs
      have HCS := Aside0.mk hcs
      clear hcs
      gi_wp2_with fail
      refine round_region_any (by kernel_rfl) (by kernel_rfl) (fun a w h => HN.out _ _ h) ?_
      change wpAny _ _ _ _ _ _ _ (World.drew _)
      all_goals first
        | refine wpAny_ready (rs := [0, 1, 2]) (by decide +kernel) (by simp) ?_
        | refine wpAny_ready (rs := [1, 2]) (by decide +kernel) (by simp) ?_
        | refine wpAny_ready (rs := [0, 2]) (by decide +kernel) (by simp) ?_
        | refine wpAny_ready (rs := [0, 1]) (by decide +kernel) (by simp) ?_
        | refine wpAny_ready (rs := [2]) (by decide +kernel) (by simp) ?_
        | refine wpAny_ready (rs := [1]) (by decide +kernel) (by simp) ?_
        | refine wpAny_ready (rs := [0, 3]) (by decide +kernel) (by simp) ?_
        | refine wpAny_ready (rs := [3]) (by decide +kernel) (by simp) ?_
        | refine wpAny_ready (rs := [0, 4]) (by decide +kernel) (by simp) ?_
        | refine wpAny_ready (rs := [4]) (by decide +kernel) (by simp) ?_
        | refine wpAny_ready (rs := [0]) (by decide +kernel) (by simp) ?_
        | refine wpAny_ready (rs := [5]) (by decide +kernel) (by simp) ?_
        | refine wpAny_ready (rs := [6]) (by decide +kernel) (by simp) ?_
      all_goals repeat' (first | exact AllReady.nil | refine AllReady.cons rfl (fun K hK => ?_) ?_)
      all_goals first
        | (go_simp
           first
           | (refine hK _ _ ?_
              clear hK K)
           | (go_at_call 62
              refine (page_Lines1_calls _ x y _).mono ?_
              rintro e w' ⟨rfl, hcb⟩
              have g2 := blk_below (blk_drew HB.out.2.2.2.1) hcb
              have d1 := (blk_cell g2 0).trans rfl
              have d2 := blk_frozen g2 0
              have d5 := blk_lt g2
              have HW := Aside0.mk (And.intro (Kd.R_below (Kd.R_drew HB.out.1) hcb) (And.intro (below_then HB.out.2.1.drew (by have := hblt; simp; omega) hcb) (And.intro g2 (Nat.lt_of_lt_of_le hblt hcb.size))))
              have HW2 := Aside0.mk hcb
              clear g2 hcb
              refine hK _ _ ?_
              clear hK K))
      all_goals first
        | refine wpAny_ready (rs := [0, 1, 2]) (by decide +kernel) (by simp) ?_
        | refine wpAny_ready (rs := [1, 2]) (by decide +kernel) (by simp) ?_
        | refine wpAny_ready (rs := [0, 2]) (by decide +kernel) (by simp) ?_
        | refine wpAny_ready (rs := [0, 1]) (by decide +kernel) (by simp) ?_
        | refine wpAny_ready (rs := [2]) (by decide +kernel) (by simp) ?_
        | refine wpAny_ready (rs := [1]) (by decide +kernel) (by simp) ?_
        | refine wpAny_ready (rs := [0, 3]) (by decide +kernel) (by simp) ?_
        | refine wpAny_ready (rs := [3]) (by decide +kernel) (by simp) ?_
        | refine wpAny_ready (rs := [0, 4]) (by decide +kernel) (by simp) ?_
        | refine wpAny_ready (rs := [4]) (by decide +kernel) (by simp) ?_
        | refine wpAny_ready (rs := [0]) (by decide +kernel) (by simp) ?_
        | refine wpAny_ready (rs := [5]) (by decide +kernel) (by simp) ?_
        | refine wpAny_ready (rs := [6]) (by decide +kernel) (by simp) ?_
      all_goals repeat' (first | exact AllReady.nil | refine AllReady.cons rfl (fun K hK => ?_) ?_)
      all_goals first
        | (go_simp
           first
           | (refine hK _ _ ?_
              clear hK K)
           | (go_at_call 62
              refine (page_Lines1_calls _ x y _).mono ?_
              rintro e w' ⟨rfl, hcb⟩
              have g2 := blk_below (blk_drew HB.out.2.2.2.1) hcb
              have d1 := (blk_cell g2 0).trans rfl
              have d2 := blk_frozen g2 0
              have d5 := blk_lt g2
              have HW := Aside0.mk (And.intro (Kd.R_below (Kd.R_drew HB.out.1) hcb) (And.intro (below_then HB.out.2.1.drew (by have := hblt; simp; omega) hcb) (And.intro g2 (Nat.lt_of_lt_of_le hblt hcb.size))))
              have HW2 := Aside0.mk hcb
              clear g2 hcb
              refine hK _ _ ?_
              clear hK K))
      all_goals first
        | refine wpAny_ready (rs := [0, 1, 2]) (by decide +kernel) (by simp) ?_
        | refine wpAny_ready (rs := [1, 2]) (by decide +kernel) (by simp) ?_
        | refine wpAny_ready (rs := [0, 2]) (by decide +kernel) (by simp) ?_
        | refine wpAny_ready (rs := [0, 1]) (by decide +kernel) (by simp) ?_
        | refine wpAny_ready (rs := [2]) (by decide +kernel) (by simp) ?_
        | refine wpAny_ready (rs := [1]) (by decide +kernel) (by simp) ?_
        | refine wpAny_ready (rs := [0, 3]) (by decide +kernel) (by simp) ?_
        | refine wpAny_ready (rs := [3]) (by decide +kernel) (by simp) ?_
        | refine wpAny_ready (rs := [0, 4]) (by decide +kernel) (by simp) ?_
        | refine wpAny_ready (rs := [4]) (by decide +kernel) (by simp) ?_
        | refine wpAny_ready (rs := [0]) (by decide +kernel) (by simp) ?_
        | refine wpAny_ready (rs := [5]) (by decide +kernel) (by simp) ?_
        | refine wpAny_ready (rs := [6]) (by decide +kernel) (by simp) ?_
      all_goals repeat' (first | exact AllReady.nil | refine AllReady.cons rfl (fun K hK => ?_) ?_)
      all_goals first
        | (go_simp
           first
           | (refine hK _ _ ?_
              clear hK K)
           | (go_at_call 62
              refine (page_Lines1_calls _ x y _).mono ?_
              rintro e w' ⟨rfl, hcb⟩
              have g2 := blk_below (blk_drew HB.out.2.2.2.1) hcb
              have d1 := (blk_cell g2 0).trans rfl
              have d2 := blk_frozen g2 0
              have d5 := blk_lt g2
              have HW := Aside0.mk (And.intro (Kd.R_below (Kd.R_drew HB.out.1) hcb) (And.intro (below_then HB.out.2.1.drew (by have := hblt; simp; omega) hcb) (And.intro g2 (Nat.lt_of_lt_of_le hblt hcb.size))))
              have HW2 := Aside0.mk hcb
              clear g2 hcb
              refine hK _ _ ?_
              clear hK K))
      all_goals first
        | refine wpAny_ready (rs := [0, 1, 2]) (by decide +kernel) (by simp) ?_
        | refine wpAny_ready (rs := [1, 2]) (by decide +kernel) (by simp) ?_
        | refine wpAny_ready (rs := [0, 2]) (by decide +kernel) (by simp) ?_
        | refine wpAny_ready (rs := [0, 1]) (by decide +kernel) (by simp) ?_
        | refine wpAny_ready (rs := [2]) (by decide +kernel) (by simp) ?_
        | refine wpAny_ready (rs := [1]) (by decide +kernel) (by simp) ?_
        | refine wpAny_ready (rs := [0, 3]) (by decide +kernel) (by simp) ?_
        | refine wpAny_ready (rs := [3]) (by decide +kernel) (by simp) ?_
        | refine wpAny_ready (rs := [0, 4]) (by decide +kernel) (by simp) ?_
        | refine wpAny_ready (rs := [4]) (by decide +kernel) (by simp) ?_
        | refine wpAny_ready (rs := [0]) (by decide +kernel) (by simp) ?_
        | refine wpAny_ready (rs := [5]) (by decide +kernel) (by simp) ?_
        | refine wpAny_ready (rs := [6]) (by decide +kernel) (by simp) ?_
      all_goals repeat' (first | exact AllReady.nil | refine AllReady.cons rfl (fun K hK => ?_) ?_)
      all_goals first
        | (go_simp
           first
           | (refine hK _ _ ?_
              clear hK K)
           | (go_at_call 62
              refine (page_Lines1_calls _ x y _).mono ?_
              rintro e w' ⟨rfl, hcb⟩
              have g2 := blk_below (blk_drew HB.out.2.2.2.1) hcb
              have d1 := (blk_cell g2 0).trans rfl
              have d2 := blk_frozen g2 0
              have d5 := blk_lt g2
              have HW := Aside0.mk (And.intro (Kd.R_below (Kd.R_drew HB.out.1) hcb) (And.intro (below_then HB.out.2.1.drew (by have := hblt; simp; omega) hcb) (And.intro g2 (Nat.lt_of_lt_of_le hblt hcb.size))))
              have HW2 := Aside0.mk hcb
              clear g2 hcb
              refine hK _ _ ?_
              clear hK K))
      all_goals first
        | refine wpAny_ready (rs := [0, 1, 2]) (by decide +kernel) (by simp) ?_
        | refine wpAny_ready (rs := [1, 2]) (by decide +kernel) (by simp) ?_
        | refine wpAny_ready (rs := [0, 2]) (by decide +kernel) (by simp) ?_
        | refine wpAny_ready (rs := [0, 1]) (by decide +kernel) (by simp) ?_
        | refine wpAny_ready (rs := [2]) (by decide +kernel) (by simp) ?_
        | refine wpAny_ready (rs := [1]) (by decide +kernel) (by simp) ?_
        | refine wpAny_ready (rs := [0, 3]) (by decide +kernel) (by simp) ?_
        | refine wpAny_ready (rs := [3]) (by decide +kernel) (by simp) ?_
        | refine wpAny_ready (rs := [0, 4]) (by decide +kernel) (by simp) ?_
        | refine wpAny_ready (rs := [4]) (by decide +kernel) (by simp) ?_
        | refine wpAny_ready (rs := [0]) (by decide +kernel) (by simp) ?_
        | refine wpAny_ready (rs := [5]) (by decide +kernel) (by simp) ?_
        | refine wpAny_ready (rs := [6]) (by decide +kernel) (by simp) ?_
      all_goals repeat' (first | exact AllReady.nil | refine AllReady.cons rfl (fun K hK => ?_) ?_)
      all_goals first
        | (go_simp
           first
           | (refine hK _ _ ?_
              clear hK K)
           | (go_at_call 62
              refine (page_Lines1_calls _ x y _).mono ?_
              rintro e w' ⟨rfl, hcb⟩
              have g2 := blk_below (blk_drew HB.out.2.2.2.1) hcb
              have d1 := (blk_cell g2 0).trans rfl
              have d2 := blk_frozen g2 0
              have d5 := blk_lt g2
              have HW := Aside0.mk (And.intro (Kd.R_below (Kd.R_drew HB.out.1) hcb) (And.intro (below_then HB.out.2.1.drew (by have := hblt; simp; omega) hcb) (And.intro g2 (Nat.lt_of_lt_of_le hblt hcb.size))))
              have HW2 := Aside0.mk hcb
              clear g2 hcb
              refine hK _ _ ?_
              clear hK K))
      all_goals first
        | refine wpAny_ready (rs := [0, 1, 2]) (by decide +kernel) (by simp) ?_
        | refine wpAny_ready (rs := [1, 2]) (by decide +kernel) (by simp) ?_
        | refine wpAny_ready (rs := [0, 2]) (by decide +kernel) (by simp) ?_
        | refine wpAny_ready (rs := [0, 1]) (by decide +kernel) (by simp) ?_
        | refine wpAny_ready (rs := [2]) (by decide +kernel) (by simp) ?_
        | refine wpAny_ready (rs := [1]) (by decide +kernel) (by simp) ?_
        | refine wpAny_ready (rs := [0, 3]) (by decide +kernel) (by simp) ?_
        | refine wpAny_ready (rs := [3]) (by decide +kernel) (by simp) ?_
        | refine wpAny_ready (rs := [0, 4]) (by decide +kernel) (by simp) ?_
        | refine wpAny_ready (rs := [4]) (by decide +kernel) (by simp) ?_
        | refine wpAny_ready (rs := [0]) (by decide +kernel) (by simp) ?_
        | refine wpAny_ready (rs := [5]) (by decide +kernel) (by simp) ?_
        | refine wpAny_ready (rs := [6]) (by decide +kernel) (by simp) ?_
      all_goals repeat' (first | exact AllReady.nil | refine AllReady.cons rfl (fun K hK => ?_) ?_)
      all_goals first
        | (refine Kd.R_append_step (Kd.int .i64) (w0 := w) g (by rfl) (.tmp 13) (.tmp 17) 41 3 (.int .i64 0) 8 rfl Try.underlying41 (by kernel_rfl) rfl (by decide) (by omega) v1 (linesS p i) ((i : Int) + 1) [.int .i64 ((i : Int) + 1)] (fun k => g + 4 < k) (fun _ => False) rfl rfl rfl (fun _ hk => hk.elim) ?aF ?aO ?aB ?aS ?aL ?_
           case aF => exact fun k hk => Nat.lt_of_lt_of_le (Nat.lt_trans e7 HW.out.2.2.2) hk
           case aO => exact HW.out.1
           case aB => exact HW.out.2.1
           case aS => exact Nat.le_of_lt (Nat.lt_trans (by omega) HW.out.2.2.2)
           case aL => omega
           intro v2 w2 hr2 hb2 hg2 hat2
           obtain ⟨A2, l2, c2_, rfl⟩ := R_is_slice hr2
           have g3 := blk_grown HW.out.2.2.1 hg2 (by intro h; have := hown _ h.symm; omega)
           have d3 := (blk_cell g3 0).trans rfl
           have d4 := blk_frozen g3 0
           have HZ := Aside0.mk (And.intro hr2 (And.intro hb2 (And.intro g3 (And.intro hg2 hat2))))
           clear hr2 hb2 g3 hg2 hat2
           refine hK _ _ ?_
           clear hK K)
      all_goals first
        | refine wpAny_ready (rs := [0, 1, 2]) (by decide +kernel) (by simp) ?_
        | refine wpAny_ready (rs := [1, 2]) (by decide +kernel) (by simp) ?_
        | refine wpAny_ready (rs := [0, 2]) (by decide +kernel) (by simp) ?_
        | refine wpAny_ready (rs := [0, 1]) (by decide +kernel) (by simp) ?_
        | refine wpAny_ready (rs := [2]) (by decide +kernel) (by simp) ?_
        | refine wpAny_ready (rs := [1]) (by decide +kernel) (by simp) ?_
        | refine wpAny_ready (rs := [0, 3]) (by decide +kernel) (by simp) ?_
        | refine wpAny_ready (rs := [3]) (by decide +kernel) (by simp) ?_
        | refine wpAny_ready (rs := [0, 4]) (by decide +kernel) (by simp) ?_
        | refine wpAny_ready (rs := [4]) (by decide +kernel) (by simp) ?_
        | refine wpAny_ready (rs := [0]) (by decide +kernel) (by simp) ?_
        | refine wpAny_ready (rs := [5]) (by decide +kernel) (by simp) ?_
        | refine wpAny_ready (rs := [6]) (by decide +kernel) (by simp) ?_
      all_goals repeat' (first | exact AllReady.nil | refine AllReady.cons rfl (fun K hK => ?_) ?_)
      all_goals
        go_simp
        refine hK _ _ ?_
        clear hK K
      all_goals refine wpAny_done (by decide +kernel) ?_ _
      all_goals
        refine HQ.out _ _ _ ⟨?_, ?_, .slice A2 l2 c2_, by rw [HCS.out]; exact Kd.R_far HZ.out.1 (fun k hk => by simp; omega) _, HZ.out.2.1.setCell (by simp) _, ?_, blk_set HZ.out.2.2.1 0 _, ?_⟩
        · exact (Below.heap_setCell _ _ _ _ (by simp)).trans ((HZ.out.2.2.2.1.block _ (Nat.lt_of_lt_of_le (by simpa using hlt) HW2.out.size) (by intro h; have := hown _ h.symm; omega)).trans (HW2.out.block _ (by simpa using hlt)))
        · exact (Below.heap_setCell _ _ _ _ (by simp)).trans ((HZ.out.2.2.2.1.block _ (Nat.lt_of_lt_of_le (show g + 3 < W.heap.size by omega) HW2.out.size) (by intro h; have := hown _ h.symm; omega)).trans (HW2.out.block _ (show g + 3 < W.heap.size by omega)))
        · exact blk_far (blk_grown (blk_below (blk_drew HB.out.2.2.1) HW2.out) HZ.out.2.2.2.1 (by intro h; have := hown _ h.symm; omega)) (by simp) _
        · exact blk_far (blk_grown (blk_below (blk_drew HB.out.2.2.2.2) HW2.out) HZ.out.2.2.2.1 (by intro h; have := hown _ h.symm; omega)) (by simp) _
    · rw [if_neg hy0] at hcs
      have HCS := Aside0.mk hcs
      clear hcs
      gi_wp2_with fail
      refine HQ.out _ _ _ ⟨rfl, rfl, v1, by rw [HCS.out]; exact HB.out.1, HB.out.2.1, HB.out.2.2.1, HB.out.2.2.2.1, HB.out.2.2.2.2⟩
  case refine_11 =>
    rintro W ⟨v, e1, e2, e3, e4, e5⟩ hD
    refine hK0 _ _ ?_
    clear hK0
    refine wpX_of_wp ?_
    have c1 := (blk_cell e4 0).trans rfl
    have HB := Aside0.mk e2
    have HS := Aside0.mk e1
    have HD := Aside0.mk hD
    clear e1 e2 e3 e4 e5 hD h1 h2 h3
    go_wp2_with fail
    refine leavesM_ret HD.out (fun _ => results_tmp rfl _ _ _) ?_
    rw [← HR.out]
    have h8 := HS.out
    simp only [List.length_map, List.length_range] at h8
    exact ⟨v, rfl, Kd.R_mono (Kd.R_step h8 (fun k hk _ => World.putObj_heap_other (by omega))) (fun _ _ => trivial), below_putObj HB.out (by omega) _⟩
  case refine_12 => exact fun _ _ h => h.elim
  case refine_13 => exact fun _ _ h => h.elim

end Go.Proofs.Ytemglmcddaeedaa.PA

namespace Go.Proofs.Ytemglmcddaeedaa.PA
open Go.RowKit Go.Proofs.YtemglmcddaeedaaW.PrintWords Go.Proofs.YtemglmcddaeedaaW.PrintLast Go.Proofs.YtemglmcddaeedaaW.PrintMore
attribute [local go_sem] max2_int min2_int max_two min_two max_three min_three max_four min_four   -- for this text's walks alone
set_option linter.unusedVariables false
set_option linter.unusedSimpArgs false

/-! ### page_Lines: function 24 -/
def page_Lines.f (a0 : ByteArray) : Option (List Int × Int) := if a0.size ≤ 100000 then some (if validS a0 then (linesS a0 (twoS a0 0).toNat, 0) else ([], 1)) else none
theorem valid_call (p : ByteArray) (h : p.size ≤ 100000) : page_Valid.f p = some (decide (validS p)) := by
  unfold page_Valid.f page_Wrong.f validS
  rw [if_pos h, Option.bind_some]
  congr 1
set_option maxRecDepth 100000 in
set_option maxHeartbeats 4000000 in
theorem page_Lines.calls (a0 : ByteArray) (r1 : List Int) (r2 : Int) (w : World) (h : page_Lines.f a0 = some (r1, r2)) :
    Calls Try.prog 24 #[.string a0] w fun e w' => ∃ v0_ : Value, e = .returned (.tuple #[v0_, .int .i64 r2]) ∧ Kd.R (Kd.int .i64) 3 w' w.heap.size (fun _ => True) v0_ r1 ∧ Below w.heap.size w w' := by
  unfold page_Lines.f at h
  split at h
  rotate_left
  · cases h
  rename_i hs
  have hv := valid_call a0 hs
  by_cases hval : validS a0
  · rw [if_pos hval] at h
    rw [decide_eq_true hval] at hv
    obtain ⟨rfl, rfl⟩ := Prod.mk.inj (Option.some.inj h)
    clear h
    obtain ⟨q1, q2, q3, q4, q5, top, q6, q7⟩ := validS_spec a0 hval
    have hr := twoS_range a0 0
    obtain ⟨n, hn⟩ : ∃ n : Nat, twoS a0 0 = n := ⟨(twoS a0 0).toNat, by omega⟩
    have HG := Aside0.mk (page_gint_calls a0 n hn (by omega) (by omega))
    have HN := Aside0.mk hn
    have HV := Aside0.mk hv
    clear hn hr q6 q7 hv hval
    go_enter Try.func24, Try.ntmps24
    go_wp2_with (first
      | (go_at_call 21; refine (page_Valid.calls a0 true _ HV.out).mono ?_; rintro e w1 ⟨rfl, hb1⟩)
      | (go_at_call 61; refine (HG.out w1).mono ?_; rintro e w2 ⟨v, rfl, hr2, hb2⟩))
    go_ret2
    rw [HN.out, Int.toNat_natCast]
    exact ⟨v, rfl, Kd.R_lower hr2 hb1.size, below_step hb1 hb2⟩
  · rw [if_neg hval] at h
    rw [decide_eq_false hval] at hv
    obtain ⟨rfl, rfl⟩ := Prod.mk.inj (Option.some.inj h)
    clear h
    have HV := Aside0.mk hv
    clear hv hval
    go_enter Try.func24, Try.ntmps24
    go_wp2_with (go_at_call 21; refine (page_Valid.calls a0 false _ HV.out).mono ?_; rintro e w1 ⟨rfl, hb1⟩)
    go_ret2
    exact ⟨_, rfl, Kd.R_nil _ _ _ _ _, hb1⟩

end Go.Proofs.Ytemglmcddaeedaa.PA

namespace Go.Proofs.Ytemglmcddaeedaa.PA
open Go.RowKit Go.Proofs.YtemglmcddaeedaaW.PrintWords Go.Proofs.YtemglmcddaeedaaW.PrintLast Go.Proofs.YtemglmcddaeedaaW.PrintMore
attribute [local go_sem] max2_int min2_int max_two min_two max_three min_three max_four min_four   -- for this text's walks alone
set_option linter.unusedVariables false
set_option linter.unusedSimpArgs false

/-! ### b_lists: function 0 -/
/-! #### the bytes of a page, as a list -/
theorem bytesOf_get (p : ByteArray) (i : Nat) (h : i < p.size) : (bytesOf p)[i]? = some (bt p (i : Int)) := by
  have hl : i < (bytesOf p).length := by rw [bytesOf_length]; exact h
  rw [List.getElem?_eq_getElem hl]
  congr 1
  simp only [bytesOf, List.getElem_map, bt, Int.toNat_natCast, dif_pos h, Array.getElem_toList]
  rfl
theorem bytesOf_getD (p : ByteArray) (i : Nat) : (bytesOf p).getD i 0 = bt p (i : Int) := by
  by_cases h : i < p.size
  · rw [List.getD_eq_getElem?_getD, bytesOf_get p i h]; rfl
  · rw [List.getD_eq_getElem?_getD, List.getElem?_eq_none (by rw [bytesOf_length]; omega)]
    simp [bt, h]
theorem bytesOf_inj {p q : ByteArray} (h : bytesOf p = bytesOf q) : p = q := by
  cases p with | mk a => cases q with | mk b =>
  congr 1
  apply Array.toList_inj.1
  have hm : ∀ (x y : List UInt8), x.map (fun b => (b.toNat : Int)) = y.map (fun b => (b.toNat : Int)) → x = y := by
    intro x
    induction x with
    | nil => intro y hy; cases y with | nil => rfl | cons _ _ => simp at hy
    | cons c x ih =>
      intro y hy
      cases y with
      | nil => simp at hy
      | cons d y =>
        simp only [List.map_cons, List.cons.injEq] at hy
        rw [ih y hy.2, show c = d from UInt8.toNat_inj.1 (by omega)]
  exact hm _ _ h
theorem bytesOf_range (p : ByteArray) : ∀ x ∈ bytesOf p, 0 ≤ x ∧ x ≤ 255 := by
  intro x hx
  simp only [bytesOf, List.mem_map] at hx
  obtain ⟨b, _, rfl⟩ := hx
  have := UInt8.toNat_lt b
  omega
theorem bytesOf_strOfNums (l : List Int) (h : ∀ x ∈ l, 0 ≤ x ∧ x ≤ 255) : bytesOf (strOfNums l) = l := by
  simp only [bytesOf, strOfNums, List.map_map]
  induction l with
  | nil => rfl
  | cons x l ih =>
    rw [List.map_cons, ih (fun y hy => h y (by simp [hy]))]
    congr 1
    have := h x (by simp)
    simp only [Function.comp, UInt8.toNat_ofNat']
    omega
theorem strOfNums_bytesOf (p : ByteArray) : strOfNums (bytesOf p) = p := bytesOf_inj (bytesOf_strOfNums _ (bytesOf_range p))
theorem bytesOf_extract (p : ByteArray) (i j : Nat) (hj : j ≤ p.size) : bytesOf (p.extract i j) = ((bytesOf p).drop i).take (j - i) := by
  simp only [bytesOf, ByteArray.data_extract, Array.toList_extract, List.extract_eq_take_drop, List.map_take, List.map_drop]
theorem extract_size (p : ByteArray) (i j : Nat) (hj : j ≤ p.size) : (p.extract i j).size = j - i := by
  rw [ByteArray.size_extract]; omega
theorem bytesOf_append (a b : ByteArray) : bytesOf (a ++ b) = bytesOf a ++ bytesOf b := by
  simp only [bytesOf, ByteArray.data_append, Array.toList_append, List.map_append]

end Go.Proofs.Ytemglmcddaeedaa.PA

namespace Go.Proofs.Ytemglmcddaeedaa.PA
open Go.RowKit Go.Proofs.YtemglmcddaeedaaW.PrintWords Go.Proofs.YtemglmcddaeedaaW.PrintLast Go.Proofs.YtemglmcddaeedaaW.PrintMore
attribute [local go_sem] max2_int min2_int max_two min_two max_three min_three max_four min_four   -- for this text's walks alone
set_option linter.unusedVariables false
set_option linter.unusedSimpArgs false

/-! ### b_two: function 0 -/
/-! #### a page that is valid is the page of its cells -/
theorem getD_drop (l : List Int) (i j : Nat) : (l.drop i).getD j 0 = l.getD (i + j) 0 := by
  simp [List.getD_eq_getElem?_getD, List.getElem?_drop]
theorem take_four (l : List Int) (i : Nat) (h : i + 4 ≤ l.length) : l.take (i + 4) = l.take i ++ [l.getD i 0, l.getD (i + 1) 0, l.getD (i + 2) 0, l.getD (i + 3) 0] := by
  have e : ∀ j, j < l.length → l.take (j + 1) = l.take j ++ [l.getD j 0] := by
    intro j hj
    rw [List.take_succ_eq_append_getElem hj, List.getD_eq_getElem?_getD, List.getElem?_eq_getElem hj]
    rfl
  rw [show i + 4 = i + 1 + 1 + 1 + 1 by omega, e _ (by omega), e _ (by omega), e _ (by omega), e _ (by omega)]
  simp
theorem CellsOk.snoc {l : List S45} {c : S45} (h : CellsOk l) (hc : 1 ≤ c.f0 ∧ c.f0 ≤ 200 ∧ 0 < c.f1.size) (hl : lastL l < c.f0) : CellsOk (l ++ [c]) := by
  induction l with
  | nil => exact hc
  | cons d r ih =>
    cases r with
    | nil =>
      have : lastL [d] = d.f0 := by simp [lastL]
      exact ⟨h, by omega, hc⟩
    | cons e r =>
      have h1 : lastL (d :: e :: r) = lastL (e :: r) := by simp [lastL, List.getLast?_cons_cons]
      have := ih h.2.2 (by rw [← h1]; exact hl)
      exact ⟨h.1, h.2.1, this⟩
/-- What has been read behind i entries. -/
theorem scan_reads (p : ByteArray) (n : Nat) (hn : n ≤ 200) (hsz : 2 + 4 * n ≤ p.size) (i : Nat) (hi : i ≤ n) (top last : Int) (h : scanE p n i = .ok (top, last)) :
    CellsOk (cellsS p i) ∧ lastL (cellsS p i) = last ∧ last ≤ i ∧ top = p.size - bytesL (cellsS p i) ∧
      (foldB p.size (cellsS p i)).1 ++ zer (4 * i - 4 * last.toNat) = ((bytesOf p).drop 2).take (4 * i) ∧ (foldB p.size (cellsS p i)).2 = (bytesOf p).drop top.toNat := by
  induction i generalizing top last with
  | zero =>
    simp only [scanE] at h
    cases h
    refine ⟨trivial, rfl, by omega, by simp [cellsS, bytesL], by simp [cellsS, foldB, zer], ?_⟩
    simp only [cellsS, foldB, List.foldl_nil, Int.toNat_natCast]
    rw [List.drop_of_length_le (by rw [bytesOf_length]; omega)]
  | succ i ih =>
    simp only [scanE] at h
    cases hs : scanE p n i with
    | error a => rw [hs] at h; cases h
    | ok s =>
      obtain ⟨t, l⟩ := s
      have htop := scanE_top p n i t l hs
      have hrg := scanE_range p n i t l hs
      obtain ⟨i1, i2, i3, i4, i5, i6⟩ := ih (by omega) t l hs
      rw [hs] at h
      simp only at h
      have hx := twoS_range p (2 + 4 * (i : Int))
      have hy := twoS_range p (4 + 4 * (i : Int))
      have b0 := bt_range p (2 + 4 * (i : Int))
      have b1 := bt_range p (2 + 4 * (i : Int) + 1)
      have b2 := bt_range p (4 + 4 * (i : Int))
      have b3 := bt_range p (4 + 4 * (i : Int) + 1)
      have hlen : ((bytesOf p).drop 2).length = p.size - 2 := by rw [List.length_drop, bytesOf_length]
      have h4 := take_four ((bytesOf p).drop 2) (4 * i) (by omega)
      simp only [getD_drop, bytesOf_getD] at h4
      rw [show ((2 + 4 * i : Nat) : Int) = 2 + 4 * (i : Int) by omega, show ((2 + (4 * i + 1) : Nat) : Int) = 2 + 4 * (i : Int) + 1 by omega, show ((2 + (4 * i + 2) : Nat) : Int) = 4 + 4 * (i : Int) by omega, show ((2 + (4 * i + 3) : Nat) : Int) = 4 + 4 * (i : Int) + 1 by omega] at h4
      rw [show 4 * (i + 1) = 4 * i + 4 by omega, h4, ← i5]
      unfold twoS at h hx hy
      simp only [cellsS]
      unfold twoS
      generalize bt p (2 + 4 * (i : Int)) = c0 at *
      generalize bt p (2 + 4 * (i : Int) + 1) = c1 at *
      generalize bt p (4 + 4 * (i : Int)) = c2 at *
      generalize bt p (4 + 4 * (i : Int) + 1) = c3 at *
      split at h
      · rename_i hz
        cases h
        rw [if_neg (by omega)]
        refine ⟨i1, i2, by omega, i4, ?_, i6⟩
        rw [show c0 = 0 by omega, show c1 = 0 by omega, show c2 = 0 by omega, show c3 = 0 by omega]
        rw [List.append_assoc]
        congr 1
        rw [show (4 * i + 4 - 4 * last.toNat) = (4 * i - 4 * last.toNat) + 4 by omega, zer_add]
        rfl
      · split at h
        · cases h
        · rename_i hz hq
          cases h
          rw [if_pos (by omega)]
          have hex := extract_size p (256 * c0 + c1).toNat (256 * c0 + c1 + (256 * c2 + c3)).toNat (by omega)
          have hll : lastL (cellsS p i ++ [⟨(i : Int) + 1, p.extract (256 * c0 + c1).toNat (256 * c0 + c1 + (256 * c2 + c3)).toNat⟩]) = (i : Int) + 1 := lastL_snoc _ _
          refine ⟨i1.snoc ⟨by show 1 ≤ (i : Int) + 1; omega, by show (i : Int) + 1 ≤ 200; omega, by rw [hex]; omega⟩ (by rw [i2]; show l < (i : Int) + 1; omega), hll, by omega, ?_, ?_, ?_⟩
          · rw [bytesL_append]
            simp only [bytesL, List.map_cons, List.map_nil, List.sum_cons, List.sum_nil, hex] at i4 ⊢
            omega
          · rw [foldB_snoc]
            have hfl := foldB_len (N := p.size) i1
            simp only [stepB, i6, hex]
            rw [show (4 * i + 4 - 4 * ((i : Int) + 1).toNat) = 0 by omega]
            rw [show (4 * (((i : Int) + 1).toNat - 1) - (foldB p.size (cellsS p i)).1.length) = 4 * i - 4 * l.toNat by rw [i2] at hfl; omega]
            simp only [zer, List.replicate_zero, List.append_nil, List.append_assoc, List.length_drop, bytesOf_length]
            congr 2
            unfold ent4
            have e1 : (p.size : Int) - ((p.size - t.toNat + ((256 * c0 + c1 + (256 * c2 + c3)).toNat - (256 * c0 + c1).toNat) : Nat) : Int) = 256 * c0 + c1 := by omega
            have e2 : (((256 * c0 + c1 + (256 * c2 + c3)).toNat - (256 * c0 + c1).toNat : Nat) : Int) = 256 * c2 + c3 := by omega
            rw [e1, e2]
            simp only [List.cons.injEq, and_true]
            omega
          · rw [foldB_snoc]
            simp only [stepB, i6]
            rw [bytesOf_extract _ _ _ (by omega)]
            have : (bytesOf p).drop t.toNat = ((bytesOf p).drop (256 * c0 + c1).toNat).drop ((256 * c0 + c1 + (256 * c2 + c3)).toNat - (256 * c0 + c1).toNat) := by
              rw [List.drop_drop]; congr 1; omega
            rw [this, List.take_append_drop]
theorem firstNZ_none (p : ByteArray) (top : Int) (i : Nat) (h : firstNZ p top i = none) : ∀ j : Nat, i ≤ j → (j : Int) < top → bt p (j : Int) = 0 := by
  intro j hij hj
  obtain ⟨d, rfl⟩ := Nat.exists_eq_add_of_le hij
  clear hij
  induction d generalizing i with
  | zero =>
    rw [firstNZ, if_pos (by omega)] at h
    split at h
    · cases h
    · rename_i hz; simpa using hz
  | succ d ih =>
    rw [firstNZ, if_pos (by omega)] at h
    split at h
    · cases h
    · have := ih (i + 1) h (by omega)
      rw [show i + (d + 1) = i + 1 + d by omega]
      exact this
theorem valid_reads (p : ByteArray) (hv : validS p) :
    CellsOk (cellsS p (twoS p 0).toNat) ∧ needsL (cellsS p (twoS p 0).toNat) ≤ p.size ∧ lastL (cellsS p (twoS p 0).toNat) = twoS p 0 ∧ builtL p.size (cellsS p (twoS p 0).toNat) = bytesOf p := by
  obtain ⟨q1, q2, q3, q4, q5, top, q6, q7⟩ := validS_spec p hv
  have hr := twoS_range p 0
  obtain ⟨n, hn⟩ : ∃ n : Nat, twoS p 0 = n := ⟨(twoS p 0).toNat, by omega⟩
  rw [hn] at q4 q5 q6 q7 ⊢
  rw [Int.toNat_natCast] at q6 q7 ⊢
  unfold entriesS at q6
  cases hs : scanE p n n with
  | error a => rw [hs] at q6; cases q6
  | ok s =>
    obtain ⟨t, last⟩ := s
    rw [hs] at q6
    simp only at q6
    split at q6
    · cases q6
    · rename_i hl
      cases q6
      obtain ⟨i1, i2, i3, i4, i5, i6⟩ := scan_reads p n (by omega) (by omega) n (Nat.le_refl n) top last hs
      have htop := scanE_top p n n top last hs
      have hlast := scanE_last p n n top last hs
      have hrg := scanE_range p n n top last hs
      have hln : last = n := by omega
      subst hln
      generalize cellsS p n = A at *
      have hfl := foldB_len (N := p.size) i1
      have htb : 2 + 4 * (n : Int) ≤ top := by
        rcases hlast with h | h
        · exact h
        · have hA : A = [] := by
            cases hA : A with
            | nil => rfl
            | cons c r =>
              have hne : A ≠ [] := by rw [hA]; simp
              have h1 := i1.each (A.getLast hne) (List.getLast_mem hne)
              have h2 : lastL A = (A.getLast hne).f0 := by simp [lastL, List.getLast?_eq_some_getLast hne]
              omega
          rw [hA] at i4
          simp [bytesL] at i4
          omega
      refine ⟨i1, by unfold needsL; omega, i2, ?_⟩
      rw [Int.toNat_natCast, show 4 * n - 4 * n = 0 by omega] at i5
      simp only [zer, List.replicate_zero, List.append_nil] at i5
      unfold builtL bld
      rw [i2]
      have hz : zer (p.size - 2 - (foldB p.size A).1.length - (foldB p.size A).2.length) = ((bytesOf p).drop (2 + 4 * n)).take (top.toNat - (2 + 4 * n)) := by
        have hlen : p.size - 2 - (foldB p.size A).1.length - (foldB p.size A).2.length = top.toNat - (2 + 4 * n) := by omega
        rw [hlen]
        apply List.ext_getElem?
        intro j
        by_cases hj : j < top.toNat - (2 + 4 * n)
        · rw [List.getElem?_take_of_lt hj, List.getElem?_drop, bytesOf_get _ _ (by omega), zer, List.getElem?_replicate, if_pos hj]
          have := firstNZ_none p top (2 + 4 * n) q7 (2 + 4 * n + j) (by omega) (by omega)
          rw [this]
        · rw [List.getElem?_eq_none (by simp [zer]; omega), List.getElem?_eq_none (by rw [List.length_take]; omega)]
      rw [hz, i5, i6]
      have h2 : twoL (n : Int) = (bytesOf p).take 2 := by
        have b0 := bt_range p 0
        have b1 := bt_range p 1
        have e : (bytesOf p).take 2 = [bt p 0, bt p 1] := by
          apply List.ext_getElem?
          intro j
          match j with
          | 0 => rw [List.getElem?_take_of_lt (by omega), bytesOf_get _ _ (by omega)]; rfl
          | 1 => rw [List.getElem?_take_of_lt (by omega), bytesOf_get _ _ (by omega)]; rfl
          | j + 2 => rw [List.getElem?_eq_none (by rw [List.length_take]; omega)]; rfl
        rw [e]
        have : twoS p 0 = 256 * bt p 0 + bt p 1 := rfl
        unfold twoL
        simp only [List.cons.injEq, and_true]
        omega
      rw [h2]
      have e3 : (bytesOf p).drop top.toNat = ((bytesOf p).drop (2 + 4 * n)).drop (top.toNat - (2 + 4 * n)) := by rw [List.drop_drop]; congr 1; omega
      have e4 : (bytesOf p).drop (2 + 4 * n) = ((bytesOf p).drop 2).drop (4 * n) := by rw [List.drop_drop]
      rw [e3, List.take_append_drop, e4, List.take_append_drop, List.take_append_drop]
/-- A page that is valid is the page of its cells. -/
theorem valid_built (p : ByteArray) (hv : validS p) : strOfNums (builtL p.size (cellsS p (twoS p 0).toNat)) = p := by
  rw [(valid_reads p hv).2.2.2]
  exact strOfNums_bytesOf p

end Go.Proofs.Ytemglmcddaeedaa.PA

namespace Go.Proofs.Ytemglmcddaeedaa.PA
open Go.RowKit Go.Proofs.YtemglmcddaeedaaW.PrintWords Go.Proofs.YtemglmcddaeedaaW.PrintLast Go.Proofs.YtemglmcddaeedaaW.PrintMore
attribute [local go_sem] max2_int min2_int max_two min_two max_three min_three max_four min_four   -- for this text's walks alone
set_option linter.unusedVariables false
set_option linter.unusedSimpArgs false

/-! ### page_Free: function 25 -/
set_option maxRecDepth 100000 in
theorem quantities_calls (w : World) : Calls Try.prog 63 #[] w fun e w' => e = .returned (.agg #[.func (.func 107) #[] #[], .func (.func 108) #[] #[]]) ∧ Below w.heap.size w w' := by
  have hd := blk_new w (.cells #[.nilFunc, .nilFunc] 78)
  have hB := below_alloc (Below.refl _ w) (.cells #[.nilFunc, .nilFunc] 78)
  obtain ⟨W, hW⟩ : ∃ W, w.alloc (.cells #[.nilFunc, .nilFunc] 78) = W := ⟨_, rfl⟩
  obtain ⟨g, hg⟩ : ∃ g, w.heap.size = g := ⟨_, rfl⟩
  rw [hW] at hd hB
  rw [hg] at hd hB
  have HB := Aside0.mk (And.intro hd hB)
  have c5 := (blk_cell hd 0).trans rfl
  have c6 := (blk_cell hd 1).trans rfl
  have f5 := blk_frozen hd 0
  have f6 := blk_frozen hd 1
  have s1 : ∀ x p W, (store p (.func x #[] #[])).run Try.prog W = stored Try.prog W p (.func x #[] #[]) .plain := fun x p W => run_store Try.prog W p _ .plain rfl
  clear hd hB
  go_enter Try.func63, Try.ntmps63
  go_wp2_with fail
  have k1 := blk_set (blk_set HB.out.1 0 (.func (.func 107) #[] #[])) 1 (.func (.func 108) #[] #[])
  obtain ⟨W3, hW3⟩ : ∃ W3, ((W.setCell ⟨g, 0, none⟩ (.func (.func 107) #[] #[])).setCell ⟨g, 1, none⟩ (.func (.func 108) #[] #[])) = W3 := ⟨_, rfl⟩
  have d1 : W3.cell? ⟨g, 0, none⟩ = some (.func (.func 107) #[] #[]) := by rw [← hW3]; exact (blk_cell k1 0).trans rfl
  have d2 : W3.cell? ⟨g, 1, none⟩ = some (.func (.func 108) #[] #[]) := by rw [← hW3]; exact (blk_cell k1 1).trans rfl
  have d3 : Below g w W3 := by rw [← hW3]; exact (HB.out.2.setCell (Nat.le_refl g) _).setCell (Nat.le_refl g) _
  rw [hW3]
  refine ⟨rfl, .agg #[.func (.func 107) #[] #[], .func (.func 108) #[] #[]], ?_, rfl, hg ▸ d3⟩
  simp [results, Try.results63, go_sem, d1, d2]
def page_Free.f (a0 : ByteArray) : Option (Int × Int) := if a0.size ≤ 100000 then some (if validS a0 then ((a0.size : Int) - needsL (cellsS a0 (twoS a0 0).toNat), 0) else (0, 1)) else none
set_option maxRecDepth 100000 in
set_option maxHeartbeats 4000000 in
theorem quantities1_calls (n : Int) (A : Option Addr) (c : Nat) (l : List S45) (w : World) (hr : Kd.C k45 w A l.length l) (hc : l.length ≤ c) (hn : 0 ≤ n ∧ n ≤ 100000) (ho : CellsOk l) (hf : needsL l ≤ n) :
    Calls Try.prog 107 #[.int .i64 n, .slice A l.length c] w fun e w' => e = .returned (.int .i64 (n - needsL l)) ∧ Below w.heap.size w w' := by
  have h0 := lastL_nonneg ho
  have HF := Aside0.mk (needs_f ho (by unfold needsL at hf; omega))
  have HR := Aside0.mk hr
  clear hr
  have hnd : 0 ≤ needsL l := by unfold needsL; omega
  obtain ⟨nd, hN⟩ : ∃ nd, needsL l = nd := ⟨_, rfl⟩
  rw [hN] at HF hnd hf ⊢
  clear hN ho h0
  go_enter Try.func107, Try.ntmps107
  go_wp2_with (go_at_call 102; refine (page_needs.calls A c l nd _ HR.out hc HF.out).mono ?_; rintro e w1 ⟨rfl, hb1⟩)
  go_ret
  exact ⟨rfl, hb1⟩
set_option maxRecDepth 100000 in
set_option maxHeartbeats 4000000 in
theorem page_Free.calls (a0 : ByteArray) (r1 r2 : Int) (w : World) (h : page_Free.f a0 = some (r1, r2)) :
    Calls Try.prog 25 #[.string a0] w fun e w' => e = .returned (.tuple #[.int .i64 r1, .int .i64 r2]) ∧ Below w.heap.size w w' := by
  unfold page_Free.f at h
  split at h
  rotate_left
  · cases h
  rename_i hs
  have hv := valid_call a0 hs
  by_cases hval : validS a0
  · rw [if_pos hval] at h
    rw [decide_eq_true hval] at hv
    obtain ⟨rfl, rfl⟩ := Prod.mk.inj (Option.some.inj h)
    clear h
    obtain ⟨q1, q2, q3, q4, q5, _⟩ := validS_spec a0 hval
    obtain ⟨g1, g2, g3, g4⟩ := valid_reads a0 hval
    have hcf : page_cells.f a0 = some (cellsS a0 (twoS a0 0).toNat) := by unfold page_cells.f; rw [if_pos hval]
    generalize cellsS a0 (twoS a0 0).toNat = l at *
    have HC := Aside0.mk hcf
    have HV := Aside0.mk hv
    have HG := Aside0.mk (And.intro g1 g2)
    clear hv hval hcf g1 g2 g3 g4
    have hix : ∀ x y W, (Instr.index 78 (.agg #[x, y]) (.int .i64 0)).run Try.prog W = .ok x W := fun x y W => by kernel_rfl
    go_enter Try.func25, Try.ntmps25
    go_wp2_with (first
      | (go_at_call 21; refine (page_Valid.calls a0 true _ HV.out).mono ?_; rintro e w1 ⟨rfl, hb1⟩)
      | (go_at_call 63; refine (quantities_calls w1).mono ?_; rintro e w2 ⟨rfl, hb2⟩)
      | (go_at_call 49; refine (page_cells.calls a0 l w2 HC.out).mono ?_; rintro e w3 ⟨v, rfl, hr3, hb3⟩; obtain ⟨A, c, rfl, hcl, hC⟩ := Kd.R_reads hr3)
      | (go_at_call 107; refine (quantities1_calls a0.size A c l w3 hC hcl (by omega) HG.out.1 HG.out.2).mono ?_; rintro e w4 ⟨rfl, hb4⟩))
    go_ret2
    exact ⟨rfl, below_step (below_step (below_step hb1 hb2) hb3) hb4⟩
  · rw [if_neg hval] at h
    rw [decide_eq_false hval] at hv
    obtain ⟨rfl, rfl⟩ := Prod.mk.inj (Option.some.inj h)
    clear h
    have HV := Aside0.mk hv
    clear hv hval
    go_enter Try.func25, Try.ntmps25
    go_wp2_with (go_at_call 21; refine (page_Valid.calls a0 false _ HV.out).mono ?_; rintro e w1 ⟨rfl, hb1⟩)
    go_ret2
    exact ⟨rfl, hb1⟩

end Go.Proofs.Ytemglmcddaeedaa.PA

namespace Go.Proofs.Ytemglmcddaeedaa.PA
open Go.RowKit Go.Proofs.YtemglmcddaeedaaW.PrintWords Go.Proofs.YtemglmcddaeedaaW.PrintLast Go.Proofs.YtemglmcddaeedaaW.PrintMore
attribute [local go_sem] max2_int min2_int max_two min_two max_three min_three max_four min_four   -- for this text's walks alone
set_option linter.unusedVariables false
set_option linter.unusedSimpArgs false

/-! ### page_Next: function 27 -/
/-- The least free line of cells in order. -/
def leastL (l : List S45) : Int := l.foldl (fun n c => if c.f0 = n then n + 1 else n) 1
theorem leastL_snoc (l : List S45) (c : S45) : leastL (l ++ [c]) = if c.f0 = leastL l then leastL l + 1 else leastL l := by
  unfold leastL; rw [List.foldl_append]; rfl
theorem leastL_range (l : List S45) (i : Nat) (hi : i ≤ l.length) : 1 ≤ leastL (l.take i) ∧ leastL (l.take i) ≤ i + 1 := by
  induction i with
  | zero => simp [leastL]
  | succ i ih =>
    have := ih (by omega)
    rw [take_snoc l i (by omega), leastL_snoc]
    split <;> omega
def page_Next.f (a0 : ByteArray) : Option (Int × Int) := if a0.size ≤ 100000 then some (if validS a0 then (if leastL (cellsS a0 (twoS a0 0).toNat) > 200 then (0, 13) else (leastL (cellsS a0 (twoS a0 0).toNat), 0)) else (0, 1)) else none
set_option maxRecDepth 100000 in
set_option maxHeartbeats 4000000 in
theorem quantities2_calls (n : Int) (A : Option Addr) (c : Nat) (l : List S45) (w : World) (hr : Kd.C k45 w A l.length l) (hc : l.length ≤ c) (hl : l.length ≤ 100000) :
    Calls Try.prog 108 #[.int .i64 n, .slice A l.length c] w fun e w' => e = .returned (.int .i64 (leastL l)) ∧ Below w.heap.size w w' := by
  have HR := Aside0.mk hr
  clear hr
  have hl' : (l.length : Int) ≤ 100000 := by omega
  go_enter Try.func108, Try.ntmps108
  go_wp2_with fail
  go_loopw [5, 10] (fun v5 v10 wr => ∃ i : Nat, i ≤ l.length ∧ v5 = .int .i64 (leastL (l.take i)) ∧ v10 = .int .i64 (i : Int) ∧ Aside0 (Below w.heap.size w wr)) (fun _ v10 _ => l.length - (intOf v10).toNat)
  case atStart => exact ⟨0, by omega, by simp [leastL], by simp, Aside0.mk (Below.refl _ w)⟩
  case round =>
    obtain ⟨i, hi, rfl, rfl, HB⟩ := hrel
    by_cases hlt : i < l.length
    · obtain ⟨ad, e1, hy0, hy1⟩ := at_T45 HR.out (i : Int) (by omega) (by omega)
      cases e1
      rw [rd_get l i hlt] at hy0 hy1
      replace hy0 := (HB.out.cell (World.block_lt_of_cell? w _ hy0)).trans hy0
      replace hy1 := (HB.out.cell (World.block_lt_of_cell? w _ hy1)).trans hy1
      simp only [Int.toNat_natCast] at hy0 hy1
      have hrg := leastL_range l i (by omega)
      have hsn := leastL_snoc (l.take i) l[i]
      rw [← take_snoc l i hlt] at hsn
      have HS := Aside0.mk hsn
      clear hsn
      obtain ⟨X, hX⟩ : ∃ X, l[i] = X := ⟨_, rfl⟩
      rw [hX] at hy0 hy1 HS
      obtain ⟨M, hM⟩ : ∃ M, leastL (l.take i) = M := ⟨_, rfl⟩
      rw [hM] at HS hrg
      simp only [hM]
      clear hX hM
      have hlt' : (i : Int) < l.length := by omega
      by_cases hq : X.f0 = M
      · go_wp2_with fail
        go_roundw
        case rel => exact ⟨i + 1, by omega, by rw [HS.out, if_pos hq], by go_num, Aside0.mk (below_alloc HB.out _)⟩
        case measure => simp [intOf]; omega
      · go_wp2_with fail
        go_roundw
        case rel => exact ⟨i + 1, by omega, by rw [HS.out, if_neg hq], by go_num, Aside0.mk (below_alloc HB.out _)⟩
        case measure => simp [intOf]; omega
    · have hil : i = l.length := by omega
      subst hil
      rw [List.take_length]
      go_wp2_with fail
      go_ret
      exact ⟨rfl, HB.out⟩
set_option maxRecDepth 100000 in
set_option maxHeartbeats 4000000 in
theorem page_Next.calls (a0 : ByteArray) (r1 r2 : Int) (w : World) (h : page_Next.f a0 = some (r1, r2)) :
    Calls Try.prog 27 #[.string a0] w fun e w' => e = .returned (.tuple #[.int .i64 r1, .int .i64 r2]) ∧ Below w.heap.size w w' := by
  unfold page_Next.f at h
  split at h
  rotate_left
  · cases h
  rename_i hs
  have hv := valid_call a0 hs
  by_cases hval : validS a0
  · rw [if_pos hval] at h
    rw [decide_eq_true hval] at hv
    have h := Option.some.inj h
    obtain ⟨q1, q2, q3, q4, q5, _⟩ := validS_spec a0 hval
    have hcf : page_cells.f a0 = some (cellsS a0 (twoS a0 0).toNat) := by unfold page_cells.f; rw [if_pos hval]
    have hcl := cellsS_length a0 (twoS a0 0).toNat
    generalize cellsS a0 (twoS a0 0).toNat = l at *
    have hrg := leastL_range l l.length (Nat.le_refl _)
    rw [List.take_length] at hrg
    have HC := Aside0.mk hcf
    have HV := Aside0.mk hv
    have hl1 : l.length ≤ 100000 := by omega
    have hQ := fun A c w hC hc => quantities2_calls a0.size A c l w hC hc hl1
    obtain ⟨M, hM⟩ : ∃ M, leastL l = M := ⟨_, rfl⟩
    simp only [hM] at hQ h hrg
    have HQ := Aside0.mk hQ
    have HX := Aside0.mk h
    have hM1 : M ≤ 100000 := by omega
    clear hv hval hcf hQ h hM hcl
    have hix : ∀ x y W, (Instr.index 78 (.agg #[x, y]) (.int .i64 1)).run Try.prog W = .ok y W := fun x y W => by kernel_rfl
    by_cases hM2 : M > 200
    all_goals
      go_enter Try.func27, Try.ntmps27
      go_wp2_with (first
        | (go_at_call 21; refine (page_Valid.calls a0 true _ HV.out).mono ?_; rintro e w1 ⟨rfl, hb1⟩)
        | (go_at_call 63; refine (quantities_calls w1).mono ?_; rintro e w2 ⟨rfl, hb2⟩)
        | (go_at_call 49; refine (page_cells.calls a0 l w2 HC.out).mono ?_; rintro e w3 ⟨v, rfl, hr3, hb3⟩; obtain ⟨A, c, rfl, hcl, hC⟩ := Kd.R_reads hr3)
        | (go_at_call 108; refine (HQ.out A c w3 hC hcl).mono ?_; rintro e w4 ⟨rfl, hb4⟩))
      go_ret2
      have hx := HX.out
      first | rw [if_pos hM2] at hx | rw [if_neg (by omega)] at hx
      cases hx
      exact ⟨rfl, below_step (below_step (below_step hb1 hb2) hb3) hb4⟩
  · rw [if_neg hval] at h
    rw [decide_eq_false hval] at hv
    obtain ⟨rfl, rfl⟩ := Prod.mk.inj (Option.some.inj h)
    clear h
    have HV := Aside0.mk hv
    clear hv hval
    go_enter Try.func27, Try.ntmps27
    go_wp2_with (go_at_call 21; refine (page_Valid.calls a0 false _ HV.out).mono ?_; rintro e w1 ⟨rfl, hb1⟩)
    go_ret2
    exact ⟨rfl, hb1⟩

end Go.Proofs.Ytemglmcddaeedaa.PA

namespace Go.Proofs.Ytemglmcddaeedaa.PA
open Go.RowKit Go.Proofs.YtemglmcddaeedaaW.PrintWords Go.Proofs.YtemglmcddaeedaaW.PrintLast Go.Proofs.YtemglmcddaeedaaW.PrintMore
attribute [local go_sem] max2_int min2_int max_two min_two max_three min_three max_four min_four   -- for this text's walks alone
set_option linter.unusedVariables false
set_option linter.unusedSimpArgs false

/-! ### strs: function 0 -/
theorem loop_spec (p : ByteArray) : ∀ (k i : Nat) (acc : List UInt8), p.size - i = k → i ≤ p.size → ByteArray.toList.loop p i acc = acc.reverse ++ p.data.toList.drop i := by
  intro k
  induction k with
  | zero =>
    intro i acc hk hi
    rw [ByteArray.toList.loop, if_neg (by omega), List.drop_of_length_le (by simp only [Array.length_toList]; show p.size ≤ i; omega), List.append_nil]
  | succ k ih =>
    intro i acc hk hi
    rw [ByteArray.toList.loop, if_pos (by omega), ih (i + 1) _ (by omega) (by omega)]
    have hl : i < p.data.toList.length := by simp only [Array.length_toList]; show i < p.size; omega
    rw [List.drop_eq_getElem_cons hl]
    have : p.get! i = p.data.toList[i] := by
      simp only [ByteArray.get!, Array.getElem_toList]
      exact getElem!_pos p.data i _
    rw [this]
    simp
theorem toList_data (p : ByteArray) : p.toList = p.data.toList := by
  unfold ByteArray.toList
  rw [loop_spec p p.size 0 [] (by omega) (by omega)]
  rfl
theorem toList_nil (p : ByteArray) : p.toList = ([] : List UInt8) ↔ p.size = 0 := by
  rw [toList_data]
  constructor
  · intro h
    have : p.data.toList.length = 0 := by rw [h]; rfl
    simpa using this
  · intro h
    apply List.length_eq_zero_iff.1
    simpa using h
theorem toList_inj (p q : ByteArray) : p.toList = q.toList ↔ p = q := by
  rw [toList_data, toList_data]
  constructor
  · intro h
    cases p; cases q
    congr 1
    exact Array.toList_inj.1 h
  · rintro rfl; rfl

end Go.Proofs.Ytemglmcddaeedaa.PA

namespace Go.Proofs.Ytemglmcddaeedaa.PA
open Go.RowKit Go.Proofs.YtemglmcddaeedaaW.PrintWords Go.Proofs.YtemglmcddaeedaaW.PrintLast Go.Proofs.YtemglmcddaeedaaW.PrintMore
attribute [local go_sem] max2_int min2_int max_two min_two max_three min_three max_four min_four   -- for this text's walks alone
set_option linter.unusedVariables false
set_option linter.unusedSimpArgs false

/-! ### rowk: function 0 -/
/-! #### rows of elements of several plain cells, known whole -/
section
variable {α : Type} {enc : α → List Value} {k : Nat}
def encs_ (enc : α → List Value) (l : List α) : List Value := l.flatMap enc
theorem encs_nil : encs_ enc [] = [] := rfl
theorem encs_cons (x : α) (l : List α) : encs_ enc (x :: l) = enc x ++ encs_ enc l := by simp [encs_]
theorem encs_one (x : α) : encs_ enc [x] = enc x := by simp [encs_]
theorem encs_app (a b : List α) : encs_ enc (a ++ b) = encs_ enc a ++ encs_ enc b := by simp [encs_]
theorem encs_len (hk : ∀ x, (enc x).length = k) (l : List α) : (encs_ enc l).length = l.length * k := by
  induction l with
  | nil => simp [encs_]
  | cons x l ih => rw [encs_cons, List.length_append, hk, ih, List.length_cons, Nat.add_mul, Nat.one_mul, Nat.add_comm]
theorem encs_oneCell (h1 : ∀ x, ∀ v ∈ enc x, v.oneCell' = true) (l : List α) : ∀ v ∈ encs_ enc l, v.oneCell' = true := by
  intro v hv
  obtain ⟨x, _, hx⟩ := List.mem_flatMap.1 hv
  exact h1 x v hx
theorem encs_take (hk : ∀ x, (enc x).length = k) (l : List α) (i : Nat) (hi : i ≤ l.length) : (encs_ enc l).take (i * k) = encs_ enc (l.take i) := by
  have h : encs_ enc l = encs_ enc (l.take i) ++ encs_ enc (l.drop i) := by rw [← encs_app, List.take_append_drop]
  have hl : (encs_ enc (l.take i)).length = i * k := by rw [encs_len hk, List.length_take, Nat.min_eq_left hi]
  rw [h, ← hl, List.take_left]
theorem encs_drop (hk : ∀ x, (enc x).length = k) (l : List α) (i : Nat) (hi : i ≤ l.length) : (encs_ enc l).drop (i * k) = encs_ enc (l.drop i) := by
  have h : encs_ enc l = encs_ enc (l.take i) ++ encs_ enc (l.drop i) := by rw [← encs_app, List.take_append_drop]
  have hl : (encs_ enc (l.take i)).length = i * k := by rw [encs_len hk, List.length_take, Nat.min_eq_left hi]
  rw [h, ← hl, List.drop_left]
theorem encs_get (hk : ∀ x, (enc x).length = k) (l : List α) (i j : Nat) (hi : i < l.length) (hj : j < k) : (encs_ enc l)[i * k + j]? = (enc l[i])[j]? := by
  have h : encs_ enc l = encs_ enc (l.take i) ++ (enc l[i] ++ encs_ enc (l.drop (i + 1))) := by
    rw [← encs_cons, ← encs_app]; congr 1
    rw [← List.drop_eq_getElem_cons hi, List.take_append_drop]
  have hl : (encs_ enc (l.take i)).length = i * k := by rw [encs_len hk, List.length_take, Nat.min_eq_left (by omega)]
  rw [h, List.getElem?_append_right (by omega), hl, Nat.add_sub_cancel_left, List.getElem?_append_left (by rw [hk]; exact hj)]
/-- A row of one's own (from base on), known whole. -/
def RowK (enc : α → List Value) (k : Nat) (e : TypeId) (w : World) (base : Nat) (v : Value) (l : List α) : Prop :=
  (v = .slice none 0 0 ∧ l = []) ∨ ∃ g cap sp, v = .slice (some ⟨g, 0, none⟩) l.length cap ∧ base ≤ g ∧ l.length ≤ cap ∧ cap ≤ maxLen ∧ sp.length = (cap - l.length) * k ∧ w.heap[g]? = some (.cells (encs_ enc l ++ sp).toArray e (0, 0))
theorem RowK.owns (hk : ∀ x, (enc x).length = k) {e : TypeId} {w : World} {base : Nat} {v : Value} {l : List α} (h : RowK enc k e w base v l) : w.ownsRow base e k v l.length (encs_ enc l) := by
  refine ⟨encs_len hk l, ?_⟩
  rcases h with ⟨rfl, rfl⟩ | ⟨g, cap, sp, rfl, hb, hn, hm, hs, hg⟩
  · exact .inl ⟨rfl, rfl⟩
  · refine .inr ⟨g, cap, _, rfl, hb, hg, hn, hm, ?_, ?_⟩
    · simp only [List.size_toArray, List.length_append, encs_len hk, hs]
      rw [← Nat.add_mul]; congr 1; omega
    · rw [← encs_len hk]; simp
theorem RowK.of_owns (hk : ∀ x, (enc x).length = k) {e : TypeId} {w : World} {base : Nat} {v : Value} {l : List α} (h : w.ownsRow base e k v l.length (encs_ enc l)) : RowK enc k e w base v l := by
  rcases h.2 with ⟨rfl, h0⟩ | ⟨g, cap, cur, rfl, hb, hg, hn, hm, hs, ht⟩
  · exact .inl ⟨rfl, List.eq_nil_of_length_eq_zero h0⟩
  · refine .inr ⟨g, cap, cur.toList.drop (l.length * k), rfl, hb, hn, hm, ?_, ?_⟩
    · rw [List.length_drop, Array.length_toList, hs, Nat.sub_mul]
    · rw [← ht, List.take_append_drop]; exact hg
theorem RowK.below {e : TypeId} {w w1 : World} {base : Nat} {v : Value} {l : List α} (h : RowK enc k e w base v l) (hb : Below w.heap.size w w1) : RowK enc k e w1 base v l := by
  rcases h with h | ⟨g, cap, sp, rfl, h1, hn, hm, hs, hg⟩
  · exact .inl h
  · exact .inr ⟨g, cap, sp, rfl, h1, hn, hm, hs, (hb.block g (blk_lt hg)).trans hg⟩
theorem RowK.nil (e : TypeId) (w : World) (base : Nat) : RowK enc k e w base (.slice none 0 0) [] := .inl ⟨rfl, rfl⟩
end
section
variable {P : Program}
/-- copy onto a row known whole, elements of several cells. -/
theorem run_copy_rowK (w : World) (dT sT ty elem : TypeId) (g o dLen dCap : Nat) (a : Addr) (sLen sCap size : Nat) (cur : Array Value) (t : TypeId) (cs : List Value)
    (hu : P.underlying dT = some (.slice elem)) (hs : (P.info? elem).map (·.size) = some size)
    (hg : w.heap[g]? = some (.cells cur t (0, 0))) (hn : cs.length = Nat.min sLen dLen * size)
    (hsrc : ∀ j v, cs[j]? = some v → w.cell? (a.add j) = some v) (hfit : o + cs.length ≤ cur.size) (h1 : ∀ v ∈ cs, v.oneCell' = true) :
    (Builtin.copy_ #[dT, sT] ty #[.slice (some ⟨g, o, none⟩) dLen dCap, .slice (some a) sLen sCap]).run P w =
      .ok (goInt (Nat.min sLen dLen)) (w.setRow g (splice cur.toList o cs).toArray) := by
  have hl := run_loadCells_list (P := P) w a cs hsrc
  have hst := run_storeCells_at P g o t cs 0 cur w hg (by simpa using hfit) h1
  cases hq : P.info? elem with
  | none => simp [hq] at hs
  | some i =>
    have hi : i.size = size := by simpa [hq] using hs
    rw [hn] at hl
    simp only [Nat.add_zero] at hst
    simp [Builtin.copy_, run_underlying hu, Builtin.lenOf, Builtin.firstCells, sizeOf, typeInfo, hq, hi, hl, hst, splice]
theorem run_append_roomK (w : World) (t ty e : TypeId) (size : Nat) (ht : P.underlying t = some (.slice e)) (hs : (P.info? e).map (·.size) = some size)
    (g sLen sCap : Nat) (a : Addr) (m c : Nat) (cur : Array Value) (tt : TypeId) (hg : w.heap[g]? = some (.cells cur tt (0, 0))) (news : List Value) (hl : news.length = m * size) (hnews : ∀ j u, news[j]? = some u → w.cell? (a.add j) = some u) (h1 : ∀ u ∈ news, u.oneCell' = true)
    (hroom : sLen + m ≤ sCap) (hfit : sLen * size + news.length ≤ cur.size) :
    (Builtin.append_ #[t, t] ty #[.slice (some ⟨g, 0, none⟩) sLen sCap, .slice (some a) m c]).run P w = .ok (.slice (some ⟨g, 0, none⟩) (sLen + m) sCap) (w.setRow g (splice cur.toList (sLen * size) news).toArray) := by
  cases hq : P.info? e with
  | none => simp [hq] at hs
  | some i =>
    have hi : i.size = size := by simpa [hq] using hs
    subst hi
    have hfc := run_firstCells_some (P := P) w i.size m a m c news hl hnews
    have hst := run_storeCells_at P g (sLen * i.size) tt news 0 cur w hg (by simpa using hfit) h1
    simp only [Nat.add_zero] at hst
    simp [Builtin.append_, run_underlying ht, sizeOf, typeInfo, hq, Builtin.lenOf, hroom, hfc, hst, splice, add_plain]
/-- copy where its run is known by an equation. -/
theorem wp_copy_runE (w : World) {o : Oper} {a : Act} {K : Act → World → Prop} {Q : Exit → Act → World → Prop} (d s : Operand) (t t' : TypeId)
    (ho : o.op = .call { callee := .builtin .copy, args := #[d, s], argTypes := #[t, t'] }) (v u : Value) (hd : a.eval d = v) (hs : a.eval s = u) {v' : Value} {w' : World}
    (hr : (Builtin.copy_ #[t, t'] o.type #[v, u]).run P w = .ok v' w') (h : K (a.put o.dst v') w') : o.wp P a w K Q := by
  unfold Oper.wp execOp
  simp only [ho, resolve, invoke, builtin, Sem.run_bind, Sem.run_pure, Result.andThen_ok, List.map_toArray, List.map_cons, List.map_nil, hd, hs, hr]
  exact h
theorem wpList_copy_runE (w : World) {ops : Array Oper} {rest : List Oper} {o : Oper} {a : Act} {Q : Exit → Act → World → Prop} (hgd : o.guard = none) (d s : Operand) (t t' : TypeId)
    (ho : o.op = .call { callee := .builtin .copy, args := #[d, s], argTypes := #[t, t'] }) (v u : Value) (hd : a.eval d = v) (hs : a.eval s = u) {v' : Value} {w' : World}
    (hr : (Builtin.copy_ #[t, t'] o.type #[v, u]).run P w = .ok v' w') (h : wpList P ops Q rest (a.put o.dst v') w') : wpList P ops Q (o :: rest) a w :=
  wpList_plain hgd fun _ hK => wp_copy_runE w d s t t' ho v u hd hs hr (hK _ _ h)
theorem step_copy_runE {ops : Array Oper} {o : Oper} {a : Act} {w : World} {K : Act → World → Prop} {Q : Exit → Act → World → Prop} {E : Prop}
    (hg : o.guard = none) (d x : Operand) (dT sT : TypeId) (hop : o.op = Op.call { callee := Callee.builtin Builtin.copy, args := #[d, x], argTypes := #[dT, sT] })
    (v u : Value) (hd : a.eval d = v) (hx : a.eval x = u) {v' : Value} {w' : World} (hr : (Builtin.copy_ #[dT, sT] o.type #[v, u]).run P w = .ok v' w') (hK : K (a.put o.dst v') w') :
    if Region.wanted o (yielded ops a.tmps) = true then Oper.wp P o a w K Q else E := by
  have hw : Region.wanted o (yielded ops a.tmps) = true := by simp [Region.wanted, hg]
  rw [if_pos hw]
  exact wp_copy_runE w d x dT sT hop v u hd hx hr hK
theorem step_append_runE {ops : Array Oper} {o : Oper} {a : Act} {w : World} {K : Act → World → Prop} {Q : Exit → Act → World → Prop} {E : Prop}
    (hg : o.guard = none) (d x : Operand) (dT sT : TypeId) (hop : o.op = Op.call { callee := Callee.builtin Builtin.append, args := #[d, x], argTypes := #[dT, sT] })
    (v u : Value) (hd : a.eval d = v) (hx : a.eval x = u) {v' : Value} {w' : World} (hr : (Builtin.append_ #[dT, sT] o.type #[v, u]).run P w = .ok v' w') (hK : K (a.put o.dst v') w') :
    if Region.wanted o (yielded ops a.tmps) = true then Oper.wp P o a w K Q else E := by
  have hw : Region.wanted o (yielded ops a.tmps) = true := by simp [Region.wanted, hg]
  rw [if_pos hw]
  unfold Oper.wp execOp
  simp only [hop, resolve, invoke, builtin, Sem.run_bind, Sem.run_pure, Result.andThen_ok, List.map_toArray, List.map_cons, List.map_nil, hd, hx, hr]
  exact hK
theorem wpList_append_runE (w : World) {ops : Array Oper} {rest : List Oper} {o : Oper} {a : Act} {Q : Exit → Act → World → Prop} (hgd : o.guard = none) (d s : Operand) (t t' : TypeId)
    (ho : o.op = .call { callee := .builtin .append, args := #[d, s], argTypes := #[t, t'] }) (v u : Value) (hd : a.eval d = v) (hs : a.eval s = u) {v' : Value} {w' : World}
    (hr : (Builtin.append_ #[t, t'] o.type #[v, u]).run P w = .ok v' w') (h : wpList P ops Q rest (a.put o.dst v') w') : wpList P ops Q (o :: rest) a w :=
  wpList_plain hgd fun _ hK => by
    unfold Oper.wp execOp
    simp only [ho, resolve, invoke, builtin, Sem.run_bind, Sem.run_pure, Result.andThen_ok, List.map_toArray, List.map_cons, List.map_nil, hd, hs, hr]
    exact hK _ _ h
theorem wpList_clear_runE (w : World) {ops : Array Oper} {rest : List Oper} {o : Oper} {a : Act} {Q : Exit → Act → World → Prop} (hgd : o.guard = none) (d : Operand) (t : TypeId)
    (ho : o.op = .call { callee := .builtin .clear, args := #[d], argTypes := #[t] }) (v : Value) (hd : a.eval d = v) {v' : Value} {w' : World}
    (hr : (Builtin.clear_ #[t] o.type #[v]).run P w = .ok v' w') (h : wpList P ops Q rest (a.put o.dst v') w') : wpList P ops Q (o :: rest) a w :=
  wpList_plain hgd fun _ hK => by
    unfold Oper.wp execOp
    simp only [ho, resolve, invoke, builtin, Sem.run_bind, Sem.run_pure, Result.andThen_ok, List.map_toArray, List.map_cons, List.map_nil, hd, hr]
    exact hK _ _ h
end
theorem splice_ins {β : Type} (T D s S c : List β) (k t : Nat) (hT : T.length = t) (hs : s.length = k) (hc : c.length = k) : splice (splice (T ++ D ++ (s ++ S)) (t + k) D) t c = T ++ (c ++ (D ++ S)) := by
  have hL : (T ++ D ++ (s ++ S)).length = t + D.length + (k + S.length) := by simp only [List.length_append]; omega
  have e1 : (T ++ D ++ (s ++ S)).drop (t + k + D.length) = S := by
    rw [show T ++ D ++ (s ++ S) = (T ++ D ++ s) ++ S by simp, List.drop_left' (by simp only [List.length_append]; omega)]
  have e2 : (T ++ D ++ (s ++ S)).take t = T := by rw [List.append_assoc, List.take_left' hT]
  have hY : ((T ++ D ++ (s ++ S)).take (t + k)).length = t + k := by rw [List.length_take]; omega
  have e3 : ((T ++ D ++ (s ++ S)).take (t + k)).take t = T := by rw [List.take_take, Nat.min_eq_left (by omega), e2]
  unfold splice
  rw [e1, List.take_append_of_le_length (by omega), e3, hc, List.drop_left' hY]
theorem grown_drew (w : World) (row : Option Nat) : w.grownBy w.drew row := ⟨rfl, rfl, rfl, Nat.le_refl _, fun _ _ _ => rfl⟩
theorem splice_two {β : Type} (T Z c D : List β) (k t : Nat) (hT : T.length = t) (hc : c.length = k) : splice (splice (T ++ Z) t c) (t + k) D = T ++ (c ++ (D ++ Z.drop (k + D.length))) := by
  have e1 : splice (T ++ Z) t c = (T ++ c) ++ Z.drop k := by
    unfold splice
    rw [List.take_left' hT, hc, ← hT, List.drop_append, List.drop_of_length_le (by omega), show T.length + k - T.length = k by omega]
    simp
  have h2 : (T ++ c).length = t + k := by simp only [List.length_append]; omega
  rw [e1]
  unfold splice
  rw [List.take_left' h2, ← h2, List.drop_append, List.drop_of_length_le (by omega), show (T ++ c).length + D.length - (T ++ c).length = D.length by omega, List.drop_drop]
  simp

end Go.Proofs.Ytemglmcddaeedaa.PA

namespace Go.Proofs.Ytemglmcddaeedaa.PA
open Go.RowKit Go.Proofs.YtemglmcddaeedaaW.PrintWords Go.Proofs.YtemglmcddaeedaaW.PrintLast Go.Proofs.YtemglmcddaeedaaW.PrintMore
attribute [local go_sem] max2_int min2_int max_two min_two max_three min_three max_four min_four   -- for this text's walks alone
set_option linter.unusedVariables false
set_option linter.unusedSimpArgs false

/-! ### page_insert: function 0 -/
def cv (c : S45) : List Value := [.int .i64 c.f0, .string c.f1]
theorem cv_len (x : S45) : (cv x).length = 2 := rfl
theorem cv_one (x : S45) : ∀ v ∈ cv x, v.oneCell' = true := by
  intro v hv
  simp only [cv, List.mem_cons, List.not_mem_nil, or_false] at hv
  rcases hv with rfl | rfl <;> rfl
/-- s[a:b] of a row at any place, elements of two cells, in the spelling of the walk. -/
theorem ins_copy (w : World) (ty : TypeId) (g o dLen dCap o2 g2 sLen sCap : Nat) (cur : Array Value) (cs : List Value) (hg : w.heap[g]? = some (.cells cur 45 (0, 0))) (hn : cs.length = Nat.min sLen dLen * 2)
    (hsrc : ∀ j v, cs[j]? = some v → w.cell? ⟨g2, o2 + j, none⟩ = some v) (hfit : o + cs.length ≤ cur.size) (h1 : ∀ v ∈ cs, v.oneCell' = true) :
    (Builtin.copy_ #[22, 22] ty #[.slice (some ⟨g, o, none⟩) dLen dCap, .slice (some ⟨g2, o2, none⟩) sLen sCap]).run Try.prog w =
      .ok (goInt (Nat.min sLen dLen)) (w.setRow g (splice cur.toList o cs).toArray) :=
  run_copy_rowK w _ _ ty 45 g o dLen dCap ⟨g2, o2, none⟩ sLen sCap 2 cur 45 cs Try.underlying22 (by kernel_rfl) hg hn (fun j v hj => by rw [Addr.add_lit]; exact hsrc j v hj) hfit h1
set_option maxHeartbeats 4000000 in
set_option maxRecDepth 100000 in
theorem insert_room (l : List S45) (i : Nat) (hi : i < l.length) (x : S45) (w : World) (g cap vb : Nat) (sp : List Value) (hcap : l.length + 1 ≤ cap) (hm : cap ≤ maxLen) (hsp : sp.length = (cap - l.length) * 2)
    (hg : w.heap[g]? = some (.cells (encs_ cv l ++ sp).toArray 45 (0, 0))) (hvb : w.heap[vb]? = some (.cells (cv x).toArray 45 (0, 0))) (hne : vb ≠ g) :
    Calls Try.prog 72 #[.slice (some ⟨g, 0, none⟩) l.length cap, .int .i64 (i : Int), .slice (some ⟨vb, 0, none⟩) 1 1] w fun e w' =>
      e = .returned (.slice (some ⟨g, 0, none⟩) (l.length + 1) cap) ∧ w'.heap[g]? = some (.cells (encs_ cv (l.take i ++ x :: l.drop i) ++ sp.drop 2).toArray 45 (0, 0)) ∧ w.grownBy w' (some g) := by
  have hov : ∀ (W : World) n m c, W.heap[g]? = some (.cells (encs_ cv l ++ sp).toArray 45 (0, 0)) → W.heap[vb]? = some (.cells (cv x).toArray 45 (0, 0)) → (callFunc 112 #[.slice (some ⟨vb, 0, none⟩) 1 1, .slice (some ⟨g, n, none⟩) m c]).run Try.prog W = .ok (.value (.bool false)) W := by
    intro W n m c h1 h2
    rw [run_callFunc_extern Try.func112 (by kernel_rfl) (by kernel_rfl) (by kernel_rfl) (e := Extern.SlicesOverlaps.overlaps #[22, 22] #[4]) (by kernel_rfl),
      Lib.run_overlaps_apart W 22 4 45 Try.underlying22 2 (fun W => by kernel_rfl) ⟨vb, 0, none⟩ ⟨g, n, none⟩ 1 1 m c hne 45 45 2 ((encs_ cv l ++ sp).length) (by simp [World.shape?, h2, cv]) (by simp [World.shape?, h1]) (by rw [List.length_append, encs_len cv_len]; omega) (blk_frozen h2 0) (blk_frozen h2 2)]
    rfl
  obtain ⟨n, hn⟩ : ∃ n, l.length = n := ⟨_, rfl⟩
  unfold maxLen at hm
  have hcl : (encs_ cv (l.drop i)).length = (n - i) * 2 := by rw [encs_len cv_len, List.length_drop, hn]
  have hcs := encs_drop (enc := cv) cv_len l i (by omega)
  have hct := encs_take (enc := cv) cv_len l i (by omega)
  have hll : (encs_ cv l).length = n * 2 := by rw [encs_len cv_len, hn]
  rw [hn] at hcap hi hsp ⊢
  obtain ⟨R1, hR1⟩ : ∃ R1 : List Value, splice (encs_ cv l ++ sp) ((i + 1) * 2) (encs_ cv (l.drop i)) = R1 := ⟨_, rfl⟩
  obtain ⟨W1, hW1⟩ : ∃ W1, w.drew.setRow g R1.toArray = W1 := ⟨_, rfl⟩
  have hG1 : W1.heap[g]? = some (.cells R1.toArray 45 (0, 0)) := by rw [← hW1]; exact setRow_heap w.drew g _ _ _ _ (blk_drew hg)
  have hV1 : W1.heap[vb]? = some (.cells (cv x).toArray 45 (0, 0)) := by rw [← hW1, setRow_other w.drew g vb _ hne]; exact hvb
  have hRl : R1.length = cap * 2 := by
    rw [← hR1]
    simp only [splice, List.length_append, List.length_take, List.length_drop, hcl, hll, hsp]
    omega
  have hcp1 : ∀ ty dc sc, (Builtin.copy_ #[22, 22] ty #[.slice (some ⟨g, (i + 1) * 2, none⟩) (n - i) dc, .slice (some ⟨g, i * 2, none⟩) (n + 1 - i) sc]).run Try.prog w.drew = .ok (goInt (Nat.min (n + 1 - i) (n - i))) W1 := fun ty dc sc => by
    rw [← hW1, ← hR1]
    exact ins_copy w.drew ty g _ _ dc (i * 2) g _ sc _ (encs_ cv (l.drop i)) (blk_drew hg) (by rw [hcl]; congr 1; simp only [Nat.min_def]; split <;> omega)
      (fun j v hj => by
        rw [blk_cell (blk_drew hg)]
        rw [← hcs, List.getElem?_drop] at hj
        simp only [List.getElem?_toArray]
        rw [List.getElem?_append_left (List.getElem?_eq_some_iff.1 hj).1]
        exact hj) (by simp only [List.size_toArray, List.length_append, hcl, hll, hsp]; omega) (encs_oneCell cv_one _)
  obtain ⟨R2, hR2⟩ : ∃ R2 : List Value, splice R1 (i * 2) (cv x) = R2 := ⟨_, rfl⟩
  have hcp2 : ∀ ty dc, (Builtin.copy_ #[22, 22] ty #[.slice (some ⟨g, i * 2, none⟩) (n + 1 - i) dc, .slice (some ⟨vb, 0, none⟩) 1 1]).run Try.prog W1 = .ok (goInt (Nat.min 1 (n + 1 - i))) (W1.setRow g R2.toArray) := fun ty dc => by
    rw [← hR2]
    exact ins_copy W1 ty g _ _ dc 0 vb _ 1 _ (cv x) hG1 (by rw [cv_len]; simp only [Nat.min_def]; split <;> omega)
      (fun j v hj => by
        rw [blk_cell hV1]
        simpa using hj) (by simp only [List.size_toArray, hRl, cv_len]; omega) (cv_one _)
  have hfin : R2 = encs_ cv (l.take i ++ x :: l.drop i) ++ sp.drop 2 := by
    rw [← hR2, ← hR1, encs_app, encs_cons, ← hct, ← hcs]
    have h2 : (sp.take 2).length = 2 := by rw [List.length_take]; omega
    have hT : ((encs_ cv l).take (i * 2)).length = i * 2 := by rw [List.length_take]; omega
    have e := splice_ins ((encs_ cv l).take (i * 2)) ((encs_ cv l).drop (i * 2)) (sp.take 2) (sp.drop 2) (cv x) 2 (i * 2) hT h2 (cv_len x)
    rw [List.take_append_drop, List.take_append_drop, show i * 2 + 2 = (i + 1) * 2 by omega] at e
    rw [e]
    simp
  have hz1 : ¬ ((1 : Int) = 0) := by omega
  have hz2 : ¬ ((i : Int) = (n : Int)) := by omega
  have hin : i ≤ n := by omega
  have hw1 : IntKind.i64.wrap ((i : Int) + 1) = (i : Int) + 1 := by rw [IntKind.wrap_i64]; omega
  have hb1 : (0 : Int) ≤ (i : Int) + 1 := by omega
  have htn : ((i : Int) + 1).toNat = i + 1 := by omega
  have hb2 : ¬ (cap = i + 1) := by omega
  have hb3 : (i : Int) ≤ (n : Int) + 1 := by omega
  have hb4 : ¬ (cap = i) := by omega
  have HG := Aside0.mk hg
  have HV := Aside0.mk hvb
  have HN := Aside0.mk hn
  have HX := Aside0.mk (And.intro hW1 (And.intro hG1 hfin))
  clear hg hvb hn hcl hcs hct hll hsp hW1 hG1 hV1 hRl hfin hR1 hR2
  go_enter Try.func72, Try.ntmps72
  go_wp2_with (simp only [hov _ _ _ _ HG.out HV.out])
  go_region_law (refine step_copy_runE rfl _ _ 22 22 rfl _ _ (by simp [Act.eval, Act.put]) (by simp [Act.eval, Act.put]) (hcp1 _ _ _) ?_)
  go_wp2_with (at_builtin; refine wpList_copy_runE _ rfl _ _ 22 22 rfl _ _ rfl rfl (hcp2 _ _) ?_)
  go_ret
  refine ⟨rfl, ?_, ?_⟩
  · rw [← HX.out.2.2]; exact setRow_heap W1 g _ _ _ _ HX.out.2.1
  · rw [← HX.out.1]; exact (grown_drew w _).trans ((grown_setRow _ _ _).trans (grown_setRow _ _ _))
set_option maxHeartbeats 4000000 in
set_option maxRecDepth 100000 in
theorem insert_grow (l : List S45) (i : Nat) (hi : i < l.length) (x : S45) (w : World) (g cap vb : Nat) (sp : List Value) (hcap : l.length ≤ cap) (hcap2 : cap < l.length + 1) (hm : cap ≤ 1000000) (hsp : sp.length = (cap - l.length) * 2)
    (hg : w.heap[g]? = some (.cells (encs_ cv l ++ sp).toArray 45 (0, 0))) (hvb : w.heap[vb]? = some (.cells (cv x).toArray 45 (0, 0))) :
    Calls Try.prog 72 #[.slice (some ⟨g, 0, none⟩) l.length cap, .int .i64 (i : Int), .slice (some ⟨vb, 0, none⟩) 1 1] w fun e w' =>
      ∃ G SP, e = .returned (.slice (some ⟨w.heap.size, 0, none⟩) (l.length + 1) G) ∧ l.length + 1 ≤ G ∧ G ≤ maxLen ∧ SP.length = (G - (l.length + 1)) * 2 ∧ w'.heap[w.heap.size]? = some (.cells (encs_ cv (l.take i ++ x :: l.drop i) ++ SP).toArray 45 (0, 0)) ∧ Below w.heap.size w w' := by
  obtain ⟨n, hn⟩ : ∃ n, l.length = n := ⟨_, rfl⟩
  have hcl : (encs_ cv (l.drop i)).length = (n - i) * 2 := by rw [encs_len cv_len, List.length_drop, hn]
  have hcs := encs_drop (enc := cv) cv_len l i (by omega)
  have hct := encs_take (enc := cv) cv_len l i (by omega)
  have hll : (encs_ cv l).length = n * 2 := by rw [encs_len cv_len, hn]
  rw [hn] at hcap hcap2 hi hsp ⊢
  obtain ⟨i0, hi0, hz0, hzs, hzb⟩ := info_parts (show (Try.prog.info? 45).map (fun i => (i.zero, i.size, i.bytes)) = some (some (.agg #[.int .i64 0, .string ⟨#[]⟩]), 2, 24) by kernel_rfl)
  have hkk : (n : Int) + 1 - (i : Int) = ((n + 1 - i : Nat) : Int) := by omega
  have hik : i + (n + 1 - i) = n + 1 := by omega
  have hold : (Builtin.firstCells i0.size i (.slice (some ⟨g, 0, none⟩) i cap)).run Try.prog w.drew = .ok (encs_ cv (l.take i)).toArray w.drew := by
    rw [hzs]
    exact run_firstCells_some w.drew 2 i ⟨g, 0, none⟩ i cap (encs_ cv (l.take i)) (by rw [encs_len cv_len, List.length_take]; omega) (fun j v hj => by
      rw [add_plain, blk_cell (blk_drew hg)]
      rw [← hct, List.getElem?_take] at hj
      split at hj
      · simp only [List.getElem?_toArray]
        rw [List.getElem?_append_left (List.getElem?_eq_some_iff.1 hj).1]
        exact hj
      · cases hj)
  obtain ⟨G, hG⟩ : ∃ G, G = grownCap w (n + 1) cap 45 := ⟨_, rfl⟩
  obtain ⟨ROW, hROW⟩ : ∃ ROW : Array Value, ROW = (encs_ cv (l.take i)).toArray ++ Builtin.zeroCells (Value.agg #[.int .i64 0, .string ⟨#[]⟩]).cells (n + 1 - i) ++ Builtin.zeroCells (Value.agg #[.int .i64 0, .string ⟨#[]⟩]).cells (G - (n + 1)) := ⟨_, rfl⟩
  have hrz : ∀ ty, (Builtin.append_ #[22, 3] ty #[.slice (some ⟨g, 0, none⟩) i cap, .int .i64 ((n : Int) + 1 - (i : Int))]).run Try.prog w =
      .ok (.slice (some ⟨w.heap.size, 0, none⟩) (n + 1) G) (w.drew.alloc (.cells ROW 45)) := fun ty => by
    have h := Lib.run_append_grow_zeros w 22 3 ty 45 i0 _ .i64 .i64 Try.underlying22 Try.underlying3 hi0 hz0 (some ⟨g, 0, none⟩) i cap _ hold (n + 1 - i) (by omega) (by omega) (by omega) (by omega) (by rw [hzb]; omega) (by rw [hzb, hik]; exact growslice_fits (by omega) (by omega))
    rw [hik] at h
    rw [hkk, hROW, hG]
    exact h
  have hGn : n + 1 ≤ G := by rw [hG]; exact grownCap_ge w _ _ _
  have hGm : G ≤ maxLen := by rw [hG]; exact grownCap_le_maxLen w (n + 1) cap 45 (by unfold maxLen; omega)
  have hdl : (encs_ cv (l.drop i)).length = (n - i) * 2 := hcl
  have hb1 := blk_lt hg
  have hv1 := blk_lt hvb
  obtain ⟨Z, hZ, hZl⟩ : ∃ Z, ROW.toList = encs_ cv (l.take i) ++ Z ∧ Z.length = (G - i) * 2 := by
    refine ⟨(Builtin.zeroCells (Value.agg #[.int .i64 0, .string ⟨#[]⟩]).cells (n + 1 - i) ++ Builtin.zeroCells (Value.agg #[.int .i64 0, .string ⟨#[]⟩]).cells (G - (n + 1))).toList, by rw [hROW]; simp, ?_⟩
    simp [Builtin.zeroCells, Value.cells]
    omega
  have hROW2 : ROW = (encs_ cv (l.take i) ++ Z).toArray := by rw [← hZ]
  have hTl : (encs_ cv (l.take i)).length = i * 2 := by rw [encs_len cv_len, List.length_take]; omega
  obtain ⟨b, hb⟩ : ∃ b, w.heap.size = b := ⟨_, rfl⟩
  simp only [hb]
  obtain ⟨Wa, hWa⟩ : ∃ Wa, (w.alloc (.cells ROW 45)).drew = Wa := ⟨_, rfl⟩
  have hrz' : ∀ ty, (Builtin.append_ #[22, 3] ty #[.slice (some ⟨g, 0, none⟩) i cap, .int .i64 ((n : Int) + 1 - (i : Int))]).run Try.prog w = .ok (.slice (some ⟨b, 0, none⟩) (n + 1) G) Wa := fun ty => by
    rw [hrz ty, ← hWa, ← hb]; rfl
  have hBa : Below b w Wa := by rw [← hWa, ← hb]; exact (below_alloc (Below.refl _ w) _).drew
  have hGb : Wa.heap[b]? = some (.cells (encs_ cv (l.take i) ++ Z).toArray 45 (0, 0)) := by rw [← hWa, ← hb, ← hROW2]; exact blk_drew (blk_new w _)
  have hGg : Wa.heap[g]? = some (.cells (encs_ cv l ++ sp).toArray 45 (0, 0)) := (hBa.block g (by omega)).trans hg
  have hGv : Wa.heap[vb]? = some (.cells (cv x).toArray 45 (0, 0)) := (hBa.block vb (by omega)).trans hvb
  obtain ⟨R1, hR1⟩ : ∃ R1 : List Value, splice (encs_ cv (l.take i) ++ Z) (i * 2) (cv x) = R1 := ⟨_, rfl⟩
  obtain ⟨Wb, hWb⟩ : ∃ Wb, Wa.setRow b R1.toArray = Wb := ⟨_, rfl⟩
  have hRl : R1.length = G * 2 := by
    rw [← hR1]
    simp only [splice, List.length_append, List.length_take, List.length_drop, cv_len, hTl, hZl]
    omega
  have hcpA : ∀ ty dc, (Builtin.copy_ #[22, 22] ty #[.slice (some ⟨b, i * 2, none⟩) (n + 1 - i) dc, .slice (some ⟨vb, 0, none⟩) 1 1]).run Try.prog Wa = .ok (goInt (Nat.min 1 (n + 1 - i))) Wb := fun ty dc => by
    rw [← hWb, ← hR1]
    exact ins_copy Wa ty b _ _ dc 0 vb _ 1 _ (cv x) hGb (by rw [cv_len]; simp only [Nat.min_def]; split <;> omega)
      (fun j v hj => by
        rw [blk_cell hGv]
        simpa using hj) (by simp only [List.size_toArray, List.length_append, hTl, hZl, cv_len]; omega) (cv_one _)
  have hGb2 : Wb.heap[b]? = some (.cells R1.toArray 45 (0, 0)) := by rw [← hWb]; exact setRow_heap Wa b _ _ _ _ hGb
  have hGg2 : Wb.heap[g]? = some (.cells (encs_ cv l ++ sp).toArray 45 (0, 0)) := by rw [← hWb, setRow_other Wa b g _ (by omega)]; exact hGg
  obtain ⟨R2, hR2⟩ : ∃ R2 : List Value, splice R1 ((i + 1) * 2) (encs_ cv (l.drop i)) = R2 := ⟨_, rfl⟩
  have hcpB : ∀ ty dc sc, (Builtin.copy_ #[22, 22] ty #[.slice (some ⟨b, (i + 1) * 2, none⟩) (n - i) dc, .slice (some ⟨g, i * 2, none⟩) (n - i) sc]).run Try.prog Wb.drew = .ok (goInt (Nat.min (n - i) (n - i))) (Wb.drew.setRow b R2.toArray) := fun ty dc sc => by
    rw [← hR2]
    exact ins_copy Wb.drew ty b _ _ dc (i * 2) g _ sc _ (encs_ cv (l.drop i)) (blk_drew hGb2) (by rw [hdl]; congr 1; simp only [Nat.min_def]; split <;> omega)
      (fun j v hj => by
        rw [blk_cell (blk_drew hGg2)]
        rw [← hcs, List.getElem?_drop] at hj
        simp only [List.getElem?_toArray]
        rw [List.getElem?_append_left (List.getElem?_eq_some_iff.1 hj).1]
        exact hj) (by simp only [List.size_toArray, hRl, hdl]; omega) (encs_oneCell cv_one _)
  have hfin : ∃ SP : List Value, SP.length = (G - (n + 1)) * 2 ∧ R2 = encs_ cv (l.take i ++ x :: l.drop i) ++ SP := by
    have e := splice_two (encs_ cv (l.take i)) Z (cv x) (encs_ cv (l.drop i)) 2 (i * 2) hTl (cv_len x)
    rw [hR1, show i * 2 + 2 = (i + 1) * 2 by omega, hR2] at e
    refine ⟨_, ?_, e.trans (by rw [encs_app, encs_cons]; simp; rfl)⟩
    rw [List.length_drop, hZl, hdl]
    omega
  have hBb : Below b w (Wb.drew.setRow b R2.toArray) := by
    refine (hBa.grown (w' := Wb) (row := some b) ?_ (by rw [← hWa, ← hb]; simp) (by intro k hk; cases hk; omega)).grown (row := some b) ((grown_drew Wb _).trans (grown_setRow _ _ _)) ?_ (by intro k hk; cases hk; omega)
    · rw [← hWb]; exact grown_setRow _ _ _
    · rw [← hWb, ← hWa, ← hb]; simp [World.setRow]
  have hz1 : ¬ ((1 : Int) = 0) := by omega
  have hz2 : ¬ ((i : Int) = (n : Int)) := by omega
  have hz3 : (cap : Int) < (n : Int) + 1 := by omega
  have hin : i ≤ n := by omega
  have hw1 : IntKind.i64.wrap ((i : Int) + 1) = (i : Int) + 1 := by rw [IntKind.wrap_i64]; omega
  have hb2 : (0 : Int) ≤ (i : Int) + 1 := by omega
  have htn : ((i : Int) + 1).toNat = i + 1 := by omega
  have hb3 : (i : Int) ≤ (n : Int) := by omega
  have hGi : ¬ (G = i) := by omega
  have hGim : ¬ (G = i + 1) := by omega
  have hci : ¬ (cap = i) := by omega
  have hG63 : G ≤ 9223372036854775807 := by unfold maxLen at hGm; omega
  have HN := Aside0.mk hn
  have HX := Aside0.mk (And.intro hGb2 (And.intro hfin hBb))
  have HM := Aside0.mk (And.intro hGn hGm)
  clear hg hvb hn hcl hcs hct hll hsp hkk hik hold hG hROW hrz hdl hZ hZl hROW2 hTl hWa hGb hGg hGv hR1 hWb hRl hGb2 hGg2 hR2 hfin hBa hBb hi0 hz0 hzs hzb hGm
  go_enter Try.func72, Try.ntmps72
  go_wp2_with (first
    | (at_builtin; refine wpList_append_runE _ rfl _ _ _ _ rfl _ _ rfl rfl (hrz' _) ?_)
    | (at_builtin; refine wpList_copy_runE _ rfl _ _ 22 22 rfl _ _ rfl rfl (hcpA _ _) ?_))
  go_region_law (refine step_copy_runE rfl _ _ 22 22 rfl _ _ (by simp [Act.eval, Act.put]) (by simp [Act.eval, Act.put]) (hcpB _ _ _) ?_)
  go_wp2
  go_ret
  obtain ⟨SP, h1, h2⟩ := HX.out.2.1
  refine ⟨G, SP, rfl, HM.out.1, HM.out.2, h1, ?_, HX.out.2.2⟩
  rw [← h2]
  exact setRow_heap Wb.drew b _ _ _ _ (blk_drew HX.out.1)
theorem reps_cv (w : World) (base : Nat) (ok : Nat → Prop) (l : List S45) : Reps (k45.M w base ok) 2 l (encs_ cv l) := by
  refine ⟨encs_len cv_len l, fun j p hj => ?_⟩
  obtain ⟨hlt, he⟩ := List.getElem?_eq_some_iff.1 hj
  have : ((encs_ cv l).drop (j * 2)).take 2 = cv p := by
    rw [encs_drop cv_len l j (by omega), List.drop_eq_getElem_cons hlt, he, encs_cons]
    exact List.take_left' (cv_len p)
  rw [this]
  exact k45_mkM w base ok p
theorem cv_of_reps {w : World} {base : Nat} {ok : Nat → Prop} : ∀ {l : List S45} {cs : List Value}, Reps (k45.M w base ok) 2 l cs → cs = encs_ cv l := by
  intro l
  induction l with
  | nil => intro cs h; exact List.eq_nil_of_length_eq_zero (by simpa using h.1)
  | cons x l ih =>
    intro cs h
    have h0 := k45_openM (h.2 0 x rfl)
    simp only [Nat.zero_mul, List.drop_zero] at h0
    have h1 : Reps (k45.M w base ok) 2 l (cs.drop 2) := by
      refine ⟨by rw [List.length_drop, h.1, List.length_cons]; omega, fun j p hj => ?_⟩
      have := h.2 (j + 1) p (by simpa using hj)
      rw [show (j + 1) * 2 = 2 + j * 2 by omega, ← List.drop_drop] at this
      exact this
    rw [encs_cons, ← ih h1, show cv x = cs.take 2 from h0.symm, List.take_append_drop]
theorem R_of_row {w : World} {base : Nat} {v : Value} {l : List S45} (h : RowK cv 2 45 w base v l) : Kd.R k45 45 w base (fun _ => True) v l :=
  ⟨fun _ _ => trivial, encs_ cv l, h.owns cv_len, reps_cv _ _ _ _⟩
theorem row_of_R {w : World} {base : Nat} {ok : Nat → Prop} {v : Value} {l : List S45} (h : Kd.R k45 45 w base ok v l) : RowK cv 2 45 w base v l := by
  obtain ⟨_, inner, ho, hr⟩ := h
  rw [cv_of_reps hr] at ho
  exact RowK.of_owns cv_len ho
theorem insert_end (l : List S45) (x : S45) (v : Value) (w : World) (base vb : Nat) (hl : l.length ≤ 100000) (hbase : base ≤ w.heap.size) (HO : RowK cv 2 45 w base v l)
    (hvb : w.heap[vb]? = some (.cells (cv x).toArray 45 (0, 0))) (hvb2 : some vb ≠ v.ownBlock) :
    Calls Try.prog 72 #[v, .int .i64 (l.length : Int), .slice (some ⟨vb, 0, none⟩) 1 1] w fun e w' =>
      ∃ v', e = .returned v' ∧ Kd.R k45 45 w' base (fun _ => True) v' (l ++ [x]) ∧ Below base w w' := by
  have HR : ReadsRow (k45.M w base (fun k => some k ≠ v.ownBlock)) 2 w (some ⟨vb, 0, none⟩) 1 [x] := ⟨rfl, by omega, fun _ => ⟨_, rfl, fun j p hj => by
    match j, hj with
    | 0, hj =>
      cases hj
      exact ⟨cv x, rfl, k45_mkM w base _ x, fun i u hu => by rw [Nat.zero_mul, Nat.zero_add, add_plain, blk_cell hvb]; simpa using hu⟩⟩⟩
  have H0 := Aside0.mk (R_of_row HO)
  have HR := Aside0.mk HR
  have HB := Aside0.mk hbase
  obtain ⟨A, c, rfl, hc⟩ : ∃ A c, v = .slice A l.length c ∧ l.length ≤ c := by
    obtain ⟨A, c, e, h, _⟩ := Kd.R_reads H0.out
    exact ⟨A, c, e, h⟩
  have hz1 : ¬ ((1 : Int) = 0) := by omega
  clear HO hvb hvb2 hbase
  obtain ⟨n, hn⟩ : ∃ n, l.length = n := ⟨_, rfl⟩
  have HN := Aside0.mk hn
  rw [hn] at hl hc ⊢
  rw [hn] at HR H0
  clear hn
  have hcn : n ≤ c := hc
  cases A with
  | none =>
    go_enter Try.func72, Try.ntmps72
    go_wp2_with (at_builtin; refine Kd.R_append_rows k45 base rfl (.tmp 23) (.tmp 24) 22 45 (.agg #[.int .i64 0, .string ⟨#[]⟩]) 24 rfl Try.underlying22 (by kernel_rfl) rfl (by decide) (by decide) _ l [x] _ 1 1 (fun _ => True) _ rfl rfl H0.out HR.out (fun _ _ h => h) (fun k h => ⟨trivial, h⟩) (fun _ _ => trivial) (Below.refl _ _) HB.out (by rw [HN.out]; omega) ?_; intro v1 w1 h1 h2 h3 h4)
    go_ret
    exact ⟨v1, rfl, h1, h2⟩
  | some ad =>
    obtain ⟨ab, ao, asp⟩ := ad
    go_enter Try.func72, Try.ntmps72
    go_wp2_with (at_builtin; refine Kd.R_append_rows k45 base rfl (.tmp 23) (.tmp 24) 22 45 (.agg #[.int .i64 0, .string ⟨#[]⟩]) 24 rfl Try.underlying22 (by kernel_rfl) rfl (by decide) (by decide) _ l [x] _ 1 1 (fun _ => True) _ rfl rfl H0.out HR.out (fun _ _ h => h) (fun k h => ⟨trivial, h⟩) (fun _ _ => trivial) (Below.refl _ _) HB.out (by rw [HN.out]; omega) ?_; intro v1 w1 h1 h2 h3 h4)
    all_goals (go_ret; exact ⟨v1, rfl, h1, h2⟩)
/-- slices.Insert of one cell into a row of one's own. -/
theorem insert_calls (l : List S45) (i : Nat) (hi : i ≤ l.length) (x : S45) (v : Value) (w : World) (base vb : Nat) (hl : l.length ≤ 100000) (hbase : base ≤ w.heap.size)
    (HO : Kd.R k45 45 w base (fun _ => True) v l) (hvb : w.heap[vb]? = some (.cells (cv x).toArray 45 (0, 0))) (hvb2 : some vb ≠ v.ownBlock) :
    Calls Try.prog 72 #[v, .int .i64 (i : Int), .slice (some ⟨vb, 0, none⟩) 1 1] w fun e w' =>
      ∃ v', e = .returned v' ∧ Kd.R k45 45 w' base (fun _ => True) v' (l.take i ++ x :: l.drop i) ∧ Below base w w' := by
  by_cases h : i = l.length
  · subst h
    rw [List.take_length, List.drop_length]
    exact insert_end l x v w base vb hl hbase (row_of_R HO) hvb hvb2
  · rcases row_of_R HO with ⟨rfl, rfl⟩ | ⟨g, cap, sp, rfl, hb, hn, hm, hs, hg⟩
    · exact absurd (Nat.le_antisymm hi (Nat.zero_le _)) h
    · have hll : (l.take i ++ x :: l.drop i).length = l.length + 1 := by simp; omega
      by_cases hr : l.length + 1 ≤ cap
      · refine (insert_room l i (by omega) x w g cap vb sp hr hm hs hg hvb (fun e => hvb2 (by rw [e]; rfl))).mono ?_
        rintro e w' ⟨rfl, h1, h2⟩
        refine ⟨_, rfl, R_of_row (.inr ⟨g, cap, sp.drop 2, by rw [hll], hb, by omega, hm, by rw [List.length_drop, hs, hll]; omega, h1⟩), ?_⟩
        exact (Below.refl base w).grown h2 hbase (by intro k hk; cases hk; exact hb)
      · refine (insert_grow l i (by omega) x w g cap vb sp hn (by omega) (by omega) hs hg hvb).mono ?_
        rintro e w' ⟨G, SP, rfl, h1, h2, h3, h4, h5⟩
        refine ⟨_, rfl, R_of_row (.inr ⟨w.heap.size, G, SP, by rw [hll], hbase, by omega, h2, by rw [hll]; exact h3, h4⟩), ?_⟩
        exact ⟨h5.os, h5.tape, h5.output, h5.size, fun k hk => h5.block k (by omega)⟩

end Go.Proofs.Ytemglmcddaeedaa.PA

namespace Go.Proofs.Ytemglmcddaeedaa.PA
open Go.RowKit Go.Proofs.YtemglmcddaeedaaW.PrintWords Go.Proofs.YtemglmcddaeedaaW.PrintLast Go.Proofs.YtemglmcddaeedaaW.PrintMore
attribute [local go_sem] max2_int min2_int max_two min_two max_three min_three max_four min_four   -- for this text's walks alone
set_option linter.unusedVariables false
set_option linter.unusedSimpArgs false

/-! ### page_find: function 0 -/
/-- Where a line stands among cells in order, or would. -/
def idxS (l : List S45) (n : Int) : Nat := (l.takeWhile (fun c => decide (c.f0 < n))).length
theorem idxS_le (l : List S45) (n : Int) : idxS l n ≤ l.length := by
  unfold idxS
  induction l with
  | nil => simp
  | cons c r ih =>
    rw [List.takeWhile_cons]
    split
    · simp only [List.length_cons]; omega
    · simp
theorem idxS_spec : ∀ {l : List S45}, CellsOk l → ∀ (n : Int) (h : Nat) (hl : h < l.length), l[h].f0 < n ↔ h < idxS l n := by
  intro l
  induction l with
  | nil => intro _ n h hl; simp at hl
  | cons c r ih =>
    intro hok n h hl
    unfold idxS
    rw [List.takeWhile_cons]
    by_cases hc : c.f0 < n
    · rw [if_pos (decide_eq_true hc)]
      cases h with
      | zero => simp [hc]
      | succ h =>
        have := ih hok.tail n h (by simpa using hl)
        simp only [List.getElem_cons_succ, List.length_cons]
        rw [this]
        unfold idxS
        omega
    · rw [if_neg (by simpa using hc)]
      cases h with
      | zero => simp [hc]
      | succ h =>
        have h1 := hok.lt (r[h]'(by simpa using hl)) (List.getElem_mem _)
        simp only [List.getElem_cons_succ, List.length_nil, Nat.not_lt_zero, iff_false]
        omega
theorem idxS_iff {l : List S45} (hok : CellsOk l) (n : Int) (h : Nat) (hl : h < l.length) : l[h].f0 < n ↔ h < idxS l n := idxS_spec hok n h hl
def foundS (l : List S45) (n : Int) : Bool := match l[idxS l n]? with | some c => decide (c.f0 = n) | none => false
set_option maxHeartbeats 4000000 in
theorem find1_calls (c : S45) (n : Int) (h0 : 0 ≤ c.f0 ∧ c.f0 ≤ 1000) (h1 : -1000 ≤ n ∧ n ≤ 1000) (w : World) :
    Calls Try.prog 110 #[.agg #[.int .i64 c.f0, .string c.f1], .int .i64 n] w fun e w' => e = .returned (.int .i64 (c.f0 - n)) ∧ Below w.heap.size w w' := by
  have h2 := h0.1
  have h3 := h0.2
  have h4 := h1.1
  have h5 := h1.2
  clear h0 h1
  have hb := blk_new w (.cells #[.int .i64 c.f0, .string c.f1] 45)
  have c0 := blk_cell hb 0
  simp only [List.getElem?_toArray, List.getElem?_cons_zero] at c0
  have HB := Aside0.mk (below_alloc (Below.refl _ w) (.cells #[.int .i64 c.f0, .string c.f1] 45))
  clear hb
  go_enter Try.func110, Try.ntmps110
  go_wp2
  go_ret
  exact ⟨rfl, HB.out⟩
set_option maxHeartbeats 4000000 in
set_option maxRecDepth 100000 in
theorem bsearch_calls (l : List S45) (A : Option Addr) (c : Nat) (n : Int) (w : World) (hok : CellsOk l) (hn : -1000 ≤ n ∧ n ≤ 1000) (hl : l.length ≤ 1000) (hC : Kd.C k45 w A l.length l) :
    Calls Try.prog 109 #[.slice A l.length c, .int .i64 n, .func (.func 110) #[] #[]] w fun e w' => e = .returned (.tuple #[.int .i64 (idxS l n), .bool (foundS l n)]) ∧ Below w.heap.size w w' := by
  have HOK := Aside0.mk hok
  have HC := Aside0.mk hC
  have HI := Aside0.mk (idxS_le l n)
  clear hok hC
  go_enter Try.func109, Try.ntmps109
  go_wp2
  go_loopw [9, 10] (fun v9 v10 wr => ∃ i j : Nat, i ≤ idxS l n ∧ idxS l n ≤ j ∧ j ≤ l.length ∧ v9 = .int .i64 (i : Int) ∧ v10 = .int .i64 (j : Int) ∧ Aside0 (Below w.heap.size w wr)) (fun v9 v10 _ => (intOf v10).toNat - (intOf v9).toNat)
  case atStart => exact ⟨0, l.length, by omega, HI.out, by omega, rfl, rfl, ⟨Below.refl _ _⟩⟩
  case round =>
    obtain ⟨i, j, hi, hij, hj, rfl, rfl, HB⟩ := hrel
    by_cases hlt : i < j
    · have hm0 : i ≤ (i + j) / 2 := by omega
      have hm1 : (i + j) / 2 < j := by omega
      obtain ⟨h, hh⟩ : ∃ h, (i + j) / 2 = h := ⟨_, rfl⟩
      rw [hh] at hm0 hm1
      have hhl : h < l.length := by omega
      obtain ⟨ad, e1, hx0, hx1⟩ := at_T45 HC.out (h : Int) (by omega) (by omega)
      cases e1
      rw [rd_get l h hhl] at hx0 hx1
      replace hx0 := (HB.out.cell (World.block_lt_of_cell? w _ hx0)).trans hx0
      replace hx1 := (HB.out.cell (World.block_lt_of_cell? w _ hx1)).trans hx1
      simp only [Int.toNat_natCast] at hx0 hx1
      have HS := Aside0.mk (idxS_spec HOK.out n h hhl)
      have hE := HOK.out.each l[h] (List.getElem_mem _)
      obtain ⟨X, hX⟩ : ∃ X, l[h] = X := ⟨_, rfl⟩
      rw [hX] at hx0 hx1 HS hE
      have hE1 : 0 ≤ X.f0 := by omega
      have hE2 : X.f0 ≤ 1000 := by omega
      have HH := Aside0.mk hh
      clear hX hh hE
      have hw1 : (((i : Int) + (j : Int)) / 2) = (h : Int) := by have := HH.out; omega
      by_cases hcmp : X.f0 < n
      · have hd : decide (X.f0 - n < 0) = true := decide_eq_true (by omega)
        go_wp2_with (go_at_call 110; refine (find1_calls X n ⟨hE1, hE2⟩ hn _).mono ?_; rintro e w' ⟨rfl, hb1⟩)
        go_roundw
        case rel => exact ⟨h + 1, j, by have := HS.out.1 hcmp; omega, hij, hj, by go_num, rfl, ⟨below_then HB.out HB.out.size hb1⟩⟩
        case measure => simp [intOf]; omega
      · have hd : decide (X.f0 - n < 0) = false := decide_eq_false (by omega)
        have hge : ¬ h < idxS l n := fun hh => hcmp (HS.out.2 hh)
        go_wp2_with (go_at_call 110; refine (find1_calls X n ⟨hE1, hE2⟩ hn _).mono ?_; rintro e w' ⟨rfl, hb1⟩)
        go_roundw
        case rel => exact ⟨i, h, hi, by omega, by omega, rfl, rfl, ⟨below_then HB.out HB.out.size hb1⟩⟩
        case measure => simp [intOf]; omega
    · obtain ⟨m, hm⟩ : ∃ m, idxS l n = m := ⟨_, rfl⟩
      rw [hm] at hi hij
      have hmi : i = m := by omega
      have hmj : j = m := by omega
      subst hmi
      subst hmj
      clear hi hij hlt
      have HM := Aside0.mk hm
      rw [hm]
      clear hm
      by_cases hlt : j < l.length
      · obtain ⟨ad, e1, hx0, hx1⟩ := at_T45 HC.out (j : Int) (by omega) (by omega)
        cases e1
        rw [rd_get l j hlt] at hx0 hx1
        replace hx0 := (HB.out.cell (World.block_lt_of_cell? w _ hx0)).trans hx0
        replace hx1 := (HB.out.cell (World.block_lt_of_cell? w _ hx1)).trans hx1
        simp only [Int.toNat_natCast] at hx0 hx1
        have hE := HOK.out.each l[j] (List.getElem_mem _)
        have HF := Aside0.mk (show foundS l n = decide (l[j].f0 = n) by unfold foundS; rw [HM.out, List.getElem?_eq_getElem hlt])
        obtain ⟨X, hX⟩ : ∃ X, l[j] = X := ⟨_, rfl⟩
        rw [hX] at hx0 hx1 HF hE
        have hE1 : 0 ≤ X.f0 := by omega
        have hE2 : X.f0 ≤ 1000 := by omega
        clear hX hE
        have hlti : decide (j < l.length) = true := decide_eq_true hlt
        go_wp2_with (go_at_call 110; refine (find1_calls X n ⟨hE1, hE2⟩ hn _).mono ?_; rintro e w' ⟨rfl, hb1⟩)
        go_ret2
        refine ⟨?_, below_then HB.out HB.out.size hb1⟩
        rw [HF.out, HM.out]
        have : ((X.f0 - n) == (0 : Int)) = decide (X.f0 = n) := by rw [Bool.eq_iff_iff]; simp; omega
        first | rfl | (rw [← this]; rfl)
      · have HF := Aside0.mk (show foundS l n = false by unfold foundS; rw [HM.out, List.getElem?_eq_none (by omega)])
        have hlti : decide (j < l.length) = false := decide_eq_false hlt
        go_wp2_with (go_at_call 110; fail)
        go_ret2
        exact ⟨by rw [HF.out, HM.out]; rfl, HB.out⟩
set_option maxHeartbeats 4000000 in
theorem find_calls (l : List S45) (A : Option Addr) (c : Nat) (n : Int) (w : World) (hok : CellsOk l) (hn : -1000 ≤ n ∧ n ≤ 1000) (hl : l.length ≤ 1000) (hC : Kd.C k45 w A l.length l) :
    Calls Try.prog 66 #[.slice A l.length c, .int .i64 n] w fun e w' => e = .returned (.tuple #[.int .i64 (idxS l n), .bool (foundS l n)]) ∧ Below w.heap.size w w' := by
  go_enter Try.func66, Try.ntmps66
  go_wp2_with (go_at_call 109; refine (bsearch_calls l A c n _ hok hn hl hC).mono ?_; rintro e w' ⟨rfl, hb1⟩)
  go_ret2
  exact ⟨rfl, hb1⟩

end Go.Proofs.Ytemglmcddaeedaa.PA

namespace Go.Proofs.Ytemglmcddaeedaa.PA
open Go.RowKit Go.Proofs.YtemglmcddaeedaaW.PrintWords Go.Proofs.YtemglmcddaeedaaW.PrintLast Go.Proofs.YtemglmcddaeedaaW.PrintMore
attribute [local go_sem] max2_int min2_int max_two min_two max_three min_three max_four min_four   -- for this text's walks alone
set_option linter.unusedVariables false
set_option linter.unusedSimpArgs false

/-! ### page_asked: function 65 -/
def page_asked.f (a0 : ByteArray) (a1 : Int) : Option (Int) := (page_Valid.f a0).bind fun t241 => (if t241 = true then ((page_line.f a1).bind fun t242 => (if t242 = true then (some 0) else (some 7))) else (some 1))
set_option maxHeartbeats 8000000 in
set_option maxRecDepth 100000 in
theorem page_asked.calls (a0 : ByteArray) (a1 : Int) (r : Int) (w : World) (h : page_asked.f a0 a1 = some r) :
    Calls Try.prog 65 #[.string a0, .int .i64 a1] w fun e w' => e = .returned (.int .i64 r) ∧ Below w.heap.size w w' := by
  have HB := Aside0.mk (Below.refl w.heap.size w)
  have H : ((page_Valid.f a0).bind fun t241 => (if t241 = true then ((page_line.f a1).bind fun t242 => (if t242 = true then (some 0) else (some 7))) else (some 1))) = some r := h
  clear h
  replace H := Option.bind_eq_some_iff.mp H
  obtain ⟨t241, A30, H⟩ := H
  replace H : (if t241 = true then ((page_line.f a1).bind fun t242 => (if t242 = true then (some 0) else (some 7))) else (some 1)) = some r := H
  have A3 := Aside0.mk A30
  clear A30
  by_cases c4 : t241 = true
  · subst c4
    have H1 : ((page_line.f a1).bind fun t242 => (if t242 = true then (some 0) else (some 7))) = some r := by rw [if_pos rfl] at H; exact H
    clear H
    have H := H1
    clear H1
    replace H := Option.bind_eq_some_iff.mp H
    obtain ⟨t242, A50, H⟩ := H
    replace H : (if t242 = true then (some 0) else (some 7)) = some r := H
    have A5 := Aside0.mk A50
    clear A50
    by_cases c6 : t242 = true
    · subst c6
      have H1 : (some 0) = some r := by rw [if_pos rfl] at H; exact H
      clear H
      have H := H1
      clear H1
      obtain rfl := Option.some.inj H
      go_enter Try.func65, Try.ntmps65
      go_wp2_with (first | ((with_reducible refine gate_callee (f := 21) rfl ?_); refine goesL_ (some 7) rfl rfl Try.func21 (by kernel_rfl) rfl #[.string a0] rfl (by (try simp only [List.map_toArray, List.map_cons, List.map_nil]); first | done | rfl | (simp only [List.length_drop, List.length_take]; rfl)) ?_; (with_reducible refine (page_Valid.calls a0 true _ A3.out).mono ?_); rintro e w7 ⟨rfl, hb⟩; refine ⟨_, rfl, ?_⟩; have n0_ := Aside0.mk (below_step (by repeat (first | (with_reducible first | exact HB.out | apply below_alloc | apply pw_below_drewN | apply below_drew1) | exact HB.out)) hb); clear HB; have HB := n0_; clear n0_; (try clear hb); (try clear hb2); (try clear hk); (try clear hi)) | ((with_reducible refine gate_callee (f := 52) rfl ?_); refine goesL_ (some 11) rfl rfl Try.func52 (by kernel_rfl) rfl #[.int .i64 a1] rfl (by (try simp only [List.map_toArray, List.map_cons, List.map_nil]); first | done | rfl | (simp only [List.length_drop, List.length_take]; rfl)) ?_; (with_reducible refine (page_line.calls a1 true _ A5.out).mono ?_); rintro e w' ⟨rfl, ⟨nd, rfl⟩⟩; refine ⟨_, rfl, ?_⟩))
      go_ret
      exact ⟨by first | rfl | (simp [errW_none, errW_some] <;> rfl) | (simp [*, errW_none, errW_some] <;> rfl), by repeat (first | (with_reducible first | exact HB.out | apply below_alloc | apply pw_below_drewN | apply below_drew1) | exact HB.out)⟩
    · replace c6 := Bool.eq_false_iff.mpr c6
      subst c6
      have H1 : (some 7) = some r := by rw [if_neg (show ¬ (false = true) by decide)] at H; exact H
      clear H
      have H := H1
      clear H1
      obtain rfl := Option.some.inj H
      go_enter Try.func65, Try.ntmps65
      go_wp2_with (first | ((with_reducible refine gate_callee (f := 21) rfl ?_); refine goesL_ (some 7) rfl rfl Try.func21 (by kernel_rfl) rfl #[.string a0] rfl (by (try simp only [List.map_toArray, List.map_cons, List.map_nil]); first | done | rfl | (simp only [List.length_drop, List.length_take]; rfl)) ?_; (with_reducible refine (page_Valid.calls a0 true _ A3.out).mono ?_); rintro e w8 ⟨rfl, hb⟩; refine ⟨_, rfl, ?_⟩; have n0_ := Aside0.mk (below_step (by repeat (first | (with_reducible first | exact HB.out | apply below_alloc | apply pw_below_drewN | apply below_drew1) | exact HB.out)) hb); clear HB; have HB := n0_; clear n0_; (try clear hb); (try clear hb2); (try clear hk); (try clear hi)) | ((with_reducible refine gate_callee (f := 52) rfl ?_); refine goesL_ (some 11) rfl rfl Try.func52 (by kernel_rfl) rfl #[.int .i64 a1] rfl (by (try simp only [List.map_toArray, List.map_cons, List.map_nil]); first | done | rfl | (simp only [List.length_drop, List.length_take]; rfl)) ?_; (with_reducible refine (page_line.calls a1 false _ A5.out).mono ?_); rintro e w' ⟨rfl, ⟨nd, rfl⟩⟩; refine ⟨_, rfl, ?_⟩))
      go_ret
      exact ⟨by first | rfl | (simp [errW_none, errW_some] <;> rfl) | (simp [*, errW_none, errW_some] <;> rfl), by repeat (first | (with_reducible first | exact HB.out | apply below_alloc | apply pw_below_drewN | apply below_drew1) | exact HB.out)⟩
  · replace c4 := Bool.eq_false_iff.mpr c4
    subst c4
    have H1 : (some 1) = some r := by rw [if_neg (show ¬ (false = true) by decide)] at H; exact H
    clear H
    have H := H1
    clear H1
    obtain rfl := Option.some.inj H
    go_enter Try.func65, Try.ntmps65
    go_wp2_with (first | ((with_reducible refine gate_callee (f := 21) rfl ?_); refine goesL_ (some 7) rfl rfl Try.func21 (by kernel_rfl) rfl #[.string a0] rfl (by (try simp only [List.map_toArray, List.map_cons, List.map_nil]); first | done | rfl | (simp only [List.length_drop, List.length_take]; rfl)) ?_; (with_reducible refine (page_Valid.calls a0 false _ A3.out).mono ?_); rintro e w9 ⟨rfl, hb⟩; refine ⟨_, rfl, ?_⟩; have n0_ := Aside0.mk (below_step (by repeat (first | (with_reducible first | exact HB.out | apply below_alloc | apply pw_below_drewN | apply below_drew1) | exact HB.out)) hb); clear HB; have HB := n0_; clear n0_; (try clear hb); (try clear hb2); (try clear hk); (try clear hi)))
    go_ret
    exact ⟨by first | rfl | (simp [errW_none, errW_some] <;> rfl) | (simp [*, errW_none, errW_some] <;> rfl), by repeat (first | (with_reducible first | exact HB.out | apply below_alloc | apply pw_below_drewN | apply below_drew1) | exact HB.out)⟩

end Go.Proofs.Ytemglmcddaeedaa.PA

namespace Go.Proofs.Ytemglmcddaeedaa.PA
open Go.RowKit Go.Proofs.YtemglmcddaeedaaW.PrintWords Go.Proofs.YtemglmcddaeedaaW.PrintLast Go.Proofs.YtemglmcddaeedaaW.PrintMore
attribute [local go_sem] max2_int min2_int max_two min_two max_three min_three max_four min_four   -- for this text's walks alone
set_option linter.unusedVariables false
set_option linter.unusedSimpArgs false

/-! ### page_edit: function 0 -/
/-! #### cells found, put, taken -/
theorem CellsOk_iff {l : List S45} : CellsOk l ↔ (∀ c ∈ l, 1 ≤ c.f0 ∧ c.f0 ≤ 200 ∧ 0 < c.f1.size) ∧ l.Pairwise (fun a b => a.f0 < b.f0) := by
  induction l with
  | nil => exact ⟨fun _ => ⟨by simp, List.Pairwise.nil⟩, fun _ => trivial⟩
  | cons c r ih =>
    constructor
    · intro h
      exact ⟨h.each, List.pairwise_cons.2 ⟨h.lt, (ih.1 h.tail).2⟩⟩
    · intro h
      have h2 := List.pairwise_cons.1 h.2
      exact CellsOk.mk (h.1 c (by simp)) h2.1 (ih.2 ⟨fun x hx => h.1 x (by simp [hx]), h2.2⟩)
theorem idx_split {l : List S45} (hok : CellsOk l) (n : Int) :
    (∀ x ∈ l.take (idxS l n), x.f0 < n) ∧ (∀ x ∈ l.drop (idxS l n), n ≤ x.f0) ∧
      (foundS l n = true → ∃ c, l[idxS l n]? = some c ∧ c.f0 = n) ∧ (foundS l n = false → ∀ x ∈ l.drop (idxS l n), n < x.f0) := by
  have h1 : ∀ x ∈ l.drop (idxS l n), n ≤ x.f0 := by
    intro x hx
    obtain ⟨j, hj, rfl⟩ := List.getElem_of_mem hx
    rw [List.getElem_drop]
    rw [List.length_drop] at hj
    have := idxS_spec hok n (idxS l n + j) (by omega)
    omega
  refine ⟨fun x hx => ?_, h1, fun hf => ?_, fun hf x hx => ?_⟩
  · obtain ⟨j, hj, rfl⟩ := List.getElem_of_mem hx
    rw [List.getElem_take]
    rw [List.length_take] at hj
    exact (idxS_spec hok n j (by omega)).2 (by omega)
  · unfold foundS at hf
    split at hf
    · rename_i c hc; exact ⟨c, hc, of_decide_eq_true hf⟩
    · cases hf
  · obtain ⟨j, hj, rfl⟩ := List.getElem_of_mem hx
    rw [List.length_drop] at hj
    have hlt : idxS l n < l.length := by omega
    unfold foundS at hf
    rw [List.getElem?_eq_getElem hlt] at hf
    have h0 : ¬ l[idxS l n].f0 = n := of_decide_eq_false hf
    have h2 : ¬ l[idxS l n].f0 < n := fun h => absurd ((idxS_spec hok n _ hlt).1 h) (Nat.lt_irrefl _)
    rw [List.getElem_drop]
    cases j with
    | zero => simp only [Nat.add_zero]; omega
    | succ j =>
      have hp := (CellsOk_iff.1 hok).2
      have := List.pairwise_iff_getElem.1 hp (idxS l n) (idxS l n + (j + 1)) hlt (by omega) (by omega)
      omega
/-- The cells with one more. -/
def insS (l : List S45) (n : Int) (d : ByteArray) : List S45 := l.take (idxS l n) ++ ⟨n, d⟩ :: l.drop (idxS l n)
def delS (l : List S45) (n : Int) : List S45 := l.take (idxS l n) ++ l.drop (idxS l n + 1)
def repS (l : List S45) (n : Int) (d : ByteArray) : List S45 := l.take (idxS l n) ++ ⟨n, d⟩ :: l.drop (idxS l n + 1)
theorem mem_take_drop {α : Type} {l : List α} {i j : Nat} {x : α} (h : x ∈ l.take i ∨ x ∈ l.drop j) : x ∈ l := by
  rcases h with h | h
  · exact List.mem_of_mem_take h
  · exact List.mem_of_mem_drop h
theorem ok_three {a b : List S45} {c : S45} (ha : CellsOk a) (hb : CellsOk b) (hc : 1 ≤ c.f0 ∧ c.f0 ≤ 200 ∧ 0 < c.f1.size) (h1 : ∀ x ∈ a, x.f0 < c.f0) (h2 : ∀ x ∈ b, c.f0 < x.f0) : CellsOk (a ++ c :: b) := by
  rw [CellsOk_iff] at ha hb ⊢
  refine ⟨fun x hx => ?_, ?_⟩
  · rcases List.mem_append.1 hx with h | h
    · exact ha.1 x h
    · rcases List.mem_cons.1 h with rfl | h
      · exact hc
      · exact hb.1 x h
  · refine List.pairwise_append.2 ⟨ha.2, List.pairwise_cons.2 ⟨h2, hb.2⟩, fun x hx y hy => ?_⟩
    rcases List.mem_cons.1 hy with rfl | hy
    · exact h1 x hx
    · have := h1 x hx; have := h2 y hy; omega
theorem ok_sub {l a : List S45} (h : CellsOk l) (hs : a.Sublist l) : CellsOk a := by
  rw [CellsOk_iff] at h ⊢
  exact ⟨fun x hx => h.1 x (hs.subset hx), h.2.sublist hs⟩
theorem insS_ok {l : List S45} (h : CellsOk l) {n : Int} {d : ByteArray} (hn : 1 ≤ n ∧ n ≤ 200) (hd : 0 < d.size) (hf : foundS l n = false) : CellsOk (insS l n d) := by
  have hs := idx_split h n
  exact ok_three (ok_sub h (List.take_sublist _ _)) (ok_sub h (List.drop_sublist _ _)) ⟨hn.1, hn.2, hd⟩ hs.1 (hs.2.2.2 hf)
theorem drop_succ_lt {l : List S45} (h : CellsOk l) {n : Int} (hf : foundS l n = true) : ∀ x ∈ l.drop (idxS l n + 1), n < x.f0 := by
  obtain ⟨c, hc, hcn⟩ := (idx_split h n).2.2.1 hf
  obtain ⟨hlt, he⟩ := List.getElem?_eq_some_iff.1 hc
  intro x hx
  obtain ⟨j, hj, rfl⟩ := List.getElem_of_mem hx
  rw [List.length_drop] at hj
  rw [List.getElem_drop]
  have := List.pairwise_iff_getElem.1 (CellsOk_iff.1 h).2 (idxS l n) (idxS l n + 1 + j) hlt (by omega) (by omega)
  rw [he] at this
  omega
theorem repS_ok {l : List S45} (h : CellsOk l) {n : Int} {d : ByteArray} (hn : 1 ≤ n ∧ n ≤ 200) (hd : 0 < d.size) (hf : foundS l n = true) : CellsOk (repS l n d) :=
  ok_three (ok_sub h (List.take_sublist _ _)) (ok_sub h (List.drop_sublist _ _)) ⟨hn.1, hn.2, hd⟩ (idx_split h n).1 (drop_succ_lt h hf)
theorem delS_ok {l : List S45} (h : CellsOk l) (n : Int) : CellsOk (delS l n) := by
  unfold delS
  refine ok_sub h ?_
  have : (l.take (idxS l n) ++ l.drop (idxS l n + 1)).Sublist (l.take (idxS l n) ++ l.drop (idxS l n)) :=
    List.Sublist.append (List.Sublist.refl _) (by rw [← List.drop_drop]; exact List.drop_sublist _ _)
  rwa [List.take_append_drop] at this
theorem bytes_sub {a l : List S45} (hs : a.Sublist l) : bytesL a ≤ bytesL l := by
  induction hs with
  | slnil => exact Nat.le_refl _
  | cons x _ ih => rw [bytesL_cons]; omega
  | cons_cons x _ ih => rw [bytesL_cons, bytesL_cons]; omega
theorem insS_bytes (l : List S45) (n : Int) (d : ByteArray) : bytesL (insS l n d) = bytesL l + d.size := by
  have h := bytesL_append (l.take (idxS l n)) (l.drop (idxS l n))
  rw [List.take_append_drop] at h
  unfold insS
  rw [bytesL_append, bytesL_cons]
  show _ + (d.size + _) = _
  omega
theorem repS_bytes (l : List S45) (n : Int) (d : ByteArray) : bytesL (repS l n d) ≤ bytesL l + d.size := by
  have h := bytesL_append (l.take (idxS l n)) (l.drop (idxS l n))
  rw [List.take_append_drop] at h
  have h2 : bytesL (l.drop (idxS l n + 1)) ≤ bytesL (l.drop (idxS l n)) := bytes_sub (by rw [← List.drop_drop]; exact List.drop_sublist _ _)
  unfold repS
  rw [bytesL_append, bytesL_cons]
  show _ + (d.size + _) ≤ _
  omega
theorem delS_bytes (l : List S45) (n : Int) : bytesL (delS l n) ≤ bytesL l := by
  have h := bytesL_append (l.take (idxS l n)) (l.drop (idxS l n))
  rw [List.take_append_drop] at h
  have h2 : bytesL (l.drop (idxS l n + 1)) ≤ bytesL (l.drop (idxS l n)) := bytes_sub (by rw [← List.drop_drop]; exact List.drop_sublist _ _)
  unfold delS
  rw [bytesL_append]
  omega
/-- What page.filled answers. -/
def filledS (n : Int) (l : List S45) : ByteArray × Int := if needsL l > n then (⟨#[]⟩, 13) else (strOfNums (builtL n.toNat l), 0)
theorem filled_f {n : Int} {l : List S45} (h0 : 32 ≤ n) (h1 : n ≤ 4096) (h : CellsOk l) (hb : bytesL l ≤ 1000000000000) : page_filled.f n l = some (filledS n l) := by
  unfold page_filled.f filledS
  rw [if_pos ⟨h0, h1, h, hb⟩]
  split <;> rfl
/-- The cells of a page. -/
def cellsP (p : ByteArray) : List S45 := cellsS p (twoS p 0).toNat
theorem cellsP_ok {p : ByteArray} (hv : validS p) : CellsOk (cellsP p) ∧ (cellsP p).length ≤ 200 ∧ bytesL (cellsP p) ≤ p.size ∧ 32 ≤ p.size ∧ p.size ≤ 4096 := by
  obtain ⟨g1, g2, g3, g4⟩ := valid_reads p hv
  obtain ⟨q1, q2, q3, q4, q5, _⟩ := validS_spec p hv
  have hl := cellsS_length p (twoS p 0).toNat
  have h0 := lastL_nonneg g1
  refine ⟨g1, ?_, ?_, q1, q2⟩
  · unfold cellsP; omega
  · unfold needsL at g2; unfold cellsP; omega
theorem asked_f (p : ByteArray) (n : Int) (h : p.size ≤ 100000) : page_asked.f p n = some (if validS p then (if 1 ≤ n ∧ n ≤ 200 then 0 else 7) else 1) := by
  have hV : page_Valid.f p = some (decide (validS p)) := by
    unfold page_Valid.f page_Wrong.f
    rw [if_pos h, Option.bind_some]
    unfold validS
    by_cases hw : (wrongS p).2 = 0
    · first | rw [if_pos hw, decide_eq_true hw] | simp [hw]
    · first | rw [if_neg hw, decide_eq_false hw] | simp [hw]
  have hL : page_line.f n = some (decide (1 ≤ n ∧ n ≤ 200)) := by
    unfold page_line.f
    by_cases h1 : 1 ≤ n <;> by_cases h2 : n ≤ 200 <;> simp [h1, h2] <;> omega
  unfold page_asked.f
  rw [hV, Option.bind_some, hL, Option.bind_some]
  by_cases hv : validS p <;> by_cases hn : 1 ≤ n ∧ n ≤ 200 <;> simp [hv, hn]

end Go.Proofs.Ytemglmcddaeedaa.PA

namespace Go.Proofs.Ytemglmcddaeedaa.PA
open Go.RowKit Go.Proofs.YtemglmcddaeedaaW.PrintWords Go.Proofs.YtemglmcddaeedaaW.PrintLast Go.Proofs.YtemglmcddaeedaaW.PrintMore
attribute [local go_sem] max2_int min2_int max_two min_two max_three min_three max_four min_four   -- for this text's walks alone
set_option linter.unusedVariables false
set_option linter.unusedSimpArgs false

/-! ### page_Get: function 32 -/
def getS (p : ByteArray) (n : Int) : ByteArray × Int :=
  if validS p then (if 1 ≤ n ∧ n ≤ 200 then (if foundS (cellsP p) n then ((rd_T45 (cellsP p) (idxS (cellsP p) n)).f1, 0) else (⟨#[]⟩, 8)) else (⟨#[]⟩, 7)) else (⟨#[]⟩, 1)
def page_Get.f (a0 : ByteArray) (a1 : Int) : Option (ByteArray × Int) := if a0.size ≤ 100000 then some (getS a0 a1) else none
theorem cells_f {p : ByteArray} (hv : validS p) : page_cells.f p = some (cellsP p) := by unfold page_cells.f; rw [if_pos hv]; rfl
theorem found_lt {l : List S45} {n : Int} (h : foundS l n = true) : idxS l n < l.length := by
  unfold foundS at h
  split at h
  · rename_i c hc; exact (List.getElem?_eq_some_iff.1 hc).1
  · cases h
set_option maxHeartbeats 4000000 in
set_option maxRecDepth 100000 in
theorem page_Get.calls (a0 : ByteArray) (a1 : Int) (r1 : ByteArray) (r2 : Int) (w : World) (h : page_Get.f a0 a1 = some (r1, r2)) :
    Calls Try.prog 32 #[.string a0, .int .i64 a1] w fun e w' => e = .returned (.tuple #[.string r1, .int .i64 r2]) ∧ Below w.heap.size w w' := by
  unfold page_Get.f at h
  split at h
  rotate_left
  · cases h
  rename_i hs
  have HA := Aside0.mk (asked_f a0 a1 hs)
  have h := Option.some.inj h
  unfold getS at h
  by_cases hv : validS a0
  · rw [if_pos hv] at h
    rw [if_pos hv] at HA
    by_cases hn : 1 ≤ a1 ∧ a1 ≤ 200
    · rw [if_pos hn] at h
      rw [if_pos hn] at HA
      obtain ⟨k1, k2, k3, k4, k5⟩ := cellsP_ok hv
      have HK := Aside0.mk (And.intro k1 k2)
      have HCF := Aside0.mk (cells_f hv)
      have HFL := Aside0.mk (fun h => found_lt (l := cellsP a0) (n := a1) h)
      obtain ⟨l, hl⟩ : ∃ l, cellsP a0 = l := ⟨_, rfl⟩
      rw [hl] at h HK HCF HFL
      obtain ⟨ix, hix⟩ : ∃ ix, idxS l a1 = ix := ⟨_, rfl⟩
      rw [hix] at h HFL
      have HIX := Aside0.mk hix
      clear k1 k2 k3 hl hix
      by_cases hf : foundS l a1 = true
      · rw [if_pos hf] at h
        obtain ⟨rfl, rfl⟩ := Prod.mk.inj h
        clear h
        have hlt := HFL.out hf
        have HF := Aside0.mk hf
        clear hf
        go_enter Try.func32, Try.ntmps32
        go_wp2_with (go_at_call 65; refine (page_asked.calls a0 a1 0 _ HA.out).mono ?_; rintro e w1 ⟨rfl, hb1⟩)
        go_wp2_with (go_at_call 49; refine (page_cells.calls a0 l _ HCF.out).mono ?_; rintro e w2 ⟨v, rfl, hR, hb2⟩)
        have HB := Aside0.mk (below_then hb1 hb1.size hb2)
        obtain ⟨A, c, rfl, hc, hC⟩ := Kd.R_reads hR
        obtain ⟨ad, e1, hx0, hx1⟩ := at_T45 hC (ix : Int) (by omega) (by omega)
        cases e1
        simp only [Int.toNat_natCast] at hx0 hx1
        obtain ⟨X, hX⟩ : ∃ X, rd_T45 l (ix : Int) = X := ⟨_, rfl⟩
        rw [hX] at hx0 hx1
        have HX := Aside0.mk hX
        have hll := HK.out.2
        clear hR hX hb1 hb2
        go_wp2_with (go_at_call 66; refine (find_calls l (some ad) c a1 _ HK.out.1 (by omega) (by omega) hC).mono ?_; rw [HF.out, HIX.out]; rintro e w3 ⟨rfl, hb3⟩; have hy1 := (hb3.cell (World.block_lt_of_cell? w2 _ hx1)).trans hx1; have HB3 := Aside0.mk hb3; clear hb3)
        go_ret2
        rw [HX.out]
        exact ⟨rfl, below_then HB.out HB.out.size HB3.out⟩
      · have hf0 := Bool.eq_false_iff.2 hf
        rw [hf0, if_neg (by decide)] at h
        obtain ⟨rfl, rfl⟩ := Prod.mk.inj h
        clear h hf
        have HF := Aside0.mk hf0
        clear hf0
        go_enter Try.func32, Try.ntmps32
        go_wp2_with (go_at_call 65; refine (page_asked.calls a0 a1 0 _ HA.out).mono ?_; rintro e w1 ⟨rfl, hb1⟩)
        go_wp2_with (go_at_call 49; refine (page_cells.calls a0 l _ HCF.out).mono ?_; rintro e w2 ⟨v, rfl, hR, hb2⟩)
        have HB := Aside0.mk (below_then hb1 hb1.size hb2)
        obtain ⟨A, c, rfl, hc, hC⟩ := Kd.R_reads hR
        have hll := HK.out.2
        clear hR hb1 hb2
        go_wp2_with (go_at_call 66; refine (find_calls l A c a1 _ HK.out.1 (by omega) (by omega) hC).mono ?_; rw [HF.out, HIX.out]; rintro e w3 ⟨rfl, hb3⟩; have HB3 := Aside0.mk hb3; clear hb3)
        go_ret2
        exact ⟨rfl, below_then HB.out HB.out.size HB3.out⟩
    · rw [if_neg hn] at h
      rw [if_neg hn] at HA
      obtain ⟨rfl, rfl⟩ := Prod.mk.inj h
      clear h hn hv
      go_enter Try.func32, Try.ntmps32
      go_wp2_with (go_at_call 65; refine (page_asked.calls a0 a1 7 _ HA.out).mono ?_; rintro e w1 ⟨rfl, hb1⟩)
      go_ret2
      exact ⟨rfl, hb1⟩
  · rw [if_neg hv] at h
    rw [if_neg hv] at HA
    obtain ⟨rfl, rfl⟩ := Prod.mk.inj h
    clear h hv
    go_enter Try.func32, Try.ntmps32
    go_wp2_with (go_at_call 65; refine (page_asked.calls a0 a1 1 _ HA.out).mono ?_; rintro e w1 ⟨rfl, hb1⟩)
    go_ret2
    exact ⟨rfl, hb1⟩

end Go.Proofs.Ytemglmcddaeedaa.PA

namespace Go.Proofs.Ytemglmcddaeedaa.PA
open Go.RowKit Go.Proofs.YtemglmcddaeedaaW.PrintWords Go.Proofs.YtemglmcddaeedaaW.PrintLast Go.Proofs.YtemglmcddaeedaaW.PrintMore
attribute [local go_sem] max2_int min2_int max_two min_two max_three min_three max_four min_four   -- for this text's walks alone
set_option linter.unusedVariables false
set_option linter.unusedSimpArgs false

/-! ### page_PutAt: function 35 -/
def putAtS (p : ByteArray) (n : Int) (d : ByteArray) : ByteArray × Int :=
  if d.size = 0 then (⟨#[]⟩, 1) else if validS p then (if 1 ≤ n ∧ n ≤ 200 then (if foundS (cellsP p) n = true then (⟨#[]⟩, 6) else filledS p.size (insS (cellsP p) n d)) else (⟨#[]⟩, 7)) else (⟨#[]⟩, 1)
def page_PutAt.f (a0 : ByteArray) (a1 : Int) (a2 : ByteArray) : Option (ByteArray × Int) := if a0.size ≤ 100000 ∧ a2.size ≤ 100000 then some (putAtS a0 a1 a2) else none
set_option maxHeartbeats 1000000 in
set_option maxRecDepth 100000 in
theorem page_PutAt.calls (a0 : ByteArray) (a1 : Int) (a2 : ByteArray) (r1 : ByteArray) (r2 : Int) (w : World) (h : page_PutAt.f a0 a1 a2 = some (r1, r2)) :
    Calls Try.prog 35 #[.string a0, .int .i64 a1, .string a2] w fun e w' => e = .returned (.tuple #[.string r1, .int .i64 r2]) ∧ Below w.heap.size w w' := by
  unfold page_PutAt.f at h
  split at h
  rotate_left
  · cases h
  rename_i hs
  have HA := Aside0.mk (asked_f a0 a1 hs.1)
  have h := Option.some.inj h
  unfold putAtS at h
  by_cases hd : a2.size = 0
  · rw [if_pos hd] at h
    obtain ⟨rfl, rfl⟩ := Prod.mk.inj h
    have e1 := (toList_nil a2).2 hd
    clear h hd
    go_enter Try.func35, Try.ntmps35
    go_wp2
    go_ret2
    exact ⟨rfl, Below.refl _ _⟩
  rw [if_neg hd] at h
  have e1 : ¬ a2.toList = [] := fun e => hd ((toList_nil a2).1 e)
  have e2 : a2.toList.isEmpty = false := by simpa using e1
  have hd0 : 0 < a2.size := by omega
  by_cases hv : validS a0
  rotate_left
  · rw [if_neg hv] at h
    rw [if_neg hv] at HA
    obtain ⟨rfl, rfl⟩ := Prod.mk.inj h
    clear h hv
    go_enter Try.func35, Try.ntmps35
    go_wp2_with (go_at_call 65; refine (page_asked.calls a0 a1 1 _ HA.out).mono ?_; rintro e w1 ⟨rfl, hb1⟩)
    go_ret2
    exact ⟨rfl, hb1⟩
  rw [if_pos hv] at h
  rw [if_pos hv] at HA
  by_cases hn : 1 ≤ a1 ∧ a1 ≤ 200
  rotate_left
  · rw [if_neg hn] at h
    rw [if_neg hn] at HA
    obtain ⟨rfl, rfl⟩ := Prod.mk.inj h
    clear h hn hv
    go_enter Try.func35, Try.ntmps35
    go_wp2_with (go_at_call 65; refine (page_asked.calls a0 a1 7 _ HA.out).mono ?_; rintro e w1 ⟨rfl, hb1⟩)
    go_ret2
    exact ⟨rfl, hb1⟩
  rw [if_pos hn] at h
  rw [if_pos hn] at HA
  obtain ⟨k1, k2, k3, k4, k5⟩ := cellsP_ok hv
  have HCF := Aside0.mk (cells_f hv)
  obtain ⟨l, hl⟩ : ∃ l, cellsP a0 = l := ⟨_, rfl⟩
  rw [hl] at h HCF k1 k2 k3
  have HK := Aside0.mk (And.intro k1 k2)
  have hll := k2
  clear hl hv
  by_cases hf : foundS l a1 = true
  · rw [if_pos hf] at h
    have HF := Aside0.mk hf
    obtain ⟨rfl, rfl⟩ := Prod.mk.inj h
    obtain ⟨ix, hix⟩ : ∃ ix, idxS l a1 = ix := ⟨_, rfl⟩
    have HIX := Aside0.mk hix
    clear h hf hix k1 k3 hs hd
    go_enter Try.func35, Try.ntmps35
    go_wp2_with (go_at_call 65; refine (page_asked.calls a0 a1 0 _ HA.out).mono ?_; rintro e w1 ⟨rfl, hb1⟩)
    go_wp2_with (go_at_call 49; refine (page_cells.calls a0 l _ HCF.out).mono ?_; rintro e w2 ⟨v, rfl, hR, hb2⟩)
    have HB := Aside0.mk (below_then hb1 hb1.size hb2)
    obtain ⟨A, c, rfl, hc, hC⟩ := Kd.R_reads hR
    have HC := Aside0.mk hC
    clear hR hb1 hb2 hC
    go_wp2_with (go_at_call 66; refine (find_calls l A c a1 _ HK.out.1 (by omega) (by omega) HC.out).mono ?_; rw [HF.out, HIX.out]; rintro e w3 ⟨rfl, hb3⟩)
    go_ret2
    exact ⟨rfl, below_then HB.out HB.out.size hb3⟩
  · have hf0 := Bool.eq_false_iff.2 hf
    rw [hf0, if_neg (by decide)] at h
    have HF := Aside0.mk hf0
    obtain ⟨M, hM⟩ : ∃ M, insS l a1 a2 = M := ⟨_, rfl⟩
    have hMo : CellsOk M := by rw [← hM]; exact insS_ok k1 hn hd0 hf0
    have hMb : bytesL M ≤ 1000000000000 := by rw [← hM]; have hb := insS_bytes l a1 a2; have hs1 := hs; omega
    have HM := Aside0.mk (show page_filled.f (a0.size : Int) M = some (r1, r2) by rw [filled_f (by omega) (by omega) hMo hMb, ← hM]; exact congrArg some h)
    have HMD := Aside0.mk hM
    have HLT := Aside0.mk (fun h => found_lt (l := l) (n := a1) h)
    obtain ⟨ix, hix⟩ : ∃ ix, idxS l a1 = ix := ⟨_, rfl⟩
    have HIX := Aside0.mk hix
    have HIL := Aside0.mk (idxS_le l a1)
    clear h hf hM hMo hMb k1 k3 hix hs hd
    go_enter Try.func35, Try.ntmps35
    go_wp2_with (go_at_call 65; refine (page_asked.calls a0 a1 0 _ HA.out).mono ?_; rintro e w1 ⟨rfl, hb1⟩)
    go_wp2_with (go_at_call 49; refine (page_cells.calls a0 l _ HCF.out).mono ?_; rintro e w2 ⟨v, rfl, hR, hb2⟩)
    have HB := Aside0.mk (below_then hb1 hb1.size hb2)
    have HR := Aside0.mk hR
    obtain ⟨A, c, rfl, hc, hC⟩ := Kd.R_reads hR
    have HC := Aside0.mk hC
    clear hR hC
    go_wp2_with fail
    refine (find_calls l A c a1 _ HK.out.1 (by omega) (by omega) HC.out).mono ?_
    rw [HF.out, HIX.out]
    rintro e w3 ⟨rfl, hb3⟩
    have HR3 := Aside0.mk (Kd.R_below (Kd.R_lower HR.out (base' := w.heap.size) (by have := hb1.size; omega)) hb3)
    have HB3 := Aside0.mk (below_then HB.out HB.out.size hb3)
    have HL3 := Aside0.mk (fun k hk => own_lt (Kd.R_own HR3.out).choose_spec k hk)
    clear hb1 hb2 hb3
    have HDM := Aside0.mk (show l.take ix ++ (⟨a1, a2⟩ : S45) :: l.drop ix = M by rw [← HIX.out]; exact HMD.out)
    have hix2 : ix ≤ l.length := by rw [← HIX.out]; exact HIL.out
    go_wp2_with fail
    refine (insert_calls l ix hix2 ⟨a1, a2⟩ _ _ w.heap.size w3.heap.size (by omega) (by have := HB3.out.size; simp; omega) (Kd.R_below HR3.out (below_alloc (Below.refl _ w3) _)) (blk_new w3 _) (fun e => Nat.lt_irrefl _ (HL3.out _ e.symm))).mono ?_
    rintro e w4 ⟨v4, rfl, hR4, hB4⟩
    rw [HDM.out] at hR4
    obtain ⟨A9, c9, rfl, hc9, hC9⟩ := Kd.R_reads hR4
    have HC9 := Aside0.mk hC9
    have HB4 := Aside0.mk ((below_alloc HB3.out (.cells (cv ⟨a1, a2⟩).toArray 45)).trans hB4)
    clear hR4 hB4 hC9 HR3
    go_wp2_with fail
    refine (page_filled.calls (a0.size : Int) A9 c9 M r1 r2 _ HC9.out hc9 HM.out).mono ?_
    rintro e w9 ⟨rfl, hb9⟩
    go_wp2
    go_ret2
    exact ⟨rfl, below_then HB4.out HB4.out.size hb9⟩

end Go.Proofs.Ytemglmcddaeedaa.PA

namespace Go.Proofs.Ytemglmcddaeedaa.PA
open Go.RowKit Go.Proofs.YtemglmcddaeedaaW.PrintWords Go.Proofs.YtemglmcddaeedaaW.PrintLast Go.Proofs.YtemglmcddaeedaaW.PrintMore
attribute [local go_sem] max2_int min2_int max_two min_two max_three min_three max_four min_four   -- for this text's walks alone
set_option linter.unusedVariables false
set_option linter.unusedSimpArgs false

/-! ### page_Put: function 29 -/
def page_Put.j0 : Nat → ByteArray → ByteArray → Bool → Option (ByteArray × Int × Int)
  | 0, _, _, _ => none
  | k + 1, x0, x1, x16 => if x16 = true then (some ((⟨#[]⟩ : ByteArray), 0, 1)) else ((page_Next.f x0).bind fun bt259 => (if bt259.2 = 0 then ((page_PutAt.f x0 bt259.1 x1).bind fun bt261 => (if bt261.2 = 0 then (some (bt261.1, bt259.1, 0)) else (some ((⟨#[]⟩ : ByteArray), 0, bt261.2)))) else (some ((⟨#[]⟩ : ByteArray), 0, bt259.2))))
def page_Put.f (k : Nat) (a0 : ByteArray) (a1 : ByteArray) : Option (ByteArray × Int × Int) := (page_Valid.f a0).bind fun t258 => (if t258 = true then (page_Put.j0 k a0 a1 (a1.toList == ([] : List UInt8))) else (page_Put.j0 k a0 a1 true))
theorem page_Put.mono_l : ∀ k, (∀ y0 y1 y2, LeO (page_Put.j0 k y0 y1 y2) (page_Put.j0 (k + 1) y0 y1 y2))
  | 0 => fun _ _ _ r h => by simp [page_Put.j0] at h
  | k + 1 => by
    have ih0 := page_Put.mono_l k
    · intro y0 y1 y2
      unfold page_Put.j0
      repeat' first
      | (with_reducible exact ih0 _ _ _)
      | (with_reducible exact LeO.refl _)
      | (with_reducible exact LeO.none _)
      | (with_reducible refine LeO.ite ?_ ?_)
      | (with_reducible refine LeO.bind ?_ (fun _ => ?_))
      | exact ih0 _ _ _
      | exact LeO.none _
      | refine LeO.ite ?_ ?_
      | refine LeO.bind ?_ (fun _ => ?_)
theorem page_Put.mono : ∀ a0 a1 k, LeO (page_Put.f k a0 a1) (page_Put.f (k + 1) a0 a1) := by
  intro a0 a1 k
  have ih0 := page_Put.mono_l k
  unfold page_Put.f
  repeat' first
      | (with_reducible exact ih0 _ _ _)
      | (with_reducible exact LeO.refl _)
      | (with_reducible exact LeO.none _)
      | (with_reducible refine LeO.ite ?_ ?_)
      | (with_reducible refine LeO.bind ?_ (fun _ => ?_))
      | exact ih0 _ _ _
      | exact LeO.none _
      | refine LeO.ite ?_ ?_
      | refine LeO.bind ?_ (fun _ => ?_)
set_option maxHeartbeats 8000000 in
set_option maxRecDepth 100000 in
theorem page_Put.calls (k : Nat) (a0 : ByteArray) (a1 : ByteArray) (r1 : ByteArray) (r2 : Int) (r3 : Int) (w : World) (h : page_Put.f k a0 a1 = some (r1, r2, r3)) :
    Calls Try.prog 29 #[.string a0, .string a1] w fun e w' => e = .returned (.tuple #[.string r1, .int .i64 r2, .int .i64 r3]) ∧ Below w.heap.size w w' := by
  have HB := Aside0.mk (Below.refl w.heap.size w)
  have H : ((page_Valid.f a0).bind fun t258 => (if t258 = true then (page_Put.j0 k a0 a1 (a1.toList == ([] : List UInt8))) else (page_Put.j0 k a0 a1 true))) = some (r1, r2, r3) := h
  clear h
  have HC3 := Aside0.mk H
  clear H
  go_enter Try.func29, Try.ntmps29
  go_upto_region 1 with (fail)
  go_cut [16] (fun v16 wc => ∃ (kq : Nat) (x16_2 : Bool), v16 = .bool x16_2 ∧ Aside0 (page_Put.j0 kq a0 a1 x16_2 = some (r1, r2, r3)) ∧ Aside0 (kq ≤ k) ∧ Aside0 (Below w.heap.size w wc))
  case first =>
    have H := HC3.out
    clear HC3
    replace H := Option.bind_eq_some_iff.mp H
    obtain ⟨t258, A40, H⟩ := H
    replace H : (if t258 = true then (page_Put.j0 k a0 a1 (a1.toList == ([] : List UInt8))) else (page_Put.j0 k a0 a1 true)) = some (r1, r2, r3) := H
    have A4 := Aside0.mk A40
    clear A40
    by_cases c5 : t258 = true
    · subst c5
      have H1 : (page_Put.j0 k a0 a1 (a1.toList == ([] : List UInt8))) = some (r1, r2, r3) := by rw [if_pos rfl] at H; exact H
      clear H
      have H := H1
      clear H1
      have H' := Aside0.mk H
      clear H
      go_wp2_with (first | ((with_reducible refine gate_callee (f := 21) rfl ?_); refine goesL_ (some 11) rfl rfl Try.func21 (by kernel_rfl) rfl #[.string a0] rfl (by (try simp only [List.map_toArray, List.map_cons, List.map_nil]); first | done | rfl | (simp only [List.length_drop, List.length_take]; rfl)) ?_; (with_reducible refine (page_Valid.calls a0 true _ A4.out).mono ?_); rintro e w6 ⟨rfl, hb⟩; refine ⟨_, rfl, ?_⟩; have n0_ := Aside0.mk (below_step (by repeat (first | (with_reducible first | exact HB.out | apply below_alloc | apply pw_below_drewN | apply below_drew1) | exact HB.out)) hb); clear HB; have HB := n0_; clear n0_; (try clear hb); (try clear hb2); (try clear hk); (try clear hi)))
      go_meet
      case rel => exact ⟨_, ((a1.toList == ([] : List UInt8))), (by first | rfl | (simp; done) | (simp [*]; done)), H', ⟨by first | omega | exact Nat.le_refl _⟩, ⟨by repeat (first | (with_reducible first | exact HB.out | apply below_alloc | apply pw_below_drewN | apply below_drew1) | exact HB.out)⟩⟩
    · replace c5 := Bool.eq_false_iff.mpr c5
      subst c5
      have H1 : (page_Put.j0 k a0 a1 true) = some (r1, r2, r3) := by rw [if_neg (show ¬ (false = true) by decide)] at H; exact H
      clear H
      have H := H1
      clear H1
      have H' := Aside0.mk H
      clear H
      go_wp2_with (first | ((with_reducible refine gate_callee (f := 21) rfl ?_); refine goesL_ (some 11) rfl rfl Try.func21 (by kernel_rfl) rfl #[.string a0] rfl (by (try simp only [List.map_toArray, List.map_cons, List.map_nil]); first | done | rfl | (simp only [List.length_drop, List.length_take]; rfl)) ?_; (with_reducible refine (page_Valid.calls a0 false _ A4.out).mono ?_); rintro e w7 ⟨rfl, hb⟩; refine ⟨_, rfl, ?_⟩; have n0_ := Aside0.mk (below_step (by repeat (first | (with_reducible first | exact HB.out | apply below_alloc | apply pw_below_drewN | apply below_drew1) | exact HB.out)) hb); clear HB; have HB := n0_; clear n0_; (try clear hb); (try clear hb2); (try clear hk); (try clear hi)))
      go_meet
      case rel => exact ⟨_, (true), (by first | rfl | (simp; done) | (simp [*]; done)), H', ⟨by first | omega | exact Nat.le_refl _⟩, ⟨by repeat (first | (with_reducible first | exact HB.out | apply below_alloc | apply pw_below_drewN | apply below_drew1) | exact HB.out)⟩⟩
  case rest =>
    clear HC3
    try clear c2
    try clear p2
    try clear c5
    obtain ⟨kq, x16_2, rfl, HA, HJ2, HB⟩ := hcut
    cases kq with
    | zero => exact absurd HA.out (by simp [page_Put.j0])
    | succ kj2 =>
      have H := HA.out
      clear HA
      simp only [page_Put.j0] at H
      by_cases c8 : x16_2 = true
      · subst c8
        have H1 : (some ((⟨#[]⟩ : ByteArray), 0, 1)) = some (r1, r2, r3) := by rw [if_pos rfl] at H; exact H
        clear H
        have H := H1
        clear H1
        simp only [Option.some.injEq, Prod.mk.injEq] at H
        obtain ⟨rfl, rfl, rfl⟩ := H
        go_wp2
        go_ret3
        exact ⟨by first | rfl | (simp [errW_none, errW_some] <;> rfl) | (simp [*, errW_none, errW_some] <;> rfl), by repeat (first | (with_reducible first | exact HB.out | apply below_alloc | apply pw_below_drewN | apply below_drew1) | exact HB.out)⟩
      · replace c8 := Bool.eq_false_iff.mpr c8
        subst c8
        have H1 : ((page_Next.f a0).bind fun bt259 => (if bt259.2 = 0 then ((page_PutAt.f a0 bt259.1 a1).bind fun bt261 => (if bt261.2 = 0 then (some (bt261.1, bt259.1, 0)) else (some ((⟨#[]⟩ : ByteArray), 0, bt261.2)))) else (some ((⟨#[]⟩ : ByteArray), 0, bt259.2)))) = some (r1, r2, r3) := by rw [if_neg (show ¬ (false = true) by decide)] at H; exact H
        clear H
        have H := H1
        clear H1
        replace H := Option.bind_eq_some_iff.mp H
        obtain ⟨⟨t259, t260⟩, A90, H⟩ := H
        replace H : (if t260 = 0 then ((page_PutAt.f a0 t259 a1).bind fun bt261 => (if bt261.2 = 0 then (some (bt261.1, t259, 0)) else (some ((⟨#[]⟩ : ByteArray), 0, bt261.2)))) else (some ((⟨#[]⟩ : ByteArray), 0, t260))) = some (r1, r2, r3) := H
        have A9 := Aside0.mk A90
        clear A90
        by_cases c10 : t260 = 0
        · rw [if_pos c10] at H
          have c10b0 : (t260 == 0) = true := beq_iff_eq.mpr c10
          have c10b1 : (t260 != 0) = false := bne_eq_false_iff_eq.mpr c10
          clear c10
          replace H := Option.bind_eq_some_iff.mp H
          obtain ⟨⟨t261, t262⟩, A110, H⟩ := H
          replace H : (if t262 = 0 then (some (t261, t259, 0)) else (some ((⟨#[]⟩ : ByteArray), 0, t262))) = some (r1, r2, r3) := H
          have A11 := Aside0.mk A110
          clear A110
          by_cases c12 : t262 = 0
          · rw [if_pos c12] at H
            have c12b0 : (t262 == 0) = true := beq_iff_eq.mpr c12
            have c12b1 : (t262 != 0) = false := bne_eq_false_iff_eq.mpr c12
            clear c12
            simp only [Option.some.injEq, Prod.mk.injEq] at H
            obtain ⟨rfl, rfl, rfl⟩ := H
            go_wp2_with (first | ((with_reducible refine gate_callee (f := 27) rfl ?_); refine goesL_ (some 19) rfl rfl Try.func27 (by kernel_rfl) rfl #[.string a0] rfl (by (try simp only [List.map_toArray, List.map_cons, List.map_nil]); first | done | rfl | (simp only [List.length_drop, List.length_take]; rfl)) ?_; (with_reducible refine (page_Next.calls a0 t259 t260 _ A9.out).mono ?_); rintro e w13 ⟨rfl, hb⟩; refine ⟨_, rfl, ?_⟩; have n0_ := Aside0.mk (below_step (by repeat (first | (with_reducible first | exact HB.out | apply below_alloc | apply pw_below_drewN | apply below_drew1) | exact HB.out)) hb); clear HB; have HB := n0_; clear n0_; (try clear hb); (try clear hb2); (try clear hk); (try clear hi)) | ((with_reducible refine gate_callee (f := 35) rfl ?_); refine goesL_ (some 29) rfl rfl Try.func35 (by kernel_rfl) rfl #[.string a0, .int .i64 t259, .string a1] rfl (by (try simp only [List.map_toArray, List.map_cons, List.map_nil]); first | done | rfl | (simp only [List.length_drop, List.length_take]; rfl)) ?_; (with_reducible refine (page_PutAt.calls a0 t259 a1 t261 t262 _ A11.out).mono ?_); rintro e w14 ⟨rfl, hb⟩; refine ⟨_, rfl, ?_⟩; have n0_ := Aside0.mk (below_step (by repeat (first | (with_reducible first | exact HB.out | apply below_alloc | apply pw_below_drewN | apply below_drew1) | exact HB.out)) hb); clear HB; have HB := n0_; clear n0_; (try clear hb); (try clear hb2); (try clear hk); (try clear hi)))
            go_ret3
            exact ⟨by first | rfl | (simp [errW_none, errW_some] <;> rfl) | (simp [*, errW_none, errW_some] <;> rfl), by repeat (first | (with_reducible first | exact HB.out | apply below_alloc | apply pw_below_drewN | apply below_drew1) | exact HB.out)⟩
          · rw [if_neg c12] at H
            have c12b0 : (t262 == 0) = false := beq_eq_false_iff_ne.mpr c12
            have c12b1 : (t262 != 0) = true := bne_iff_ne.mpr c12
            simp only [Option.some.injEq, Prod.mk.injEq] at H
            obtain ⟨rfl, rfl, rfl⟩ := H
            go_wp2_with (first | ((with_reducible refine gate_callee (f := 27) rfl ?_); refine goesL_ (some 19) rfl rfl Try.func27 (by kernel_rfl) rfl #[.string a0] rfl (by (try simp only [List.map_toArray, List.map_cons, List.map_nil]); first | done | rfl | (simp only [List.length_drop, List.length_take]; rfl)) ?_; (with_reducible refine (page_Next.calls a0 t259 t260 _ A9.out).mono ?_); rintro e w15 ⟨rfl, hb⟩; refine ⟨_, rfl, ?_⟩; have n0_ := Aside0.mk (below_step (by repeat (first | (with_reducible first | exact HB.out | apply below_alloc | apply pw_below_drewN | apply below_drew1) | exact HB.out)) hb); clear HB; have HB := n0_; clear n0_; (try clear hb); (try clear hb2); (try clear hk); (try clear hi)) | ((with_reducible refine gate_callee (f := 35) rfl ?_); refine goesL_ (some 29) rfl rfl Try.func35 (by kernel_rfl) rfl #[.string a0, .int .i64 t259, .string a1] rfl (by (try simp only [List.map_toArray, List.map_cons, List.map_nil]); first | done | rfl | (simp only [List.length_drop, List.length_take]; rfl)) ?_; (with_reducible refine (page_PutAt.calls a0 t259 a1 t261 t262 _ A11.out).mono ?_); rintro e w16 ⟨rfl, hb⟩; refine ⟨_, rfl, ?_⟩; have n0_ := Aside0.mk (below_step (by repeat (first | (with_reducible first | exact HB.out | apply below_alloc | apply pw_below_drewN | apply below_drew1) | exact HB.out)) hb); clear HB; have HB := n0_; clear n0_; (try clear hb); (try clear hb2); (try clear hk); (try clear hi)))
            go_ret3
            exact ⟨by first | rfl | (simp [errW_none, errW_some] <;> rfl) | (simp [*, errW_none, errW_some] <;> rfl), by repeat (first | (with_reducible first | exact HB.out | apply below_alloc | apply pw_below_drewN | apply below_drew1) | exact HB.out)⟩
        · rw [if_neg c10] at H
          have c10b0 : (t260 == 0) = false := beq_eq_false_iff_ne.mpr c10
          have c10b1 : (t260 != 0) = true := bne_iff_ne.mpr c10
          simp only [Option.some.injEq, Prod.mk.injEq] at H
          obtain ⟨rfl, rfl, rfl⟩ := H
          go_wp2_with (first | ((with_reducible refine gate_callee (f := 27) rfl ?_); refine goesL_ (some 19) rfl rfl Try.func27 (by kernel_rfl) rfl #[.string a0] rfl (by (try simp only [List.map_toArray, List.map_cons, List.map_nil]); first | done | rfl | (simp only [List.length_drop, List.length_take]; rfl)) ?_; (with_reducible refine (page_Next.calls a0 t259 t260 _ A9.out).mono ?_); rintro e w17 ⟨rfl, hb⟩; refine ⟨_, rfl, ?_⟩; have n0_ := Aside0.mk (below_step (by repeat (first | (with_reducible first | exact HB.out | apply below_alloc | apply pw_below_drewN | apply below_drew1) | exact HB.out)) hb); clear HB; have HB := n0_; clear n0_; (try clear hb); (try clear hb2); (try clear hk); (try clear hi)))
          go_ret3
          exact ⟨by first | rfl | (simp [errW_none, errW_some] <;> rfl) | (simp [*, errW_none, errW_some] <;> rfl), by repeat (first | (with_reducible first | exact HB.out | apply below_alloc | apply pw_below_drewN | apply below_drew1) | exact HB.out)⟩

end Go.Proofs.Ytemglmcddaeedaa.PA

namespace Go.Proofs.Ytemglmcddaeedaa.PA
open Go.RowKit Go.Proofs.YtemglmcddaeedaaW.PrintWords Go.Proofs.YtemglmcddaeedaaW.PrintLast Go.Proofs.YtemglmcddaeedaaW.PrintMore
attribute [local go_sem] max2_int min2_int max_two min_two max_three min_three max_four min_four   -- for this text's walks alone
set_option linter.unusedVariables false
set_option linter.unusedSimpArgs false

/-! ### page_delete: function 0 -/
theorem run_clear_cell (w : World) (ty : TypeId) (g o c : Nat) (cur : Array Value) (hg : w.heap[g]? = some (.cells cur 45 (0, 0))) (hfit : o + 2 ≤ cur.size) :
    (Builtin.clear_ #[22] ty #[.slice (some ⟨g, o, none⟩) 1 c]).run Try.prog w = .ok (.tuple #[]) (w.setRow g (splice cur.toList o [.int .i64 0, .string ⟨#[]⟩]).toArray) := by
  have hst := run_storeCells_at Try.prog g o 45 [.int .i64 0, .string ⟨#[]⟩] 0 cur w hg (by simpa using hfit) (by intro v hv; simp at hv; rcases hv with rfl | rfl <;> rfl)
  have hv : ∀ w, (zeroValue 45).run Try.prog w = .ok (.agg #[.int .i64 0, .string ⟨#[]⟩]) w := fun w => by kernel_rfl
  simp only [Nat.add_zero] at hst
  have hz : (Builtin.zeroCells (Value.agg #[.int .i64 0, .string ⟨#[]⟩]).cells 1).toList = [.int .i64 0, .string ⟨#[]⟩] := by simp [Builtin.zeroCells, Value.cells]; rfl
  simp only [Builtin.clear_, run_underlying Try.underlying22, hv, Sem.run_bind, Sem.run_pure, Result.andThen_ok, List.getElem?_toArray, List.getElem?_cons_zero, hz, hst, splice, List.append_assoc]
set_option maxHeartbeats 4000000 in
set_option maxRecDepth 100000 in
theorem delete_mid (l : List S45) (i : Nat) (hi : i + 1 < l.length) (w : World) (g cap : Nat) (sp : List Value) (hcap : l.length ≤ cap) (hm : cap ≤ maxLen) (hsp : sp.length = (cap - l.length) * 2)
    (hg : w.heap[g]? = some (.cells (encs_ cv l ++ sp).toArray 45 (0, 0))) :
    Calls Try.prog 67 #[.slice (some ⟨g, 0, none⟩) l.length cap, .int .i64 (i : Int), .int .i64 ((i : Int) + 1)] w fun e w' =>
      e = .returned (.slice (some ⟨g, 0, none⟩) (l.length - 1) cap) ∧ (∃ SP, SP.length = (cap - (l.length - 1)) * 2 ∧ w'.heap[g]? = some (.cells (encs_ cv (l.take i ++ l.drop (i + 1)) ++ SP).toArray 45 (0, 0))) ∧ w.grownBy w' (some g) := by
  obtain ⟨n, hn⟩ : ∃ n, l.length = n := ⟨_, rfl⟩
  unfold maxLen at hm
  have hcl : (encs_ cv (l.drop (i + 1))).length = (n - (i + 1)) * 2 := by rw [encs_len cv_len, List.length_drop, hn]
  have hcs := encs_drop (enc := cv) cv_len l (i + 1) (by omega)
  have hct := encs_take (enc := cv) cv_len l i (by omega)
  have hll : (encs_ cv l).length = n * 2 := by rw [encs_len cv_len, hn]
  rw [hn] at hcap hi hsp ⊢
  obtain ⟨R1, hR1⟩ : ∃ R1 : List Value, splice (encs_ cv l ++ sp) (i * 2) (encs_ cv (l.drop (i + 1))) = R1 := ⟨_, rfl⟩
  obtain ⟨W1, hW1⟩ : ∃ W1, w.drew.setRow g R1.toArray = W1 := ⟨_, rfl⟩
  have hG1 : W1.heap[g]? = some (.cells R1.toArray 45 (0, 0)) := by rw [← hW1]; exact setRow_heap w.drew g _ _ _ _ (blk_drew hg)
  have hRl : R1.length = cap * 2 := by
    rw [← hR1]
    simp only [splice, List.length_append, List.length_take, List.length_drop, hcl, hll, hsp]
    omega
  have hap : ∀ ty a c, (n - (i + 1) = 0 ∨ a = ⟨g, (i + 1) * 2, none⟩) → (Builtin.append_ #[22, 22] ty #[.slice (some ⟨g, 0, none⟩) i cap, .slice (some a) (n - (i + 1)) c]).run Try.prog w.drew = .ok (.slice (some ⟨g, 0, none⟩) (n - 1) cap) W1 := fun ty a c ha => by
    rw [show n - 1 = i + (n - (i + 1)) by omega]
    rw [← hW1, ← hR1]
    refine run_append_roomK w.drew _ ty 45 2 Try.underlying22 (by kernel_rfl) g i cap a (n - (i + 1)) c _ 45 (blk_drew hg) (encs_ cv (l.drop (i + 1))) hcl (fun j u hj => ?_) (encs_oneCell cv_one _) (by omega) (by simp only [List.size_toArray, List.length_append, hcl, hll, hsp]; omega)
    rcases ha with h0 | rfl
    · have := (List.getElem?_eq_some_iff.1 hj).1; omega
    · rw [Addr.add_lit, blk_cell (blk_drew hg)]
      rw [← hcs, List.getElem?_drop] at hj
      simp only [List.getElem?_toArray]
      rw [List.getElem?_append_left (List.getElem?_eq_some_iff.1 hj).1]
      exact hj
  have hcl2 : ∀ ty c, (Builtin.clear_ #[22] ty #[.slice (some ⟨g, (n - 1) * 2, none⟩) (n - (n - 1)) c]).run Try.prog W1 = .ok (.tuple #[]) (W1.setRow g (splice R1 ((n - 1) * 2) [.int .i64 0, .string ⟨#[]⟩]).toArray) := fun ty c => by
    rw [show n - (n - 1) = 1 by omega]
    exact run_clear_cell W1 ty g _ c _ hG1 (by simp only [List.size_toArray, hRl]; omega)
  obtain ⟨R2, hR2⟩ : ∃ R2 : List Value, splice R1 ((n - 1) * 2) [.int .i64 0, .string ⟨#[]⟩] = R2 := ⟨_, rfl⟩
  rw [hR2] at hcl2
  have hfin : ∃ SP : List Value, SP.length = (cap - (n - 1)) * 2 ∧ R2 = encs_ cv (l.take i ++ l.drop (i + 1)) ++ SP := by
    have hT : (encs_ cv (l.take i ++ l.drop (i + 1))).length = (n - 1) * 2 := by
      rw [encs_len cv_len, List.length_append, List.length_take, List.length_drop, hn]; congr 1; omega
    have e1 : R1.take ((n - 1) * 2) = encs_ cv (l.take i ++ l.drop (i + 1)) := by
      rw [← hR1]
      unfold splice
      have h0 : (encs_ cv l ++ sp).take (i * 2) = encs_ cv (l.take i) := by rw [List.take_append_of_le_length (by omega), hct]
      rw [h0, ← List.append_assoc, ← encs_app, List.take_left' hT]
    refine ⟨[.int .i64 0, .string ⟨#[]⟩] ++ R1.drop ((n - 1) * 2 + 2), ?_, ?_⟩
    · simp only [List.length_append, List.length_cons, List.length_nil, List.length_drop, hRl]; omega
    · rw [← hR2]; unfold splice; rw [e1]; rfl
  have hz2 : ¬ ((i : Int) = (i : Int) + 1) := by omega
  have hw1 : IntKind.i64.wrap ((i : Int) + 1) = (i : Int) + 1 := by rw [IntKind.wrap_i64]; omega
  have hb1 : (0 : Int) ≤ (i : Int) + 1 := by omega
  have htn : ((i : Int) + 1).toNat = i + 1 := by omega
  have hin : i ≤ n := by omega
  have hin1 : i + 1 ≤ n := by omega
  have hic : i ≤ cap := by omega
  have hjc : i + 1 ≤ cap := by omega
  have hi3 : (i : Int) + 1 ≤ (n : Int) := by omega
  have HN := Aside0.mk hn
  have HX := Aside0.mk (And.intro hW1 (And.intro hG1 hfin))
  have HE : i + (n - (i + 1)) = n - 1 := by omega
  have HE := Aside0.mk HE
  clear hg hn hcl hcs hct hll hsp hW1 hG1 hRl hfin hR1 hR2
  have hcn : ¬ (cap = n - 1) := by omega
  have hnn : (n - 1 : Nat) ≤ n := by omega
  have hii : (i : Int) ≤ (i : Int) + 1 := by omega
  have hci : ¬ (cap = i + 1) := by omega
  go_enter Try.func67, Try.ntmps67
  go_wp2_with fail
  go_region_law (refine step_append_runE rfl (.tmp 22) (.tmp 25) 22 22 rfl (.slice (some ⟨g, 0, none⟩) i cap) (.slice (some ⟨g, (i + 1) * 2, none⟩) (n - (i + 1)) (cap - (i + 1))) (by simp [Act.eval, Act.put]) (by simp [Act.eval, Act.put]) (hap 22 ⟨g, (i + 1) * 2, none⟩ (cap - (i + 1)) (.inr rfl)) ?_)
  go_wp2_with (at_builtin; refine wpList_clear_runE _ rfl (.tmp 31) 22 rfl _ rfl (hcl2 _ _) ?_)
  go_ret
  obtain ⟨SP, h1, h2⟩ := HX.out.2.2
  refine ⟨rfl, ⟨SP, h1, ?_⟩, ?_⟩
  · rw [← h2]; exact setRow_heap W1 g _ _ _ _ HX.out.2.1
  · rw [← HX.out.1]; exact (grown_drew w _).trans ((grown_setRow _ _ _).trans (by rw [HX.out.1]; exact grown_setRow _ _ _))
set_option maxHeartbeats 4000000 in
set_option maxRecDepth 100000 in
theorem delete_last (l : List S45) (i : Nat) (hi : i + 1 = l.length) (w : World) (g cap : Nat) (sp : List Value) (hcap : l.length ≤ cap) (hm : cap ≤ maxLen) (hsp : sp.length = (cap - l.length) * 2)
    (hg : w.heap[g]? = some (.cells (encs_ cv l ++ sp).toArray 45 (0, 0))) :
    Calls Try.prog 67 #[.slice (some ⟨g, 0, none⟩) l.length cap, .int .i64 (i : Int), .int .i64 ((i : Int) + 1)] w fun e w' =>
      e = .returned (.slice (some ⟨g, 0, none⟩) (l.length - 1) cap) ∧ (∃ SP, SP.length = (cap - (l.length - 1)) * 2 ∧ w'.heap[g]? = some (.cells (encs_ cv (l.take i ++ l.drop (i + 1)) ++ SP).toArray 45 (0, 0))) ∧ w.grownBy w' (some g) := by
  unfold maxLen at hm
  have hct := encs_take (enc := cv) cv_len l i (by omega)
  have hd : l.drop (i + 1) = [] := List.drop_of_length_le (by omega)
  have hll : (encs_ cv l).length = (i + 1) * 2 := by rw [encs_len cv_len, hi]
  rw [hd, List.append_nil]
  rw [← hi] at hcap hsp ⊢
  obtain ⟨R2, hR2⟩ : ∃ R2 : List Value, splice (encs_ cv l ++ sp) (i * 2) [.int .i64 0, .string ⟨#[]⟩] = R2 := ⟨_, rfl⟩
  have hcl2 : ∀ ty c, (Builtin.clear_ #[22] ty #[.slice (some ⟨g, i * 2, none⟩) 1 c]).run Try.prog w.drew = .ok (.tuple #[]) (w.drew.setRow g R2.toArray) := fun ty c => by
    rw [← hR2]
    exact run_clear_cell w.drew ty g _ c _ (blk_drew hg) (by simp only [List.size_toArray, List.length_append, hll]; omega)
  have hfin : ∃ SP : List Value, SP.length = (cap - i) * 2 ∧ R2 = encs_ cv (l.take i) ++ SP := by
    have h0 : (encs_ cv l ++ sp).take (i * 2) = encs_ cv (l.take i) := by rw [List.take_append_of_le_length (by omega), hct]
    refine ⟨[.int .i64 0, .string ⟨#[]⟩] ++ (encs_ cv l ++ sp).drop (i * 2 + 2), ?_, ?_⟩
    · simp only [List.length_append, List.length_cons, List.length_nil, List.length_drop, hll, hsp]; omega
    · rw [← hR2]; unfold splice; rw [h0]; rfl
  have hz2 : ¬ ((i : Int) = (i : Int) + 1) := by omega
  have hw1 : IntKind.i64.wrap ((i : Int) + 1) = (i : Int) + 1 := by rw [IntKind.wrap_i64]; omega
  have hb1 : (0 : Int) ≤ (i : Int) + 1 := by omega
  have htn : ((i : Int) + 1).toNat = i + 1 := by omega
  have hic : i ≤ cap := by omega
  have hii : (i : Int) ≤ (i : Int) + 1 := by omega
  have hcn : ¬ (cap = i) := by omega
  have HX := Aside0.mk (And.intro hg hfin)
  clear hg hct hd hll hsp hfin hR2 hi
  have hii2 : (i : Int) + 1 ≤ (cap : Int) := by omega
  by_cases hci : cap = i + 1
  · subst hci
    go_enter Try.func67, Try.ntmps67
    go_wp2_with fail
    go_region
    all_goals
      go_wp2_with (at_builtin; refine wpList_clear_runE _ rfl (.tmp 31) 22 rfl _ rfl (hcl2 _ _) ?_)
      go_ret
      obtain ⟨SP, h1, h2⟩ := HX.out.2
      exact ⟨rfl, ⟨SP, h1, by rw [← h2]; exact setRow_heap w.drew g _ _ _ _ (blk_drew HX.out.1)⟩, (grown_drew w _).trans (grown_setRow _ _ _)⟩
  · go_enter Try.func67, Try.ntmps67
    go_wp2_with fail
    go_region
    all_goals
      go_wp2_with (at_builtin; refine wpList_clear_runE _ rfl (.tmp 31) 22 rfl _ rfl (hcl2 _ _) ?_)
      go_ret
      obtain ⟨SP, h1, h2⟩ := HX.out.2
      exact ⟨rfl, ⟨SP, h1, by rw [← h2]; exact setRow_heap w.drew g _ _ _ _ (blk_drew HX.out.1)⟩, (grown_drew w _).trans (grown_setRow _ _ _)⟩
theorem delete_calls (l : List S45) (i : Nat) (hi : i < l.length) (v : Value) (w : World) (base : Nat) (hbase : base ≤ w.heap.size) (HO : Kd.R k45 45 w base (fun _ => True) v l) :
    Calls Try.prog 67 #[v, .int .i64 (i : Int), .int .i64 ((i : Int) + 1)] w fun e w' =>
      ∃ v', e = .returned v' ∧ Kd.R k45 45 w' base (fun _ => True) v' (l.take i ++ l.drop (i + 1)) ∧ Below base w w' := by
  rcases row_of_R HO with ⟨rfl, rfl⟩ | ⟨g, cap, sp, rfl, hb, hn, hm, hs, hg⟩
  · simp at hi
  · have hll : (l.take i ++ l.drop (i + 1)).length = l.length - 1 := by simp; omega
    have key : Calls Try.prog 67 #[.slice (some ⟨g, 0, none⟩) l.length cap, .int .i64 (i : Int), .int .i64 ((i : Int) + 1)] w fun e w' =>
      e = .returned (.slice (some ⟨g, 0, none⟩) (l.length - 1) cap) ∧ (∃ SP, SP.length = (cap - (l.length - 1)) * 2 ∧ w'.heap[g]? = some (.cells (encs_ cv (l.take i ++ l.drop (i + 1)) ++ SP).toArray 45 (0, 0))) ∧ w.grownBy w' (some g) := by
      by_cases h : i + 1 = l.length
      · exact delete_last l i h w g cap sp hn hm hs hg
      · exact delete_mid l i (by omega) w g cap sp hn hm hs hg
    refine key.mono ?_
    rintro e w' ⟨rfl, ⟨SP, h1, h3⟩, h2⟩
    refine ⟨_, rfl, R_of_row (.inr ⟨g, cap, SP, by rw [hll], hb, by omega, hm, by rw [hll]; exact h1, h3⟩), ?_⟩
    exact (Below.refl base w).grown h2 hbase (by intro k hk; cases hk; exact hb)

end Go.Proofs.Ytemglmcddaeedaa.PA

namespace Go.Proofs.Ytemglmcddaeedaa.PA
open Go.RowKit Go.Proofs.YtemglmcddaeedaaW.PrintWords Go.Proofs.YtemglmcddaeedaaW.PrintLast Go.Proofs.YtemglmcddaeedaaW.PrintMore
attribute [local go_sem] max2_int min2_int max_two min_two max_three min_three max_four min_four   -- for this text's walks alone
set_option linter.unusedVariables false
set_option linter.unusedSimpArgs false

/-! ### page_Drop: function 30 -/
def dropS (p : ByteArray) (n : Int) : ByteArray × Int :=
  if validS p then (if 1 ≤ n ∧ n ≤ 200 then (if foundS (cellsP p) n = true then filledS p.size (delS (cellsP p) n) else (⟨#[]⟩, 8)) else (⟨#[]⟩, 7)) else (⟨#[]⟩, 1)
def page_Drop.f (a0 : ByteArray) (a1 : Int) : Option (ByteArray × Int) := if a0.size ≤ 100000 then some (dropS a0 a1) else none
set_option maxHeartbeats 1000000 in
set_option maxRecDepth 100000 in
theorem page_Drop.calls (a0 : ByteArray) (a1 : Int) (r1 : ByteArray) (r2 : Int) (w : World) (h : page_Drop.f a0 a1 = some (r1, r2)) :
    Calls Try.prog 30 #[.string a0, .int .i64 a1] w fun e w' => e = .returned (.tuple #[.string r1, .int .i64 r2]) ∧ Below w.heap.size w w' := by
  unfold page_Drop.f at h
  split at h
  rotate_left
  · cases h
  rename_i hs
  have HA := Aside0.mk (asked_f a0 a1 hs)
  have h := Option.some.inj h
  unfold dropS at h
  by_cases hv : validS a0
  rotate_left
  · rw [if_neg hv] at h
    rw [if_neg hv] at HA
    obtain ⟨rfl, rfl⟩ := Prod.mk.inj h
    clear h hv
    go_enter Try.func30, Try.ntmps30
    go_wp2_with (go_at_call 65; refine (page_asked.calls a0 a1 1 _ HA.out).mono ?_; rintro e w1 ⟨rfl, hb1⟩)
    go_ret2
    exact ⟨rfl, hb1⟩
  rw [if_pos hv] at h
  rw [if_pos hv] at HA
  by_cases hn : 1 ≤ a1 ∧ a1 ≤ 200
  rotate_left
  · rw [if_neg hn] at h
    rw [if_neg hn] at HA
    obtain ⟨rfl, rfl⟩ := Prod.mk.inj h
    clear h hn hv
    go_enter Try.func30, Try.ntmps30
    go_wp2_with (go_at_call 65; refine (page_asked.calls a0 a1 7 _ HA.out).mono ?_; rintro e w1 ⟨rfl, hb1⟩)
    go_ret2
    exact ⟨rfl, hb1⟩
  rw [if_pos hn] at h
  rw [if_pos hn] at HA
  obtain ⟨k1, k2, k3, k4, k5⟩ := cellsP_ok hv
  have HCF := Aside0.mk (cells_f hv)
  obtain ⟨l, hl⟩ : ∃ l, cellsP a0 = l := ⟨_, rfl⟩
  rw [hl] at h HCF k1 k2 k3
  have HK := Aside0.mk (And.intro k1 k2)
  have hll := k2
  clear hl hv
  by_cases hf : foundS l a1 = true
  · rw [if_pos hf] at h
    have HF := Aside0.mk hf
    obtain ⟨M, hM⟩ : ∃ M, delS l a1 = M := ⟨_, rfl⟩
    have hMo : CellsOk M := by rw [← hM]; exact delS_ok k1 a1
    have hMb : bytesL M ≤ 1000000000000 := by rw [← hM]; have hb := delS_bytes l a1; have hs1 := hs; omega
    have HM := Aside0.mk (show page_filled.f (a0.size : Int) M = some (r1, r2) by rw [filled_f (by omega) (by omega) hMo hMb, ← hM]; exact congrArg some h)
    have HMD := Aside0.mk hM
    have HLT := Aside0.mk (fun h => found_lt (l := l) (n := a1) h)
    obtain ⟨ix, hix⟩ : ∃ ix, idxS l a1 = ix := ⟨_, rfl⟩
    have HIX := Aside0.mk hix
    have HIL := Aside0.mk (idxS_le l a1)
    clear h hf hM hMo hMb k1 k3 hix
    go_enter Try.func30, Try.ntmps30
    go_wp2_with (go_at_call 65; refine (page_asked.calls a0 a1 0 _ HA.out).mono ?_; rintro e w1 ⟨rfl, hb1⟩)
    go_wp2_with (go_at_call 49; refine (page_cells.calls a0 l _ HCF.out).mono ?_; rintro e w2 ⟨v, rfl, hR, hb2⟩)
    have HB := Aside0.mk (below_then hb1 hb1.size hb2)
    have HR := Aside0.mk hR
    obtain ⟨A, c, rfl, hc, hC⟩ := Kd.R_reads hR
    have HC := Aside0.mk hC
    clear hR hC
    go_wp2_with fail
    refine (find_calls l A c a1 _ HK.out.1 (by omega) (by omega) HC.out).mono ?_
    rw [HF.out, HIX.out]
    rintro e w3 ⟨rfl, hb3⟩
    have hlt := HLT.out HF.out
    rw [HIX.out] at hlt
    have HR3 := Aside0.mk (Kd.R_below (Kd.R_lower HR.out (base' := w.heap.size) (by have := hb1.size; omega)) hb3)
    have HB3 := Aside0.mk (below_then HB.out HB.out.size hb3)
    clear hb1 hb2 hb3
    have HDM := Aside0.mk (show l.take ix ++ l.drop (ix + 1) = M by rw [← HIX.out]; exact HMD.out)
    have hi1 : (ix : Int) ≤ 1000 := by omega
    go_wp2_with fail
    refine (delete_calls l ix hlt _ _ w.heap.size HB3.out.size HR3.out).mono ?_
    rintro e w4 ⟨v4, rfl, hR4, hB4⟩
    rw [HDM.out] at hR4
    obtain ⟨A9, c9, rfl, hc9, hC9⟩ := Kd.R_reads hR4
    have HC9 := Aside0.mk hC9
    have HB4 := Aside0.mk (HB3.out.trans hB4)
    clear hR4 hB4 hC9 HR3
    go_wp2_with fail
    refine (page_filled.calls (a0.size : Int) A9 c9 M r1 r2 _ HC9.out hc9 HM.out).mono ?_
    rintro e w9 ⟨rfl, hb9⟩
    go_wp2
    go_ret2
    exact ⟨rfl, below_then HB4.out HB4.out.size hb9⟩
  · have hf0 := Bool.eq_false_iff.2 hf
    rw [hf0, if_neg (by decide)] at h
    have HF := Aside0.mk hf0
    obtain ⟨rfl, rfl⟩ := Prod.mk.inj h
    obtain ⟨ix, hix⟩ : ∃ ix, idxS l a1 = ix := ⟨_, rfl⟩
    have HIX := Aside0.mk hix
    clear h hf hix k1 k3 hf0
    go_enter Try.func30, Try.ntmps30
    go_wp2_with (go_at_call 65; refine (page_asked.calls a0 a1 0 _ HA.out).mono ?_; rintro e w1 ⟨rfl, hb1⟩)
    go_wp2_with (go_at_call 49; refine (page_cells.calls a0 l _ HCF.out).mono ?_; rintro e w2 ⟨v, rfl, hR, hb2⟩)
    have HB := Aside0.mk (below_then hb1 hb1.size hb2)
    obtain ⟨A, c, rfl, hc, hC⟩ := Kd.R_reads hR
    have HC := Aside0.mk hC
    clear hR hb1 hb2 hC
    go_wp2_with (go_at_call 66; refine (find_calls l A c a1 _ HK.out.1 (by omega) (by omega) HC.out).mono ?_; rw [HF.out, HIX.out]; rintro e w3 ⟨rfl, hb3⟩)
    go_ret2
    exact ⟨rfl, below_then HB.out HB.out.size hb3⟩

end Go.Proofs.Ytemglmcddaeedaa.PA

namespace Go.Proofs.Ytemglmcddaeedaa.PA
open Go.RowKit Go.Proofs.YtemglmcddaeedaaW.PrintWords Go.Proofs.YtemglmcddaeedaaW.PrintLast Go.Proofs.YtemglmcddaeedaaW.PrintMore
attribute [local go_sem] max2_int min2_int max_two min_two max_three min_three max_four min_four   -- for this text's walks alone
set_option linter.unusedVariables false
set_option linter.unusedSimpArgs false

/-! ### page_Set: function 31 -/
def setS (p : ByteArray) (n : Int) (d : ByteArray) : ByteArray × Int :=
  if d.size = 0 then (⟨#[]⟩, 1) else if validS p then (if 1 ≤ n ∧ n ≤ 200 then (if foundS (cellsP p) n = true then filledS p.size (repS (cellsP p) n d) else (⟨#[]⟩, 8)) else (⟨#[]⟩, 7)) else (⟨#[]⟩, 1)
theorem set_cell (l : List S45) (i : Nat) (hi : i < l.length) (d : ByteArray) (sp : List Value) :
    (encs_ cv l ++ sp).set (i * 2 + 1) (.string d) = encs_ cv (l.take i ++ ⟨l[i].f0, d⟩ :: l.drop (i + 1)) ++ sp := by
  have h : encs_ cv l ++ sp = (encs_ cv (l.take i) ++ [Value.int .i64 l[i].f0]) ++ (Value.string l[i].f1 :: (encs_ cv (l.drop (i + 1)) ++ sp)) := by
    have h2 : encs_ cv l = encs_ cv (l.take i ++ l[i] :: l.drop (i + 1)) := by rw [← List.drop_eq_getElem_cons hi, List.take_append_drop]
    rw [h2, encs_app, encs_cons]
    simp [cv]
  have hl : (encs_ cv (l.take i) ++ [Value.int .i64 l[i].f0]).length = i * 2 + 1 := by rw [List.length_append, encs_len cv_len, List.length_take, Nat.min_eq_left (by omega)]; rfl
  rw [h, ← hl, set_at, encs_app, encs_cons]
  simp [cv]
def page_Set.f (a0 : ByteArray) (a1 : Int) (a2 : ByteArray) : Option (ByteArray × Int) := if a0.size ≤ 100000 ∧ a2.size ≤ 100000 then some (setS a0 a1 a2) else none
set_option maxHeartbeats 1000000 in
set_option maxRecDepth 100000 in
theorem page_Set.calls (a0 : ByteArray) (a1 : Int) (a2 : ByteArray) (r1 : ByteArray) (r2 : Int) (w : World) (h : page_Set.f a0 a1 a2 = some (r1, r2)) :
    Calls Try.prog 31 #[.string a0, .int .i64 a1, .string a2] w fun e w' => e = .returned (.tuple #[.string r1, .int .i64 r2]) ∧ Below w.heap.size w w' := by
  unfold page_Set.f at h
  split at h
  rotate_left
  · cases h
  rename_i hs
  have HA := Aside0.mk (asked_f a0 a1 hs.1)
  have h := Option.some.inj h
  unfold setS at h
  by_cases hd : a2.size = 0
  · rw [if_pos hd] at h
    obtain ⟨rfl, rfl⟩ := Prod.mk.inj h
    have e1 := (toList_nil a2).2 hd
    clear h hd
    go_enter Try.func31, Try.ntmps31
    go_wp2
    go_ret2
    exact ⟨rfl, Below.refl _ _⟩
  rw [if_neg hd] at h
  have e1 : ¬ a2.toList = [] := fun e => hd ((toList_nil a2).1 e)
  have e2 : a2.toList.isEmpty = false := by simpa using e1
  have hd0 : 0 < a2.size := by omega
  by_cases hv : validS a0
  rotate_left
  · rw [if_neg hv] at h
    rw [if_neg hv] at HA
    obtain ⟨rfl, rfl⟩ := Prod.mk.inj h
    clear h hv
    go_enter Try.func31, Try.ntmps31
    go_wp2_with (go_at_call 65; refine (page_asked.calls a0 a1 1 _ HA.out).mono ?_; rintro e w1 ⟨rfl, hb1⟩)
    go_ret2
    exact ⟨rfl, hb1⟩
  rw [if_pos hv] at h
  rw [if_pos hv] at HA
  by_cases hn : 1 ≤ a1 ∧ a1 ≤ 200
  rotate_left
  · rw [if_neg hn] at h
    rw [if_neg hn] at HA
    obtain ⟨rfl, rfl⟩ := Prod.mk.inj h
    clear h hn hv
    go_enter Try.func31, Try.ntmps31
    go_wp2_with (go_at_call 65; refine (page_asked.calls a0 a1 7 _ HA.out).mono ?_; rintro e w1 ⟨rfl, hb1⟩)
    go_ret2
    exact ⟨rfl, hb1⟩
  rw [if_pos hn] at h
  rw [if_pos hn] at HA
  obtain ⟨k1, k2, k3, k4, k5⟩ := cellsP_ok hv
  have HCF := Aside0.mk (cells_f hv)
  obtain ⟨l, hl⟩ : ∃ l, cellsP a0 = l := ⟨_, rfl⟩
  rw [hl] at h HCF k1 k2 k3
  have HK := Aside0.mk (And.intro k1 k2)
  have hll := k2
  clear hl hv
  by_cases hf : foundS l a1 = true
  · rw [if_pos hf] at h
    have HF := Aside0.mk hf
    obtain ⟨M, hM⟩ : ∃ M, repS l a1 a2 = M := ⟨_, rfl⟩
    have hMo : CellsOk M := by rw [← hM]; exact repS_ok k1 hn hd0 hf
    have hMb : bytesL M ≤ 1000000000000 := by rw [← hM]; have hb := repS_bytes l a1 a2; have hs1 := hs; omega
    have HM := Aside0.mk (show page_filled.f (a0.size : Int) M = some (r1, r2) by rw [filled_f (by omega) (by omega) hMo hMb, ← hM]; exact congrArg some h)
    have HMD := Aside0.mk hM
    have HLT := Aside0.mk (fun h => found_lt (l := l) (n := a1) h)
    obtain ⟨ix, hix⟩ : ∃ ix, idxS l a1 = ix := ⟨_, rfl⟩
    have HIX := Aside0.mk hix
    have HIL := Aside0.mk (idxS_le l a1)
    clear h hf hM hMo hMb k1 k3 hix hs hd
    go_enter Try.func31, Try.ntmps31
    go_wp2_with (go_at_call 65; refine (page_asked.calls a0 a1 0 _ HA.out).mono ?_; rintro e w1 ⟨rfl, hb1⟩)
    go_wp2_with (go_at_call 49; refine (page_cells.calls a0 l _ HCF.out).mono ?_; rintro e w2 ⟨v, rfl, hR, hb2⟩)
    have HB := Aside0.mk (below_then hb1 hb1.size hb2)
    have HR := Aside0.mk hR
    obtain ⟨A, c, rfl, hc, hC⟩ := Kd.R_reads hR
    have HC := Aside0.mk hC
    clear hR hC
    go_wp2_with fail
    refine (find_calls l A c a1 _ HK.out.1 (by omega) (by omega) HC.out).mono ?_
    rw [HF.out, HIX.out]
    rintro e w3 ⟨rfl, hb3⟩
    have hlt := HLT.out HF.out
    rw [HIX.out] at hlt
    have HR3 := Aside0.mk (row_of_R (Kd.R_below (Kd.R_lower HR.out (base' := w.heap.size) (by have := hb1.size; omega)) hb3))
    have HB3 := Aside0.mk (below_then HB.out HB.out.size hb3)
    clear hb1 hb2 hb3
    have HDM := Aside0.mk (show l.take ix ++ (⟨a1, a2⟩ : S45) :: l.drop (ix + 1) = M by rw [← HIX.out]; exact HMD.out)
    have HEQ := Aside0.mk (show l[ix].f0 = a1 by
      obtain ⟨c0, hc0, hcn⟩ := (idx_split HK.out.1 a1).2.2.1 HF.out
      rw [HIX.out, List.getElem?_eq_getElem hlt] at hc0
      rw [Option.some.inj hc0]; exact hcn)
    rcases HR3.out with ⟨e0, e9⟩ | ⟨g, cap, sp, e0, hb, hn2, hm2, hs2, hg⟩
    · rw [e9] at hlt; simp at hlt
    cases e0
    have hcell := blk_cell hg (ix * 2 + 1)
    have hfr := blk_frozen hg (ix * 2 + 1)
    simp only [List.getElem?_toArray] at hcell
    rw [List.getElem?_append_left (by rw [encs_len cv_len]; omega), encs_get cv_len l ix 1 hlt (by decide)] at hcell
    have hcell := hcell.trans (show (cv l[ix])[1]? = some (.string l[ix].f1) from rfl)
    obtain ⟨X, hX⟩ : ∃ X, l[ix].f1 = X := ⟨_, rfl⟩
    rw [hX] at hcell
    have HS := Aside0.mk (blk_set hg (ix * 2 + 1) (.string a2))
    have hi0 : (0 : Int) ≤ ix := by omega
    have hi1 : (ix : Int) < l.length := by omega
    have hgl := blk_lt hg
    have HG := Aside0.mk (And.intro hb (And.intro hn2 (And.intro hm2 hs2)))
    clear hg hX hs2 hm2
    go_wp2_with fail
    have hML : M.length = l.length := by rw [← HDM.out]; simp; omega
    have hR4 : RowK cv 2 45 (w3.setCell ⟨g, ix * 2 + 1, none⟩ (.string a2)) w.heap.size (.slice (some ⟨g, 0, none⟩) M.length c) M := by
      refine .inr ⟨g, c, sp, rfl, HG.out.1, by rw [hML]; exact HG.out.2.1, HG.out.2.2.1, by rw [hML]; exact HG.out.2.2.2, ?_⟩
      have h1 := HS.out
      rw [List.setIfInBounds_toArray, set_cell l ix hlt, HEQ.out, HDM.out] at h1
      exact h1
    obtain ⟨A9, c9, e9, hc9, hC9⟩ := Kd.R_reads (R_of_row hR4)
    obtain ⟨eA, _, ec⟩ := Value.slice.inj e9
    subst eA
    subst ec
    have HB4 := Aside0.mk (show Below w.heap.size w (w3.setCell ⟨g, ix * 2 + 1, none⟩ (.string a2)) from HB3.out.setCell HG.out.1 _)
    rw [← hML]
    refine (page_filled.calls (a0.size : Int) _ _ M r1 r2 _ hC9 hc9 HM.out).mono ?_
    clear hR4 hC9 hc9 e9
    rintro e w9 ⟨rfl, hb9⟩
    go_wp2
    go_ret2
    exact ⟨rfl, below_then HB4.out HB4.out.size hb9⟩
  · have hf0 := Bool.eq_false_iff.2 hf
    rw [hf0, if_neg (by decide)] at h
    have HF := Aside0.mk hf0
    obtain ⟨rfl, rfl⟩ := Prod.mk.inj h
    obtain ⟨ix, hix⟩ : ∃ ix, idxS l a1 = ix := ⟨_, rfl⟩
    have HIX := Aside0.mk hix
    clear h hf hix k1 k3 hs hd hf0
    go_enter Try.func31, Try.ntmps31
    go_wp2_with (go_at_call 65; refine (page_asked.calls a0 a1 0 _ HA.out).mono ?_; rintro e w1 ⟨rfl, hb1⟩)
    go_wp2_with (go_at_call 49; refine (page_cells.calls a0 l _ HCF.out).mono ?_; rintro e w2 ⟨v, rfl, hR, hb2⟩)
    have HB := Aside0.mk (below_then hb1 hb1.size hb2)
    obtain ⟨A, c, rfl, hc, hC⟩ := Kd.R_reads hR
    have HC := Aside0.mk hC
    clear hR hb1 hb2 hC
    go_wp2_with (go_at_call 66; refine (find_calls l A c a1 _ HK.out.1 (by omega) (by omega) HC.out).mono ?_; rw [HF.out, HIX.out]; rintro e w3 ⟨rfl, hb3⟩)
    go_ret2
    exact ⟨rfl, below_then HB.out HB.out.size hb3⟩

end Go.Proofs.Ytemglmcddaeedaa.PA
