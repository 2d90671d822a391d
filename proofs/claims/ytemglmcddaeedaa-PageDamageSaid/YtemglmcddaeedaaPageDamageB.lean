/- Part of the proof: PageDamage: a page of which one byte was changed is not valid, or has other cells. -/
import Derived.Test.YtemglmcddaeedaaPageDamageA
import Derived.ArgAppend
import Derived.Below
import Derived.BigQuiet
import Derived.ChangeOld
import Derived.Deep.AppendLies
import Derived.Deep.CutBlock
import Derived.Deep.DeepCutAuto
import Derived.Deep.Draws
import Derived.Deep.LoopGhost
import Derived.Deep.OwnRows
import Derived.Deep.QuietTactic
import Derived.Deep.RegionHeld3
import Derived.Deep.SlicePairs
import Derived.Defers
import Derived.DefersIn
import Derived.KernelRfl
import Derived.Laws.BitsAllLaws
import Derived.Laws.BitsLemmas
import Derived.Laws.BytesArg
import Derived.Laws.CopyOwn
import Derived.Laws.IdiomCopy
import Derived.Laws.MakeOwn
import Derived.Laws.OwnMore
import Derived.Laws.Rows
import Derived.Laws.Slices
import Derived.Lib.AppendStr
import Derived.Lib.BufferWrite
import Derived.Lib.ConvBytes
import Derived.Lib.Hide
import Derived.LoopIn
import Derived.LoopNIn
import Derived.Maps.AppendAt
import Derived.OpenShut
import Derived.OrdersHeld
import Derived.OwnWalk
import Derived.OwnWalkIn
import Derived.ProofKit
import Derived.RangeFuncBound
import Derived.RangeFuncCalls
import Derived.RangeFuncLeaves
import Derived.RangeFuncNested
import Derived.RangeFuncRecord
import Derived.Recover
import Derived.RecoverIn
import Derived.RowKit
import Derived.RowKit3
import Derived.Shelf.Abstract
import Derived.Shelf.RegionOpen
import Derived.ShutString
import Derived.SizedLaws
import Derived.StillTailTactics
import Derived.Tactics
import Derived.TacticsInMore
import Derived.Test.YtemglmcddaeedaaProg
import Derived.Test.YtemglmcddaeedaaRows
import Derived.Test.YtemglmcddaeedaaWApart
import Derived.Test.YtemglmcddaeedaaWArr
import Derived.Test.YtemglmcddaeedaaWAt
import Derived.Test.YtemglmcddaeedaaWEqStruct
import Derived.Test.YtemglmcddaeedaaWFoot
import Derived.Test.YtemglmcddaeedaaWFootNe
import Derived.Test.YtemglmcddaeedaaWFour
import Derived.Test.YtemglmcddaeedaaWGuard
import Derived.Test.YtemglmcddaeedaaWInv
import Derived.Test.YtemglmcddaeedaaWInvWords
import Derived.Test.YtemglmcddaeedaaWKept
import Derived.Test.YtemglmcddaeedaaWLast
import Derived.Test.YtemglmcddaeedaaWMore
import Derived.Test.YtemglmcddaeedaaWN
import Derived.Test.YtemglmcddaeedaaWNEv
import Derived.Test.YtemglmcddaeedaaWQPut
import Derived.Test.YtemglmcddaeedaaWRepsOne
import Derived.Test.YtemglmcddaeedaaWShare
import Derived.Test.YtemglmcddaeedaaWTab
import Derived.Test.YtemglmcddaeedaaWWords
import Derived.Test.YtemglmcddaeedaaWZeros
import Derived.WalkKit
import Derived.WalkLawsBesides
import Derived.WalkSpells
import Derived.WideLaws
namespace Go.Proofs.Ytemglmcddaeedaa.PA
open Go.RowKit Go.Proofs.YtemglmcddaeedaaW.PrintWords Go.Proofs.YtemglmcddaeedaaW.PrintLast Go.Proofs.YtemglmcddaeedaaW.PrintMore
attribute [local go_sem] max2_int min2_int max_two min_two max_three min_three max_four min_four   -- for this text's walks alone
set_option linter.unusedVariables false
set_option linter.unusedSimpArgs false

/-! ### page_Wrong: function 19 -/
def page_Wrong.f (a0 : ByteArray) : Option (Int × Int) := if a0.size ≤ 100000 then some (wrongS a0) else none
/-- A region whose first operation is 'recover()', in a deferred call of a frame that panics. -/
theorem wpList_hide {P : Program} {ops : Array Oper} {l : List Oper} {a : Act} {w : World} {Q : Exit → Act → World → Prop}
    (h : ∀ K, Aside0 (∀ e a w, Q e a w → K e a w) → wpList P ops K l a w) : wpList P ops Q l a w := h Q (Aside0.mk fun _ _ _ h => h)
theorem wp_hide {P : Program} {c : Code} {a : Act} {w : World} {Q : Exit → Act → World → Prop}
    (h : ∀ K, Aside0 (∀ e a w, Q e a w → K e a w) → c.wp P K a w) : c.wp P Q a w := h Q (Aside0.mk fun _ _ _ h => h)
theorem wpS_recover {P : Program} {id : Nat} {o : Oper} {l : List Oper} {a : Act} {cs cs' : List Frame} {w : World} {v : Value} {Q : Exit → Act → List Frame → World → Prop}
    (hw : Region.wanted o (yielded (o :: l).toArray a.tmps) = true) (hr : (execOp a.eval o).run P w = .ok .recover w) (hrec : recoverD cs = some (v, cs'))
    (h : wpList P (o :: l).toArray (fun e a w => Q e a cs' w) l (a.put o.dst v) w) : (Code.region id (o :: l).toArray false).wpS P Q a cs w := by
  intro b k hb hro
  have ho : (o :: l).toArray[0]? = some o := by simp
  have hk : (b.at a (.inRegion (o :: l).toArray (0 :: List.range' 1 l.length) :: k)).kind = .deferred := hb
  have htr := tryRecover_deferred hk cs
  rw [← wpOps_eq_wpList l 1 (by intro j; rw [List.getElem?_toArray, Nat.add_comm, List.getElem?_cons_succ])] at h
  obtain ⟨e, a', w', hq, harr⟩ := wp_ops _ _ _ h b k cs'
  have hfin : ∀ v, (b.at a (.inRegion (o :: l).toArray (0 :: List.range' 1 l.length) :: k)).finish v = b.at (a.put o.dst v) (.inRegion (o :: l).toArray (List.range' 1 l.length) :: k) := by
    intro v; rw [Frame.finish_at, ho]; rfl
  have hrg : List.range (o :: l).toArray.size = 0 :: List.range' 1 l.length := by
    rw [List.range_eq_range']; simp [List.range'_succ]
  have hsr := step_region (P := P) (b := b) (a := a) (k := k) (cs := cs) (w := w) (ops := (o :: l).toArray) (id := id)
  rw [hrg] at hsr
  refine ⟨e, a', cs', w', hq, .of_steps (.head hsr (.one (step_lone_go ?_))) harr⟩
  rw [stepG_op ho hw, ← hfin]
  simp only [Frame.at] at htr ⊢
  simp [stepG.apply, hr, htr, hrec]
/-- .. of a frame that returns: it yields nil. -/
theorem wpS_recover_idle {P : Program} {id : Nat} {o : Oper} {l : List Oper} {a : Act} {cs : List Frame} {w : World} {Q : Exit → Act → List Frame → World → Prop}
    (hw : Region.wanted o (yielded (o :: l).toArray a.tmps) = true) (hr : (execOp a.eval o).run P w = .ok .recover w) (hrec : recoverD cs = none)
    (h : wpList P (o :: l).toArray (fun e a w => Q e a cs w) l (a.put o.dst .nilIface) w) : (Code.region id (o :: l).toArray false).wpS P Q a cs w := by
  intro b k hb hro
  have ho : (o :: l).toArray[0]? = some o := by simp
  have hk : (b.at a (.inRegion (o :: l).toArray (0 :: List.range' 1 l.length) :: k)).kind = .deferred := hb
  have htr := tryRecover_deferred hk cs
  rw [← wpOps_eq_wpList l 1 (by intro j; rw [List.getElem?_toArray, Nat.add_comm, List.getElem?_cons_succ])] at h
  obtain ⟨e, a', w', hq, harr⟩ := wp_ops _ _ _ h b k cs
  have hfin : ∀ v, (b.at a (.inRegion (o :: l).toArray (0 :: List.range' 1 l.length) :: k)).finish v = b.at (a.put o.dst v) (.inRegion (o :: l).toArray (List.range' 1 l.length) :: k) := by
    intro v; rw [Frame.finish_at, ho]; rfl
  have hrg : List.range (o :: l).toArray.size = 0 :: List.range' 1 l.length := by
    rw [List.range_eq_range']; simp [List.range'_succ]
  have hsr := step_region (P := P) (b := b) (a := a) (k := k) (cs := cs) (w := w) (ops := (o :: l).toArray) (id := id)
  rw [hrg] at hsr
  refine ⟨e, a', cs, w', hq, .of_steps (.head hsr (.one (step_lone_go ?_))) harr⟩
  rw [stepG_op ho hw, ← hfin]
  simp only [Frame.at] at htr ⊢
  simp [stepG.apply, hr, htr, hrec]
set_option maxHeartbeats 4000000 in
set_option maxRecDepth 100000 in
/-- The recovering closure, entered while the page is told wrong. -/
theorem wrong1_panics (g : Nat) (x0 : Int) (e0 : Int) (a e : Int) (w : World) (h1 : w.heap[g]? = some (.cells #[.int .i64 x0] 3)) (h2 : w.heap[g + 1]? = some (.cells #[.int .i64 e0] 28)) :
    CallsD Try.prog 56 #[.pointer (some ⟨g, 0, none⟩), .pointer (some ⟨g + 1, 0, none⟩)] (.panicking [{ v := .iface 70 (.agg #[.int .i64 a, .int .i64 e]), recovered := false }]) w fun en u' w' =>
      en = .returned (.tuple #[]) ∧ u' = .panicking [{ v := .iface 70 (.agg #[.int .i64 a, .int .i64 e]), recovered := true }] ∧
      w'.heap[g]? = some (.cells #[.int .i64 a] 3) ∧ w'.heap[g + 1]? = some (.cells #[.int .i64 e] 28) ∧ (∀ w0, Below g w0 w → Below g w0 w') := by
  refine callsD_of_wpS Try.func56 rfl fun c₀ cs hu => ?_
  simp only [Try.ntmps56, List.size_toArray, List.length_cons, List.length_nil, Nat.reduceAdd, Nat.reduceSub, Array.replicate_succ, Array.replicate_zero, List.push_toArray, List.append_toArray, List.nil_append, List.cons_append]
  have hta : ∀ x W, (Instr.typeAssert (.iface 70 x) 20 70 true).run Try.prog W = .ok (.tuple #[x, .bool true]) W := fun _ _ => by kernel_rfl
  have c1 := (blk_cell h1 0).trans rfl
  have c2 := (blk_cell h2 0).trans rfl
  have f1 := blk_frozen h1 0
  have f2 := blk_frozen h2 0
  apply wpS_seq
  refine wpS_recover (v := .iface 70 (.agg #[.int .i64 a, .int .i64 e])) rfl rfl (by simp only [recoverD, hu]; rfl) ?_
  refine wpList_hide ?_
  intro K HK
  dsimp only [Act.put]
  repeat go_step
  refine HK.out _ _ _ ?_
  clear HK K hta c1 c2 f1 f2
  refine wpS_of_wp ?_
  have hB : ∀ w0, Below g w0 w → Below g w0 (w.alloc (.cells #[.int .i64 a, .int .i64 e] 70)) := fun w0 hb => ⟨hb.os, hb.tape, hb.output, by have := hb.size; simp; omega, fun k hk => (Below.heap_alloc _ _ _ (by have := blk_lt h1; omega)).trans (hb.block k hk)⟩
  have h3 := blk_new w (.cells #[.int .i64 a, .int .i64 e] 70)
  have hl := blk_lt h2
  replace h1 := blk_alloc h1 (.cells #[.int .i64 a, .int .i64 e] 70)
  replace h2 := blk_alloc h2 (.cells #[.int .i64 a, .int .i64 e] 70)
  obtain ⟨b, hb⟩ : ∃ b, w.heap.size = b := ⟨_, rfl⟩
  obtain ⟨W, hW⟩ : ∃ W, w.alloc (.cells #[.int .i64 a, .int .i64 e] 70) = W := ⟨_, rfl⟩
  rw [hW] at h1 h2 h3 hB
  rw [hb] at h3 hl
  simp only [hb, hW]
  clear hb hW
  have c1 := (blk_cell h1 0).trans rfl
  have c2 := (blk_cell h2 0).trans rfl
  have c3 := (blk_cell h3 0).trans rfl
  have c4 := (blk_cell h3 1).trans rfl
  have f1 := blk_frozen h1 0
  have f2 := blk_frozen h2 0
  have HH := Aside0.mk (And.intro h1 (And.intro h2 (And.intro hB hu)))
  clear h1 h2 h3 hB hu
  refine wp_hide ?_
  intro K HK
  go_wp2_with fail
  go_region
  all_goals
    refine HK.out _ _ _ ?_
    obtain ⟨h1, h2, hB, hu⟩ := HH.out
    refine ⟨rfl, _, rfl, _, results_none rfl _ _ _, rfl, rfl, ?_, ?_, ?_⟩
    · exact blk_far (blk_set (blk_drew h1) 0 _) (by simp) _
    · exact blk_set (blk_far (blk_drew h2) (by simp) _) 0 _
    · exact fun w0 hw0 => (((hB w0 hw0).drew).setCell (Nat.le_refl g) _).setCell (Nat.le_succ g) _
set_option maxHeartbeats 4000000 in
set_option maxRecDepth 100000 in
/-- .. entered while Wrong returns. -/
theorem wrong1_idle (p q : Option Addr) (w : World) :
    CallsD Try.prog 56 #[.pointer p, .pointer q] .returning w fun en u' w' =>
      en = .returned (.tuple #[]) ∧ u' = .returning ∧ ∃ o, w' = w.alloc o := by
  refine callsD_of_wpS Try.func56 rfl fun c₀ cs hu => ?_
  simp only [Try.ntmps56, List.size_toArray, List.length_cons, List.length_nil, Nat.reduceAdd, Nat.reduceSub, Array.replicate_succ, Array.replicate_zero, List.push_toArray, List.append_toArray, List.nil_append, List.cons_append]
  have hta : ∀ W, (Instr.typeAssert .nilIface 20 70 true).run Try.prog W = .ok (.tuple #[.agg #[.int .i64 0, .int .i64 0], .bool false]) W := fun _ => by kernel_rfl
  apply wpS_seq
  refine wpS_recover_idle rfl rfl (by simp only [recoverD, hu]) ?_
  refine wpList_hide ?_
  intro K HK
  dsimp only [Act.put]
  repeat go_step
  refine HK.out _ _ _ ?_
  clear HK K hta
  refine wpS_of_wp ?_
  refine wp_hide ?_
  intro K HK
  go_wp2_with fail
  refine HK.out _ _ _ ?_
  refine ⟨rfl, .returning, ?_, _, results_none rfl _ _ _, rfl, rfl, _, rfl⟩
  cases c₀
  cases hu
  rfl
set_option maxRecDepth 100000 in
theorem wrong_leaves_panic (g : Nat) (tm : Array Value) (t2 : tm[2]?.getD undef = .pointer (some ⟨g, 0, none⟩)) (t3 : tm[3]?.getD undef = .pointer (some ⟨g + 1, 0, none⟩)) (w0 W : World) (x0 e0 a e : Int)
    (b1 : W.heap[g]? = some (.cells #[.int .i64 x0] 3)) (b2 : W.heap[g + 1]? = some (.cells #[.int .i64 e0] 28)) (hb : Below g w0 W) (R : Ending → World → Prop)
    (hR : ∀ W', Below g w0 W' → R (.returned (.tuple #[.int .i64 a, .int .i64 e])) W') :
    Leaves Try.prog Try.f19 tm R [{ target := .fn (.func 56) #[.pointer (some ⟨g, 0, none⟩), .pointer (some ⟨g + 1, 0, none⟩)], args := #[] }] (.panicking [{ v := .iface 70 (.agg #[.int .i64 a, .int .i64 e]), recovered := false }]) W := by
  refine leaves_cons (f := 56) (args := #[.pointer (some ⟨g, 0, none⟩), .pointer (some ⟨g + 1, 0, none⟩)]) (by simp) (by simp [go_sem]) ?_
  refine (wrong1_panics g x0 e0 a e W b1 b2).mono ?_
  rintro en u' W' ⟨rfl, rfl, h1, h2, hB⟩
  have c1 : W'.cell? ⟨g, 0, none⟩ = some (.int .i64 a) := (blk_cell h1 0).trans rfl
  have c2 : W'.cell? ⟨g + 1, 0, none⟩ = some (.int .i64 e) := (blk_cell h2 0).trans rfl
  refine ⟨_, ?_, hR _ (hB w0 hb)⟩
  simp [results, Try.results19, go_sem, c1, c2, t2, t3]
set_option maxRecDepth 100000 in
theorem wrong_leaves_ret (g : Nat) (tm : Array Value) (t2 : tm[2]?.getD undef = .pointer (some ⟨g, 0, none⟩)) (t3 : tm[3]?.getD undef = .pointer (some ⟨g + 1, 0, none⟩)) (w0 W : World) (a e : Int)
    (b1 : W.heap[g]? = some (.cells #[.int .i64 a] 3)) (b2 : W.heap[g + 1]? = some (.cells #[.int .i64 e] 28)) (hb : Below g w0 W) (hg : w0.heap.size = g) (R : Ending → World → Prop)
    (hR : ∀ W', Below g w0 W' → R (.returned (.tuple #[.int .i64 a, .int .i64 e])) W') :
    Leaves Try.prog Try.f19 tm R [{ target := .fn (.func 56) #[.pointer (some ⟨g, 0, none⟩), .pointer (some ⟨g + 1, 0, none⟩)], args := #[] }] .returning W := by
  refine leaves_cons (f := 56) (args := #[.pointer (some ⟨g, 0, none⟩), .pointer (some ⟨g + 1, 0, none⟩)]) (by simp) (by simp [go_sem]) ?_
  refine (wrong1_idle _ _ W).mono ?_
  rintro en u' W' ⟨rfl, rfl, o, rfl⟩
  have c1 : (W.alloc o).cell? ⟨g, 0, none⟩ = some (.int .i64 a) := (World.cell?_alloc_lt _ _ _ (blk_lt b1)).trans ((blk_cell b1 0).trans rfl)
  have c2 : (W.alloc o).cell? ⟨g + 1, 0, none⟩ = some (.int .i64 e) := (World.cell?_alloc_lt _ _ _ (blk_lt b2)).trans ((blk_cell b2 0).trans rfl)
  refine ⟨_, ?_, hR _ (hg ▸ below_alloc (hg ▸ hb) o)⟩
  simp [results, Try.results19, go_sem, c1, c2, t2, t3]
theorem page_size_f (n : Nat) (hn : n ≤ 100000) : page_size.f n = some (decide (32 ≤ n ∧ n ≤ 4096 ∧ n % 8 = 0)) := by
  unfold page_size.f
  split
  · split
    · have h1 : (Int.tmod (n : Int) 8) = ((n % 8 : Nat) : Int) := by rw [Int.tmod_eq_emod_of_nonneg (by omega)]; omega
      rw [h1]
      congr 1
      by_cases h : n % 8 = 0
      · rw [h]; simp; omega
      · have : ¬ ((n % 8 : Nat) : Int) = 0 := by omega
        rw [decide_eq_false (by omega)]
        simpa using this
    · rw [decide_eq_false (by omega)]
  · rw [decide_eq_false (by omega)]
set_option maxHeartbeats 4000000 in
set_option maxRecDepth 100000 in
theorem page_Wrong.calls (a0 : ByteArray) (r1 r2 : Int) (w : World) (h : page_Wrong.f a0 = some (r1, r2)) :
    Calls Try.prog 19 #[.string a0] w fun e w' => e = .returned (.tuple #[.int .i64 r1, .int .i64 r2]) ∧ Below w.heap.size w w' := by
  unfold page_Wrong.f at h
  split at h
  rotate_left
  · cases h
  rename_i hsz
  have h := Option.some.inj h
  have HX := Aside0.mk h
  clear h
  obtain ⟨g, hg⟩ : ∃ g, w.heap.size = g := ⟨_, rfl⟩
  have hB0 : ∀ v v' t t', Below g w ((w.alloc (.cells #[v] t)).alloc (.cells #[v'] t')) := fun v v' t t' => by rw [← hg]; exact below_alloc (below_alloc (Below.refl _ w) _) _
  have HP1 := Aside0.mk (hB0 (.int .i64 0) (.int .i64 0) 3 28)
  clear hB0
  have h1 : ((w.alloc (.cells #[.int .i64 0] 3)).alloc (.cells #[.int .i64 0] 28)).heap[g]? = some (.cells #[.int .i64 0] 3) := by rw [← hg]; exact blk_alloc (blk_new _ _) _
  have h2 : ((w.alloc (.cells #[.int .i64 0] 3)).alloc (.cells #[.int .i64 0] 28)).heap[g + 1]? = some (.cells #[.int .i64 0] 28) := by
    rw [← hg]; have := blk_new (w.alloc (.cells #[.int .i64 0] 3)) (.cells #[.int .i64 0] 28); simpa using this
  obtain ⟨W, hW⟩ : ∃ W, (w.alloc (.cells #[.int .i64 0] 3)).alloc (.cells #[.int .i64 0] 28) = W := ⟨_, rfl⟩
  rw [hW] at h1 h2 HP1
  have HZ := Aside0.mk (page_size_f a0.size hsz)
  have HH := Aside0.mk (And.intro h1 h2)
  clear h1 h2
  go_enter_defers Try.func19, Try.ntmps19
  refine wp_hide ?_
  intro K HK
  by_cases hok : 32 ≤ a0.size ∧ a0.size ≤ 4096 ∧ a0.size % 8 = 0
  · have hf := HZ.out
    rw [decide_eq_true hok] at hf
    have HF := Aside0.mk hf
    clear hf
    obtain ⟨hk1, hk2, hk3⟩ := hok
    have hcn := twoS_range a0 0
    obtain ⟨n, hn⟩ : ∃ n : Nat, twoS a0 0 = n := ⟨(twoS a0 0).toNat, by omega⟩
    have hcf := page_count_f a0 (by omega) (by omega)
    have HX2 := Aside0.mk hn
    rw [hn] at hcf hcn
    have HC := Aside0.mk hcf
    clear hcf
    have hn2 : (n : Int) ≤ 65535 := hcn.2
    by_cases hbig : n > 200 ∨ 2 + 4 * n > a0.size
    · by_cases hb1 : (n : Int) > 200
      all_goals go_wp2_with (first
        | (go_at_call 53; refine (page_size.calls _ _ _ HF.out).mono ?_; rintro e w' ⟨rfl, ⟨nd, rfl⟩⟩; simp only [hg, hW])
        | (go_at_call 57; refine (page_count.calls _ _ _ HC.out).mono ?_; rintro e w' ⟨rfl, ⟨nd2, rfl⟩⟩))
      all_goals
        refine HK.out _ _ _ ?_
        rw [hg]
        refine wrong_leaves_panic g _ (by rfl) (by rfl) w (W.drewN (nd + nd2)) 0 0 0 12 (blk_drewN HH.out.1 _) (blk_drewN HH.out.2 _) (pw_below_drewN HP1.out _) _ ?_
        intro W' hb
        have hx := HX.out
        unfold wrongS at hx
        rw [if_pos ⟨hk1, hk2, hk3⟩, HX2.out, if_pos (by omega)] at hx
        cases hx
        exact ⟨rfl, hb⟩
    · obtain ⟨hb1, hb2⟩ : ¬ ((n : Int) > 200) ∧ 2 + 4 * (n : Int) ≤ a0.size := by omega
      have HE := Aside0.mk (fun w => page_entries_calls a0 n HX2.out (by omega) hsz w)
      cases he : entriesS a0 n with
      | error a =>
        go_wp2_with (first
          | (go_at_call 53; refine (page_size.calls _ _ _ HF.out).mono ?_; rintro e w' ⟨rfl, ⟨nd, rfl⟩⟩; simp only [hg, hW])
          | (go_at_call 57; refine (page_count.calls _ _ _ HC.out).mono ?_; rintro e w' ⟨rfl, ⟨nd2, rfl⟩⟩)
          | (go_at_call 58; refine (HE.out _).mono ?_; rw [he]; rintro e w' ⟨hbe, rfl⟩))
        refine HK.out _ _ _ ?_
        rw [hg]
        refine wrong_leaves_panic g _ (by rfl) (by rfl) w w' 0 0 a 12 (blk_below (blk_drewN HH.out.1 _) hbe) (blk_below (blk_drewN HH.out.2 _) hbe) (below_then (pw_below_drewN HP1.out _) (Nat.le_of_lt (blk_lt HH.out.1)) hbe) _ ?_
        intro W' hb
        have hx := HX.out
        unfold wrongS at hx
        rw [if_pos ⟨hk1, hk2, hk3⟩, HX2.out, if_neg (by omega), Int.toNat_natCast, he] at hx
        cases hx
        exact ⟨rfl, hb⟩
      | ok top =>
        go_wp2_with (first
          | (go_at_call 53; refine (page_size.calls _ _ _ HF.out).mono ?_; rintro e w' ⟨rfl, ⟨nd, rfl⟩⟩; simp only [hg, hW])
          | (go_at_call 57; refine (page_count.calls _ _ _ HC.out).mono ?_; rintro e w' ⟨rfl, ⟨nd2, rfl⟩⟩)
          | (go_at_call 58; refine (HE.out _).mono ?_; rw [he]; rintro e w' ⟨hbe, rfl⟩))
        have ht := entriesS_top a0 n top he
        have hw1 := blk_below (blk_drewN HH.out.1 _) hbe
        have hw2 := blk_below (blk_drewN HH.out.2 _) hbe
        have hw3 := below_then (pw_below_drewN HP1.out _) (Nat.le_of_lt (blk_lt HH.out.1)) hbe
        have HW := Aside0.mk (And.intro hw1 (And.intro hw2 hw3))
        have c1 := (blk_cell hw1 0).trans rfl
        have c2 := (blk_cell hw2 0).trans rfl
        have f1 := blk_frozen hw1 0
        have f2 := blk_frozen hw2 0
        have hx := HX.out
        unfold wrongS at hx
        rw [if_pos ⟨hk1, hk2, hk3⟩, HX2.out, if_neg (by omega), Int.toNat_natCast, he] at hx
        have HX3 := Aside0.mk hx
        clear hx hw1 hw2 hw3 hbe he HE HX
        go_loopw [5] (fun v5 wr => ∃ i : Int, v5 = .int .i64 i ∧ 0 ≤ i ∧ i ≤ a0.size ∧ Aside0 (firstNZ a0 top i.toNat = firstNZ a0 top (2 + 4 * n)) ∧ wr = w') (fun v5 _ => a0.size - (intOf v5).toNat)
        case atStart => exact ⟨2 + 4 * n, by simp, by omega, by omega, Aside0.mk (by congr 1), rfl⟩
        case round =>
          obtain ⟨i, rfl, hi0, hi, HF1, rfl⟩ := hrel
          by_cases hlt : i < top
          · have hx5 := bt_at a0 i
            have p5 := eq_true hi0
            have q5 := eq_true (show i < (a0.size : Int) by omega)
            by_cases hz : bt a0 i = 0
            · have hst := HF1.out
              rw [firstNZ, if_pos (by omega), if_neg (by rw [Int.toNat_of_nonneg hi0]; simp [hz])] at hst
              have HF2 := Aside0.mk hst
              clear hst
              rw [hz] at hx5
              go_wp2_with fail
              go_roundw
              case rel => exact ⟨i + 1, rfl, by omega, by omega, Aside0.mk (by rw [show (i + 1).toNat = i.toNat + 1 by omega]; exact HF2.out), trivial⟩
              case measure => simp [intOf]; omega
            · have hst := HF1.out
              rw [firstNZ, if_pos (by omega), if_pos (by rw [Int.toNat_of_nonneg hi0]; simpa using hz)] at hst
              have HF2 := Aside0.mk hst
              clear hst
              go_wp2_with fail
              refine HK.out _ _ _ ?_
              rw [hg]
              refine wrong_leaves_panic g _ (by rfl) (by rfl) w wr 0 0 i 12 HW.out.1 HW.out.2.1 HW.out.2.2 _ ?_
              intro W' hb
              have hx := HX3.out
              simp only [← HF2.out] at hx
              rw [Int.toNat_of_nonneg hi0] at hx
              cases hx
              exact ⟨rfl, hb⟩
          · have hst := HF1.out
            rw [firstNZ, if_neg (by omega)] at hst
            have HF2 := Aside0.mk hst
            clear hst
            go_wp2_with fail
            refine HK.out _ _ _ ?_
            rw [hg]
            refine wrong_leaves_ret g _ (by rfl) (by rfl) w _ a0.size 0 (blk_far (blk_set HW.out.1 0 _) (by simp) _) (blk_set (blk_far HW.out.2.1 (by simp) _) 0 _) ((HW.out.2.2.setCell (Nat.le_refl g) _).setCell (Nat.le_succ g) _) hg _ ?_
            intro W' hb
            have hx := HX3.out
            simp only [← HF2.out] at hx
            cases hx
            exact ⟨rfl, hb⟩
  · have hf := HZ.out
    rw [decide_eq_false hok] at hf
    have HF := Aside0.mk hf
    clear hf
    go_wp2_with ((go_at_call 53; refine (page_size.calls _ _ _ HF.out).mono ?_; rintro e w' ⟨rfl, ⟨nd, rfl⟩⟩; simp only [hg, hW]))
    refine HK.out _ _ _ ?_
    rw [hg]
    refine wrong_leaves_panic g _ (by rfl) (by rfl) w (W.drewN nd) 0 0 0 11 (blk_drewN HH.out.1 _) (blk_drewN HH.out.2 _) (pw_below_drewN HP1.out _) _ ?_
    intro W' hb
    have hx := HX.out
    unfold wrongS at hx
    rw [if_neg hok] at hx
    cases hx
    exact ⟨rfl, hb⟩

end Go.Proofs.Ytemglmcddaeedaa.PA

namespace Go.Proofs.Ytemglmcddaeedaa.PA
open Go.RowKit Go.Proofs.YtemglmcddaeedaaW.PrintWords Go.Proofs.YtemglmcddaeedaaW.PrintLast Go.Proofs.YtemglmcddaeedaaW.PrintMore
attribute [local go_sem] max2_int min2_int max_two min_two max_three min_three max_four min_four   -- for this text's walks alone
set_option linter.unusedVariables false
set_option linter.unusedSimpArgs false

/-! ### page_Valid: function 21 -/
def page_Valid.f (a0 : ByteArray) : Option (Bool) := (page_Wrong.f a0).bind fun bt136 => (some (bt136.2 == 0))
set_option maxHeartbeats 8000000 in
set_option maxRecDepth 100000 in
theorem page_Valid.calls (a0 : ByteArray) (r : Bool) (w : World) (h : page_Valid.f a0 = some r) :
    Calls Try.prog 21 #[.string a0] w fun e w' => e = .returned (.bool r) ∧ Below w.heap.size w w' := by
  have HB := Aside0.mk (Below.refl w.heap.size w)
  have H : ((page_Wrong.f a0).bind fun bt136 => (some (bt136.2 == 0))) = some r := h
  clear h
  replace H := Option.bind_eq_some_iff.mp H
  obtain ⟨⟨t136, t137⟩, A20, H⟩ := H
  replace H : (some (t137 == 0)) = some r := H
  have A2 := Aside0.mk A20
  clear A20
  obtain rfl := Option.some.inj H
  go_enter Try.func21, Try.ntmps21
  go_wp2_with (first | ((with_reducible refine gate_callee (f := 19) rfl ?_); refine goesL_ (some 7) rfl rfl Try.func19 (by kernel_rfl) rfl #[.string a0] rfl (by (try simp only [List.map_toArray, List.map_cons, List.map_nil]); first | done | rfl | (simp only [List.length_drop, List.length_take]; rfl)) ?_; (with_reducible refine (page_Wrong.calls a0 t136 t137 _ A2.out).mono ?_); rintro e w3 ⟨rfl, hb⟩; refine ⟨_, rfl, ?_⟩; have n0_ := Aside0.mk (below_step (by repeat (first | (with_reducible first | exact HB.out | apply below_alloc | apply pw_below_drewN | apply below_drew1) | exact HB.out)) hb); clear HB; have HB := n0_; clear n0_; (try clear hb); (try clear hb2); (try clear hk); (try clear hi)))
  go_ret
  exact ⟨by first | rfl | (simp [errW_none, errW_some] <;> rfl) | (simp [*, errW_none, errW_some] <;> rfl), by repeat (first | (with_reducible first | exact HB.out | apply below_alloc | apply pw_below_drewN | apply below_drew1) | exact HB.out)⟩

end Go.Proofs.Ytemglmcddaeedaa.PA

namespace Go.Proofs.Ytemglmcddaeedaa.PA
open Go.RowKit Go.Proofs.YtemglmcddaeedaaW.PrintWords Go.Proofs.YtemglmcddaeedaaW.PrintLast Go.Proofs.YtemglmcddaeedaaW.PrintMore
attribute [local go_sem] max2_int min2_int max_two min_two max_three min_three max_four min_four   -- for this text's walks alone
set_option linter.unusedVariables false
set_option linter.unusedSimpArgs false

/-! ### page_cells1: function 0 -/
set_option maxHeartbeats 4000000 in
set_option maxRecDepth 100000 in
theorem page_cells1_calls (p : ByteArray) (b : Nat) (ln off len : Int) (h0 : 0 ≤ off) (h1 : 0 ≤ len) (h2 : off + len ≤ p.size) (h3 : p.size ≤ 100000) (w : World) (hb : w.heap[b]? = some (.cells #[.string p] 9)) :
    Calls Try.prog 99 #[.agg #[.int .i64 ln, .int .i64 off, .int .i64 len], .pointer (some ⟨b, 0, none⟩)] w fun e w' => e = .returned (.agg #[.int .i64 ln, .string (p.extract off.toNat (off + len).toNat)]) ∧ Below w.heap.size w w' := by
  have hlt := blk_lt hb
  have hb' := blk_alloc (blk_alloc hb (.cells #[.int .i64 ln, .int .i64 off, .int .i64 len] 76)) (.cells #[.int .i64 0, .string ⟨#[]⟩] 45)
  have hc := blk_alloc (blk_new w (.cells #[.int .i64 ln, .int .i64 off, .int .i64 len] 76)) (.cells #[.int .i64 0, .string ⟨#[]⟩] 45)
  have hd := blk_new (w.alloc (.cells #[.int .i64 ln, .int .i64 off, .int .i64 len] 76)) (.cells #[.int .i64 0, .string ⟨#[]⟩] 45)
  have hB := below_alloc (below_alloc (Below.refl _ w) (.cells #[.int .i64 ln, .int .i64 off, .int .i64 len] 76)) (.cells #[.int .i64 0, .string ⟨#[]⟩] 45)
  obtain ⟨W, hW⟩ : ∃ W, (w.alloc (.cells #[.int .i64 ln, .int .i64 off, .int .i64 len] 76)).alloc (.cells #[.int .i64 0, .string ⟨#[]⟩] 45) = W := ⟨_, rfl⟩
  obtain ⟨g, hg⟩ : ∃ g, w.heap.size = g := ⟨_, rfl⟩
  simp only [World.size_alloc] at hd
  rw [hW] at hb' hc hd hB
  rw [hg] at hc hd hB hlt
  clear hb
  have HB := Aside0.mk (And.intro hd hB)
  have c1 := (blk_cell hb' 0).trans rfl
  have c2 := (blk_cell hc 0).trans rfl
  have c3 := (blk_cell hc 1).trans rfl
  have c4 := (blk_cell hc 2).trans rfl
  have c5 := (blk_cell hd 0).trans rfl
  have c6 := (blk_cell hd 1).trans rfl
  have f5 := blk_frozen hd 0
  have f6 := blk_frozen hd 1
  clear hb' hc hd hB
  have hx := IntWalk.i64_in (off + len) (by omega)
  have p1 := eq_true h0
  have p2 := eq_true (show off ≤ off + len by omega)
  have p3 := eq_true h2
  go_enter Try.func99, Try.ntmps99
  go_wp2_with fail
  go_still_tail 12, (by kernel_rfl)
  repeat go_step
  have k1 := blk_set (blk_set (blk_drew HB.out.1) 0 (.int .i64 ln)) 1 (.string (p.extract off.toNat (off + len).toNat))
  obtain ⟨W3, hW3⟩ : ∃ W3, ((W.setCell ⟨g + 1, 0, none⟩ (.int .i64 ln)).setCell ⟨g + 1, 1, none⟩ (.string (p.extract off.toNat (off + len).toNat))).drew = W3 := ⟨_, rfl⟩
  have d1 : W3.cell? ⟨g + 1, 0, none⟩ = some (.int .i64 ln) := by rw [← hW3]; exact (blk_cell k1 0).trans rfl
  have d2 : W3.cell? ⟨g + 1, 1, none⟩ = some (.string (p.extract off.toNat (off + len).toNat)) := by rw [← hW3]; exact (blk_cell k1 1).trans rfl
  have d3 : Below g w W3 := by rw [← hW3]; exact ((HB.out.2.drew).setCell (Nat.le_succ g) _).setCell (Nat.le_succ g) _
  rw [hW3]
  refine ⟨rfl, .agg #[.int .i64 ln, .string (p.extract off.toNat (off + len).toNat)], ?_, rfl, hg ▸ d3⟩
  simp [results, Try.results99, go_sem, d1, d2]

end Go.Proofs.Ytemglmcddaeedaa.PA

namespace Go.Proofs.Ytemglmcddaeedaa.PA
open Go.RowKit Go.Proofs.YtemglmcddaeedaaW.PrintWords Go.Proofs.YtemglmcddaeedaaW.PrintLast Go.Proofs.YtemglmcddaeedaaW.PrintMore
attribute [local go_sem] max2_int min2_int max_two min_two max_three min_three max_four min_four   -- for this text's walks alone
set_option linter.unusedVariables false
set_option linter.unusedSimpArgs false

/-! ### page_gcell: function 0 -/
attribute [local go_sem] Oper.semAt_some
theorem R_is_slice {α : Type} {d : Kd α} {e : Nat} {w : World} {base : Nat} {ok : Nat → Prop} {v : Value} {xs : List α} (h : Kd.R d e w base ok v xs) : ∃ A n c, v = .slice A n c := by
  obtain ⟨_, inner, ho, _⟩ := h
  rcases ho.2 with ⟨rfl, _⟩ | ⟨g, cap, cur, rfl, _⟩
  · exact ⟨_, _, _, rfl⟩
  · exact ⟨_, _, _, rfl⟩
set_option maxHeartbeats 4000000 in
set_option maxRecDepth 100000 in
theorem page_gcell_calls (p : ByteArray) (n : Nat) (hn : twoS p 0 = n) (hs : 2 + 4 * n ≤ p.size) (hs2 : p.size ≤ 100000) (pb : Nat) (w : World) (hpb : w.heap[pb]? = some (.cells #[.string p] 9))
    (hgood : ∀ i : Nat, i < n → 0 < twoS p (4 + 4 * (i : Int)) → twoS p (2 + 4 * (i : Int)) + twoS p (4 + 4 * (i : Int)) ≤ p.size) :
    Calls Try.prog 98 #[.string p, .func (.func 99) #[] #[.pointer (some ⟨pb, 0, none⟩)]] w fun e w' => ∃ v, e = .returned v ∧ Kd.R k45 45 w' w.heap.size (fun _ => True) v (cellsS p n) ∧ Below w.heap.size w w' := by
  refine calls_of_wpX Try.func98 rfl ?_
  simp only [Try.ntmps98, List.size_toArray, List.length_cons, List.length_nil, Nat.reduceAdd, Nat.reduceSub, Array.replicate_succ, Array.replicate_zero, List.push_toArray, List.append_toArray, List.nil_append, List.cons_append]
  obtain ⟨R, hR⟩ : ∃ R : Ending → World → Prop, (fun e w' => ∃ v, e = .returned v ∧ Kd.R k45 45 w' w.heap.size (fun _ => True) v (cellsS p n) ∧ Below w.heap.size w w') = R := ⟨_, rfl⟩
  rw [hR]
  have HR := Aside0.mk hR
  clear hR
  refine wpX_seq_k ?_
  intro K hK
  go_wp2_with fail
  refine wpX_seq_k ?_
  intro K hK
  go_wp2_with fail
  refine wpX_seq_x ?_
  intro K0 hK0
  refine wpX_seq_k ?_
  intro K hK
  go_wp2_with (go_at_call 106; refine (page_slots_calls p _).mono ?_; rintro e w1 ⟨rfl, rfl⟩)
  obtain ⟨g, hg⟩ : ∃ g, w.heap.size = g := ⟨_, rfl⟩
  obtain ⟨W0, hW⟩ : ∃ W, (((w.alloc (.cells #[.func (.func 99) #[] #[.pointer (some ⟨pb, 0, none⟩)]] 121)).alloc (.cells #[.slice none 0 0] 22)).alloc (.cells #[.string p] 9)) = W := ⟨_, rfl⟩
  have hsz : W0.heap.size = g + 3 := by rw [← hW, ← hg]; simp
  have hB0 : Below w.heap.size w W0 := by rw [← hW]; exact below_alloc (below_alloc (below_alloc (Below.refl _ w) _) _) _
  have h1 : W0.heap[g]? = some (.cells #[.func (.func 99) #[] #[.pointer (some ⟨pb, 0, none⟩)]] 121) := by rw [← hW, ← hg]; exact blk_alloc (blk_alloc (blk_new _ _) _) _
  have h2 : W0.heap[g + 1]? = some (.cells #[.slice none 0 0] 22) := by
    rw [← hW, ← hg]; have := blk_alloc (blk_new (w.alloc (.cells #[.func (.func 99) #[] #[.pointer (some ⟨pb, 0, none⟩)]] 121)) (.cells #[.slice none 0 0] 22)) (.cells #[.string p] 9); simpa using this
  have h3 : W0.heap[g + 2]? = some (.cells #[.string p] 9) := by
    rw [← hW, ← hg]; have := blk_new ((w.alloc (.cells #[.func (.func 99) #[] #[.pointer (some ⟨pb, 0, none⟩)]] 121)).alloc (.cells #[.slice none 0 0] 22)) (.cells #[.string p] 9); simpa using this
  simp only [hg, hW, Nat.add_assoc, Nat.reduceAdd]
  rw [hg] at HR hB0
  have hplt : pb < g := by rw [← hg]; exact blk_lt hpb
  have HPB := Aside0.mk hpb
  clear hW hpb
  refine wpX_block ?_
  refine wpX_range (gf := 125) (lb := #[.pointer (some ⟨g + 2, 0, none⟩)]) (xs := (List.range n).map (slotV p)) (Kp := fun W => W.cell? ⟨g + 2, 0, none⟩ = some (.string p)) rfl (fun _ _ => rfl) (slots1_iter p n hn hs hs2 _) (by simp [slotV])
    (fun i W => ∃ v, Kd.R k45 45 W g (fun k => g + 4 < k) v (cellsS p i) ∧ Below g w W ∧ W.heap[g]? = some (.cells #[.func (.func 99) #[] #[.pointer (some ⟨pb, 0, none⟩)]] 121) ∧ W.heap[g + 1]? = some (.cells #[v] 22) ∧ W.heap[g + 2]? = some (.cells #[.string p] 9))
    (fun i a₁ W => ∃ v b, Kd.R k45 45 W g (fun k => g + 4 < k) v (cellsS p i) ∧ Below g w W ∧ W.heap[g]? = some (.cells #[.func (.func 99) #[] #[.pointer (some ⟨pb, 0, none⟩)]] 121) ∧ W.heap[g + 1]? = some (.cells #[v] 22) ∧ W.heap[g + 2]? = some (.cells #[.string p] 9) ∧ g + 4 < b ∧
      W.heap[b]? = some (.cells #[.int .i64 ((i : Int) + 1), .int .i64 (twoS p (2 + 4 * (i : Int))), .int .i64 (twoS p (4 + 4 * (i : Int)))] 76) ∧
      a₁ = { tmps := #[.string p, .func (.func 99) #[] #[.pointer (some ⟨pb, 0, none⟩)], undef, .pointer (some ⟨g, 0, none⟩), .slice none 0 0, .pointer (some ⟨g + 1, 0, none⟩), .pointer (some ⟨b, 0, none⟩), .string p, .func (.func 125) #[] #[.pointer (some ⟨g + 2, 0, none⟩)], .agg #[.int .i64 ((i : Int) + 1), .int .i64 (twoS p (2 + 4 * (i : Int))), .int .i64 (twoS p (4 + 4 * (i : Int)))]] ++ Array.replicate 10 undef, defers := [] })
    (fun _ _ => False) (fun _ _ => False)
    ?_ ?_ ?_ ?_ ?_ ?_ ?_ ?_ ?_ ?_ ?_ ?_ ?_
  all_goals try simp only [hsz, Nat.add_assoc, Nat.reduceAdd]
  case refine_1 =>
    rintro i W o o' ⟨v, e1, e2, e3, e4, e5⟩ -
    exact ⟨v, Kd.R_step e1 (fun k hk _ => World.putObj_heap_other (by omega)), below_putObj e2 (by omega) _, blk_putObj e3 (by omega), blk_putObj e4 (by omega), blk_putObj e5 (by omega)⟩
  case refine_2 =>
    rintro i a₁ W o o' ⟨v, b, e1, e2, e3, e4, e5, e7, e8, e9⟩ -
    exact ⟨v, b, Kd.R_step e1 (fun k hk _ => World.putObj_heap_other (by omega)), below_putObj e2 (by omega) _, blk_putObj e3 (by omega), blk_putObj e4 (by omega), blk_putObj e5 (by omega), e7, blk_putObj e8 (by omega), e9⟩
  case refine_3 => exact fun _ _ _ _ h => h.elim
  case refine_4 =>
    rintro i W m ⟨v, e1, e2, e3, e4, e5⟩
    exact ⟨v, Kd.R_drewN e1 m, pw_below_drewN e2 m, e3, e4, e5⟩
  case refine_5 => exact fun _ _ _ h => h.elim
  case refine_6 => exact fun _ _ _ h => h.elim
  case refine_7 =>
    rintro i W ⟨v, e1, e2, e3, e4, e5⟩
    exact (blk_cell e5 0).trans rfl
  case refine_8 =>
    intro rec
    exact ⟨_, Kd.R_nil _ _ _ _ _, hg ▸ below_alloc (hg ▸ below_alloc (hg ▸ hB0) _) _, blk_alloc (blk_alloc h1 _) _, blk_alloc (blk_alloc h2 _) _, blk_alloc (blk_alloc h3 _) _⟩
  case refine_9 =>
    rintro i v W hv ⟨v1, e1, e2, e3, e4, e5⟩ hlt
    refine wpIn_hide ?_
    intro Q HQ
    have HR1 := Aside0.mk (And.intro HQ.out hv)
    clear HQ hv
    have hvv : v = slotV p i := by
      rcases List.getElem?_eq_some_iff.1 HR1.out.2 with ⟨q1, q2⟩
      rw [← q2]; simp
    subst hvv
    unfold slotV
    simp only [List.zip_toArray, List.zip_cons_cons, List.zip_nil_right, List.size_toArray, List.length_cons, List.length_nil, Nat.reduceAdd, List.foldl_toArray', List.foldl_cons, List.foldl_nil]
    gi_wp2_with fail
    refine HR1.out.1 _ _ _ ⟨⟨v1, W.heap.size, Kd.R_alloc e1 _, hg ▸ below_alloc (hg ▸ e2) _, blk_alloc e3 _, blk_alloc e4 _, blk_alloc e5 _, hlt, blk_new _ _, ?_⟩, ?_, ?_⟩
    · simp [Array.replicate_succ]
    · exact Below.heap_alloc _ _ _ hlt
    · exact Below.heap_alloc _ _ _ (by omega)
  case refine_10 =>
    rintro i v a₁ W hv ⟨v1, b, e1, e2, e3, e4, e5, e7, e8, rfl⟩ hlt
    clear hK0 h1 h2 h3 hB0 hsz
    simp only [Array.replicate_succ, Array.replicate_zero, List.push_toArray, List.append_toArray, List.nil_append, List.cons_append]
    refine wpIn_hideN (by rintro a w ⟨_, _, h⟩; exact h) ?_
    intro Q HQ HN
    have HPB := HPB.out
    clear HR
    have hx := twoS_range p (2 + 4 * (i : Int))
    have hy := twoS_range p (4 + 4 * (i : Int))
    have hi : i < n := by
      have := (List.getElem?_eq_some_iff.1 hv).1
      simpa using this
    have hgd := hgood i hi
    have hlen := cellsS_length p i
    have hcs : cellsS p (i + 1) = if 0 < twoS p (4 + 4 * (i : Int)) then cellsS p i ++ [⟨(i : Int) + 1, p.extract (twoS p (2 + 4 * (i : Int))).toNat (twoS p (2 + 4 * (i : Int)) + twoS p (4 + 4 * (i : Int))).toNat⟩] else cellsS p i := rfl
    have c1 := (blk_cell e3 0).trans rfl
    have c2 := (blk_cell e4 0).trans rfl
    have c3 := (blk_cell e8 0).trans rfl
    have c4 := (blk_cell e8 1).trans rfl
    have c5 := (blk_cell e8 2).trans rfl
    have f2 := blk_frozen e4 0
    have hown := e1.1
    have HB := Aside0.mk (And.intro e1 (And.intro e2 (And.intro e3 (And.intro e4 e5))))
    have hblt := blk_lt e8
    have hbe := Below.block e2
    have hpbW : W.heap[pb]? = some (.cells #[.string p] 9) := (e2.block pb hplt).trans HPB
    have HP := Aside0.mk hpbW
    clear e1 e2 e3 e4 e5 e8 hgood hv hpbW hbe HPB
    obtain ⟨x, HX⟩ : ∃ x, twoS p (2 + 4 * (i : Int)) = x := ⟨_, rfl⟩
    obtain ⟨y, HY⟩ : ∃ y, twoS p (4 + 4 * (i : Int)) = y := ⟨_, rfl⟩
    simp only [HX, HY] at hx hy c4 c5 hgd hcs ⊢
    clear HX HY
    by_cases hy0 : 0 < y
    · rw [if_pos hy0] at hcs
      have HCS := Aside0.mk hcs
      replace hgd := hgd hy0
      clear hcs
      gi_wp2_with fail
      refine round_region_any (by kernel_rfl) (by kernel_rfl) (fun a w h => HN.out _ _ h) ?_
      change wpAny _ _ _ _ _ _ _ (World.drew _)
      all_goals first
        | refine wpAny_ready (rs := [0, 1, 2]) (by decide +kernel) (by simp) ?_
        | refine wpAny_ready (rs := [1, 2]) (by decide +kernel) (by simp) ?_
        | refine wpAny_ready (rs := [0, 2]) (by decide +kernel) (by simp) ?_
        | refine wpAny_ready (rs := [0, 1]) (by decide +kernel) (by simp) ?_
        | refine wpAny_ready (rs := [2]) (by decide +kernel) (by simp) ?_
        | refine wpAny_ready (rs := [1]) (by decide +kernel) (by simp) ?_
        | refine wpAny_ready (rs := [0, 3]) (by decide +kernel) (by simp) ?_
        | refine wpAny_ready (rs := [3]) (by decide +kernel) (by simp) ?_
        | refine wpAny_ready (rs := [0, 4]) (by decide +kernel) (by simp) ?_
        | refine wpAny_ready (rs := [4]) (by decide +kernel) (by simp) ?_
        | refine wpAny_ready (rs := [0]) (by decide +kernel) (by simp) ?_
        | refine wpAny_ready (rs := [5]) (by decide +kernel) (by simp) ?_
        | refine wpAny_ready (rs := [6]) (by decide +kernel) (by simp) ?_
      all_goals repeat' (first | exact AllReady.nil | refine AllReady.cons rfl (fun K hK => ?_) ?_)
      all_goals first
        | (go_simp
           first
           | (refine hK _ _ ?_
              clear hK K)
           | (go_at_call 99
              refine (page_cells1_calls p pb _ x y hx.1 (by omega) hgd hs2 _ (blk_drew HP.out)).mono ?_
              rintro e w' ⟨rfl, hcb⟩
              have g2 := blk_below (blk_drew HB.out.2.2.2.1) hcb
              have d1 := (blk_cell g2 0).trans rfl
              have d2 := blk_frozen g2 0
              have d5 := blk_lt g2
              have HW := Aside0.mk (And.intro (Kd.R_below (Kd.R_drew HB.out.1) hcb) (And.intro (below_then HB.out.2.1.drew (by have := hblt; simp; omega) hcb) (And.intro g2 (Nat.lt_of_lt_of_le hblt hcb.size))))
              have HW2 := Aside0.mk hcb
              clear g2 hcb
              refine hK _ _ ?_
              clear hK K))
      all_goals first
        | refine wpAny_ready (rs := [0, 1, 2]) (by decide +kernel) (by simp) ?_
        | refine wpAny_ready (rs := [1, 2]) (by decide +kernel) (by simp) ?_
        | refine wpAny_ready (rs := [0, 2]) (by decide +kernel) (by simp) ?_
        | refine wpAny_ready (rs := [0, 1]) (by decide +kernel) (by simp) ?_
        | refine wpAny_ready (rs := [2]) (by decide +kernel) (by simp) ?_
        | refine wpAny_ready (rs := [1]) (by decide +kernel) (by simp) ?_
        | refine wpAny_ready (rs := [0, 3]) (by decide +kernel) (by simp) ?_
        | refine wpAny_ready (rs := [3]) (by decide +kernel) (by simp) ?_
        | refine wpAny_ready (rs := [0, 4]) (by decide +kernel) (by simp) ?_
        | refine wpAny_ready (rs := [4]) (by decide +kernel) (by simp) ?_
        | refine wpAny_ready (rs := [0]) (by decide +kernel) (by simp) ?_
        | refine wpAny_ready (rs := [5]) (by decide +kernel) (by simp) ?_
        | refine wpAny_ready (rs := [6]) (by decide +kernel) (by simp) ?_
      all_goals repeat' (first | exact AllReady.nil | refine AllReady.cons rfl (fun K hK => ?_) ?_)
      all_goals first
        | (go_simp
           first
           | (refine hK _ _ ?_
              clear hK K)
           | (go_at_call 99
              refine (page_cells1_calls p pb _ x y hx.1 (by omega) hgd hs2 _ (blk_drew HP.out)).mono ?_
              rintro e w' ⟨rfl, hcb⟩
              have g2 := blk_below (blk_drew HB.out.2.2.2.1) hcb
              have d1 := (blk_cell g2 0).trans rfl
              have d2 := blk_frozen g2 0
              have d5 := blk_lt g2
              have HW := Aside0.mk (And.intro (Kd.R_below (Kd.R_drew HB.out.1) hcb) (And.intro (below_then HB.out.2.1.drew (by have := hblt; simp; omega) hcb) (And.intro g2 (Nat.lt_of_lt_of_le hblt hcb.size))))
              have HW2 := Aside0.mk hcb
              clear g2 hcb
              refine hK _ _ ?_
              clear hK K))
      all_goals first
        | refine wpAny_ready (rs := [0, 1, 2]) (by decide +kernel) (by simp) ?_
        | refine wpAny_ready (rs := [1, 2]) (by decide +kernel) (by simp) ?_
        | refine wpAny_ready (rs := [0, 2]) (by decide +kernel) (by simp) ?_
        | refine wpAny_ready (rs := [0, 1]) (by decide +kernel) (by simp) ?_
        | refine wpAny_ready (rs := [2]) (by decide +kernel) (by simp) ?_
        | refine wpAny_ready (rs := [1]) (by decide +kernel) (by simp) ?_
        | refine wpAny_ready (rs := [0, 3]) (by decide +kernel) (by simp) ?_
        | refine wpAny_ready (rs := [3]) (by decide +kernel) (by simp) ?_
        | refine wpAny_ready (rs := [0, 4]) (by decide +kernel) (by simp) ?_
        | refine wpAny_ready (rs := [4]) (by decide +kernel) (by simp) ?_
        | refine wpAny_ready (rs := [0]) (by decide +kernel) (by simp) ?_
        | refine wpAny_ready (rs := [5]) (by decide +kernel) (by simp) ?_
        | refine wpAny_ready (rs := [6]) (by decide +kernel) (by simp) ?_
      all_goals repeat' (first | exact AllReady.nil | refine AllReady.cons rfl (fun K hK => ?_) ?_)
      all_goals first
        | (go_simp
           first
           | (refine hK _ _ ?_
              clear hK K)
           | (go_at_call 99
              refine (page_cells1_calls p pb _ x y hx.1 (by omega) hgd hs2 _ (blk_drew HP.out)).mono ?_
              rintro e w' ⟨rfl, hcb⟩
              have g2 := blk_below (blk_drew HB.out.2.2.2.1) hcb
              have d1 := (blk_cell g2 0).trans rfl
              have d2 := blk_frozen g2 0
              have d5 := blk_lt g2
              have HW := Aside0.mk (And.intro (Kd.R_below (Kd.R_drew HB.out.1) hcb) (And.intro (below_then HB.out.2.1.drew (by have := hblt; simp; omega) hcb) (And.intro g2 (Nat.lt_of_lt_of_le hblt hcb.size))))
              have HW2 := Aside0.mk hcb
              clear g2 hcb
              refine hK _ _ ?_
              clear hK K))
      all_goals first
        | refine wpAny_ready (rs := [0, 1, 2]) (by decide +kernel) (by simp) ?_
        | refine wpAny_ready (rs := [1, 2]) (by decide +kernel) (by simp) ?_
        | refine wpAny_ready (rs := [0, 2]) (by decide +kernel) (by simp) ?_
        | refine wpAny_ready (rs := [0, 1]) (by decide +kernel) (by simp) ?_
        | refine wpAny_ready (rs := [2]) (by decide +kernel) (by simp) ?_
        | refine wpAny_ready (rs := [1]) (by decide +kernel) (by simp) ?_
        | refine wpAny_ready (rs := [0, 3]) (by decide +kernel) (by simp) ?_
        | refine wpAny_ready (rs := [3]) (by decide +kernel) (by simp) ?_
        | refine wpAny_ready (rs := [0, 4]) (by decide +kernel) (by simp) ?_
        | refine wpAny_ready (rs := [4]) (by decide +kernel) (by simp) ?_
        | refine wpAny_ready (rs := [0]) (by decide +kernel) (by simp) ?_
        | refine wpAny_ready (rs := [5]) (by decide +kernel) (by simp) ?_
        | refine wpAny_ready (rs := [6]) (by decide +kernel) (by simp) ?_
      all_goals repeat' (first | exact AllReady.nil | refine AllReady.cons rfl (fun K hK => ?_) ?_)
      all_goals first
        | (go_simp
           first
           | (refine hK _ _ ?_
              clear hK K)
           | (go_at_call 99
              refine (page_cells1_calls p pb _ x y hx.1 (by omega) hgd hs2 _ (blk_drew HP.out)).mono ?_
              rintro e w' ⟨rfl, hcb⟩
              have g2 := blk_below (blk_drew HB.out.2.2.2.1) hcb
              have d1 := (blk_cell g2 0).trans rfl
              have d2 := blk_frozen g2 0
              have d5 := blk_lt g2
              have HW := Aside0.mk (And.intro (Kd.R_below (Kd.R_drew HB.out.1) hcb) (And.intro (below_then HB.out.2.1.drew (by have := hblt; simp; omega) hcb) (And.intro g2 (Nat.lt_of_lt_of_le hblt hcb.size))))
              have HW2 := Aside0.mk hcb
              clear g2 hcb
              refine hK _ _ ?_
              clear hK K))
      all_goals first
        | refine wpAny_ready (rs := [0, 1, 2]) (by decide +kernel) (by simp) ?_
        | refine wpAny_ready (rs := [1, 2]) (by decide +kernel) (by simp) ?_
        | refine wpAny_ready (rs := [0, 2]) (by decide +kernel) (by simp) ?_
        | refine wpAny_ready (rs := [0, 1]) (by decide +kernel) (by simp) ?_
        | refine wpAny_ready (rs := [2]) (by decide +kernel) (by simp) ?_
        | refine wpAny_ready (rs := [1]) (by decide +kernel) (by simp) ?_
        | refine wpAny_ready (rs := [0, 3]) (by decide +kernel) (by simp) ?_
        | refine wpAny_ready (rs := [3]) (by decide +kernel) (by simp) ?_
        | refine wpAny_ready (rs := [0, 4]) (by decide +kernel) (by simp) ?_
        | refine wpAny_ready (rs := [4]) (by decide +kernel) (by simp) ?_
        | refine wpAny_ready (rs := [0]) (by decide +kernel) (by simp) ?_
        | refine wpAny_ready (rs := [5]) (by decide +kernel) (by simp) ?_
        | refine wpAny_ready (rs := [6]) (by decide +kernel) (by simp) ?_
      all_goals repeat' (first | exact AllReady.nil | refine AllReady.cons rfl (fun K hK => ?_) ?_)
      all_goals first
        | (go_simp
           first
           | (refine hK _ _ ?_
              clear hK K)
           | (go_at_call 99
              refine (page_cells1_calls p pb _ x y hx.1 (by omega) hgd hs2 _ (blk_drew HP.out)).mono ?_
              rintro e w' ⟨rfl, hcb⟩
              have g2 := blk_below (blk_drew HB.out.2.2.2.1) hcb
              have d1 := (blk_cell g2 0).trans rfl
              have d2 := blk_frozen g2 0
              have d5 := blk_lt g2
              have HW := Aside0.mk (And.intro (Kd.R_below (Kd.R_drew HB.out.1) hcb) (And.intro (below_then HB.out.2.1.drew (by have := hblt; simp; omega) hcb) (And.intro g2 (Nat.lt_of_lt_of_le hblt hcb.size))))
              have HW2 := Aside0.mk hcb
              clear g2 hcb
              refine hK _ _ ?_
              clear hK K))
      all_goals first
        | refine wpAny_ready (rs := [0, 1, 2]) (by decide +kernel) (by simp) ?_
        | refine wpAny_ready (rs := [1, 2]) (by decide +kernel) (by simp) ?_
        | refine wpAny_ready (rs := [0, 2]) (by decide +kernel) (by simp) ?_
        | refine wpAny_ready (rs := [0, 1]) (by decide +kernel) (by simp) ?_
        | refine wpAny_ready (rs := [2]) (by decide +kernel) (by simp) ?_
        | refine wpAny_ready (rs := [1]) (by decide +kernel) (by simp) ?_
        | refine wpAny_ready (rs := [0, 3]) (by decide +kernel) (by simp) ?_
        | refine wpAny_ready (rs := [3]) (by decide +kernel) (by simp) ?_
        | refine wpAny_ready (rs := [0, 4]) (by decide +kernel) (by simp) ?_
        | refine wpAny_ready (rs := [4]) (by decide +kernel) (by simp) ?_
        | refine wpAny_ready (rs := [0]) (by decide +kernel) (by simp) ?_
        | refine wpAny_ready (rs := [5]) (by decide +kernel) (by simp) ?_
        | refine wpAny_ready (rs := [6]) (by decide +kernel) (by simp) ?_
      all_goals repeat' (first | exact AllReady.nil | refine AllReady.cons rfl (fun K hK => ?_) ?_)
      all_goals first
        | (refine Kd.R_append_step k45 (w0 := w) g (by rfl) (.tmp 13) (.tmp 17) 22 45 (.agg #[.int .i64 0, .string ⟨#[]⟩]) 24 rfl Try.underlying22 info45 rfl (by decide) (by omega) v1 (cellsS p i) ⟨(i : Int) + 1, p.extract x.toNat (x + y).toNat⟩ [.int .i64 ((i : Int) + 1), .string (p.extract x.toNat (x + y).toNat)] (fun k => g + 4 < k) (fun _ => False) rfl rfl (k45_mkM _ _ _ _) (fun _ hk => hk.elim) ?aF ?aO ?aB ?aS ?aL ?_
           case aF => exact fun k hk => Nat.lt_of_lt_of_le (Nat.lt_trans e7 HW.out.2.2.2) hk
           case aO => exact HW.out.1
           case aB => exact HW.out.2.1
           case aS => exact Nat.le_of_lt (Nat.lt_trans (by omega) HW.out.2.2.2)
           case aL => omega
           intro v2 w2 hr2 hb2 hg2 hat2
           obtain ⟨A2, l2, c2_, rfl⟩ := R_is_slice hr2
           have g3 := blk_grown HW.out.2.2.1 hg2 (by intro h; have := hown _ h.symm; omega)
           have d3 := (blk_cell g3 0).trans rfl
           have d4 := blk_frozen g3 0
           have HZ := Aside0.mk (And.intro hr2 (And.intro hb2 (And.intro g3 (And.intro hg2 hat2))))
           clear hr2 hb2 g3 hg2 hat2
           refine hK _ _ ?_
           clear hK K)
      all_goals first
        | refine wpAny_ready (rs := [0, 1, 2]) (by decide +kernel) (by simp) ?_
        | refine wpAny_ready (rs := [1, 2]) (by decide +kernel) (by simp) ?_
        | refine wpAny_ready (rs := [0, 2]) (by decide +kernel) (by simp) ?_
        | refine wpAny_ready (rs := [0, 1]) (by decide +kernel) (by simp) ?_
        | refine wpAny_ready (rs := [2]) (by decide +kernel) (by simp) ?_
        | refine wpAny_ready (rs := [1]) (by decide +kernel) (by simp) ?_
        | refine wpAny_ready (rs := [0, 3]) (by decide +kernel) (by simp) ?_
        | refine wpAny_ready (rs := [3]) (by decide +kernel) (by simp) ?_
        | refine wpAny_ready (rs := [0, 4]) (by decide +kernel) (by simp) ?_
        | refine wpAny_ready (rs := [4]) (by decide +kernel) (by simp) ?_
        | refine wpAny_ready (rs := [0]) (by decide +kernel) (by simp) ?_
        | refine wpAny_ready (rs := [5]) (by decide +kernel) (by simp) ?_
        | refine wpAny_ready (rs := [6]) (by decide +kernel) (by simp) ?_
      all_goals repeat' (first | exact AllReady.nil | refine AllReady.cons rfl (fun K hK => ?_) ?_)
      all_goals
        go_simp
        refine hK _ _ ?_
        clear hK K
      all_goals refine wpAny_done (by decide +kernel) ?_ _
      all_goals
        refine HQ.out _ _ _ ⟨?_, ?_, .slice A2 l2 c2_, by rw [HCS.out]; exact Kd.R_far HZ.out.1 (fun k hk => by simp; omega) _, HZ.out.2.1.setCell (by simp) _, ?_, blk_set HZ.out.2.2.1 0 _, ?_⟩
        · exact (Below.heap_setCell _ _ _ _ (by simp)).trans ((HZ.out.2.2.2.1.block _ (Nat.lt_of_lt_of_le (by simpa using hlt) HW2.out.size) (by intro h; have := hown _ h.symm; omega)).trans (HW2.out.block _ (by simpa using hlt)))
        · exact (Below.heap_setCell _ _ _ _ (by simp)).trans ((HZ.out.2.2.2.1.block _ (Nat.lt_of_lt_of_le (show g + 3 < W.heap.size by omega) HW2.out.size) (by intro h; have := hown _ h.symm; omega)).trans (HW2.out.block _ (show g + 3 < W.heap.size by omega)))
        · exact blk_far (blk_grown (blk_below (blk_drew HB.out.2.2.1) HW2.out) HZ.out.2.2.2.1 (by intro h; have := hown _ h.symm; omega)) (by simp) _
        · exact blk_far (blk_grown (blk_below (blk_drew HB.out.2.2.2.2) HW2.out) HZ.out.2.2.2.1 (by intro h; have := hown _ h.symm; omega)) (by simp) _
    · rw [if_neg hy0] at hcs
      have HCS := Aside0.mk hcs
      clear hcs hgd
      gi_wp2_with fail
      refine HQ.out _ _ _ ⟨rfl, rfl, v1, by rw [HCS.out]; exact HB.out.1, HB.out.2.1, HB.out.2.2.1, HB.out.2.2.2.1, HB.out.2.2.2.2⟩
  case refine_11 =>
    rintro W ⟨v, e1, e2, e3, e4, e5⟩ hD
    refine hK0 _ _ ?_
    clear hK0
    refine wpX_of_wp ?_
    have c1 := (blk_cell e4 0).trans rfl
    have HB := Aside0.mk e2
    have HS := Aside0.mk e1
    have HD := Aside0.mk hD
    clear e1 e2 e3 e4 e5 hD h1 h2 h3
    go_wp2_with fail
    refine leavesM_ret HD.out (fun _ => results_tmp rfl _ _ _) ?_
    rw [← HR.out]
    have h8 := HS.out
    simp only [List.length_map, List.length_range] at h8
    exact ⟨v, rfl, Kd.R_mono (Kd.R_step h8 (fun k hk _ => World.putObj_heap_other (by omega))) (fun _ _ => trivial), below_putObj HB.out (by omega) _⟩
  case refine_12 => exact fun _ _ h => h.elim
  case refine_13 => exact fun _ _ h => h.elim

end Go.Proofs.Ytemglmcddaeedaa.PA

namespace Go.Proofs.Ytemglmcddaeedaa.PA
open Go.RowKit Go.Proofs.YtemglmcddaeedaaW.PrintWords Go.Proofs.YtemglmcddaeedaaW.PrintLast Go.Proofs.YtemglmcddaeedaaW.PrintMore
attribute [local go_sem] max2_int min2_int max_two min_two max_three min_three max_four min_four   -- for this text's walks alone
set_option linter.unusedVariables false
set_option linter.unusedSimpArgs false

/-! ### page_cells: function 49 -/
def page_cells.f (a0 : ByteArray) : Option (List S45) := if validS a0 then some (cellsS a0 (twoS a0 0).toNat) else none
set_option maxHeartbeats 4000000 in
set_option maxRecDepth 100000 in
theorem page_cells.calls (a0 : ByteArray) (r : List S45) (w : World) (h : page_cells.f a0 = some r) :
    Calls Try.prog 49 #[.string a0] w fun e w' => ∃ v0_ : Value, e = .returned (v0_) ∧ Kd.R k45 45 w' w.heap.size (fun _ => True) v0_ r ∧ Below w.heap.size w w' := by
  unfold page_cells.f at h
  split at h
  rotate_left
  · cases h
  rename_i hv
  obtain rfl := Option.some.inj h
  clear h
  obtain ⟨q1, q2, q3, q4, q5, top, q6, q7⟩ := validS_spec a0 hv
  have hr := twoS_range a0 0
  obtain ⟨n, hn⟩ : ∃ n : Nat, twoS a0 0 = n := ⟨(twoS a0 0).toNat, by omega⟩
  rw [hn, Int.toNat_natCast] at q6
  have hb := blk_new w (.cells #[.string a0] 9)
  have HG := Aside0.mk (page_gcell_calls a0 n hn (by omega) (by omega) w.heap.size (w.alloc (.cells #[.string a0] 9)) hb (fun i hi hy => (entriesS_good a0 n top q6 i hi hy).2))
  have HN := Aside0.mk hn
  clear hn hr q6 q7 hv hb
  go_enter Try.func49, Try.ntmps49
  go_wp2_with (go_at_call 98; refine HG.out.mono ?_; rintro e w' ⟨v, rfl, hr1, hb1⟩)
  go_ret
  rw [HN.out, Int.toNat_natCast]
  exact ⟨v, rfl, Kd.R_lower hr1 (by simp), below_then (below_alloc (Below.refl _ w) _) (by simp) hb1⟩

end Go.Proofs.Ytemglmcddaeedaa.PA

namespace Go.Proofs.Ytemglmcddaeedaa.PA
open Go.RowKit Go.Proofs.YtemglmcddaeedaaW.PrintWords Go.Proofs.YtemglmcddaeedaaW.PrintLast Go.Proofs.YtemglmcddaeedaaW.PrintMore
attribute [local go_sem] max2_int min2_int max_two min_two max_three min_three max_four min_four   -- for this text's walks alone
set_option linter.unusedVariables false
set_option linter.unusedSimpArgs false

/-! ### page_Cells: function 12 -/
def page_Cells.f (a0 : ByteArray) : Option ((List (S45)) × Int) := (page_Valid.f a0).bind fun t138 => (if t138 = true then ((page_cells.f a0).bind fun t139 => (some (t139, 0))) else (some (([] : List (S45)), 1)))
set_option maxHeartbeats 8000000 in
set_option maxRecDepth 100000 in
theorem page_Cells.calls (a0 : ByteArray) (r1 : List (S45)) (r2 : Int) (w : World) (h : page_Cells.f a0 = some (r1, r2)) :
    Calls Try.prog 12 #[.string a0] w fun e w' => ∃ v0_ : Value, e = .returned (.tuple #[v0_, .int .i64 r2]) ∧ Kd.R k45 45 w' w.heap.size (fun _ => True) v0_ r1 ∧ Below w.heap.size w w' := by
  have HB := Aside0.mk (Below.refl w.heap.size w)
  have H : ((page_Valid.f a0).bind fun t138 => (if t138 = true then ((page_cells.f a0).bind fun t139 => (some (t139, 0))) else (some (([] : List (S45)), 1)))) = some (r1, r2) := h
  clear h
  replace H := Option.bind_eq_some_iff.mp H
  obtain ⟨t138, A20, H⟩ := H
  replace H : (if t138 = true then ((page_cells.f a0).bind fun t139 => (some (t139, 0))) else (some (([] : List (S45)), 1))) = some (r1, r2) := H
  have A2 := Aside0.mk A20
  clear A20
  by_cases c3 : t138 = true
  · subst c3
    have H1 : ((page_cells.f a0).bind fun t139 => (some (t139, 0))) = some (r1, r2) := by rw [if_pos rfl] at H; exact H
    clear H
    have H := H1
    clear H1
    replace H := Option.bind_eq_some_iff.mp H
    obtain ⟨t139, A40, H⟩ := H
    replace H : (some (t139, 0)) = some (r1, r2) := H
    have A4 := Aside0.mk A40
    clear A40
    simp only [Option.some.injEq, Prod.mk.injEq] at H
    obtain ⟨rfl, rfl⟩ := H
    go_enter Try.func12, Try.ntmps12
    go_wp2_with (first | ((with_reducible refine gate_callee (f := 21) rfl ?_); refine goesL_ (some 5) rfl rfl Try.func21 (by kernel_rfl) rfl #[.string a0] rfl (by (try simp only [List.map_toArray, List.map_cons, List.map_nil]); first | done | rfl | (simp only [List.length_drop, List.length_take]; rfl)) ?_; (with_reducible refine (page_Valid.calls a0 true _ A2.out).mono ?_); rintro e w5 ⟨rfl, hb⟩; refine ⟨_, rfl, ?_⟩; have n0_ := Aside0.mk (below_step (by repeat (first | (with_reducible first | exact HB.out | apply below_alloc | apply pw_below_drewN | apply below_drew1) | exact HB.out)) hb); clear HB; have HB := n0_; clear n0_; (try clear hb); (try clear hb2); (try clear hk); (try clear hi)) | ((with_reducible refine gate_callee (f := 49) rfl ?_); refine goesL_ (some 8) rfl rfl Try.func49 (by kernel_rfl) rfl #[.string a0] rfl (by (try simp only [List.map_toArray, List.map_cons, List.map_nil]); first | done | rfl | (simp only [List.length_drop, List.length_take]; rfl)) ?_; (with_reducible refine (page_cells.calls a0 t139 _ A4.out).mono ?_); rintro e w6 ⟨v140, rfl, ho0, hb⟩; refine ⟨_, rfl, ?_⟩; have n0_ := Aside0.mk (Kd.R_lower ho0 (below_size (by repeat (first | (with_reducible first | exact HB.out | apply below_alloc | apply pw_below_drewN | apply below_drew1) | exact HB.out)))); have n1_ := Aside0.mk (below_step (by repeat (first | (with_reducible first | exact HB.out | apply below_alloc | apply pw_below_drewN | apply below_drew1) | exact HB.out)) hb); clear HB; have HO141 := n0_; have HB := n1_; clear n0_ n1_; (try clear hb); (try clear hb2); (try clear hk); (try clear hi); (try clear ho0)))
    go_ret2
    exact ⟨_, by first | rfl | (simp [errW_none, errW_some] <;> rfl) | (simp [*, errW_none, errW_some] <;> rfl), by (with_reducible repeat (first | apply Kd.R_alloc | apply Kd.R_drewN | apply Kd.R_drew)); exact HO141.out, by repeat (first | (with_reducible first | exact HB.out | apply below_alloc | apply pw_below_drewN | apply below_drew1) | exact HB.out)⟩
  · replace c3 := Bool.eq_false_iff.mpr c3
    subst c3
    have H1 : (some (([] : List (S45)), 1)) = some (r1, r2) := by rw [if_neg (show ¬ (false = true) by decide)] at H; exact H
    clear H
    have H := H1
    clear H1
    simp only [Option.some.injEq, Prod.mk.injEq] at H
    obtain ⟨rfl, rfl⟩ := H
    go_enter Try.func12, Try.ntmps12
    go_wp2_with (first | ((with_reducible refine gate_callee (f := 21) rfl ?_); refine goesL_ (some 5) rfl rfl Try.func21 (by kernel_rfl) rfl #[.string a0] rfl (by (try simp only [List.map_toArray, List.map_cons, List.map_nil]); first | done | rfl | (simp only [List.length_drop, List.length_take]; rfl)) ?_; (with_reducible refine (page_Valid.calls a0 false _ A2.out).mono ?_); rintro e w7 ⟨rfl, hb⟩; refine ⟨_, rfl, ?_⟩; have n0_ := Aside0.mk (below_step (by repeat (first | (with_reducible first | exact HB.out | apply below_alloc | apply pw_below_drewN | apply below_drew1) | exact HB.out)) hb); clear HB; have HB := n0_; clear n0_; (try clear hb); (try clear hb2); (try clear hk); (try clear hi)))
    go_ret2
    exact ⟨_, by first | rfl | (simp [errW_none, errW_some] <;> rfl) | (simp [*, errW_none, errW_some] <;> rfl), by first | exact Kd.R_nil _ _ _ _ _ | exact Kd.N_nil _ _ _ _ _ | exact Kd.V_nil _ _ _ _ _ | exact Kd.Q_nil _ _ _ _ _ | exact Kd.S_nil _ _ _ _ _, by repeat (first | (with_reducible first | exact HB.out | apply below_alloc | apply pw_below_drewN | apply below_drew1) | exact HB.out)⟩

end Go.Proofs.Ytemglmcddaeedaa.PA

namespace Go.Proofs.Ytemglmcddaeedaa.PA
open Go.RowKit Go.Proofs.YtemglmcddaeedaaW.PrintWords Go.Proofs.YtemglmcddaeedaaW.PrintLast Go.Proofs.YtemglmcddaeedaaW.PrintMore
attribute [local go_sem] max2_int min2_int max_two min_two max_three min_three max_four min_four   -- for this text's walks alone
set_option linter.unusedVariables false
set_option linter.unusedSimpArgs false

theorem eqA45 (d : Nat) (w : World) (x0 y0 : Int) (x1 y1 : ByteArray) :
    (Op.equalIn (d + 2) 45 (.agg #[.int .i64 x0, .string x1]) (.agg #[.int .i64 y0, .string y1])).run Try.prog w = .ok (x0 == y0 && (x1.toList == y1.toList)) w := by
  refine eqA_of Try.underlying45 (by kernel_rfl) ?_
  refine eqf_cons (by rfl) (by go_simp; rfl) (by go_simp; rfl) (by go_simp) ?_
  exact eqf_last (by rfl) (by go_simp; rfl) (by go_simp; rfl) (by go_simp)
end Go.Proofs.Ytemglmcddaeedaa.PA

namespace Go.Proofs.Ytemglmcddaeedaa.PA
open Go.RowKit Go.Proofs.YtemglmcddaeedaaW.PrintWords Go.Proofs.YtemglmcddaeedaaW.PrintLast Go.Proofs.YtemglmcddaeedaaW.PrintMore
attribute [local go_sem] max2_int min2_int max_two min_two max_three min_three max_four min_four   -- for this text's walks alone
set_option linter.unusedVariables false
set_option linter.unusedSimpArgs false

attribute [local go_sem high] eqA45
/-! ### ringworklaw06_same: function 13 -/
def ringworklaw06_same.l0 : Nat → List (S45) → List (S45) → Int → Option (Bool)
  | 0, _, _, _ => none
  | k + 1, x0, x1, x5 => if x5 < (x0.length : Int) then (if 0 ≤ x5 then (if x5 < (x1.length : Int) then (if (!(((rd_T45 x0 x5).f0) == ((rd_T45 x1 x5).f0)) || (!((((rd_T45 x0 x5).f1).toList) == (((rd_T45 x1 x5).f1).toList)))) = true then (some false) else (ringworklaw06_same.l0 k x0 x1 (wrap64 (x5 + 1)))) else (none)) else (none)) else (some true)
def ringworklaw06_same.f (k : Nat) (l0 : List (S45)) (l1 : List (S45)) : Option (Bool) := if (l0.length : Int) = (l1.length : Int) then (ringworklaw06_same.l0 k l0 l1 0) else (some false)
theorem ringworklaw06_same.mono_l : ∀ k, (∀ y0 y1 y2, LeO (ringworklaw06_same.l0 k y0 y1 y2) (ringworklaw06_same.l0 (k + 1) y0 y1 y2))
  | 0 => fun _ _ _ r h => by simp [ringworklaw06_same.l0] at h
  | k + 1 => by
    have ih0 := ringworklaw06_same.mono_l k
    · intro y0 y1 y2
      unfold ringworklaw06_same.l0
      repeat' first
      | (with_reducible exact ih0 _ _ _)
      | (with_reducible exact LeO.refl _)
      | (with_reducible exact LeO.none _)
      | (with_reducible refine LeO.ite ?_ ?_)
      | (with_reducible refine LeO.bind ?_ (fun _ => ?_))
      | exact ih0 _ _ _
      | exact LeO.none _
      | refine LeO.ite ?_ ?_
      | refine LeO.bind ?_ (fun _ => ?_)
theorem ringworklaw06_same.mono : ∀ a0 a1 k, LeO (ringworklaw06_same.f k a0 a1) (ringworklaw06_same.f (k + 1) a0 a1) := by
  intro a0 a1 k
  have ih0 := ringworklaw06_same.mono_l k
  unfold ringworklaw06_same.f
  repeat' first
      | (with_reducible exact ih0 _ _ _)
      | (with_reducible exact LeO.refl _)
      | (with_reducible exact LeO.none _)
      | (with_reducible refine LeO.ite ?_ ?_)
      | (with_reducible refine LeO.bind ?_ (fun _ => ?_))
      | exact ih0 _ _ _
      | exact LeO.none _
      | refine LeO.ite ?_ ?_
      | refine LeO.bind ?_ (fun _ => ?_)
set_option maxHeartbeats 8000000 in
set_option maxRecDepth 100000 in
theorem ringworklaw06_same.calls (k : Nat) (A0 : Option Addr) (c0 : Nat) (l0 : List (S45)) (A1 : Option Addr) (c1 : Nat) (l1 : List (S45)) (r : Bool) (w : World) (hr0 : Kd.C k45 w A0 l0.length l0) (hc0 : l0.length ≤ c0) (hr1 : Kd.C k45 w A1 l1.length l1) (hc1 : l1.length ≤ c1) (h : ringworklaw06_same.f k l0 l1 = some r) :
    Calls Try.prog 13 #[.slice A0 l0.length c0, .slice A1 l1.length c1] w fun e w' => e = .returned (.bool r) ∧ Drawn0 w w' := by
  have hu45 := Try.underlying45
  have HR0 := Aside0.mk hr0
  have HC0 := Aside0.mk hc0
  clear hr0 hc0
  have HR1 := Aside0.mk hr1
  have HC1 := Aside0.mk hc1
  clear hr1 hc1
  have H : (if (l0.length : Int) = (l1.length : Int) then (ringworklaw06_same.l0 k l0 l1 0) else (some false)) = some r := h
  clear h
  by_cases c3 : (l0.length : Int) = (l1.length : Int)
  · rw [if_pos c3] at H
    have c3b0 : ((l0.length : Int) == (l1.length : Int)) = true := beq_iff_eq.mpr c3
    have c3b1 : ((l0.length : Int) != (l1.length : Int)) = false := bne_eq_false_iff_eq.mpr c3
    have c3b2 : (l0.length == l1.length) = true := by first | simpa using c3 | (simp at c3 ⊢; omega)
    clear c3
    have H' := Aside0.mk H
    clear H
    go_enter Try.func13, Try.ntmps13
    go_wp2
    repeat (go_quiet (fail); try go_wp2)
    go_loopg [5] k (fun kq v5 w' => ∃ (x5_1 : Int), v5 = .int .i64 x5_1 ∧ Aside0 (ringworklaw06_same.l0 kq l0 l1 x5_1 = some r) ∧ Aside0 (kq ≤ k) ∧ Drawn0 w w')
    case atStart => exact ⟨(0), (by first | rfl | (simp; done) | (simp [*]; done)), H', ⟨Nat.le_refl _⟩, by repeat (first | exact Drawn0.refl _ | apply Drawn0.step)⟩
    case round =>
      clear H'
      try clear c1
      try clear p2
      try clear c3
      try clear c3b0
      try clear c3b1
      try clear c3b2
      obtain ⟨x5_1, rfl, HA, HK1, ⟨m1, rfl⟩⟩ := hrel
      cases gk with
      | zero => exact absurd HA.out (by simp [ringworklaw06_same.l0])
      | succ k1 =>
        have H := HA.out
        clear HA
        simp only [ringworklaw06_same.l0] at H
        by_cases c4 : x5_1 < (l0.length : Int)
        · rw [if_pos c4] at H
          have c4b0 : decide (x5_1 < (l0.length : Int)) = true := decide_eq_true c4
          clear c4
          by_cases c5 : 0 ≤ x5_1
          · rw [if_pos c5] at H
            have c5b0 : decide (0 ≤ x5_1) = true := decide_eq_true c5
            clear c5
            by_cases c6 : x5_1 < (l1.length : Int)
            · rw [if_pos c6] at H
              have c6b0 : decide (x5_1 < (l1.length : Int)) = true := decide_eq_true c6
              clear c6
              by_cases c7 : (!(((rd_T45 l0 x5_1).f0) == ((rd_T45 l1 x5_1).f0)) || (!((((rd_T45 l0 x5_1).f1).toList) == (((rd_T45 l1 x5_1).f1).toList)))) = true
              · rw [if_pos c7] at H
                have c7b0 : (!(((rd_T45 l0 x5_1).f0) == ((rd_T45 l1 x5_1).f0)) || (!((((rd_T45 l0 x5_1).f1).toList) == (((rd_T45 l1 x5_1).f1).toList)))) = true := c7
                clear c7
                obtain rfl := Option.some.inj H
                have p142 : 0 ≤ (x5_1 : Int) := of_decide_eq_true (by first | (with_reducible assumption) | assumption)
                have q142 : x5_1 < (l0.length : Int) := of_decide_eq_true (by first | (with_reducible assumption) | assumption)
                obtain ⟨ad142, e142, hx142_0, hx142_1⟩ := at_T45 HR0.out x5_1 p142 q142
                cases e142
                replace p142 := eq_true p142
                replace q142 := eq_true q142
                have p143 : 0 ≤ (x5_1 : Int) := of_decide_eq_true (by first | (with_reducible assumption) | assumption)
                have q143 : x5_1 < (l1.length : Int) := of_decide_eq_true (by first | (with_reducible assumption) | assumption)
                obtain ⟨ad143, e143, hx143_0, hx143_1⟩ := at_T45 HR1.out x5_1 p143 q143
                cases e143
                replace p143 := eq_true p143
                replace q143 := eq_true q143
                go_wp2
                repeat (go_quiet (fail); try go_wp2)
                go_ret
                exact ⟨by first | rfl | (simp; done) | (simp [*]; done), by repeat (first | exact Drawn0.refl _ | apply Drawn0.step)⟩
              · rw [if_neg c7] at H
                have c7b0 : (!(((rd_T45 l0 x5_1).f0) == ((rd_T45 l1 x5_1).f0)) || (!((((rd_T45 l0 x5_1).f1).toList) == (((rd_T45 l1 x5_1).f1).toList)))) = false := by simpa using c7
                clear c7
                have H' := Aside0.mk H
                clear H
                have p142 : 0 ≤ (x5_1 : Int) := of_decide_eq_true (by first | (with_reducible assumption) | assumption)
                have q142 : x5_1 < (l0.length : Int) := of_decide_eq_true (by first | (with_reducible assumption) | assumption)
                obtain ⟨ad142, e142, hx142_0, hx142_1⟩ := at_T45 HR0.out x5_1 p142 q142
                cases e142
                replace p142 := eq_true p142
                replace q142 := eq_true q142
                have p143 : 0 ≤ (x5_1 : Int) := of_decide_eq_true (by first | (with_reducible assumption) | assumption)
                have q143 : x5_1 < (l1.length : Int) := of_decide_eq_true (by first | (with_reducible assumption) | assumption)
                obtain ⟨ad143, e143, hx143_0, hx143_1⟩ := at_T45 HR1.out x5_1 p143 q143
                cases e143
                replace p143 := eq_true p143
                replace q143 := eq_true q143
                go_wp2
                repeat (go_quiet (fail); try go_wp2)
                go_roundg k1
                case measure => have := HK1.out; omega
                case rel => exact ⟨(wrap64 (x5_1 + 1)), (by first | rfl | (simp; done) | (simp [*]; done)), H', ⟨by have := HK1.out; omega⟩, by repeat (first | exact Drawn0.refl _ | apply Drawn0.step)⟩
            · rw [if_neg c6] at H
              exact absurd H (by simp)
          · rw [if_neg c5] at H
            exact absurd H (by simp)
        · rw [if_neg c4] at H
          have c4b0 : decide (x5_1 < (l0.length : Int)) = false := decide_eq_false c4
          clear c4
          obtain rfl := Option.some.inj H
          go_wp2
          repeat (go_quiet (fail); try go_wp2)
          go_ret
          exact ⟨by first | rfl | (simp; done) | (simp [*]; done), by repeat (first | exact Drawn0.refl _ | apply Drawn0.step)⟩
  · rw [if_neg c3] at H
    have c3b0 : ((l0.length : Int) == (l1.length : Int)) = false := beq_eq_false_iff_ne.mpr c3
    have c3b1 : ((l0.length : Int) != (l1.length : Int)) = true := bne_iff_ne.mpr c3
    have c3b2 : (l0.length == l1.length) = false := by first | simpa using c3 | (simp at c3 ⊢; omega)
    obtain rfl := Option.some.inj H
    go_enter Try.func13, Try.ntmps13
    go_wp2
    repeat (go_quiet (fail); try go_wp2)
    go_ret
    exact ⟨by first | rfl | (simp; done) | (simp [*]; done), by repeat (first | exact Drawn0.refl _ | apply Drawn0.step)⟩

end Go.Proofs.Ytemglmcddaeedaa.PA

namespace Go.Proofs.Ytemglmcddaeedaa.PA
open Go.RowKit Go.Proofs.YtemglmcddaeedaaW.PrintWords Go.Proofs.YtemglmcddaeedaaW.PrintLast Go.Proofs.YtemglmcddaeedaaW.PrintMore
attribute [local go_sem] max2_int min2_int max_two min_two max_three min_three max_four min_four   -- for this text's walks alone
set_option linter.unusedVariables false
set_option linter.unusedSimpArgs false

/-! ### ringworklaw06_PageDamage: function 3 -/
def ringworklaw06_PageDamage.f (k : Nat) (a0 : Int) (l1 : List (S45)) (a2 : Int) (a3 : Int) : Option (Bool) := (ringworklaw06_Made.f k a0 l1).bind fun bt144 => (if bt144.2 = true then (if (IntKind.u64.wrap (a0)) = 0 then (none) else (if 0 ≤ (wrap64 (Int.tmod (IntKind.u64.wrap (a2)) (IntKind.u64.wrap (a0)))) then (if (wrap64 (Int.tmod (IntKind.u64.wrap (a2)) (IntKind.u64.wrap (a0)))) ≤ (bt144.1.size : Int) then (if (wrap64 (Int.tmod (IntKind.u64.wrap (a2)) (IntKind.u64.wrap (a0)))) < (bt144.1.size : Int) then ((some (([Go.bits .xor .u8 (bt bt144.1 (wrap64 (Int.tmod (IntKind.u64.wrap (a2)) (IntKind.u64.wrap (a0))))) ((IntKind.u64.wrap (1 + (Int.tmod (IntKind.u64.wrap (a3)) 255))) % 256)] : List Int) : List Int)).bind fun y146 => (if (bt144.1.extract 0 ((wrap64 (Int.tmod (IntKind.u64.wrap (a2)) (IntKind.u64.wrap (a0)))) : Int).toNat).size + (strOfNums y146).size ≤ 9223372036854775807 then (if 0 ≤ (wrap64 ((wrap64 (Int.tmod (IntKind.u64.wrap (a2)) (IntKind.u64.wrap (a0)))) + 1)) then (if (wrap64 ((wrap64 (Int.tmod (IntKind.u64.wrap (a2)) (IntKind.u64.wrap (a0)))) + 1)) ≤ (bt144.1.size : Int) then (if ((bt144.1.extract 0 ((wrap64 (Int.tmod (IntKind.u64.wrap (a2)) (IntKind.u64.wrap (a0)))) : Int).toNat) ++ (strOfNums y146)).size + (bt144.1.extract ((wrap64 ((wrap64 (Int.tmod (IntKind.u64.wrap (a2)) (IntKind.u64.wrap (a0)))) + 1)) : Int).toNat bt144.1.size).size ≤ 9223372036854775807 then ((page_Cells.f (((bt144.1.extract 0 ((wrap64 (Int.tmod (IntKind.u64.wrap (a2)) (IntKind.u64.wrap (a0)))) : Int).toNat) ++ (strOfNums y146)) ++ (bt144.1.extract ((wrap64 ((wrap64 (Int.tmod (IntKind.u64.wrap (a2)) (IntKind.u64.wrap (a0)))) + 1)) : Int).toNat bt144.1.size))).bind fun bt149 => (if bt149.2 = 1 then ((ringworklaw06_awake.f k).bind fun t153 => (some t153)) else (if bt149.2 = 0 then ((ringworklaw06_same.f k l1 bt149.1).bind fun t154 => (if t154 = true then (some false) else ((ringworklaw06_awake.f k).bind fun t155 => (some t155)))) else (some false)))) else (none)) else (none)) else (none)) else (none))) else (none)) else (none)) else (none))) else ((ringworklaw06_awake.f k).bind fun t156 => (some t156)))
theorem ringworklaw06_PageDamage.mono : ∀ a0 a1 a2 a3 k, LeO (ringworklaw06_PageDamage.f k a0 a1 a2 a3) (ringworklaw06_PageDamage.f (k + 1) a0 a1 a2 a3) := by
  intro a0 a1 a2 a3 k
  unfold ringworklaw06_PageDamage.f
  repeat' first
      | (with_reducible exact ringworklaw06_Made.mono _ _ _)
      | (with_reducible exact ringworklaw06_awake.mono _)
      | (with_reducible exact ringworklaw06_same.mono _ _ _)
      | (with_reducible exact LeO.refl _)
      | (with_reducible exact LeO.none _)
      | (with_reducible refine LeO.ite ?_ ?_)
      | (with_reducible refine LeO.bind ?_ (fun _ => ?_))
      | exact ringworklaw06_Made.mono _ _ _
      | exact ringworklaw06_awake.mono _
      | exact ringworklaw06_same.mono _ _ _
      | exact LeO.none _
      | refine LeO.ite ?_ ?_
      | refine LeO.bind ?_ (fun _ => ?_)
def ringworklaw06_PageDamage.T6 : Bool × List (List Nat × List Nat) := (true, [([], []), ([], []), ([0, 1], [0, 1]), ([], []), ([], []), ([3, 4], [3, 4]), ([], []), ([5, 6], [5, 6]), ([7], [7]), ([8], [8]), ([2, 9], [2, 9]), ([], []), ([], []), ([12], [12]), ([11, 13], [11, 13]), ([10, 14], [10, 14]), ([15, 0, 1, 2, 3, 4, 5, 6, 7, 8, 9, 10, 11, 12, 13, 14, 15], [15])])
def ringworklaw06_PageDamage.B6 : List Nat := [0, 0, 3, 0, 0, 24, 0, 120, 248, 504, 1023, 0, 0, 4096, 14336, 32767, 65535]
theorem ringworklaw06_PageDamage.tab6 : rtab .any (opsOf Try.f3 6) = ringworklaw06_PageDamage.T6 := by kernel_rfl
theorem ringworklaw06_PageDamage.bits6 : waitsOk ringworklaw06_PageDamage.T6.2 ringworklaw06_PageDamage.B6 = true := by kernel_rfl
set_option maxHeartbeats 8000000 in
set_option maxRecDepth 100000 in
theorem ringworklaw06_PageDamage.calls (k : Nat) (a0 : Int) (A1 : Option Addr) (c1 : Nat) (l1 : List (S45)) (a2 : Int) (a3 : Int) (r : Bool) (w : World) (hr1 : Kd.C k45 w A1 l1.length l1) (hc1 : l1.length ≤ c1) (h : ringworklaw06_PageDamage.f k a0 l1 a2 a3 = some r) :
    Calls Try.prog 3 #[.int .i64 a0, .slice A1 l1.length c1, .int .i64 a2, .int .i64 a3] w fun e w' => e = .returned (.bool r) ∧ Below w.heap.size w w' := by
  have HR1 := Aside0.mk hr1
  have HC1 := Aside0.mk hc1
  clear hr1 hc1
  have HB := Aside0.mk (Below.refl w.heap.size w)
  have H : ((ringworklaw06_Made.f k a0 l1).bind fun bt144 => (if bt144.2 = true then (if (IntKind.u64.wrap (a0)) = 0 then (none) else (if 0 ≤ (wrap64 (Int.tmod (IntKind.u64.wrap (a2)) (IntKind.u64.wrap (a0)))) then (if (wrap64 (Int.tmod (IntKind.u64.wrap (a2)) (IntKind.u64.wrap (a0)))) ≤ (bt144.1.size : Int) then (if (wrap64 (Int.tmod (IntKind.u64.wrap (a2)) (IntKind.u64.wrap (a0)))) < (bt144.1.size : Int) then ((some (([Go.bits .xor .u8 (bt bt144.1 (wrap64 (Int.tmod (IntKind.u64.wrap (a2)) (IntKind.u64.wrap (a0))))) ((IntKind.u64.wrap (1 + (Int.tmod (IntKind.u64.wrap (a3)) 255))) % 256)] : List Int) : List Int)).bind fun y146 => (if (bt144.1.extract 0 ((wrap64 (Int.tmod (IntKind.u64.wrap (a2)) (IntKind.u64.wrap (a0)))) : Int).toNat).size + (strOfNums y146).size ≤ 9223372036854775807 then (if 0 ≤ (wrap64 ((wrap64 (Int.tmod (IntKind.u64.wrap (a2)) (IntKind.u64.wrap (a0)))) + 1)) then (if (wrap64 ((wrap64 (Int.tmod (IntKind.u64.wrap (a2)) (IntKind.u64.wrap (a0)))) + 1)) ≤ (bt144.1.size : Int) then (if ((bt144.1.extract 0 ((wrap64 (Int.tmod (IntKind.u64.wrap (a2)) (IntKind.u64.wrap (a0)))) : Int).toNat) ++ (strOfNums y146)).size + (bt144.1.extract ((wrap64 ((wrap64 (Int.tmod (IntKind.u64.wrap (a2)) (IntKind.u64.wrap (a0)))) + 1)) : Int).toNat bt144.1.size).size ≤ 9223372036854775807 then ((page_Cells.f (((bt144.1.extract 0 ((wrap64 (Int.tmod (IntKind.u64.wrap (a2)) (IntKind.u64.wrap (a0)))) : Int).toNat) ++ (strOfNums y146)) ++ (bt144.1.extract ((wrap64 ((wrap64 (Int.tmod (IntKind.u64.wrap (a2)) (IntKind.u64.wrap (a0)))) + 1)) : Int).toNat bt144.1.size))).bind fun bt149 => (if bt149.2 = 1 then ((ringworklaw06_awake.f k).bind fun t153 => (some t153)) else (if bt149.2 = 0 then ((ringworklaw06_same.f k l1 bt149.1).bind fun t154 => (if t154 = true then (some false) else ((ringworklaw06_awake.f k).bind fun t155 => (some t155)))) else (some false)))) else (none)) else (none)) else (none)) else (none))) else (none)) else (none)) else (none))) else ((ringworklaw06_awake.f k).bind fun t156 => (some t156)))) = some r := h
  clear h
  replace H := Option.bind_eq_some_iff.mp H
  obtain ⟨⟨t144, t145⟩, A50, H⟩ := H
  replace H : (if t145 = true then (if (IntKind.u64.wrap (a0)) = 0 then (none) else (if 0 ≤ (wrap64 (Int.tmod (IntKind.u64.wrap (a2)) (IntKind.u64.wrap (a0)))) then (if (wrap64 (Int.tmod (IntKind.u64.wrap (a2)) (IntKind.u64.wrap (a0)))) ≤ (t144.size : Int) then (if (wrap64 (Int.tmod (IntKind.u64.wrap (a2)) (IntKind.u64.wrap (a0)))) < (t144.size : Int) then ((some (([Go.bits .xor .u8 (bt t144 (wrap64 (Int.tmod (IntKind.u64.wrap (a2)) (IntKind.u64.wrap (a0))))) ((IntKind.u64.wrap (1 + (Int.tmod (IntKind.u64.wrap (a3)) 255))) % 256)] : List Int) : List Int)).bind fun y146 => (if (t144.extract 0 ((wrap64 (Int.tmod (IntKind.u64.wrap (a2)) (IntKind.u64.wrap (a0)))) : Int).toNat).size + (strOfNums y146).size ≤ 9223372036854775807 then (if 0 ≤ (wrap64 ((wrap64 (Int.tmod (IntKind.u64.wrap (a2)) (IntKind.u64.wrap (a0)))) + 1)) then (if (wrap64 ((wrap64 (Int.tmod (IntKind.u64.wrap (a2)) (IntKind.u64.wrap (a0)))) + 1)) ≤ (t144.size : Int) then (if ((t144.extract 0 ((wrap64 (Int.tmod (IntKind.u64.wrap (a2)) (IntKind.u64.wrap (a0)))) : Int).toNat) ++ (strOfNums y146)).size + (t144.extract ((wrap64 ((wrap64 (Int.tmod (IntKind.u64.wrap (a2)) (IntKind.u64.wrap (a0)))) + 1)) : Int).toNat t144.size).size ≤ 9223372036854775807 then ((page_Cells.f (((t144.extract 0 ((wrap64 (Int.tmod (IntKind.u64.wrap (a2)) (IntKind.u64.wrap (a0)))) : Int).toNat) ++ (strOfNums y146)) ++ (t144.extract ((wrap64 ((wrap64 (Int.tmod (IntKind.u64.wrap (a2)) (IntKind.u64.wrap (a0)))) + 1)) : Int).toNat t144.size))).bind fun bt149 => (if bt149.2 = 1 then ((ringworklaw06_awake.f k).bind fun t153 => (some t153)) else (if bt149.2 = 0 then ((ringworklaw06_same.f k l1 bt149.1).bind fun t154 => (if t154 = true then (some false) else ((ringworklaw06_awake.f k).bind fun t155 => (some t155)))) else (some false)))) else (none)) else (none)) else (none)) else (none))) else (none)) else (none)) else (none))) else ((ringworklaw06_awake.f k).bind fun t156 => (some t156))) = some r := H
  have A5 := Aside0.mk A50
  clear A50
  by_cases c6 : t145 = true
  · subst c6
    have H1 : (if (IntKind.u64.wrap (a0)) = 0 then (none) else (if 0 ≤ (wrap64 (Int.tmod (IntKind.u64.wrap (a2)) (IntKind.u64.wrap (a0)))) then (if (wrap64 (Int.tmod (IntKind.u64.wrap (a2)) (IntKind.u64.wrap (a0)))) ≤ (t144.size : Int) then (if (wrap64 (Int.tmod (IntKind.u64.wrap (a2)) (IntKind.u64.wrap (a0)))) < (t144.size : Int) then ((some (([Go.bits .xor .u8 (bt t144 (wrap64 (Int.tmod (IntKind.u64.wrap (a2)) (IntKind.u64.wrap (a0))))) ((IntKind.u64.wrap (1 + (Int.tmod (IntKind.u64.wrap (a3)) 255))) % 256)] : List Int) : List Int)).bind fun y146 => (if (t144.extract 0 ((wrap64 (Int.tmod (IntKind.u64.wrap (a2)) (IntKind.u64.wrap (a0)))) : Int).toNat).size + (strOfNums y146).size ≤ 9223372036854775807 then (if 0 ≤ (wrap64 ((wrap64 (Int.tmod (IntKind.u64.wrap (a2)) (IntKind.u64.wrap (a0)))) + 1)) then (if (wrap64 ((wrap64 (Int.tmod (IntKind.u64.wrap (a2)) (IntKind.u64.wrap (a0)))) + 1)) ≤ (t144.size : Int) then (if ((t144.extract 0 ((wrap64 (Int.tmod (IntKind.u64.wrap (a2)) (IntKind.u64.wrap (a0)))) : Int).toNat) ++ (strOfNums y146)).size + (t144.extract ((wrap64 ((wrap64 (Int.tmod (IntKind.u64.wrap (a2)) (IntKind.u64.wrap (a0)))) + 1)) : Int).toNat t144.size).size ≤ 9223372036854775807 then ((page_Cells.f (((t144.extract 0 ((wrap64 (Int.tmod (IntKind.u64.wrap (a2)) (IntKind.u64.wrap (a0)))) : Int).toNat) ++ (strOfNums y146)) ++ (t144.extract ((wrap64 ((wrap64 (Int.tmod (IntKind.u64.wrap (a2)) (IntKind.u64.wrap (a0)))) + 1)) : Int).toNat t144.size))).bind fun bt149 => (if bt149.2 = 1 then ((ringworklaw06_awake.f k).bind fun t153 => (some t153)) else (if bt149.2 = 0 then ((ringworklaw06_same.f k l1 bt149.1).bind fun t154 => (if t154 = true then (some false) else ((ringworklaw06_awake.f k).bind fun t155 => (some t155)))) else (some false)))) else (none)) else (none)) else (none)) else (none))) else (none)) else (none)) else (none))) = some r := by rw [if_pos rfl] at H; exact H
    clear H
    have H := H1
    clear H1
    by_cases c7 : (IntKind.u64.wrap (a0)) = 0
    · rw [if_pos c7] at H
      exact absurd H (by simp)
    · rw [if_neg c7] at H
      have c7b0 : ((IntKind.u64.wrap (a0)) == 0) = false := beq_eq_false_iff_ne.mpr c7
      have c7b1 : ((IntKind.u64.wrap (a0)) != 0) = true := bne_iff_ne.mpr c7
      obtain ⟨ji8, hji8⟩ : ∃ j_ : Int, (wrap64 (Int.tmod (IntKind.u64.wrap (a2)) (IntKind.u64.wrap (a0)))) = j_ := ⟨_, rfl⟩
      replace H : (if 0 ≤ (ji8) then (if (ji8) ≤ (t144.size : Int) then (if (ji8) < (t144.size : Int) then ((some (([Go.bits .xor .u8 (bt t144 (ji8)) ((IntKind.u64.wrap (1 + (Int.tmod (IntKind.u64.wrap (a3)) 255))) % 256)] : List Int) : List Int)).bind fun y146 => (if (t144.extract 0 ((ji8) : Int).toNat).size + (strOfNums y146).size ≤ 9223372036854775807 then (if 0 ≤ (wrap64 ((ji8) + 1)) then (if (wrap64 ((ji8) + 1)) ≤ (t144.size : Int) then (if ((t144.extract 0 ((ji8) : Int).toNat) ++ (strOfNums y146)).size + (t144.extract ((wrap64 ((ji8) + 1)) : Int).toNat t144.size).size ≤ 9223372036854775807 then ((page_Cells.f (((t144.extract 0 ((ji8) : Int).toNat) ++ (strOfNums y146)) ++ (t144.extract ((wrap64 ((ji8) + 1)) : Int).toNat t144.size))).bind fun bt149 => (if bt149.2 = 1 then ((ringworklaw06_awake.f k).bind fun t153 => (some t153)) else (if bt149.2 = 0 then ((ringworklaw06_same.f k l1 bt149.1).bind fun t154 => (if t154 = true then (some false) else ((ringworklaw06_awake.f k).bind fun t155 => (some t155)))) else (some false)))) else (none)) else (none)) else (none)) else (none))) else (none)) else (none)) else (none)) = some r := by first | (rw [hji8] at H; exact H) | (simp only [hji8] at H ⊢; exact H)
      (try rw [hji8] at A5)
      have hji8w : (IntKind.i64.wrap (Int.tmod (IntKind.u64.wrap (a2)) (IntKind.u64.wrap (a0)))) = ji8 := (i64_w _).trans hji8
      by_cases c9 : 0 ≤ (ji8)
      · rw [if_pos c9] at H
        have c9b0 := eq_true c9
        have c9b1 : decide (0 ≤ (ji8)) = true := decide_eq_true c9
        clear c9
        by_cases c10 : (ji8) ≤ (t144.size : Int)
        · rw [if_pos c10] at H
          have c10b0 := eq_true c10
          have c10b1 : decide ((ji8) ≤ (t144.size : Int)) = true := decide_eq_true c10
          clear c10
          by_cases c11 : (ji8) < (t144.size : Int)
          · rw [if_pos c11] at H
            have c11b0 : decide ((ji8) < (t144.size : Int)) = true := decide_eq_true c11
            clear c11
            obtain ⟨y146, hy146⟩ : ∃ y_ : List Int, y_ = (([Go.bits .xor .u8 (bt t144 (ji8)) ((IntKind.u64.wrap (1 + (Int.tmod (IntKind.u64.wrap (a3)) 255))) % 256)] : List Int)) := ⟨_, rfl⟩
            replace H : (if (t144.extract 0 ((ji8) : Int).toNat).size + (strOfNums y146).size ≤ 9223372036854775807 then (if 0 ≤ (wrap64 ((ji8) + 1)) then (if (wrap64 ((ji8) + 1)) ≤ (t144.size : Int) then (if ((t144.extract 0 ((ji8) : Int).toNat) ++ (strOfNums y146)).size + (t144.extract ((wrap64 ((ji8) + 1)) : Int).toNat t144.size).size ≤ 9223372036854775807 then ((page_Cells.f (((t144.extract 0 ((ji8) : Int).toNat) ++ (strOfNums y146)) ++ (t144.extract ((wrap64 ((ji8) + 1)) : Int).toNat t144.size))).bind fun bt149 => (if bt149.2 = 1 then ((ringworklaw06_awake.f k).bind fun t153 => (some t153)) else (if bt149.2 = 0 then ((ringworklaw06_same.f k l1 bt149.1).bind fun t154 => (if t154 = true then (some false) else ((ringworklaw06_awake.f k).bind fun t155 => (some t155)))) else (some false)))) else (none)) else (none)) else (none)) else (none)) = some r := by first | (rw [hy146]; with_reducible exact H) | (have H2_ := (Option.bind_some _ _).symm.trans H; rw [hy146]; with_reducible exact H2_) | (have H2_ := (Option.bind_some _ _).symm.trans H; with_reducible exact H2_) | with_reducible exact H | (rw [hy146]; exact H) | exact H
            have Ny146 := Aside0.mk hy146
            clear hy146
            by_cases c13 : (t144.extract 0 ((ji8) : Int).toNat).size + (strOfNums y146).size ≤ 9223372036854775807
            · rw [if_pos c13] at H
              have c13b0 := eq_true c13
              have c13b1 : decide ((t144.extract 0 ((ji8) : Int).toNat).size + (strOfNums y146).size ≤ 9223372036854775807) = true := decide_eq_true c13
              try have c13b2 : (9223372036854775807 < (t144.extract 0 ((ji8) : Int).toNat).size + (strOfNums y146).size) = False := eq_false (Nat.not_lt.2 c13)
              have c13b3 : (9223372036854775807 < (ji8).toNat + (strOfNums y146).size) = False := eq_false (by have q_ : (ji8) < (t144.size : Int) := of_decide_eq_true (by assumption); have h_ := c13; simp only [ByteArray.size_append, ByteArray.size_extract] at h_; omega)
              obtain ⟨ji14, hji14⟩ : ∃ j_ : Int, (wrap64 ((ji8) + 1)) = j_ := ⟨_, rfl⟩
              replace H : (if 0 ≤ (ji14) then (if (ji14) ≤ (t144.size : Int) then (if ((t144.extract 0 ((ji8) : Int).toNat) ++ (strOfNums y146)).size + (t144.extract ((ji14) : Int).toNat t144.size).size ≤ 9223372036854775807 then ((page_Cells.f (((t144.extract 0 ((ji8) : Int).toNat) ++ (strOfNums y146)) ++ (t144.extract ((ji14) : Int).toNat t144.size))).bind fun bt149 => (if bt149.2 = 1 then ((ringworklaw06_awake.f k).bind fun t153 => (some t153)) else (if bt149.2 = 0 then ((ringworklaw06_same.f k l1 bt149.1).bind fun t154 => (if t154 = true then (some false) else ((ringworklaw06_awake.f k).bind fun t155 => (some t155)))) else (some false)))) else (none)) else (none)) else (none)) = some r := by first | (rw [hji14] at H; exact H) | (simp only [hji14] at H ⊢; exact H)
              (try rw [hji14] at A5)
              have hji14w : (IntKind.i64.wrap ((ji8) + 1)) = ji14 := (i64_w _).trans hji14
              by_cases c15 : 0 ≤ (ji14)
              · rw [if_pos c15] at H
                have c15b0 := eq_true c15
                have c15b1 : decide (0 ≤ (ji14)) = true := decide_eq_true c15
                clear c15
                by_cases c16 : (ji14) ≤ (t144.size : Int)
                · rw [if_pos c16] at H
                  have c16b0 := eq_true c16
                  have c16b1 : decide ((ji14) ≤ (t144.size : Int)) = true := decide_eq_true c16
                  clear c16
                  by_cases c17 : ((t144.extract 0 ((ji8) : Int).toNat) ++ (strOfNums y146)).size + (t144.extract ((ji14) : Int).toNat t144.size).size ≤ 9223372036854775807
                  · rw [if_pos c17] at H
                    have c17b0 := eq_true c17
                    have c17b1 : decide (((t144.extract 0 ((ji8) : Int).toNat) ++ (strOfNums y146)).size + (t144.extract ((ji14) : Int).toNat t144.size).size ≤ 9223372036854775807) = true := decide_eq_true c17
                    try have c17b2 : (9223372036854775807 < ((t144.extract 0 ((ji8) : Int).toNat) ++ (strOfNums y146)).size + (t144.extract ((ji14) : Int).toNat t144.size).size) = False := eq_false (Nat.not_lt.2 c17)
                    have c17b3 : (9223372036854775807 < (ji8).toNat + (strOfNums y146).size + (t144.size - (ji14).toNat)) = False := eq_false (by have q_ : (ji8) < (t144.size : Int) := of_decide_eq_true (by assumption); have h_ := c17; simp only [ByteArray.size_append, ByteArray.size_extract] at h_; omega)
                    replace H := Option.bind_eq_some_iff.mp H
                    obtain ⟨⟨t149, t150⟩, A180, H⟩ := H
                    replace H : (if t150 = 1 then ((ringworklaw06_awake.f k).bind fun t153 => (some t153)) else (if t150 = 0 then ((ringworklaw06_same.f k l1 t149).bind fun t154 => (if t154 = true then (some false) else ((ringworklaw06_awake.f k).bind fun t155 => (some t155)))) else (some false))) = some r := H
                    have A18 := Aside0.mk A180
                    clear A180
                    by_cases c19 : t150 = 1
                    · rw [if_pos c19] at H
                      have c19b0 : (t150 == 1) = true := beq_iff_eq.mpr c19
                      have c19b1 : (t150 != 1) = false := bne_eq_false_iff_eq.mpr c19
                      clear c19
                      replace H := Option.bind_eq_some_iff.mp H
                      obtain ⟨t153, A200, H⟩ := H
                      replace H : (some t153) = some r := H
                      have A20 := Aside0.mk A200
                      clear A200
                      obtain rfl := Option.some.inj H
                      go_enter Try.func3, Try.ntmps3
                      try go_wp2_with (first | ((with_reducible refine gate_callee (f := 10) rfl ?_); refine goesL_ (some 19) rfl rfl Try.func10 (by kernel_rfl) rfl #[.int .i64 a0, .slice A1 l1.length c1] rfl (by (try simp only [List.map_toArray, List.map_cons, List.map_nil]); first | done | rfl | (simp only [List.length_drop, List.length_take]; rfl)) ?_; (with_reducible refine (ringworklaw06_Made.calls k a0 _ _ l1 t144 true _ ?side1 ?side2 A5.out).mono ?_); (case side1 => repeat (first | exact HR1.out | (with_reducible refine Kd.C_alloc ?_ _) | (with_reducible refine Kd.C_drewN ?_ _) | (with_reducible refine Kd.C_drew ?_))); (case side2 => exact HC1.out); rintro e w21 ⟨rfl, hb⟩; refine ⟨_, rfl, ?_⟩; have n0_ := Aside0.mk (below_step (by repeat (first | (with_reducible first | exact HB.out | apply below_alloc | apply pw_below_drewN | apply below_drew1) | exact HB.out)) hb); clear HB; have HB := n0_; clear n0_; (try clear hb); (try clear hb2); (try clear hk); (try clear hi)))
                      have n0_ := Aside0.mk (below_drew1 HB.out)
                      clear HB
                      have HB := n0_
                      clear n0_
                      have p12 : 0 ≤ ((ji8) : Int) := of_decide_eq_true (by first | (with_reducible assumption) | assumption)
                      have q12 : (ji8) < (t144.size : Int) := of_decide_eq_true (by first | (with_reducible assumption) | assumption)
                      have hx12 := bt_at t144 (ji8)
                      replace p12 := eq_true p12
                      replace q12 := eq_true q12
                      refine start_ (n := 17) (S := fun w' => True) (ds := []) #[false, false, false, false, false, false, false, false, false, false, false, false, false, false, false, false, false] (by kernel_rfl) rfl rfl trivial (fun hHeld => ?_); refine with_tabW ringworklaw06_PageDamage.tab6 ringworklaw06_PageDamage.bits6 (fun HT_ HW_ => ?_)
                      generalize w21.drew = w22 at HB hHeld ⊢
                      refine pure_ (i := 0) (N := some 36) (v := ?_) (a' := ?_) #[true, false, false, false, false, false, false, false, false, false, false, false, false, false, false, false, false] rfl rfl (any_of HT_.out (by kernel_rfl)) (fun _ _ _ h => h) (Or.inl ⟨by rfl, ?_⟩) ?_ ?_
                      rotate_left
                      · intro w'
                        go_simp
                        with_reducible rfl
                      rotate_left
                      · simp only [Act.put, List.setIfInBounds_toArray, List.set_cons_zero, List.set_cons_succ, i64_w, i32_w]
                        rfl
                      refine pure_ (i := 1) (N := some 37) (v := ?_) (a' := ?_) #[true, true, false, false, false, false, false, false, false, false, false, false, false, false, false, false, false] rfl rfl (any_of HT_.out (by kernel_rfl)) (fun _ _ _ h => h) (Or.inl ⟨by rfl, ?_⟩) ?_ ?_
                      rotate_left
                      · intro w'
                        go_simp
                        with_reducible rfl
                      rotate_left
                      · simp only [Act.put, List.setIfInBounds_toArray, List.set_cons_zero, List.set_cons_succ, i64_w, i32_w]
                        rfl
                      refine pure_ (i := 2) (N := some 38) (v := ?_) (a' := ?_) #[true, true, true, false, false, false, false, false, false, false, false, false, false, false, false, false, false] rfl rfl (any_of HT_.out (by kernel_rfl)) (fun _ _ _ h => h) (Or.inl ⟨by rfl, ?_⟩) ?_ ?_
                      rotate_left
                      · intro w'
                        go_simp
                        with_reducible rfl
                      rotate_left
                      · simp only [Act.put, List.setIfInBounds_toArray, List.set_cons_zero, List.set_cons_succ, i64_w, i32_w]
                        rfl
                      refine pure_ (i := 3) (N := some 39) (v := ?_) (a' := ?_) #[true, true, true, true, false, false, false, false, false, false, false, false, false, false, false, false, false] rfl rfl (any_of HT_.out (by kernel_rfl)) (fun _ _ _ h => h) (Or.inl ⟨by rfl, ?_⟩) ?_ ?_
                      rotate_left
                      · intro w'
                        go_simp
                        with_reducible rfl
                      rotate_left
                      · simp only [Act.put, List.setIfInBounds_toArray, List.set_cons_zero, List.set_cons_succ, i64_w, i32_w]
                        rfl
                      refine pure_ (i := 4) (N := some 40) (v := ?_) (a' := ?_) #[true, true, true, true, true, false, false, false, false, false, false, false, false, false, false, false, false] rfl rfl (any_of HT_.out (by kernel_rfl)) (fun _ _ _ h => h) (Or.inl ⟨by rfl, ?_⟩) ?_ ?_
                      rotate_left
                      · intro w'
                        go_simp
                        with_reducible rfl
                      rotate_left
                      · simp only [Act.put, List.setIfInBounds_toArray, List.set_cons_zero, List.set_cons_succ, i64_w, i32_w]
                        rfl
                      refine pure_ (i := 6) (N := some 42) (v := ?_) (a' := ?_) #[true, true, true, true, true, false, true, false, false, false, false, false, false, false, false, false, false] rfl rfl (any_of HT_.out (by kernel_rfl)) (fun _ _ _ h => h) (Or.inl ⟨by rfl, ?_⟩) ?_ ?_
                      rotate_left
                      · intro w'
                        go_simp
                        with_reducible rfl
                      rotate_left
                      · simp only [Act.put, List.setIfInBounds_toArray, List.set_cons_zero, List.set_cons_succ, i64_w, i32_w]
                        rfl
                      refine pure_ (i := 11) (N := some 47) (v := ?_) (a' := ?_) #[true, true, true, true, true, false, true, false, false, false, false, true, false, false, false, false, false] rfl rfl (any_of HT_.out (by kernel_rfl)) (fun _ _ _ h => h) (Or.inl ⟨by rfl, ?_⟩) ?_ ?_
                      rotate_left
                      · intro w'
                        go_simp
                        with_reducible rfl
                      rotate_left
                      · simp only [Act.put, List.setIfInBounds_toArray, List.set_cons_zero, List.set_cons_succ, i64_w, i32_w]
                        rfl
                      refine pure_ (i := 12) (N := some 48) (v := ?_) (a' := ?_) #[true, true, true, true, true, false, true, false, false, false, false, true, true, false, false, false, false] rfl rfl (any_of HT_.out (by kernel_rfl)) (fun _ _ _ h => h) (Or.inl ⟨by rfl, ?_⟩) ?_ ?_
                      rotate_left
                      · intro w'
                        go_simp
                        with_reducible rfl
                      rotate_left
                      · simp only [Act.put, List.setIfInBounds_toArray, List.set_cons_zero, List.set_cons_succ, i64_w, i32_w]
                        rfl
                      refine pure_ (i := 13) (N := some 49) (v := ?_) (a' := ?_) #[true, true, true, true, true, false, true, false, false, false, false, true, true, true, false, false, false] rfl rfl (any_of HT_.out (by kernel_rfl)) (fun _ _ _ h => h) (Or.inl ⟨by rfl, ?_⟩) ?_ ?_
                      rotate_left
                      · intro w'
                        go_simp
                        with_reducible rfl
                      rotate_left
                      · simp only [Act.put, List.setIfInBounds_toArray, List.set_cons_zero, List.set_cons_succ, i64_w, i32_w]
                        rfl
                      refine pure_ (i := 14) (N := some 50) (v := ?_) (a' := ?_) #[true, true, true, true, true, false, true, false, false, false, false, true, true, true, true, false, false] rfl rfl (any_of HT_.out (by kernel_rfl)) (fun _ _ _ h => h) (Or.inl ⟨by rfl, ?_⟩) ?_ ?_
                      rotate_left
                      · intro w'
                        go_simp
                        with_reducible rfl
                      rotate_left
                      · simp only [Act.put, List.setIfInBounds_toArray, List.set_cons_zero, List.set_cons_succ, i64_w, i32_w]
                        rfl
                      refine take_ (i := 5) (N := some 41) (v := ?_) (a' := ?_) #[true, true, true, true, true, true, true, false, false, false, false, true, true, true, true, false, false] rfl rfl (take_ofW HT_.out HW_.out (by kernel_rfl)) (fun _ _ _ h => h) (Or.inl ⟨by rfl, ?_⟩) hHeld ?_ ?_
                      rotate_left
                      · intro w' _
                        go_simp
                        with_reducible rfl
                      rotate_left
                      · simp only [Act.put, List.setIfInBounds_toArray, List.set_cons_zero, List.set_cons_succ, i64_w, i32_w]
                        rfl
                      refine pure_ (i := 7) (N := some 43) (v := ?_) (a' := ?_) #[true, true, true, true, true, true, true, true, false, false, false, true, true, true, true, false, false] rfl rfl (any_of HT_.out (by kernel_rfl)) (fun _ _ _ h => h) (Or.inl ⟨by rfl, ?_⟩) ?_ ?_
                      rotate_left
                      · intro w'
                        go_simp
                        with_reducible rfl
                      rotate_left
                      · simp only [Act.put, List.setIfInBounds_toArray, List.set_cons_zero, List.set_cons_succ, i64_w, i32_w]
                        rfl
                      refine one_ (i := 8) (N := some 44) #[true, true, true, true, true, true, true, true, true, false, false, true, true, true, true, false, false] rfl rfl (one_of HT_.out (by kernel_rfl)) (by decide) (fun K hK => ?_)
                      refine Kd.R_lit_step (Kd.int .u8) _ 5 ?hg (N := 44) ?hd (xs := ([Go.bits .xor .u8 (bt t144 (ji8)) ((IntKind.u64.wrap (1 + (Int.tmod (IntKind.u64.wrap (a3)) 255))) % 256)] : List Int)) (inner := [.int .u8 (Go.bits .xor .u8 (bt t144 (ji8)) ((IntKind.u64.wrap (1 + (Int.tmod (IntKind.u64.wrap (a3)) 255))) % 256))]) (ok := fun _ => True) (okp := fun _ => True) ?hr ?hp (fun _ hk => hk) trivial (Below.refl _ _) (Nat.le_refl _) (by simp) ?_; (case hd => rfl); (case hg => rfl); (case hr => first | (go_simp; done) | (go_simp; rfl)); (case hp => exact (Reps.one (show Kd.M (Kd.int .u8) _ _ _ (Go.bits .xor .u8 (bt t144 (ji8)) ((IntKind.u64.wrap (1 + (Int.tmod (IntKind.u64.wrap (a3)) 255))) % 256)) [.int .u8 (Go.bits .xor .u8 (bt t144 (ji8)) ((IntKind.u64.wrap (1 + (Int.tmod (IntKind.u64.wrap (a3)) 255))) % 256))] from rfl) (Reps.none _ _)))
                      intro v147 w23 ho24 hb hg_ hnew_
                      clear hg_ hnew_
                      (first | rw [← Ny146.out] at ho24 | (simp only [Int.reduceToNat] at ho24; rw [← Ny146.out] at ho24))
                      have n0_ := Aside0.mk (Kd.R_lower ho24 (below_size (by repeat (first | (with_reducible first | exact HB.out | apply below_alloc | apply pw_below_drewN | apply below_drew1) | exact HB.out))))
                      have n1_ := Aside0.mk (below_step (by repeat (first | (with_reducible first | exact HB.out | apply below_alloc | apply pw_below_drewN | apply below_drew1) | exact HB.out)) hb)
                      clear HB
                      have HO148 := n0_
                      have HB := n1_
                      clear n0_ n1_
                      clear hb ho24
                      refine hK.out _ _ trivial (fun hHeld => ?_)
                      clear hK K
                      refine norm_ (a' := ?_) ?_ ?_
                      rotate_left
                      · show Act.put _ (some 44) _ = _
                        simp only [Act.put, List.setIfInBounds_toArray, List.set_cons_zero, List.set_cons_succ, i64_w, i32_w]
                        rfl
                      refine one_ (i := 9) (N := some 45) #[true, true, true, true, true, true, true, true, true, true, false, true, true, true, true, false, false] rfl rfl (one_of HT_.out (by kernel_rfl)) (by decide) (fun K hK => ?_)
                      have hcv25 := own_string (P := Try.prog) Try.underlying27 Try.underlying5 Try.underlying9 (Kd.own_of_R HO148.out)
                      refine value_ (w1 := ?_) (v := ?_) (by rfl) rfl ?_ ?_
                      rotate_left 2
                      · go_simp
                        constructor
                        · rfl
                        · rfl
                      clear hcv25
                      refine hK.out _ _ trivial (fun hHeld => ?_)
                      clear hK K
                      refine norm_ (a' := ?_) ?_ ?_
                      rotate_left
                      · show Act.put _ (some 45) _ = _
                        simp only [Act.put, List.setIfInBounds_toArray, List.set_cons_zero, List.set_cons_succ, i64_w, i32_w]
                        rfl
                      refine pure_ (i := 10) (N := some 46) (v := ?_) (a' := ?_) #[true, true, true, true, true, true, true, true, true, true, true, true, true, true, true, false, false] rfl rfl (any_of HT_.out (by kernel_rfl)) (fun _ _ _ h => h) (Or.inl ⟨by rfl, ?_⟩) ?_ ?_
                      rotate_left
                      · intro w'
                        go_simp
                        with_reducible rfl
                      rotate_left
                      · simp only [Act.put, List.setIfInBounds_toArray, List.set_cons_zero, List.set_cons_succ, i64_w, i32_w]
                        rfl
                      refine pure_ (i := 15) (N := some 51) (v := ?_) (a' := ?_) #[true, true, true, true, true, true, true, true, true, true, true, true, true, true, true, true, false] rfl rfl (any_of HT_.out (by kernel_rfl)) (fun _ _ _ h => h) (Or.inl ⟨by rfl, ?_⟩) ?_ ?_
                      rotate_left
                      · intro w'
                        go_simp
                        with_reducible rfl
                      rotate_left
                      · simp only [Act.put, List.setIfInBounds_toArray, List.set_cons_zero, List.set_cons_succ, i64_w, i32_w]
                        rfl
                      refine pure_ (i := 16) (N := some 13) (v := ?_) (a' := ?_) #[true, true, true, true, true, true, true, true, true, true, true, true, true, true, true, true, true] rfl rfl (any_of HT_.out (by kernel_rfl)) (fun _ _ _ h => h) (Or.inl ⟨by rfl, ?_⟩) ?_ ?_
                      rotate_left
                      · intro w'
                        go_simp
                        with_reducible rfl
                      rotate_left
                      · simp only [Act.put, List.setIfInBounds_toArray, List.set_cons_zero, List.set_cons_succ, i64_w, i32_w]
                        rfl
                      refine done_ (done_of HT_.out (by kernel_rfl)) ?_
                      try go_wp2_with (first | ((with_reducible refine gate_callee (f := 12) rfl ?_); refine goesL_ (some 54) rfl rfl Try.func12 (by kernel_rfl) rfl #[.string (((t144.extract 0 ((ji8) : Int).toNat) ++ (strOfNums y146)) ++ (t144.extract ((ji14) : Int).toNat t144.size))] rfl (by (try simp only [List.map_toArray, List.map_cons, List.map_nil]); first | done | (simp only [hji14, hji8]; rfl) | rfl | (simp only [List.length_drop, List.length_take]; rfl)) ?_; (with_reducible refine (page_Cells.calls (((t144.extract 0 ((ji8) : Int).toNat) ++ (strOfNums y146)) ++ (t144.extract ((ji14) : Int).toNat t144.size)) t149 t150 _ A18.out).mono ?_); rintro e w26 ⟨v151, rfl, ho0, hb⟩; refine ⟨_, rfl, ?_⟩; have n0_ := Aside0.mk (Kd.R_below (by (with_reducible repeat (first | apply Kd.R_alloc | apply Kd.R_drewN | apply Kd.R_drew)); exact HO148.out) hb); have n1_ := Aside0.mk (Kd.R_lower ho0 (below_size (by repeat (first | (with_reducible first | exact HB.out | apply below_alloc | apply pw_below_drewN | apply below_drew1) | exact HB.out)))); have n2_ := Aside0.mk (below_step (by repeat (first | (with_reducible first | exact HB.out | apply below_alloc | apply pw_below_drewN | apply below_drew1) | exact HB.out)) hb); clear HO148; clear HB; have HO148 := n0_; have HO152 := n1_; have HB := n2_; clear n0_ n1_ n2_; (try clear hb); (try clear hb2); (try clear hk); (try clear hi); (try clear ho0)) | (go_at_call 11; (with_reducible refine (ringworklaw06_awake.calls k  t153 _ A20.out).mono ?_); rintro e w27 ⟨rfl, hb⟩; have n0_ := Aside0.mk (Kd.R_below (by (with_reducible repeat (first | apply Kd.R_alloc | apply Kd.R_drewN | apply Kd.R_drew)); exact HO148.out) hb); have n1_ := Aside0.mk (Kd.R_below (by (with_reducible repeat (first | apply Kd.R_alloc | apply Kd.R_drewN | apply Kd.R_drew)); exact HO152.out) hb); have n2_ := Aside0.mk (below_step (by repeat (first | (with_reducible first | exact HB.out | apply below_alloc | apply pw_below_drewN | apply below_drew1) | exact HB.out)) hb); clear HO148; clear HO152; clear HB; have HO148 := n0_; have HO152 := n1_; have HB := n2_; clear n0_ n1_ n2_; (try clear hb); (try clear hb2); (try clear hk); (try clear hi)))
                      go_ret
                      exact ⟨by first | rfl | (simp [errW_none, errW_some] <;> rfl) | (simp only [← hji8, ← hji14]; first | rfl | (simp [errW_none, errW_some] <;> rfl)) | (simp [*, errW_none, errW_some] <;> rfl), by repeat (first | (with_reducible first | exact HB.out | apply below_alloc | apply pw_below_drewN | apply below_drew1) | exact HB.out)⟩
                    · rw [if_neg c19] at H
                      have c19b0 : (t150 == 1) = false := beq_eq_false_iff_ne.mpr c19
                      have c19b1 : (t150 != 1) = true := bne_iff_ne.mpr c19
                      by_cases c28 : t150 = 0
                      · rw [if_pos c28] at H
                        have c28b0 : (t150 == 0) = true := beq_iff_eq.mpr c28
                        have c28b1 : (t150 != 0) = false := bne_eq_false_iff_eq.mpr c28
                        clear c28
                        replace H := Option.bind_eq_some_iff.mp H
                        obtain ⟨t154, A290, H⟩ := H
                        replace H : (if t154 = true then (some false) else ((ringworklaw06_awake.f k).bind fun t155 => (some t155))) = some r := H
                        have A29 := Aside0.mk A290
                        clear A290
                        by_cases c30 : t154 = true
                        · subst c30
                          have H1 : (some false) = some r := by rw [if_pos rfl] at H; exact H
                          clear H
                          have H := H1
                          clear H1
                          obtain rfl := Option.some.inj H
                          go_enter Try.func3, Try.ntmps3
                          try go_wp2_with (first | ((with_reducible refine gate_callee (f := 10) rfl ?_); refine goesL_ (some 19) rfl rfl Try.func10 (by kernel_rfl) rfl #[.int .i64 a0, .slice A1 l1.length c1] rfl (by (try simp only [List.map_toArray, List.map_cons, List.map_nil]); first | done | rfl | (simp only [List.length_drop, List.length_take]; rfl)) ?_; (with_reducible refine (ringworklaw06_Made.calls k a0 _ _ l1 t144 true _ ?side1 ?side2 A5.out).mono ?_); (case side1 => repeat (first | exact HR1.out | (with_reducible refine Kd.C_alloc ?_ _) | (with_reducible refine Kd.C_drewN ?_ _) | (with_reducible refine Kd.C_drew ?_))); (case side2 => exact HC1.out); rintro e w31 ⟨rfl, hb⟩; refine ⟨_, rfl, ?_⟩; have n0_ := Aside0.mk (below_step (by repeat (first | (with_reducible first | exact HB.out | apply below_alloc | apply pw_below_drewN | apply below_drew1) | exact HB.out)) hb); clear HB; have HB := n0_; clear n0_; (try clear hb); (try clear hb2); (try clear hk); (try clear hi)))
                          have n0_ := Aside0.mk (below_drew1 HB.out)
                          clear HB
                          have HB := n0_
                          clear n0_
                          have p12 : 0 ≤ ((ji8) : Int) := of_decide_eq_true (by first | (with_reducible assumption) | assumption)
                          have q12 : (ji8) < (t144.size : Int) := of_decide_eq_true (by first | (with_reducible assumption) | assumption)
                          have hx12 := bt_at t144 (ji8)
                          replace p12 := eq_true p12
                          replace q12 := eq_true q12
                          refine start_ (n := 17) (S := fun w' => True) (ds := []) #[false, false, false, false, false, false, false, false, false, false, false, false, false, false, false, false, false] (by kernel_rfl) rfl rfl trivial (fun hHeld => ?_); refine with_tabW ringworklaw06_PageDamage.tab6 ringworklaw06_PageDamage.bits6 (fun HT_ HW_ => ?_)
                          generalize w31.drew = w32 at HB hHeld ⊢
                          refine pure_ (i := 0) (N := some 36) (v := ?_) (a' := ?_) #[true, false, false, false, false, false, false, false, false, false, false, false, false, false, false, false, false] rfl rfl (any_of HT_.out (by kernel_rfl)) (fun _ _ _ h => h) (Or.inl ⟨by rfl, ?_⟩) ?_ ?_
                          rotate_left
                          · intro w'
                            go_simp
                            with_reducible rfl
                          rotate_left
                          · simp only [Act.put, List.setIfInBounds_toArray, List.set_cons_zero, List.set_cons_succ, i64_w, i32_w]
                            rfl
                          refine pure_ (i := 1) (N := some 37) (v := ?_) (a' := ?_) #[true, true, false, false, false, false, false, false, false, false, false, false, false, false, false, false, false] rfl rfl (any_of HT_.out (by kernel_rfl)) (fun _ _ _ h => h) (Or.inl ⟨by rfl, ?_⟩) ?_ ?_
                          rotate_left
                          · intro w'
                            go_simp
                            with_reducible rfl
                          rotate_left
                          · simp only [Act.put, List.setIfInBounds_toArray, List.set_cons_zero, List.set_cons_succ, i64_w, i32_w]
                            rfl
                          refine pure_ (i := 2) (N := some 38) (v := ?_) (a' := ?_) #[true, true, true, false, false, false, false, false, false, false, false, false, false, false, false, false, false] rfl rfl (any_of HT_.out (by kernel_rfl)) (fun _ _ _ h => h) (Or.inl ⟨by rfl, ?_⟩) ?_ ?_
                          rotate_left
                          · intro w'
                            go_simp
                            with_reducible rfl
                          rotate_left
                          · simp only [Act.put, List.setIfInBounds_toArray, List.set_cons_zero, List.set_cons_succ, i64_w, i32_w]
                            rfl
                          refine pure_ (i := 3) (N := some 39) (v := ?_) (a' := ?_) #[true, true, true, true, false, false, false, false, false, false, false, false, false, false, false, false, false] rfl rfl (any_of HT_.out (by kernel_rfl)) (fun _ _ _ h => h) (Or.inl ⟨by rfl, ?_⟩) ?_ ?_
                          rotate_left
                          · intro w'
                            go_simp
                            with_reducible rfl
                          rotate_left
                          · simp only [Act.put, List.setIfInBounds_toArray, List.set_cons_zero, List.set_cons_succ, i64_w, i32_w]
                            rfl
                          refine pure_ (i := 4) (N := some 40) (v := ?_) (a' := ?_) #[true, true, true, true, true, false, false, false, false, false, false, false, false, false, false, false, false] rfl rfl (any_of HT_.out (by kernel_rfl)) (fun _ _ _ h => h) (Or.inl ⟨by rfl, ?_⟩) ?_ ?_
                          rotate_left
                          · intro w'
                            go_simp
                            with_reducible rfl
                          rotate_left
                          · simp only [Act.put, List.setIfInBounds_toArray, List.set_cons_zero, List.set_cons_succ, i64_w, i32_w]
                            rfl
                          refine pure_ (i := 6) (N := some 42) (v := ?_) (a' := ?_) #[true, true, true, true, true, false, true, false, false, false, false, false, false, false, false, false, false] rfl rfl (any_of HT_.out (by kernel_rfl)) (fun _ _ _ h => h) (Or.inl ⟨by rfl, ?_⟩) ?_ ?_
                          rotate_left
                          · intro w'
                            go_simp
                            with_reducible rfl
                          rotate_left
                          · simp only [Act.put, List.setIfInBounds_toArray, List.set_cons_zero, List.set_cons_succ, i64_w, i32_w]
                            rfl
                          refine pure_ (i := 11) (N := some 47) (v := ?_) (a' := ?_) #[true, true, true, true, true, false, true, false, false, false, false, true, false, false, false, false, false] rfl rfl (any_of HT_.out (by kernel_rfl)) (fun _ _ _ h => h) (Or.inl ⟨by rfl, ?_⟩) ?_ ?_
                          rotate_left
                          · intro w'
                            go_simp
                            with_reducible rfl
                          rotate_left
                          · simp only [Act.put, List.setIfInBounds_toArray, List.set_cons_zero, List.set_cons_succ, i64_w, i32_w]
                            rfl
                          refine pure_ (i := 12) (N := some 48) (v := ?_) (a' := ?_) #[true, true, true, true, true, false, true, false, false, false, false, true, true, false, false, false, false] rfl rfl (any_of HT_.out (by kernel_rfl)) (fun _ _ _ h => h) (Or.inl ⟨by rfl, ?_⟩) ?_ ?_
                          rotate_left
                          · intro w'
                            go_simp
                            with_reducible rfl
                          rotate_left
                          · simp only [Act.put, List.setIfInBounds_toArray, List.set_cons_zero, List.set_cons_succ, i64_w, i32_w]
                            rfl
                          refine pure_ (i := 13) (N := some 49) (v := ?_) (a' := ?_) #[true, true, true, true, true, false, true, false, false, false, false, true, true, true, false, false, false] rfl rfl (any_of HT_.out (by kernel_rfl)) (fun _ _ _ h => h) (Or.inl ⟨by rfl, ?_⟩) ?_ ?_
                          rotate_left
                          · intro w'
                            go_simp
                            with_reducible rfl
                          rotate_left
                          · simp only [Act.put, List.setIfInBounds_toArray, List.set_cons_zero, List.set_cons_succ, i64_w, i32_w]
                            rfl
                          refine pure_ (i := 14) (N := some 50) (v := ?_) (a' := ?_) #[true, true, true, true, true, false, true, false, false, false, false, true, true, true, true, false, false] rfl rfl (any_of HT_.out (by kernel_rfl)) (fun _ _ _ h => h) (Or.inl ⟨by rfl, ?_⟩) ?_ ?_
                          rotate_left
                          · intro w'
                            go_simp
                            with_reducible rfl
                          rotate_left
                          · simp only [Act.put, List.setIfInBounds_toArray, List.set_cons_zero, List.set_cons_succ, i64_w, i32_w]
                            rfl
                          refine take_ (i := 5) (N := some 41) (v := ?_) (a' := ?_) #[true, true, true, true, true, true, true, false, false, false, false, true, true, true, true, false, false] rfl rfl (take_ofW HT_.out HW_.out (by kernel_rfl)) (fun _ _ _ h => h) (Or.inl ⟨by rfl, ?_⟩) hHeld ?_ ?_
                          rotate_left
                          · intro w' _
                            go_simp
                            with_reducible rfl
                          rotate_left
                          · simp only [Act.put, List.setIfInBounds_toArray, List.set_cons_zero, List.set_cons_succ, i64_w, i32_w]
                            rfl
                          refine pure_ (i := 7) (N := some 43) (v := ?_) (a' := ?_) #[true, true, true, true, true, true, true, true, false, false, false, true, true, true, true, false, false] rfl rfl (any_of HT_.out (by kernel_rfl)) (fun _ _ _ h => h) (Or.inl ⟨by rfl, ?_⟩) ?_ ?_
                          rotate_left
                          · intro w'
                            go_simp
                            with_reducible rfl
                          rotate_left
                          · simp only [Act.put, List.setIfInBounds_toArray, List.set_cons_zero, List.set_cons_succ, i64_w, i32_w]
                            rfl
                          refine one_ (i := 8) (N := some 44) #[true, true, true, true, true, true, true, true, true, false, false, true, true, true, true, false, false] rfl rfl (one_of HT_.out (by kernel_rfl)) (by decide) (fun K hK => ?_)
                          refine Kd.R_lit_step (Kd.int .u8) _ 5 ?hg (N := 44) ?hd (xs := ([Go.bits .xor .u8 (bt t144 (ji8)) ((IntKind.u64.wrap (1 + (Int.tmod (IntKind.u64.wrap (a3)) 255))) % 256)] : List Int)) (inner := [.int .u8 (Go.bits .xor .u8 (bt t144 (ji8)) ((IntKind.u64.wrap (1 + (Int.tmod (IntKind.u64.wrap (a3)) 255))) % 256))]) (ok := fun _ => True) (okp := fun _ => True) ?hr ?hp (fun _ hk => hk) trivial (Below.refl _ _) (Nat.le_refl _) (by simp) ?_; (case hd => rfl); (case hg => rfl); (case hr => first | (go_simp; done) | (go_simp; rfl)); (case hp => exact (Reps.one (show Kd.M (Kd.int .u8) _ _ _ (Go.bits .xor .u8 (bt t144 (ji8)) ((IntKind.u64.wrap (1 + (Int.tmod (IntKind.u64.wrap (a3)) 255))) % 256)) [.int .u8 (Go.bits .xor .u8 (bt t144 (ji8)) ((IntKind.u64.wrap (1 + (Int.tmod (IntKind.u64.wrap (a3)) 255))) % 256))] from rfl) (Reps.none _ _)))
                          intro v147 w33 ho34 hb hg_ hnew_
                          clear hg_ hnew_
                          (first | rw [← Ny146.out] at ho34 | (simp only [Int.reduceToNat] at ho34; rw [← Ny146.out] at ho34))
                          have n0_ := Aside0.mk (Kd.R_lower ho34 (below_size (by repeat (first | (with_reducible first | exact HB.out | apply below_alloc | apply pw_below_drewN | apply below_drew1) | exact HB.out))))
                          have n1_ := Aside0.mk (below_step (by repeat (first | (with_reducible first | exact HB.out | apply below_alloc | apply pw_below_drewN | apply below_drew1) | exact HB.out)) hb)
                          clear HB
                          have HO148 := n0_
                          have HB := n1_
                          clear n0_ n1_
                          clear hb ho34
                          refine hK.out _ _ trivial (fun hHeld => ?_)
                          clear hK K
                          refine norm_ (a' := ?_) ?_ ?_
                          rotate_left
                          · show Act.put _ (some 44) _ = _
                            simp only [Act.put, List.setIfInBounds_toArray, List.set_cons_zero, List.set_cons_succ, i64_w, i32_w]
                            rfl
                          refine one_ (i := 9) (N := some 45) #[true, true, true, true, true, true, true, true, true, true, false, true, true, true, true, false, false] rfl rfl (one_of HT_.out (by kernel_rfl)) (by decide) (fun K hK => ?_)
                          have hcv35 := own_string (P := Try.prog) Try.underlying27 Try.underlying5 Try.underlying9 (Kd.own_of_R HO148.out)
                          refine value_ (w1 := ?_) (v := ?_) (by rfl) rfl ?_ ?_
                          rotate_left 2
                          · go_simp
                            constructor
                            · rfl
                            · rfl
                          clear hcv35
                          refine hK.out _ _ trivial (fun hHeld => ?_)
                          clear hK K
                          refine norm_ (a' := ?_) ?_ ?_
                          rotate_left
                          · show Act.put _ (some 45) _ = _
                            simp only [Act.put, List.setIfInBounds_toArray, List.set_cons_zero, List.set_cons_succ, i64_w, i32_w]
                            rfl
                          refine pure_ (i := 10) (N := some 46) (v := ?_) (a' := ?_) #[true, true, true, true, true, true, true, true, true, true, true, true, true, true, true, false, false] rfl rfl (any_of HT_.out (by kernel_rfl)) (fun _ _ _ h => h) (Or.inl ⟨by rfl, ?_⟩) ?_ ?_
                          rotate_left
                          · intro w'
                            go_simp
                            with_reducible rfl
                          rotate_left
                          · simp only [Act.put, List.setIfInBounds_toArray, List.set_cons_zero, List.set_cons_succ, i64_w, i32_w]
                            rfl
                          refine pure_ (i := 15) (N := some 51) (v := ?_) (a' := ?_) #[true, true, true, true, true, true, true, true, true, true, true, true, true, true, true, true, false] rfl rfl (any_of HT_.out (by kernel_rfl)) (fun _ _ _ h => h) (Or.inl ⟨by rfl, ?_⟩) ?_ ?_
                          rotate_left
                          · intro w'
                            go_simp
                            with_reducible rfl
                          rotate_left
                          · simp only [Act.put, List.setIfInBounds_toArray, List.set_cons_zero, List.set_cons_succ, i64_w, i32_w]
                            rfl
                          refine pure_ (i := 16) (N := some 13) (v := ?_) (a' := ?_) #[true, true, true, true, true, true, true, true, true, true, true, true, true, true, true, true, true] rfl rfl (any_of HT_.out (by kernel_rfl)) (fun _ _ _ h => h) (Or.inl ⟨by rfl, ?_⟩) ?_ ?_
                          rotate_left
                          · intro w'
                            go_simp
                            with_reducible rfl
                          rotate_left
                          · simp only [Act.put, List.setIfInBounds_toArray, List.set_cons_zero, List.set_cons_succ, i64_w, i32_w]
                            rfl
                          refine done_ (done_of HT_.out (by kernel_rfl)) ?_
                          try go_wp2_with (first | ((with_reducible refine gate_callee (f := 12) rfl ?_); refine goesL_ (some 54) rfl rfl Try.func12 (by kernel_rfl) rfl #[.string (((t144.extract 0 ((ji8) : Int).toNat) ++ (strOfNums y146)) ++ (t144.extract ((ji14) : Int).toNat t144.size))] rfl (by (try simp only [List.map_toArray, List.map_cons, List.map_nil]); first | done | (simp only [hji14, hji8]; rfl) | rfl | (simp only [List.length_drop, List.length_take]; rfl)) ?_; (with_reducible refine (page_Cells.calls (((t144.extract 0 ((ji8) : Int).toNat) ++ (strOfNums y146)) ++ (t144.extract ((ji14) : Int).toNat t144.size)) t149 t150 _ A18.out).mono ?_); rintro e w36 ⟨v151, rfl, ho0, hb⟩; refine ⟨_, rfl, ?_⟩; have n0_ := Aside0.mk (Kd.R_below (by (with_reducible repeat (first | apply Kd.R_alloc | apply Kd.R_drewN | apply Kd.R_drew)); exact HO148.out) hb); have n1_ := Aside0.mk (Kd.R_lower ho0 (below_size (by repeat (first | (with_reducible first | exact HB.out | apply below_alloc | apply pw_below_drewN | apply below_drew1) | exact HB.out)))); have n2_ := Aside0.mk (below_step (by repeat (first | (with_reducible first | exact HB.out | apply below_alloc | apply pw_below_drewN | apply below_drew1) | exact HB.out)) hb); clear HO148; clear HB; have HO148 := n0_; have HO152 := n1_; have HB := n2_; clear n0_ n1_ n2_; (try clear hb); (try clear hb2); (try clear hk); (try clear hi); (try clear ho0); obtain ⟨Ao37, co37, eo37⟩ := Kd.R_slice HO152.out; subst eo37) | (go_at_call 13; (with_reducible refine (ringworklaw06_same.calls k _ _ l1 _ _ t149 true _ ?side1 ?side2 ?side3 ?side4 A29.out).mono ?_); (case side1 => repeat (first | exact (Kd.C_below HR1.out HB.out) | (with_reducible refine Kd.C_alloc ?_ _) | (with_reducible refine Kd.C_drewN ?_ _) | (with_reducible refine Kd.C_drew ?_))); (case side2 => exact HC1.out); (case side3 => repeat (first | exact (Kd.R_reads' HO152.out).2.2 | (with_reducible refine Kd.C_alloc ?_ _) | (with_reducible refine Kd.C_drewN ?_ _) | (with_reducible refine Kd.C_drew ?_))); (case side4 => exact (Kd.R_reads' HO152.out).2.1); rintro e w' ⟨rfl, ⟨nd, rfl⟩⟩))
                          go_ret
                          exact ⟨by first | rfl | (simp [errW_none, errW_some] <;> rfl) | (simp only [← hji8, ← hji14]; first | rfl | (simp [errW_none, errW_some] <;> rfl)) | (simp [*, errW_none, errW_some] <;> rfl), by repeat (first | (with_reducible first | exact HB.out | apply below_alloc | apply pw_below_drewN | apply below_drew1) | exact HB.out)⟩
                        · replace c30 := Bool.eq_false_iff.mpr c30
                          subst c30
                          have H1 : ((ringworklaw06_awake.f k).bind fun t155 => (some t155)) = some r := by rw [if_neg (show ¬ (false = true) by decide)] at H; exact H
                          clear H
                          have H := H1
                          clear H1
                          replace H := Option.bind_eq_some_iff.mp H
                          obtain ⟨t155, A380, H⟩ := H
                          replace H : (some t155) = some r := H
                          have A38 := Aside0.mk A380
                          clear A380
                          obtain rfl := Option.some.inj H
                          go_enter Try.func3, Try.ntmps3
                          try go_wp2_with (first | ((with_reducible refine gate_callee (f := 10) rfl ?_); refine goesL_ (some 19) rfl rfl Try.func10 (by kernel_rfl) rfl #[.int .i64 a0, .slice A1 l1.length c1] rfl (by (try simp only [List.map_toArray, List.map_cons, List.map_nil]); first | done | rfl | (simp only [List.length_drop, List.length_take]; rfl)) ?_; (with_reducible refine (ringworklaw06_Made.calls k a0 _ _ l1 t144 true _ ?side1 ?side2 A5.out).mono ?_); (case side1 => repeat (first | exact HR1.out | (with_reducible refine Kd.C_alloc ?_ _) | (with_reducible refine Kd.C_drewN ?_ _) | (with_reducible refine Kd.C_drew ?_))); (case side2 => exact HC1.out); rintro e w39 ⟨rfl, hb⟩; refine ⟨_, rfl, ?_⟩; have n0_ := Aside0.mk (below_step (by repeat (first | (with_reducible first | exact HB.out | apply below_alloc | apply pw_below_drewN | apply below_drew1) | exact HB.out)) hb); clear HB; have HB := n0_; clear n0_; (try clear hb); (try clear hb2); (try clear hk); (try clear hi)))
                          have n0_ := Aside0.mk (below_drew1 HB.out)
                          clear HB
                          have HB := n0_
                          clear n0_
                          have p12 : 0 ≤ ((ji8) : Int) := of_decide_eq_true (by first | (with_reducible assumption) | assumption)
                          have q12 : (ji8) < (t144.size : Int) := of_decide_eq_true (by first | (with_reducible assumption) | assumption)
                          have hx12 := bt_at t144 (ji8)
                          replace p12 := eq_true p12
                          replace q12 := eq_true q12
                          refine start_ (n := 17) (S := fun w' => True) (ds := []) #[false, false, false, false, false, false, false, false, false, false, false, false, false, false, false, false, false] (by kernel_rfl) rfl rfl trivial (fun hHeld => ?_); refine with_tabW ringworklaw06_PageDamage.tab6 ringworklaw06_PageDamage.bits6 (fun HT_ HW_ => ?_)
                          generalize w39.drew = w40 at HB hHeld ⊢
                          refine pure_ (i := 0) (N := some 36) (v := ?_) (a' := ?_) #[true, false, false, false, false, false, false, false, false, false, false, false, false, false, false, false, false] rfl rfl (any_of HT_.out (by kernel_rfl)) (fun _ _ _ h => h) (Or.inl ⟨by rfl, ?_⟩) ?_ ?_
                          rotate_left
                          · intro w'
                            go_simp
                            with_reducible rfl
                          rotate_left
                          · simp only [Act.put, List.setIfInBounds_toArray, List.set_cons_zero, List.set_cons_succ, i64_w, i32_w]
                            rfl
                          refine pure_ (i := 1) (N := some 37) (v := ?_) (a' := ?_) #[true, true, false, false, false, false, false, false, false, false, false, false, false, false, false, false, false] rfl rfl (any_of HT_.out (by kernel_rfl)) (fun _ _ _ h => h) (Or.inl ⟨by rfl, ?_⟩) ?_ ?_
                          rotate_left
                          · intro w'
                            go_simp
                            with_reducible rfl
                          rotate_left
                          · simp only [Act.put, List.setIfInBounds_toArray, List.set_cons_zero, List.set_cons_succ, i64_w, i32_w]
                            rfl
                          refine pure_ (i := 2) (N := some 38) (v := ?_) (a' := ?_) #[true, true, true, false, false, false, false, false, false, false, false, false, false, false, false, false, false] rfl rfl (any_of HT_.out (by kernel_rfl)) (fun _ _ _ h => h) (Or.inl ⟨by rfl, ?_⟩) ?_ ?_
                          rotate_left
                          · intro w'
                            go_simp
                            with_reducible rfl
                          rotate_left
                          · simp only [Act.put, List.setIfInBounds_toArray, List.set_cons_zero, List.set_cons_succ, i64_w, i32_w]
                            rfl
                          refine pure_ (i := 3) (N := some 39) (v := ?_) (a' := ?_) #[true, true, true, true, false, false, false, false, false, false, false, false, false, false, false, false, false] rfl rfl (any_of HT_.out (by kernel_rfl)) (fun _ _ _ h => h) (Or.inl ⟨by rfl, ?_⟩) ?_ ?_
                          rotate_left
                          · intro w'
                            go_simp
                            with_reducible rfl
                          rotate_left
                          · simp only [Act.put, List.setIfInBounds_toArray, List.set_cons_zero, List.set_cons_succ, i64_w, i32_w]
                            rfl
                          refine pure_ (i := 4) (N := some 40) (v := ?_) (a' := ?_) #[true, true, true, true, true, false, false, false, false, false, false, false, false, false, false, false, false] rfl rfl (any_of HT_.out (by kernel_rfl)) (fun _ _ _ h => h) (Or.inl ⟨by rfl, ?_⟩) ?_ ?_
                          rotate_left
                          · intro w'
                            go_simp
                            with_reducible rfl
                          rotate_left
                          · simp only [Act.put, List.setIfInBounds_toArray, List.set_cons_zero, List.set_cons_succ, i64_w, i32_w]
                            rfl
                          refine pure_ (i := 6) (N := some 42) (v := ?_) (a' := ?_) #[true, true, true, true, true, false, true, false, false, false, false, false, false, false, false, false, false] rfl rfl (any_of HT_.out (by kernel_rfl)) (fun _ _ _ h => h) (Or.inl ⟨by rfl, ?_⟩) ?_ ?_
                          rotate_left
                          · intro w'
                            go_simp
                            with_reducible rfl
                          rotate_left
                          · simp only [Act.put, List.setIfInBounds_toArray, List.set_cons_zero, List.set_cons_succ, i64_w, i32_w]
                            rfl
                          refine pure_ (i := 11) (N := some 47) (v := ?_) (a' := ?_) #[true, true, true, true, true, false, true, false, false, false, false, true, false, false, false, false, false] rfl rfl (any_of HT_.out (by kernel_rfl)) (fun _ _ _ h => h) (Or.inl ⟨by rfl, ?_⟩) ?_ ?_
                          rotate_left
                          · intro w'
                            go_simp
                            with_reducible rfl
                          rotate_left
                          · simp only [Act.put, List.setIfInBounds_toArray, List.set_cons_zero, List.set_cons_succ, i64_w, i32_w]
                            rfl
                          refine pure_ (i := 12) (N := some 48) (v := ?_) (a' := ?_) #[true, true, true, true, true, false, true, false, false, false, false, true, true, false, false, false, false] rfl rfl (any_of HT_.out (by kernel_rfl)) (fun _ _ _ h => h) (Or.inl ⟨by rfl, ?_⟩) ?_ ?_
                          rotate_left
                          · intro w'
                            go_simp
                            with_reducible rfl
                          rotate_left
                          · simp only [Act.put, List.setIfInBounds_toArray, List.set_cons_zero, List.set_cons_succ, i64_w, i32_w]
                            rfl
                          refine pure_ (i := 13) (N := some 49) (v := ?_) (a' := ?_) #[true, true, true, true, true, false, true, false, false, false, false, true, true, true, false, false, false] rfl rfl (any_of HT_.out (by kernel_rfl)) (fun _ _ _ h => h) (Or.inl ⟨by rfl, ?_⟩) ?_ ?_
                          rotate_left
                          · intro w'
                            go_simp
                            with_reducible rfl
                          rotate_left
                          · simp only [Act.put, List.setIfInBounds_toArray, List.set_cons_zero, List.set_cons_succ, i64_w, i32_w]
                            rfl
                          refine pure_ (i := 14) (N := some 50) (v := ?_) (a' := ?_) #[true, true, true, true, true, false, true, false, false, false, false, true, true, true, true, false, false] rfl rfl (any_of HT_.out (by kernel_rfl)) (fun _ _ _ h => h) (Or.inl ⟨by rfl, ?_⟩) ?_ ?_
                          rotate_left
                          · intro w'
                            go_simp
                            with_reducible rfl
                          rotate_left
                          · simp only [Act.put, List.setIfInBounds_toArray, List.set_cons_zero, List.set_cons_succ, i64_w, i32_w]
                            rfl
                          refine take_ (i := 5) (N := some 41) (v := ?_) (a' := ?_) #[true, true, true, true, true, true, true, false, false, false, false, true, true, true, true, false, false] rfl rfl (take_ofW HT_.out HW_.out (by kernel_rfl)) (fun _ _ _ h => h) (Or.inl ⟨by rfl, ?_⟩) hHeld ?_ ?_
                          rotate_left
                          · intro w' _
                            go_simp
                            with_reducible rfl
                          rotate_left
                          · simp only [Act.put, List.setIfInBounds_toArray, List.set_cons_zero, List.set_cons_succ, i64_w, i32_w]
                            rfl
                          refine pure_ (i := 7) (N := some 43) (v := ?_) (a' := ?_) #[true, true, true, true, true, true, true, true, false, false, false, true, true, true, true, false, false] rfl rfl (any_of HT_.out (by kernel_rfl)) (fun _ _ _ h => h) (Or.inl ⟨by rfl, ?_⟩) ?_ ?_
                          rotate_left
                          · intro w'
                            go_simp
                            with_reducible rfl
                          rotate_left
                          · simp only [Act.put, List.setIfInBounds_toArray, List.set_cons_zero, List.set_cons_succ, i64_w, i32_w]
                            rfl
                          refine one_ (i := 8) (N := some 44) #[true, true, true, true, true, true, true, true, true, false, false, true, true, true, true, false, false] rfl rfl (one_of HT_.out (by kernel_rfl)) (by decide) (fun K hK => ?_)
                          refine Kd.R_lit_step (Kd.int .u8) _ 5 ?hg (N := 44) ?hd (xs := ([Go.bits .xor .u8 (bt t144 (ji8)) ((IntKind.u64.wrap (1 + (Int.tmod (IntKind.u64.wrap (a3)) 255))) % 256)] : List Int)) (inner := [.int .u8 (Go.bits .xor .u8 (bt t144 (ji8)) ((IntKind.u64.wrap (1 + (Int.tmod (IntKind.u64.wrap (a3)) 255))) % 256))]) (ok := fun _ => True) (okp := fun _ => True) ?hr ?hp (fun _ hk => hk) trivial (Below.refl _ _) (Nat.le_refl _) (by simp) ?_; (case hd => rfl); (case hg => rfl); (case hr => first | (go_simp; done) | (go_simp; rfl)); (case hp => exact (Reps.one (show Kd.M (Kd.int .u8) _ _ _ (Go.bits .xor .u8 (bt t144 (ji8)) ((IntKind.u64.wrap (1 + (Int.tmod (IntKind.u64.wrap (a3)) 255))) % 256)) [.int .u8 (Go.bits .xor .u8 (bt t144 (ji8)) ((IntKind.u64.wrap (1 + (Int.tmod (IntKind.u64.wrap (a3)) 255))) % 256))] from rfl) (Reps.none _ _)))
                          intro v147 w41 ho42 hb hg_ hnew_
                          clear hg_ hnew_
                          (first | rw [← Ny146.out] at ho42 | (simp only [Int.reduceToNat] at ho42; rw [← Ny146.out] at ho42))
                          have n0_ := Aside0.mk (Kd.R_lower ho42 (below_size (by repeat (first | (with_reducible first | exact HB.out | apply below_alloc | apply pw_below_drewN | apply below_drew1) | exact HB.out))))
                          have n1_ := Aside0.mk (below_step (by repeat (first | (with_reducible first | exact HB.out | apply below_alloc | apply pw_below_drewN | apply below_drew1) | exact HB.out)) hb)
                          clear HB
                          have HO148 := n0_
                          have HB := n1_
                          clear n0_ n1_
                          clear hb ho42
                          refine hK.out _ _ trivial (fun hHeld => ?_)
                          clear hK K
                          refine norm_ (a' := ?_) ?_ ?_
                          rotate_left
                          · show Act.put _ (some 44) _ = _
                            simp only [Act.put, List.setIfInBounds_toArray, List.set_cons_zero, List.set_cons_succ, i64_w, i32_w]
                            rfl
                          refine one_ (i := 9) (N := some 45) #[true, true, true, true, true, true, true, true, true, true, false, true, true, true, true, false, false] rfl rfl (one_of HT_.out (by kernel_rfl)) (by decide) (fun K hK => ?_)
                          have hcv43 := own_string (P := Try.prog) Try.underlying27 Try.underlying5 Try.underlying9 (Kd.own_of_R HO148.out)
                          refine value_ (w1 := ?_) (v := ?_) (by rfl) rfl ?_ ?_
                          rotate_left 2
                          · go_simp
                            constructor
                            · rfl
                            · rfl
                          clear hcv43
                          refine hK.out _ _ trivial (fun hHeld => ?_)
                          clear hK K
                          refine norm_ (a' := ?_) ?_ ?_
                          rotate_left
                          · show Act.put _ (some 45) _ = _
                            simp only [Act.put, List.setIfInBounds_toArray, List.set_cons_zero, List.set_cons_succ, i64_w, i32_w]
                            rfl
                          refine pure_ (i := 10) (N := some 46) (v := ?_) (a' := ?_) #[true, true, true, true, true, true, true, true, true, true, true, true, true, true, true, false, false] rfl rfl (any_of HT_.out (by kernel_rfl)) (fun _ _ _ h => h) (Or.inl ⟨by rfl, ?_⟩) ?_ ?_
                          rotate_left
                          · intro w'
                            go_simp
                            with_reducible rfl
                          rotate_left
                          · simp only [Act.put, List.setIfInBounds_toArray, List.set_cons_zero, List.set_cons_succ, i64_w, i32_w]
                            rfl
                          refine pure_ (i := 15) (N := some 51) (v := ?_) (a' := ?_) #[true, true, true, true, true, true, true, true, true, true, true, true, true, true, true, true, false] rfl rfl (any_of HT_.out (by kernel_rfl)) (fun _ _ _ h => h) (Or.inl ⟨by rfl, ?_⟩) ?_ ?_
                          rotate_left
                          · intro w'
                            go_simp
                            with_reducible rfl
                          rotate_left
                          · simp only [Act.put, List.setIfInBounds_toArray, List.set_cons_zero, List.set_cons_succ, i64_w, i32_w]
                            rfl
                          refine pure_ (i := 16) (N := some 13) (v := ?_) (a' := ?_) #[true, true, true, true, true, true, true, true, true, true, true, true, true, true, true, true, true] rfl rfl (any_of HT_.out (by kernel_rfl)) (fun _ _ _ h => h) (Or.inl ⟨by rfl, ?_⟩) ?_ ?_
                          rotate_left
                          · intro w'
                            go_simp
                            with_reducible rfl
                          rotate_left
                          · simp only [Act.put, List.setIfInBounds_toArray, List.set_cons_zero, List.set_cons_succ, i64_w, i32_w]
                            rfl
                          refine done_ (done_of HT_.out (by kernel_rfl)) ?_
                          try go_wp2_with (first | ((with_reducible refine gate_callee (f := 12) rfl ?_); refine goesL_ (some 54) rfl rfl Try.func12 (by kernel_rfl) rfl #[.string (((t144.extract 0 ((ji8) : Int).toNat) ++ (strOfNums y146)) ++ (t144.extract ((ji14) : Int).toNat t144.size))] rfl (by (try simp only [List.map_toArray, List.map_cons, List.map_nil]); first | done | (simp only [hji14, hji8]; rfl) | rfl | (simp only [List.length_drop, List.length_take]; rfl)) ?_; (with_reducible refine (page_Cells.calls (((t144.extract 0 ((ji8) : Int).toNat) ++ (strOfNums y146)) ++ (t144.extract ((ji14) : Int).toNat t144.size)) t149 t150 _ A18.out).mono ?_); rintro e w44 ⟨v151, rfl, ho0, hb⟩; refine ⟨_, rfl, ?_⟩; have n0_ := Aside0.mk (Kd.R_below (by (with_reducible repeat (first | apply Kd.R_alloc | apply Kd.R_drewN | apply Kd.R_drew)); exact HO148.out) hb); have n1_ := Aside0.mk (Kd.R_lower ho0 (below_size (by repeat (first | (with_reducible first | exact HB.out | apply below_alloc | apply pw_below_drewN | apply below_drew1) | exact HB.out)))); have n2_ := Aside0.mk (below_step (by repeat (first | (with_reducible first | exact HB.out | apply below_alloc | apply pw_below_drewN | apply below_drew1) | exact HB.out)) hb); clear HO148; clear HB; have HO148 := n0_; have HO152 := n1_; have HB := n2_; clear n0_ n1_ n2_; (try clear hb); (try clear hb2); (try clear hk); (try clear hi); (try clear ho0); obtain ⟨Ao45, co45, eo45⟩ := Kd.R_slice HO152.out; subst eo45) | (go_at_call 13; (with_reducible refine (ringworklaw06_same.calls k _ _ l1 _ _ t149 false _ ?side1 ?side2 ?side3 ?side4 A29.out).mono ?_); (case side1 => repeat (first | exact (Kd.C_below HR1.out HB.out) | (with_reducible refine Kd.C_alloc ?_ _) | (with_reducible refine Kd.C_drewN ?_ _) | (with_reducible refine Kd.C_drew ?_))); (case side2 => exact HC1.out); (case side3 => repeat (first | exact (Kd.R_reads' HO152.out).2.2 | (with_reducible refine Kd.C_alloc ?_ _) | (with_reducible refine Kd.C_drewN ?_ _) | (with_reducible refine Kd.C_drew ?_))); (case side4 => exact (Kd.R_reads' HO152.out).2.1); rintro e w' ⟨rfl, ⟨nd, rfl⟩⟩) | (go_at_call 11; (with_reducible refine (ringworklaw06_awake.calls k  t155 _ A38.out).mono ?_); rintro e w46 ⟨rfl, hb⟩; have n0_ := Aside0.mk (Kd.R_below (by (with_reducible repeat (first | apply Kd.R_alloc | apply Kd.R_drewN | apply Kd.R_drew)); exact HO148.out) hb); have n1_ := Aside0.mk (Kd.R_below (by (with_reducible repeat (first | apply Kd.R_alloc | apply Kd.R_drewN | apply Kd.R_drew)); exact HO152.out) hb); have n2_ := Aside0.mk (below_step (by repeat (first | (with_reducible first | exact HB.out | apply below_alloc | apply pw_below_drewN | apply below_drew1) | exact HB.out)) hb); clear HO148; clear HO152; clear HB; have HO148 := n0_; have HO152 := n1_; have HB := n2_; clear n0_ n1_ n2_; (try clear hb); (try clear hb2); (try clear hk); (try clear hi)))
                          go_ret
                          exact ⟨by first | rfl | (simp [errW_none, errW_some] <;> rfl) | (simp only [← hji8, ← hji14]; first | rfl | (simp [errW_none, errW_some] <;> rfl)) | (simp [*, errW_none, errW_some] <;> rfl), by repeat (first | (with_reducible first | exact HB.out | apply below_alloc | apply pw_below_drewN | apply below_drew1) | exact HB.out)⟩
                      · rw [if_neg c28] at H
                        have c28b0 : (t150 == 0) = false := beq_eq_false_iff_ne.mpr c28
                        have c28b1 : (t150 != 0) = true := bne_iff_ne.mpr c28
                        obtain rfl := Option.some.inj H
                        go_enter Try.func3, Try.ntmps3
                        try go_wp2_with (first | ((with_reducible refine gate_callee (f := 10) rfl ?_); refine goesL_ (some 19) rfl rfl Try.func10 (by kernel_rfl) rfl #[.int .i64 a0, .slice A1 l1.length c1] rfl (by (try simp only [List.map_toArray, List.map_cons, List.map_nil]); first | done | rfl | (simp only [List.length_drop, List.length_take]; rfl)) ?_; (with_reducible refine (ringworklaw06_Made.calls k a0 _ _ l1 t144 true _ ?side1 ?side2 A5.out).mono ?_); (case side1 => repeat (first | exact HR1.out | (with_reducible refine Kd.C_alloc ?_ _) | (with_reducible refine Kd.C_drewN ?_ _) | (with_reducible refine Kd.C_drew ?_))); (case side2 => exact HC1.out); rintro e w47 ⟨rfl, hb⟩; refine ⟨_, rfl, ?_⟩; have n0_ := Aside0.mk (below_step (by repeat (first | (with_reducible first | exact HB.out | apply below_alloc | apply pw_below_drewN | apply below_drew1) | exact HB.out)) hb); clear HB; have HB := n0_; clear n0_; (try clear hb); (try clear hb2); (try clear hk); (try clear hi)))
                        have n0_ := Aside0.mk (below_drew1 HB.out)
                        clear HB
                        have HB := n0_
                        clear n0_
                        have p12 : 0 ≤ ((ji8) : Int) := of_decide_eq_true (by first | (with_reducible assumption) | assumption)
                        have q12 : (ji8) < (t144.size : Int) := of_decide_eq_true (by first | (with_reducible assumption) | assumption)
                        have hx12 := bt_at t144 (ji8)
                        replace p12 := eq_true p12
                        replace q12 := eq_true q12
                        refine start_ (n := 17) (S := fun w' => True) (ds := []) #[false, false, false, false, false, false, false, false, false, false, false, false, false, false, false, false, false] (by kernel_rfl) rfl rfl trivial (fun hHeld => ?_); refine with_tabW ringworklaw06_PageDamage.tab6 ringworklaw06_PageDamage.bits6 (fun HT_ HW_ => ?_)
                        generalize w47.drew = w48 at HB hHeld ⊢
                        refine pure_ (i := 0) (N := some 36) (v := ?_) (a' := ?_) #[true, false, false, false, false, false, false, false, false, false, false, false, false, false, false, false, false] rfl rfl (any_of HT_.out (by kernel_rfl)) (fun _ _ _ h => h) (Or.inl ⟨by rfl, ?_⟩) ?_ ?_
                        rotate_left
                        · intro w'
                          go_simp
                          with_reducible rfl
                        rotate_left
                        · simp only [Act.put, List.setIfInBounds_toArray, List.set_cons_zero, List.set_cons_succ, i64_w, i32_w]
                          rfl
                        refine pure_ (i := 1) (N := some 37) (v := ?_) (a' := ?_) #[true, true, false, false, false, false, false, false, false, false, false, false, false, false, false, false, false] rfl rfl (any_of HT_.out (by kernel_rfl)) (fun _ _ _ h => h) (Or.inl ⟨by rfl, ?_⟩) ?_ ?_
                        rotate_left
                        · intro w'
                          go_simp
                          with_reducible rfl
                        rotate_left
                        · simp only [Act.put, List.setIfInBounds_toArray, List.set_cons_zero, List.set_cons_succ, i64_w, i32_w]
                          rfl
                        refine pure_ (i := 2) (N := some 38) (v := ?_) (a' := ?_) #[true, true, true, false, false, false, false, false, false, false, false, false, false, false, false, false, false] rfl rfl (any_of HT_.out (by kernel_rfl)) (fun _ _ _ h => h) (Or.inl ⟨by rfl, ?_⟩) ?_ ?_
                        rotate_left
                        · intro w'
                          go_simp
                          with_reducible rfl
                        rotate_left
                        · simp only [Act.put, List.setIfInBounds_toArray, List.set_cons_zero, List.set_cons_succ, i64_w, i32_w]
                          rfl
                        refine pure_ (i := 3) (N := some 39) (v := ?_) (a' := ?_) #[true, true, true, true, false, false, false, false, false, false, false, false, false, false, false, false, false] rfl rfl (any_of HT_.out (by kernel_rfl)) (fun _ _ _ h => h) (Or.inl ⟨by rfl, ?_⟩) ?_ ?_
                        rotate_left
                        · intro w'
                          go_simp
                          with_reducible rfl
                        rotate_left
                        · simp only [Act.put, List.setIfInBounds_toArray, List.set_cons_zero, List.set_cons_succ, i64_w, i32_w]
                          rfl
                        refine pure_ (i := 4) (N := some 40) (v := ?_) (a' := ?_) #[true, true, true, true, true, false, false, false, false, false, false, false, false, false, false, false, false] rfl rfl (any_of HT_.out (by kernel_rfl)) (fun _ _ _ h => h) (Or.inl ⟨by rfl, ?_⟩) ?_ ?_
                        rotate_left
                        · intro w'
                          go_simp
                          with_reducible rfl
                        rotate_left
                        · simp only [Act.put, List.setIfInBounds_toArray, List.set_cons_zero, List.set_cons_succ, i64_w, i32_w]
                          rfl
                        refine pure_ (i := 6) (N := some 42) (v := ?_) (a' := ?_) #[true, true, true, true, true, false, true, false, false, false, false, false, false, false, false, false, false] rfl rfl (any_of HT_.out (by kernel_rfl)) (fun _ _ _ h => h) (Or.inl ⟨by rfl, ?_⟩) ?_ ?_
                        rotate_left
                        · intro w'
                          go_simp
                          with_reducible rfl
                        rotate_left
                        · simp only [Act.put, List.setIfInBounds_toArray, List.set_cons_zero, List.set_cons_succ, i64_w, i32_w]
                          rfl
                        refine pure_ (i := 11) (N := some 47) (v := ?_) (a' := ?_) #[true, true, true, true, true, false, true, false, false, false, false, true, false, false, false, false, false] rfl rfl (any_of HT_.out (by kernel_rfl)) (fun _ _ _ h => h) (Or.inl ⟨by rfl, ?_⟩) ?_ ?_
                        rotate_left
                        · intro w'
                          go_simp
                          with_reducible rfl
                        rotate_left
                        · simp only [Act.put, List.setIfInBounds_toArray, List.set_cons_zero, List.set_cons_succ, i64_w, i32_w]
                          rfl
                        refine pure_ (i := 12) (N := some 48) (v := ?_) (a' := ?_) #[true, true, true, true, true, false, true, false, false, false, false, true, true, false, false, false, false] rfl rfl (any_of HT_.out (by kernel_rfl)) (fun _ _ _ h => h) (Or.inl ⟨by rfl, ?_⟩) ?_ ?_
                        rotate_left
                        · intro w'
                          go_simp
                          with_reducible rfl
                        rotate_left
                        · simp only [Act.put, List.setIfInBounds_toArray, List.set_cons_zero, List.set_cons_succ, i64_w, i32_w]
                          rfl
                        refine pure_ (i := 13) (N := some 49) (v := ?_) (a' := ?_) #[true, true, true, true, true, false, true, false, false, false, false, true, true, true, false, false, false] rfl rfl (any_of HT_.out (by kernel_rfl)) (fun _ _ _ h => h) (Or.inl ⟨by rfl, ?_⟩) ?_ ?_
                        rotate_left
                        · intro w'
                          go_simp
                          with_reducible rfl
                        rotate_left
                        · simp only [Act.put, List.setIfInBounds_toArray, List.set_cons_zero, List.set_cons_succ, i64_w, i32_w]
                          rfl
                        refine pure_ (i := 14) (N := some 50) (v := ?_) (a' := ?_) #[true, true, true, true, true, false, true, false, false, false, false, true, true, true, true, false, false] rfl rfl (any_of HT_.out (by kernel_rfl)) (fun _ _ _ h => h) (Or.inl ⟨by rfl, ?_⟩) ?_ ?_
                        rotate_left
                        · intro w'
                          go_simp
                          with_reducible rfl
                        rotate_left
                        · simp only [Act.put, List.setIfInBounds_toArray, List.set_cons_zero, List.set_cons_succ, i64_w, i32_w]
                          rfl
                        refine take_ (i := 5) (N := some 41) (v := ?_) (a' := ?_) #[true, true, true, true, true, true, true, false, false, false, false, true, true, true, true, false, false] rfl rfl (take_ofW HT_.out HW_.out (by kernel_rfl)) (fun _ _ _ h => h) (Or.inl ⟨by rfl, ?_⟩) hHeld ?_ ?_
                        rotate_left
                        · intro w' _
                          go_simp
                          with_reducible rfl
                        rotate_left
                        · simp only [Act.put, List.setIfInBounds_toArray, List.set_cons_zero, List.set_cons_succ, i64_w, i32_w]
                          rfl
                        refine pure_ (i := 7) (N := some 43) (v := ?_) (a' := ?_) #[true, true, true, true, true, true, true, true, false, false, false, true, true, true, true, false, false] rfl rfl (any_of HT_.out (by kernel_rfl)) (fun _ _ _ h => h) (Or.inl ⟨by rfl, ?_⟩) ?_ ?_
                        rotate_left
                        · intro w'
                          go_simp
                          with_reducible rfl
                        rotate_left
                        · simp only [Act.put, List.setIfInBounds_toArray, List.set_cons_zero, List.set_cons_succ, i64_w, i32_w]
                          rfl
                        refine one_ (i := 8) (N := some 44) #[true, true, true, true, true, true, true, true, true, false, false, true, true, true, true, false, false] rfl rfl (one_of HT_.out (by kernel_rfl)) (by decide) (fun K hK => ?_)
                        refine Kd.R_lit_step (Kd.int .u8) _ 5 ?hg (N := 44) ?hd (xs := ([Go.bits .xor .u8 (bt t144 (ji8)) ((IntKind.u64.wrap (1 + (Int.tmod (IntKind.u64.wrap (a3)) 255))) % 256)] : List Int)) (inner := [.int .u8 (Go.bits .xor .u8 (bt t144 (ji8)) ((IntKind.u64.wrap (1 + (Int.tmod (IntKind.u64.wrap (a3)) 255))) % 256))]) (ok := fun _ => True) (okp := fun _ => True) ?hr ?hp (fun _ hk => hk) trivial (Below.refl _ _) (Nat.le_refl _) (by simp) ?_; (case hd => rfl); (case hg => rfl); (case hr => first | (go_simp; done) | (go_simp; rfl)); (case hp => exact (Reps.one (show Kd.M (Kd.int .u8) _ _ _ (Go.bits .xor .u8 (bt t144 (ji8)) ((IntKind.u64.wrap (1 + (Int.tmod (IntKind.u64.wrap (a3)) 255))) % 256)) [.int .u8 (Go.bits .xor .u8 (bt t144 (ji8)) ((IntKind.u64.wrap (1 + (Int.tmod (IntKind.u64.wrap (a3)) 255))) % 256))] from rfl) (Reps.none _ _)))
                        intro v147 w49 ho50 hb hg_ hnew_
                        clear hg_ hnew_
                        (first | rw [← Ny146.out] at ho50 | (simp only [Int.reduceToNat] at ho50; rw [← Ny146.out] at ho50))
                        have n0_ := Aside0.mk (Kd.R_lower ho50 (below_size (by repeat (first | (with_reducible first | exact HB.out | apply below_alloc | apply pw_below_drewN | apply below_drew1) | exact HB.out))))
                        have n1_ := Aside0.mk (below_step (by repeat (first | (with_reducible first | exact HB.out | apply below_alloc | apply pw_below_drewN | apply below_drew1) | exact HB.out)) hb)
                        clear HB
                        have HO148 := n0_
                        have HB := n1_
                        clear n0_ n1_
                        clear hb ho50
                        refine hK.out _ _ trivial (fun hHeld => ?_)
                        clear hK K
                        refine norm_ (a' := ?_) ?_ ?_
                        rotate_left
                        · show Act.put _ (some 44) _ = _
                          simp only [Act.put, List.setIfInBounds_toArray, List.set_cons_zero, List.set_cons_succ, i64_w, i32_w]
                          rfl
                        refine one_ (i := 9) (N := some 45) #[true, true, true, true, true, true, true, true, true, true, false, true, true, true, true, false, false] rfl rfl (one_of HT_.out (by kernel_rfl)) (by decide) (fun K hK => ?_)
                        have hcv51 := own_string (P := Try.prog) Try.underlying27 Try.underlying5 Try.underlying9 (Kd.own_of_R HO148.out)
                        refine value_ (w1 := ?_) (v := ?_) (by rfl) rfl ?_ ?_
                        rotate_left 2
                        · go_simp
                          constructor
                          · rfl
                          · rfl
                        clear hcv51
                        refine hK.out _ _ trivial (fun hHeld => ?_)
                        clear hK K
                        refine norm_ (a' := ?_) ?_ ?_
                        rotate_left
                        · show Act.put _ (some 45) _ = _
                          simp only [Act.put, List.setIfInBounds_toArray, List.set_cons_zero, List.set_cons_succ, i64_w, i32_w]
                          rfl
                        refine pure_ (i := 10) (N := some 46) (v := ?_) (a' := ?_) #[true, true, true, true, true, true, true, true, true, true, true, true, true, true, true, false, false] rfl rfl (any_of HT_.out (by kernel_rfl)) (fun _ _ _ h => h) (Or.inl ⟨by rfl, ?_⟩) ?_ ?_
                        rotate_left
                        · intro w'
                          go_simp
                          with_reducible rfl
                        rotate_left
                        · simp only [Act.put, List.setIfInBounds_toArray, List.set_cons_zero, List.set_cons_succ, i64_w, i32_w]
                          rfl
                        refine pure_ (i := 15) (N := some 51) (v := ?_) (a' := ?_) #[true, true, true, true, true, true, true, true, true, true, true, true, true, true, true, true, false] rfl rfl (any_of HT_.out (by kernel_rfl)) (fun _ _ _ h => h) (Or.inl ⟨by rfl, ?_⟩) ?_ ?_
                        rotate_left
                        · intro w'
                          go_simp
                          with_reducible rfl
                        rotate_left
                        · simp only [Act.put, List.setIfInBounds_toArray, List.set_cons_zero, List.set_cons_succ, i64_w, i32_w]
                          rfl
                        refine pure_ (i := 16) (N := some 13) (v := ?_) (a' := ?_) #[true, true, true, true, true, true, true, true, true, true, true, true, true, true, true, true, true] rfl rfl (any_of HT_.out (by kernel_rfl)) (fun _ _ _ h => h) (Or.inl ⟨by rfl, ?_⟩) ?_ ?_
                        rotate_left
                        · intro w'
                          go_simp
                          with_reducible rfl
                        rotate_left
                        · simp only [Act.put, List.setIfInBounds_toArray, List.set_cons_zero, List.set_cons_succ, i64_w, i32_w]
                          rfl
                        refine done_ (done_of HT_.out (by kernel_rfl)) ?_
                        try go_wp2_with (first | ((with_reducible refine gate_callee (f := 12) rfl ?_); refine goesL_ (some 54) rfl rfl Try.func12 (by kernel_rfl) rfl #[.string (((t144.extract 0 ((ji8) : Int).toNat) ++ (strOfNums y146)) ++ (t144.extract ((ji14) : Int).toNat t144.size))] rfl (by (try simp only [List.map_toArray, List.map_cons, List.map_nil]); first | done | (simp only [hji14, hji8]; rfl) | rfl | (simp only [List.length_drop, List.length_take]; rfl)) ?_; (with_reducible refine (page_Cells.calls (((t144.extract 0 ((ji8) : Int).toNat) ++ (strOfNums y146)) ++ (t144.extract ((ji14) : Int).toNat t144.size)) t149 t150 _ A18.out).mono ?_); rintro e w52 ⟨v151, rfl, ho0, hb⟩; refine ⟨_, rfl, ?_⟩; have n0_ := Aside0.mk (Kd.R_below (by (with_reducible repeat (first | apply Kd.R_alloc | apply Kd.R_drewN | apply Kd.R_drew)); exact HO148.out) hb); have n1_ := Aside0.mk (Kd.R_lower ho0 (below_size (by repeat (first | (with_reducible first | exact HB.out | apply below_alloc | apply pw_below_drewN | apply below_drew1) | exact HB.out)))); have n2_ := Aside0.mk (below_step (by repeat (first | (with_reducible first | exact HB.out | apply below_alloc | apply pw_below_drewN | apply below_drew1) | exact HB.out)) hb); clear HO148; clear HB; have HO148 := n0_; have HO152 := n1_; have HB := n2_; clear n0_ n1_ n2_; (try clear hb); (try clear hb2); (try clear hk); (try clear hi); (try clear ho0)))
                        go_ret
                        exact ⟨by first | rfl | (simp [errW_none, errW_some] <;> rfl) | (simp only [← hji8, ← hji14]; first | rfl | (simp [errW_none, errW_some] <;> rfl)) | (simp [*, errW_none, errW_some] <;> rfl), by repeat (first | (with_reducible first | exact HB.out | apply below_alloc | apply pw_below_drewN | apply below_drew1) | exact HB.out)⟩
                  · rw [if_neg c17] at H
                    exact absurd H (by simp)
                · rw [if_neg c16] at H
                  exact absurd H (by simp)
              · rw [if_neg c15] at H
                exact absurd H (by simp)
            · rw [if_neg c13] at H
              exact absurd H (by simp)
          · rw [if_neg c11] at H
            exact absurd H (by simp)
        · rw [if_neg c10] at H
          exact absurd H (by simp)
      · rw [if_neg c9] at H
        exact absurd H (by simp)
  · replace c6 := Bool.eq_false_iff.mpr c6
    subst c6
    have H1 : ((ringworklaw06_awake.f k).bind fun t156 => (some t156)) = some r := by rw [if_neg (show ¬ (false = true) by decide)] at H; exact H
    clear H
    have H := H1
    clear H1
    replace H := Option.bind_eq_some_iff.mp H
    obtain ⟨t156, A530, H⟩ := H
    replace H : (some t156) = some r := H
    have A53 := Aside0.mk A530
    clear A530
    obtain rfl := Option.some.inj H
    go_enter Try.func3, Try.ntmps3
    go_wp2_with (first | ((with_reducible refine gate_callee (f := 10) rfl ?_); refine goesL_ (some 19) rfl rfl Try.func10 (by kernel_rfl) rfl #[.int .i64 a0, .slice A1 l1.length c1] rfl (by (try simp only [List.map_toArray, List.map_cons, List.map_nil]); first | done | rfl | (simp only [List.length_drop, List.length_take]; rfl)) ?_; (with_reducible refine (ringworklaw06_Made.calls k a0 _ _ l1 t144 false _ ?side1 ?side2 A5.out).mono ?_); (case side1 => repeat (first | exact HR1.out | (with_reducible refine Kd.C_alloc ?_ _) | (with_reducible refine Kd.C_drewN ?_ _) | (with_reducible refine Kd.C_drew ?_))); (case side2 => exact HC1.out); rintro e w54 ⟨rfl, hb⟩; refine ⟨_, rfl, ?_⟩; have n0_ := Aside0.mk (below_step (by repeat (first | (with_reducible first | exact HB.out | apply below_alloc | apply pw_below_drewN | apply below_drew1) | exact HB.out)) hb); clear HB; have HB := n0_; clear n0_; (try clear hb); (try clear hb2); (try clear hk); (try clear hi)) | ((with_reducible refine gate_callee (f := 11) rfl ?_); refine goesL_ (some 24) rfl rfl Try.func11 (by kernel_rfl) rfl #[] rfl (by (try simp only [List.map_toArray, List.map_cons, List.map_nil]); first | done | rfl | (simp only [List.length_drop, List.length_take]; rfl)) ?_; (with_reducible refine (ringworklaw06_awake.calls k  t156 _ A53.out).mono ?_); rintro e w55 ⟨rfl, hb⟩; refine ⟨_, rfl, ?_⟩; have n0_ := Aside0.mk (below_step (by repeat (first | (with_reducible first | exact HB.out | apply below_alloc | apply pw_below_drewN | apply below_drew1) | exact HB.out)) hb); clear HB; have HB := n0_; clear n0_; (try clear hb); (try clear hb2); (try clear hk); (try clear hi)))
    go_ret
    exact ⟨by first | rfl | (simp [errW_none, errW_some] <;> rfl) | (simp [*, errW_none, errW_some] <;> rfl), by repeat (first | (with_reducible first | exact HB.out | apply below_alloc | apply pw_below_drewN | apply below_drew1) | exact HB.out)⟩

end Go.Proofs.Ytemglmcddaeedaa.PA

namespace Go.Proofs.Ytemglmcddaeedaa.PA
open Go.RowKit Go.Proofs.YtemglmcddaeedaaW.PrintWords Go.Proofs.YtemglmcddaeedaaW.PrintLast Go.Proofs.YtemglmcddaeedaaW.PrintMore
attribute [local go_sem] max2_int min2_int max_two min_two max_three min_three max_four min_four   -- for this text's walks alone
set_option linter.unusedVariables false
set_option linter.unusedSimpArgs false

/-! ### b_lists: function 0 -/
/-! #### the bytes of a page, as a list -/
theorem bytesOf_get (p : ByteArray) (i : Nat) (h : i < p.size) : (bytesOf p)[i]? = some (bt p (i : Int)) := by
  have hl : i < (bytesOf p).length := by rw [bytesOf_length]; exact h
  rw [List.getElem?_eq_getElem hl]
  congr 1
  simp only [bytesOf, List.getElem_map, bt, Int.toNat_natCast, dif_pos h, Array.getElem_toList]
  rfl
theorem bytesOf_getD (p : ByteArray) (i : Nat) : (bytesOf p).getD i 0 = bt p (i : Int) := by
  by_cases h : i < p.size
  · rw [List.getD_eq_getElem?_getD, bytesOf_get p i h]; rfl
  · rw [List.getD_eq_getElem?_getD, List.getElem?_eq_none (by rw [bytesOf_length]; omega)]
    simp [bt, h]
theorem bytesOf_inj {p q : ByteArray} (h : bytesOf p = bytesOf q) : p = q := by
  cases p with | mk a => cases q with | mk b =>
  congr 1
  apply Array.toList_inj.1
  have hm : ∀ (x y : List UInt8), x.map (fun b => (b.toNat : Int)) = y.map (fun b => (b.toNat : Int)) → x = y := by
    intro x
    induction x with
    | nil => intro y hy; cases y with | nil => rfl | cons _ _ => simp at hy
    | cons c x ih =>
      intro y hy
      cases y with
      | nil => simp at hy
      | cons d y =>
        simp only [List.map_cons, List.cons.injEq] at hy
        rw [ih y hy.2, show c = d from UInt8.toNat_inj.1 (by omega)]
  exact hm _ _ h
theorem bytesOf_range (p : ByteArray) : ∀ x ∈ bytesOf p, 0 ≤ x ∧ x ≤ 255 := by
  intro x hx
  simp only [bytesOf, List.mem_map] at hx
  obtain ⟨b, _, rfl⟩ := hx
  have := UInt8.toNat_lt b
  omega
theorem bytesOf_strOfNums (l : List Int) (h : ∀ x ∈ l, 0 ≤ x ∧ x ≤ 255) : bytesOf (strOfNums l) = l := by
  simp only [bytesOf, strOfNums, List.map_map]
  induction l with
  | nil => rfl
  | cons x l ih =>
    rw [List.map_cons, ih (fun y hy => h y (by simp [hy]))]
    congr 1
    have := h x (by simp)
    simp only [Function.comp, UInt8.toNat_ofNat']
    omega
theorem strOfNums_bytesOf (p : ByteArray) : strOfNums (bytesOf p) = p := bytesOf_inj (bytesOf_strOfNums _ (bytesOf_range p))
theorem bytesOf_extract (p : ByteArray) (i j : Nat) (hj : j ≤ p.size) : bytesOf (p.extract i j) = ((bytesOf p).drop i).take (j - i) := by
  simp only [bytesOf, ByteArray.data_extract, Array.toList_extract, List.extract_eq_take_drop, List.map_take, List.map_drop]
theorem extract_size (p : ByteArray) (i j : Nat) (hj : j ≤ p.size) : (p.extract i j).size = j - i := by
  rw [ByteArray.size_extract]; omega
theorem bytesOf_append (a b : ByteArray) : bytesOf (a ++ b) = bytesOf a ++ bytesOf b := by
  simp only [bytesOf, ByteArray.data_append, Array.toList_append, List.map_append]

end Go.Proofs.Ytemglmcddaeedaa.PA

namespace Go.Proofs.Ytemglmcddaeedaa.PA
open Go.RowKit Go.Proofs.YtemglmcddaeedaaW.PrintWords Go.Proofs.YtemglmcddaeedaaW.PrintLast Go.Proofs.YtemglmcddaeedaaW.PrintMore
attribute [local go_sem] max2_int min2_int max_two min_two max_three min_three max_four min_four   -- for this text's walks alone
set_option linter.unusedVariables false
set_option linter.unusedSimpArgs false

/-! ### b_two: function 0 -/
/-! #### a page that is valid is the page of its cells -/
theorem getD_drop (l : List Int) (i j : Nat) : (l.drop i).getD j 0 = l.getD (i + j) 0 := by
  simp [List.getD_eq_getElem?_getD, List.getElem?_drop]
theorem take_four (l : List Int) (i : Nat) (h : i + 4 ≤ l.length) : l.take (i + 4) = l.take i ++ [l.getD i 0, l.getD (i + 1) 0, l.getD (i + 2) 0, l.getD (i + 3) 0] := by
  have e : ∀ j, j < l.length → l.take (j + 1) = l.take j ++ [l.getD j 0] := by
    intro j hj
    rw [List.take_succ_eq_append_getElem hj, List.getD_eq_getElem?_getD, List.getElem?_eq_getElem hj]
    rfl
  rw [show i + 4 = i + 1 + 1 + 1 + 1 by omega, e _ (by omega), e _ (by omega), e _ (by omega), e _ (by omega)]
  simp
theorem CellsOk.snoc {l : List S45} {c : S45} (h : CellsOk l) (hc : 1 ≤ c.f0 ∧ c.f0 ≤ 200 ∧ 0 < c.f1.size) (hl : lastL l < c.f0) : CellsOk (l ++ [c]) := by
  induction l with
  | nil => exact hc
  | cons d r ih =>
    cases r with
    | nil =>
      have : lastL [d] = d.f0 := by simp [lastL]
      exact ⟨h, by omega, hc⟩
    | cons e r =>
      have h1 : lastL (d :: e :: r) = lastL (e :: r) := by simp [lastL, List.getLast?_cons_cons]
      have := ih h.2.2 (by rw [← h1]; exact hl)
      exact ⟨h.1, h.2.1, this⟩
/-- What has been read behind i entries. -/
theorem scan_reads (p : ByteArray) (n : Nat) (hn : n ≤ 200) (hsz : 2 + 4 * n ≤ p.size) (i : Nat) (hi : i ≤ n) (top last : Int) (h : scanE p n i = .ok (top, last)) :
    CellsOk (cellsS p i) ∧ lastL (cellsS p i) = last ∧ last ≤ i ∧ top = p.size - bytesL (cellsS p i) ∧
      (foldB p.size (cellsS p i)).1 ++ zer (4 * i - 4 * last.toNat) = ((bytesOf p).drop 2).take (4 * i) ∧ (foldB p.size (cellsS p i)).2 = (bytesOf p).drop top.toNat := by
  induction i generalizing top last with
  | zero =>
    simp only [scanE] at h
    cases h
    refine ⟨trivial, rfl, by omega, by simp [cellsS, bytesL], by simp [cellsS, foldB, zer], ?_⟩
    simp only [cellsS, foldB, List.foldl_nil, Int.toNat_natCast]
    rw [List.drop_of_length_le (by rw [bytesOf_length]; omega)]
  | succ i ih =>
    simp only [scanE] at h
    cases hs : scanE p n i with
    | error a => rw [hs] at h; cases h
    | ok s =>
      obtain ⟨t, l⟩ := s
      have htop := scanE_top p n i t l hs
      have hrg := scanE_range p n i t l hs
      obtain ⟨i1, i2, i3, i4, i5, i6⟩ := ih (by omega) t l hs
      rw [hs] at h
      simp only at h
      have hx := twoS_range p (2 + 4 * (i : Int))
      have hy := twoS_range p (4 + 4 * (i : Int))
      have b0 := bt_range p (2 + 4 * (i : Int))
      have b1 := bt_range p (2 + 4 * (i : Int) + 1)
      have b2 := bt_range p (4 + 4 * (i : Int))
      have b3 := bt_range p (4 + 4 * (i : Int) + 1)
      have hlen : ((bytesOf p).drop 2).length = p.size - 2 := by rw [List.length_drop, bytesOf_length]
      have h4 := take_four ((bytesOf p).drop 2) (4 * i) (by omega)
      simp only [getD_drop, bytesOf_getD] at h4
      rw [show ((2 + 4 * i : Nat) : Int) = 2 + 4 * (i : Int) by omega, show ((2 + (4 * i + 1) : Nat) : Int) = 2 + 4 * (i : Int) + 1 by omega, show ((2 + (4 * i + 2) : Nat) : Int) = 4 + 4 * (i : Int) by omega, show ((2 + (4 * i + 3) : Nat) : Int) = 4 + 4 * (i : Int) + 1 by omega] at h4
      rw [show 4 * (i + 1) = 4 * i + 4 by omega, h4, ← i5]
      unfold twoS at h hx hy
      simp only [cellsS]
      unfold twoS
      generalize bt p (2 + 4 * (i : Int)) = c0 at *
      generalize bt p (2 + 4 * (i : Int) + 1) = c1 at *
      generalize bt p (4 + 4 * (i : Int)) = c2 at *
      generalize bt p (4 + 4 * (i : Int) + 1) = c3 at *
      split at h
      · rename_i hz
        cases h
        rw [if_neg (by omega)]
        refine ⟨i1, i2, by omega, i4, ?_, i6⟩
        rw [show c0 = 0 by omega, show c1 = 0 by omega, show c2 = 0 by omega, show c3 = 0 by omega]
        rw [List.append_assoc]
        congr 1
        rw [show (4 * i + 4 - 4 * last.toNat) = (4 * i - 4 * last.toNat) + 4 by omega, zer_add]
        rfl
      · split at h
        · cases h
        · rename_i hz hq
          cases h
          rw [if_pos (by omega)]
          have hex := extract_size p (256 * c0 + c1).toNat (256 * c0 + c1 + (256 * c2 + c3)).toNat (by omega)
          have hll : lastL (cellsS p i ++ [⟨(i : Int) + 1, p.extract (256 * c0 + c1).toNat (256 * c0 + c1 + (256 * c2 + c3)).toNat⟩]) = (i : Int) + 1 := lastL_snoc _ _
          refine ⟨i1.snoc ⟨by show 1 ≤ (i : Int) + 1; omega, by show (i : Int) + 1 ≤ 200; omega, by rw [hex]; omega⟩ (by rw [i2]; show l < (i : Int) + 1; omega), hll, by omega, ?_, ?_, ?_⟩
          · rw [bytesL_append]
            simp only [bytesL, List.map_cons, List.map_nil, List.sum_cons, List.sum_nil, hex] at i4 ⊢
            omega
          · rw [foldB_snoc]
            have hfl := foldB_len (N := p.size) i1
            simp only [stepB, i6, hex]
            rw [show (4 * i + 4 - 4 * ((i : Int) + 1).toNat) = 0 by omega]
            rw [show (4 * (((i : Int) + 1).toNat - 1) - (foldB p.size (cellsS p i)).1.length) = 4 * i - 4 * l.toNat by rw [i2] at hfl; omega]
            simp only [zer, List.replicate_zero, List.append_nil, List.append_assoc, List.length_drop, bytesOf_length]
            congr 2
            unfold ent4
            have e1 : (p.size : Int) - ((p.size - t.toNat + ((256 * c0 + c1 + (256 * c2 + c3)).toNat - (256 * c0 + c1).toNat) : Nat) : Int) = 256 * c0 + c1 := by omega
            have e2 : (((256 * c0 + c1 + (256 * c2 + c3)).toNat - (256 * c0 + c1).toNat : Nat) : Int) = 256 * c2 + c3 := by omega
            rw [e1, e2]
            simp only [List.cons.injEq, and_true]
            omega
          · rw [foldB_snoc]
            simp only [stepB, i6]
            rw [bytesOf_extract _ _ _ (by omega)]
            have : (bytesOf p).drop t.toNat = ((bytesOf p).drop (256 * c0 + c1).toNat).drop ((256 * c0 + c1 + (256 * c2 + c3)).toNat - (256 * c0 + c1).toNat) := by
              rw [List.drop_drop]; congr 1; omega
            rw [this, List.take_append_drop]
theorem firstNZ_none (p : ByteArray) (top : Int) (i : Nat) (h : firstNZ p top i = none) : ∀ j : Nat, i ≤ j → (j : Int) < top → bt p (j : Int) = 0 := by
  intro j hij hj
  obtain ⟨d, rfl⟩ := Nat.exists_eq_add_of_le hij
  clear hij
  induction d generalizing i with
  | zero =>
    rw [firstNZ, if_pos (by omega)] at h
    split at h
    · cases h
    · rename_i hz; simpa using hz
  | succ d ih =>
    rw [firstNZ, if_pos (by omega)] at h
    split at h
    · cases h
    · have := ih (i + 1) h (by omega)
      rw [show i + (d + 1) = i + 1 + d by omega]
      exact this
theorem valid_reads (p : ByteArray) (hv : validS p) :
    CellsOk (cellsS p (twoS p 0).toNat) ∧ needsL (cellsS p (twoS p 0).toNat) ≤ p.size ∧ lastL (cellsS p (twoS p 0).toNat) = twoS p 0 ∧ builtL p.size (cellsS p (twoS p 0).toNat) = bytesOf p := by
  obtain ⟨q1, q2, q3, q4, q5, top, q6, q7⟩ := validS_spec p hv
  have hr := twoS_range p 0
  obtain ⟨n, hn⟩ : ∃ n : Nat, twoS p 0 = n := ⟨(twoS p 0).toNat, by omega⟩
  rw [hn] at q4 q5 q6 q7 ⊢
  rw [Int.toNat_natCast] at q6 q7 ⊢
  unfold entriesS at q6
  cases hs : scanE p n n with
  | error a => rw [hs] at q6; cases q6
  | ok s =>
    obtain ⟨t, last⟩ := s
    rw [hs] at q6
    simp only at q6
    split at q6
    · cases q6
    · rename_i hl
      cases q6
      obtain ⟨i1, i2, i3, i4, i5, i6⟩ := scan_reads p n (by omega) (by omega) n (Nat.le_refl n) top last hs
      have htop := scanE_top p n n top last hs
      have hlast := scanE_last p n n top last hs
      have hrg := scanE_range p n n top last hs
      have hln : last = n := by omega
      subst hln
      generalize cellsS p n = A at *
      have hfl := foldB_len (N := p.size) i1
      have htb : 2 + 4 * (n : Int) ≤ top := by
        rcases hlast with h | h
        · exact h
        · have hA : A = [] := by
            cases hA : A with
            | nil => rfl
            | cons c r =>
              have hne : A ≠ [] := by rw [hA]; simp
              have h1 := i1.each (A.getLast hne) (List.getLast_mem hne)
              have h2 : lastL A = (A.getLast hne).f0 := by simp [lastL, List.getLast?_eq_some_getLast hne]
              omega
          rw [hA] at i4
          simp [bytesL] at i4
          omega
      refine ⟨i1, by unfold needsL; omega, i2, ?_⟩
      rw [Int.toNat_natCast, show 4 * n - 4 * n = 0 by omega] at i5
      simp only [zer, List.replicate_zero, List.append_nil] at i5
      unfold builtL bld
      rw [i2]
      have hz : zer (p.size - 2 - (foldB p.size A).1.length - (foldB p.size A).2.length) = ((bytesOf p).drop (2 + 4 * n)).take (top.toNat - (2 + 4 * n)) := by
        have hlen : p.size - 2 - (foldB p.size A).1.length - (foldB p.size A).2.length = top.toNat - (2 + 4 * n) := by omega
        rw [hlen]
        apply List.ext_getElem?
        intro j
        by_cases hj : j < top.toNat - (2 + 4 * n)
        · rw [List.getElem?_take_of_lt hj, List.getElem?_drop, bytesOf_get _ _ (by omega), zer, List.getElem?_replicate, if_pos hj]
          have := firstNZ_none p top (2 + 4 * n) q7 (2 + 4 * n + j) (by omega) (by omega)
          rw [this]
        · rw [List.getElem?_eq_none (by simp [zer]; omega), List.getElem?_eq_none (by rw [List.length_take]; omega)]
      rw [hz, i5, i6]
      have h2 : twoL (n : Int) = (bytesOf p).take 2 := by
        have b0 := bt_range p 0
        have b1 := bt_range p 1
        have e : (bytesOf p).take 2 = [bt p 0, bt p 1] := by
          apply List.ext_getElem?
          intro j
          match j with
          | 0 => rw [List.getElem?_take_of_lt (by omega), bytesOf_get _ _ (by omega)]; rfl
          | 1 => rw [List.getElem?_take_of_lt (by omega), bytesOf_get _ _ (by omega)]; rfl
          | j + 2 => rw [List.getElem?_eq_none (by rw [List.length_take]; omega)]; rfl
        rw [e]
        have : twoS p 0 = 256 * bt p 0 + bt p 1 := rfl
        unfold twoL
        simp only [List.cons.injEq, and_true]
        omega
      rw [h2]
      have e3 : (bytesOf p).drop top.toNat = ((bytesOf p).drop (2 + 4 * n)).drop (top.toNat - (2 + 4 * n)) := by rw [List.drop_drop]; congr 1; omega
      have e4 : (bytesOf p).drop (2 + 4 * n) = ((bytesOf p).drop 2).drop (4 * n) := by rw [List.drop_drop]
      rw [e3, List.take_append_drop, e4, List.take_append_drop, List.take_append_drop]
/-- A page that is valid is the page of its cells. -/
theorem valid_built (p : ByteArray) (hv : validS p) : strOfNums (builtL p.size (cellsS p (twoS p 0).toNat)) = p := by
  rw [(valid_reads p hv).2.2.2]
  exact strOfNums_bytesOf p

end Go.Proofs.Ytemglmcddaeedaa.PA

namespace Go.Proofs.Ytemglmcddaeedaa.PA
open Go.RowKit Go.Proofs.YtemglmcddaeedaaW.PrintWords Go.Proofs.YtemglmcddaeedaaW.PrintLast Go.Proofs.YtemglmcddaeedaaW.PrintMore
attribute [local go_sem] max2_int min2_int max_two min_two max_three min_three max_four min_four   -- for this text's walks alone
set_option linter.unusedVariables false
set_option linter.unusedSimpArgs false

/-! ### b_one: function 0 -/
/-! #### the page of cells is valid and has these cells -/
theorem getD_left (a b : List Int) (j : Nat) (h : j < a.length) : (a ++ b).getD j 0 = a.getD j 0 := by
  simp [List.getD_eq_getElem?_getD, List.getElem?_append_left h]
theorem getD_right (a b : List Int) (j : Nat) (h : a.length ≤ j) : (a ++ b).getD j 0 = b.getD (j - a.length) 0 := by
  simp [List.getD_eq_getElem?_getD, List.getElem?_append_right h]
theorem ext_getD {a b : List Int} (hl : a.length = b.length) (h : ∀ j, j < a.length → a.getD j 0 = b.getD j 0) : a = b := by
  apply List.ext_getElem hl
  intro j h1 h2
  have := h j h1
  rw [List.getD_eq_getElem?_getD, List.getD_eq_getElem?_getD, List.getElem?_eq_getElem h1, List.getElem?_eq_getElem h2] at this
  exact this
theorem getD_zer (n j : Nat) : (zer n).getD j 0 = 0 := by
  rw [List.getD_eq_getElem?_getD, zer, List.getElem?_replicate]; split <;> rfl
theorem bld_gap {N : Nat} {n : Int} {l : List S45} (h : CellsOk l) (hf : needsL l ≤ N) (j : Nat) (h0 : 2 + 4 * lastL l ≤ j) (h1 : j + bytesL l < N) : (bld N n l).getD j 0 = 0 := by
  obtain ⟨e1, e2⟩ := foldB_len (N := N) h
  unfold bld
  rw [getD_right _ _ _ (by simp [twoL]; omega), getD_right _ _ _ (by simp [twoL]; omega), getD_left _ _ _ (by simp [twoL, zer]; omega), getD_zer]
theorem bld_one {N : Nat} {n : Int} {l : List S45} {c : S45} (h : CellsOk (l ++ [c])) (hf : needsL (l ++ [c]) ≤ N) (j : Nat) (hj : (j : Int) < 4 * c.f0 - 2 ∨ N ≤ j + bytesL l) :
    (bld N n (l ++ [c])).getD j 0 = (bld N n l).getD j 0 := by
  obtain ⟨P, r, e1, e2, e3, e4⟩ := bld_step (n := n) h hf
  rw [e3, e4]
  by_cases hp : j < P.length
  · rw [getD_left _ _ _ hp, getD_left _ _ _ hp]
  · have hj' : N ≤ j + bytesL l := by rcases hj with hj | hj <;> omega
    have a1 : P ++ (ent4 ((N : Int) - (bytesL l + c.f1.size : Nat)) c.f1.size ++ (zer r ++ (bytesOf c.f1 ++ (foldB N l).2))) = (P ++ ent4 ((N : Int) - (bytesL l + c.f1.size : Nat)) c.f1.size ++ zer r ++ bytesOf c.f1) ++ (foldB N l).2 := by simp only [List.append_assoc]
    have a2 : P ++ (zer 4 ++ (zer r ++ (zer c.f1.size ++ (foldB N l).2))) = (P ++ zer 4 ++ zer r ++ zer c.f1.size) ++ (foldB N l).2 := by simp only [List.append_assoc]
    have l1 : (P ++ ent4 ((N : Int) - (bytesL l + c.f1.size : Nat)) c.f1.size ++ zer r ++ bytesOf c.f1).length = P.length + 4 + r + c.f1.size := by simp [ent4, zer, bytesOf_length]; omega
    have l2 : (P ++ zer 4 ++ zer r ++ zer c.f1.size).length = P.length + 4 + r + c.f1.size := by simp [zer]; omega
    rw [a1, a2, getD_right _ _ _ (by omega), getD_right _ _ _ (by omega), l1, l2]
theorem bld_ent {N : Nat} {n : Int} {l : List S45} {c : S45} (h : CellsOk (l ++ [c])) (hf : needsL (l ++ [c]) ≤ N) (j : Nat) (hj : j < 4) :
    (bld N n (l ++ [c])).getD ((4 * c.f0 - 2).toNat + j) 0 = (ent4 ((N : Int) - (bytesL l + c.f1.size : Nat)) c.f1.size).getD j 0 := by
  obtain ⟨P, r, e1, e2, e3, e4⟩ := bld_step (n := n) h hf
  rw [e4, getD_right _ _ _ (by omega), getD_left _ _ _ (by simp [ent4]; omega)]
  congr 1
  omega
theorem bld_data {N : Nat} {n : Int} {l : List S45} {c : S45} (h : CellsOk (l ++ [c])) (hf : needsL (l ++ [c]) ≤ N) (j : Nat) (hj : j < c.f1.size) :
    (bld N n (l ++ [c])).getD (N - bytesL l - c.f1.size + j) 0 = (bytesOf c.f1).getD j 0 := by
  obtain ⟨P, r, e1, e2, e3, e4⟩ := bld_step (n := n) h hf
  have a1 : P ++ (ent4 ((N : Int) - (bytesL l + c.f1.size : Nat)) c.f1.size ++ (zer r ++ (bytesOf c.f1 ++ (foldB N l).2))) = (P ++ ent4 ((N : Int) - (bytesL l + c.f1.size : Nat)) c.f1.size ++ zer r) ++ (bytesOf c.f1 ++ (foldB N l).2) := by simp only [List.append_assoc]
  have l1 : (P ++ ent4 ((N : Int) - (bytesL l + c.f1.size : Nat)) c.f1.size ++ zer r).length = P.length + 4 + r := by simp [ent4, zer]; omega
  rw [e4, a1, getD_right _ _ _ (by omega), l1, getD_left _ _ _ (by rw [bytesOf_length]; omega)]
  congr 1
  omega
theorem needs_mono {a b : List S45} (h : CellsOk (a ++ b)) : needsL a ≤ needsL (a ++ b) := by
  unfold needsL
  rw [bytesL_append]
  have : lastL a ≤ lastL (a ++ b) := by
    cases hb : b.getLast? with
    | none =>
      have : b = [] := by simpa using hb
      simp [this]
    | some d =>
      have hd : d ∈ b := List.mem_of_getLast? hb
      have e : lastL (a ++ b) = d.f0 := by simp [lastL, List.getLast?_append, hb]
      rw [e]
      cases ha : a.getLast? with
      | none => simp only [lastL, ha]; have := (h.append.2.1.each d hd).1; omega
      | some x =>
        have hx : x ∈ a := List.mem_of_getLast? ha
        have := h.append.2.2 x hx d hd
        simp only [lastL, ha]; omega
  omega
theorem bld_stable {N : Nat} {n : Int} (b : List S45) : ∀ (a : List S45), CellsOk (a ++ b) → needsL (a ++ b) ≤ N → ∀ j : Nat, ((j : Int) < 2 + 4 * lastL a ∨ N ≤ j + bytesL a) → (bld N n (a ++ b)).getD j 0 = (bld N n a).getD j 0 := by
  induction b with
  | nil => intro a _ _ j _; simp
  | cons c b ih =>
    intro a h hf j hj
    have e : a ++ c :: b = (a ++ [c]) ++ b := by simp
    rw [e] at h hf ⊢
    have h1 := h.append.1
    have hf1 : needsL (a ++ [c]) ≤ N := by have := needs_mono h; omega
    have hl := lastL_lt h1
    rw [ih (a ++ [c]) h hf j (by
      rcases hj with hj | hj
      · left; rw [lastL_snoc]; omega
      · right; rw [bytesL_append]; omega)]
    exact bld_one h1 hf1 j (by
      rcases hj with hj | hj
      · left; omega
      · right; exact hj)
theorem foldB_range {N : Nat} (hN : N ≤ 65535) : ∀ {l : List S45}, CellsOk l → needsL l ≤ N → (∀ x ∈ (foldB N l).1, 0 ≤ x ∧ x ≤ 255) ∧ (∀ x ∈ (foldB N l).2, 0 ≤ x ∧ x ≤ 255) := by
  intro l
  induction hl : l.length generalizing l with
  | zero =>
    intro _ _
    have : l = [] := List.length_eq_zero_iff.1 hl
    subst this
    simp [foldB]
  | succ m ih =>
    intro h hf
    have hne : l ≠ [] := by intro h; rw [h] at hl; cases hl
    obtain ⟨a, c, rfl⟩ : ∃ a c, l = a ++ [c] := ⟨l.dropLast, l.getLast hne, (List.dropLast_concat_getLast hne).symm⟩
    have ha := h.append.1
    have hn := needs_mono h
    obtain ⟨i1, i2⟩ := ih (by simp at hl; exact hl) ha (by omega)
    have hfl := foldB_len (N := N) ha
    unfold needsL at hf
    have h0 := lastL_nonneg h
    rw [bytesL_append] at hf
    have hb1 : bytesL [c] = c.f1.size := by simp [bytesL]
    rw [foldB_snoc]
    simp only [stepB]
    constructor
    · intro x hx
      rcases List.mem_append.1 hx with hx | hx
      · exact i1 x hx
      · rcases List.mem_append.1 hx with hx | hx
        · have := (List.mem_replicate.1 hx).2; omega
        · simp only [ent4, List.mem_cons, List.not_mem_nil, or_false] at hx
          rcases hx with rfl | rfl | rfl | rfl <;> omega
    · intro x hx
      rcases List.mem_append.1 hx with hx | hx
      · exact bytesOf_range _ x hx
      · exact i2 x hx
theorem built_range {N : Nat} (hN : N ≤ 65535) {l : List S45} (h : CellsOk l) (hf : needsL l ≤ N) : ∀ x ∈ builtL N l, 0 ≤ x ∧ x ≤ 255 := by
  intro x hx
  obtain ⟨i1, i2⟩ := foldB_range hN h hf
  have h0 := lastL_nonneg h
  unfold builtL bld at hx
  rcases List.mem_append.1 hx with hx | hx
  · simp only [twoL, List.mem_cons, List.not_mem_nil, or_false] at hx
    rcases hx with rfl | rfl <;> omega
  · rcases List.mem_append.1 hx with hx | hx
    · exact i1 x hx
    · rcases List.mem_append.1 hx with hx | hx
      · have := (List.mem_replicate.1 hx).2; omega
      · exact i2 x hx
theorem built_size {N : Nat} {l : List S45} (h : CellsOk l) (hf : needsL l ≤ N) : (strOfNums (builtL N l)).size = N := by
  have : (strOfNums (builtL N l)).size = (builtL N l).length := by simp [strOfNums, ByteArray.size]
  rw [this, builtL, bld_length h hf]
theorem built_bt {N : Nat} (hN : N ≤ 65535) {l : List S45} (h : CellsOk l) (hf : needsL l ≤ N) (j : Nat) : bt (strOfNums (builtL N l)) (j : Int) = (builtL N l).getD j 0 := by
  rw [← bytesOf_getD, bytesOf_strOfNums _ (built_range hN h hf)]
theorem built_scan {N : Nat} (hN : N ≤ 65535) {l : List S45} (h : CellsOk l) (hf : needsL l ≤ N) (n : Nat) (hn : lastL l = n) : ∀ i, i ≤ n →
    ∃ a b, l = a ++ b ∧ (∀ x ∈ a, x.f0 ≤ i) ∧ (∀ x ∈ b, (i : Int) < x.f0) ∧ scanE (strOfNums (builtL N l)) n i = .ok ((N : Int) - bytesL a, lastL a) ∧ cellsS (strOfNums (builtL N l)) i = a := by
  intro i
  induction i with
  | zero =>
    intro _
    exact ⟨[], l, rfl, by simp, fun x hx => by have := (h.each x hx).1; omega, by simp [scanE, built_size h hf, bytesL, lastL], rfl⟩
  | succ i ih =>
    intro hi
    obtain ⟨a, b, hab, h1, h2, h3, h4⟩ := ih (by omega)
    have hlast : lastL a ≤ i := by
      cases ha : a.getLast? with
      | none => simp only [lastL, ha]; omega
      | some d => simp only [lastL, ha]; exact h1 d (List.mem_of_getLast? ha)
    cases b with
    | nil =>
      rw [List.append_nil] at hab
      rw [← hab] at hlast
      omega
    | cons c b =>
      have e : l = (a ++ [c]) ++ b := by rw [hab]; simp
      have hc := h2 c (by simp)
      have hac : CellsOk (a ++ [c]) := by rw [e] at h; exact h.append.1
      have ha := hac.append.1
      have hfac : needsL (a ++ [c]) ≤ N := by
        have := needs_mono (a := a ++ [c]) (b := b) (by rw [← e]; exact h)
        rw [← e] at this
        omega
      have hcr := h.each c (by rw [hab]; simp)
      have hL : builtL N l = bld N n ((a ++ [c]) ++ b) := by rw [builtL, hn, ← e]
      have hst := fun j hj => bld_stable (N := N) (n := n) b (a ++ [c]) (by rw [← e]; exact h) (by rw [← e]; exact hf) j hj
      rw [← hL] at hst
      have hnf : 2 + 4 * (n : Int) + bytesL l ≤ N := by unfold needsL at hf; omega
      have hbl : bytesL l = bytesL a + c.f1.size + bytesL b := by rw [e, bytesL_append, bytesL_append]; simp [bytesL]
      have hln : lastL (a ++ [c]) = c.f0 := lastL_snoc _ _
      have rd : ∀ t : Nat, (2 + 4 * i + t : Nat) < 2 + 4 * c.f0 → bt (strOfNums (builtL N l)) ((2 + 4 * i + t : Nat) : Int) = (bld N n (a ++ [c])).getD (2 + 4 * i + t) 0 := by
        intro t ht
        rw [built_bt hN h hf, hst _ (by left; rw [hln]; exact ht)]
      by_cases heq : c.f0 = (i : Int) + 1
      · -- the entry of c
        have ent : ∀ t : Nat, t < 4 → bt (strOfNums (builtL N l)) ((2 + 4 * i + t : Nat) : Int) = (ent4 ((N : Int) - (bytesL a + c.f1.size : Nat)) c.f1.size).getD t 0 := by
          intro t ht
          rw [rd t (by omega), ← bld_ent (n := n) hac hfac t ht]
          congr 1
          omega
        have x1 : twoS (strOfNums (builtL N l)) (2 + 4 * (i : Int)) = (N : Int) - (bytesL a + c.f1.size : Nat) := by
          have q0 := ent 0 (by omega)
          have q1 := ent 1 (by omega)
          simp only [ent4, List.getD_cons_zero, List.getD_cons_succ] at q0 q1
          unfold twoS
          rw [show (2 + 4 * (i : Int)) = ((2 + 4 * i + 0 : Nat) : Int) by omega, show ((2 + 4 * i + 0 : Nat) : Int) + 1 = ((2 + 4 * i + 1 : Nat) : Int) by omega, q0, q1]
          omega
        have x2 : twoS (strOfNums (builtL N l)) (4 + 4 * (i : Int)) = c.f1.size := by
          have q0 := ent 2 (by omega)
          have q1 := ent 3 (by omega)
          simp only [ent4, List.getD_cons_zero, List.getD_cons_succ] at q0 q1
          unfold twoS
          rw [show (4 + 4 * (i : Int)) = ((2 + 4 * i + 2 : Nat) : Int) by omega, show ((2 + 4 * i + 2 : Nat) : Int) + 1 = ((2 + 4 * i + 3 : Nat) : Int) by omega, q0, q1]
          omega
        refine ⟨a ++ [c], b, e, ?_, ?_, ?_, ?_⟩
        · intro x hx
          rcases List.mem_append.1 hx with hx | hx
          · have := h1 x hx; omega
          · simp only [List.mem_singleton] at hx; subst hx; omega
        · intro x hx
          have := (by rw [e] at h; exact h.append.2.2 c (by simp) x hx : c.f0 < x.f0)
          omega
        · rw [scanE, h3]
          simp only [x1, x2]
          rw [if_neg (by omega), if_neg (by omega), hln, heq, bytesL_append]
          have hb1 : bytesL [c] = c.f1.size := by simp [bytesL]
          rw [hb1]
        · simp only [cellsS, h4, x1, x2]
          rw [if_pos (by omega)]
          congr 1
          have hex : (strOfNums (builtL N l)).extract ((N : Int) - (bytesL a + c.f1.size : Nat)).toNat ((N : Int) - (bytesL a + c.f1.size : Nat) + (c.f1.size : Int)).toNat = c.f1 := by
            apply bytesOf_inj
            rw [bytesOf_extract _ _ _ (by rw [built_size h hf]; omega), bytesOf_strOfNums _ (built_range hN h hf)]
            have hbl2 : (builtL N l).length = N := by rw [builtL, bld_length h hf]
            apply ext_getD
            · rw [List.length_take, List.length_drop, hbl2, bytesOf_length]; omega
            · intro j hj
              rw [List.length_take, List.length_drop, hbl2] at hj
              have ej : j < c.f1.size := by omega
              have : (List.take (((N : Int) - (bytesL a + c.f1.size : Nat) + (c.f1.size : Int)).toNat - ((N : Int) - (bytesL a + c.f1.size : Nat)).toNat) (List.drop ((N : Int) - (bytesL a + c.f1.size : Nat)).toNat (builtL N l))).getD j 0 = (builtL N l).getD (N - bytesL a - c.f1.size + j) 0 := by
                rw [List.getD_eq_getElem?_getD, List.getElem?_take_of_lt (by omega), List.getElem?_drop, List.getD_eq_getElem?_getD]
                congr 2
                omega
              rw [this, hst _ (by right; rw [bytesL_append]; simp [bytesL]; omega), bld_data hac hfac j ej]
          rw [hex]
          cases c
          simp only at heq
          rw [heq]
      · -- no cell has this line
        have gap : ∀ t : Nat, t < 4 → bt (strOfNums (builtL N l)) ((2 + 4 * i + t : Nat) : Int) = 0 := by
          intro t ht
          rw [rd t (by omega), bld_one hac hfac _ (by left; omega)]
          have := needs_mono hac
          exact bld_gap ha (by omega) _ (by omega) (by omega)
        have x1 : twoS (strOfNums (builtL N l)) (2 + 4 * (i : Int)) = 0 := by
          unfold twoS
          rw [show (2 + 4 * (i : Int)) = ((2 + 4 * i + 0 : Nat) : Int) by omega, show ((2 + 4 * i + 0 : Nat) : Int) + 1 = ((2 + 4 * i + 1 : Nat) : Int) by omega, gap 0 (by omega), gap 1 (by omega)]
          rfl
        have x2 : twoS (strOfNums (builtL N l)) (4 + 4 * (i : Int)) = 0 := by
          unfold twoS
          rw [show (4 + 4 * (i : Int)) = ((2 + 4 * i + 2 : Nat) : Int) by omega, show ((2 + 4 * i + 2 : Nat) : Int) + 1 = ((2 + 4 * i + 3 : Nat) : Int) by omega, gap 2 (by omega), gap 3 (by omega)]
          rfl
        refine ⟨a, c :: b, hab, fun x hx => by have := h1 x hx; omega, ?_, ?_, ?_⟩
        · intro x hx
          rcases List.mem_cons.1 hx with rfl | hx
          · omega
          · have := (by rw [e] at h; exact h.append.2.2 c (by simp) x hx : c.f0 < x.f0)
            omega
        · rw [scanE, h3]
          simp only [x1, x2]
          rw [if_pos (by simp)]
        · simp only [cellsS, h4, x2]
          rw [if_neg (by omega)]
/-- The page of cells is valid and has these cells. -/
theorem built_valid {N : Nat} (h32 : 32 ≤ N) (hN : N ≤ 4096) (h8 : N % 8 = 0) {l : List S45} (h : CellsOk l) (hf : needsL l ≤ N) :
    wrongS (strOfNums (builtL N l)) = ((N : Int), 0) ∧ twoS (strOfNums (builtL N l)) 0 = lastL l ∧ cellsS (strOfNums (builtL N l)) (lastL l).toNat = l := by
  have h0 := lastL_nonneg h
  obtain ⟨n, hn⟩ : ∃ n : Nat, lastL l = n := ⟨(lastL l).toNat, by omega⟩
  have hsz := built_size h hf
  have h2 : twoS (strOfNums (builtL N l)) 0 = n := by
    have q0 : bt (strOfNums (builtL N l)) ((0 : Nat) : Int) = (n : Int) / 256 := by
      rw [built_bt (by omega) h hf 0, ← hn]; rfl
    have q1 : bt (strOfNums (builtL N l)) ((1 : Nat) : Int) = (n : Int) % 256 := by
      rw [built_bt (by omega) h hf 1, ← hn]; rfl
    unfold twoS
    rw [show (0 : Int) = ((0 : Nat) : Int) by rfl, show ((0 : Nat) : Int) + 1 = ((1 : Nat) : Int) by rfl, q0, q1]
    omega
  obtain ⟨a, b, hab, h1, h3, h4, h5⟩ := built_scan (by omega) h hf n hn n (Nat.le_refl n)
  have hb : b = [] := by
    cases hb : b.getLast? with
    | none => simpa using hb
    | some d =>
      have := h3 d (List.mem_of_getLast? hb)
      have e : lastL l = d.f0 := by rw [hab]; simp [lastL, List.getLast?_append, hb]
      omega
  subst hb
  rw [List.append_nil] at hab
  subst hab
  have hnf : 2 + 4 * (n : Int) + bytesL l ≤ N := by unfold needsL at hf; omega
  refine ⟨?_, by rw [h2, hn], by rw [hn, Int.toNat_natCast]; exact h5⟩
  unfold wrongS
  rw [hsz, if_pos ⟨h32, hN, h8⟩, h2, if_neg (by omega), Int.toNat_natCast]
  have he : entriesS (strOfNums (builtL N l)) n = .ok ((N : Int) - bytesL l) := by
    unfold entriesS
    rw [h4, hn]
    simp
  rw [he]
  have hz : ∀ (k j : Nat), N ≤ k + j + bytesL l → 2 + 4 * n ≤ j → firstNZ (strOfNums (builtL N l)) ((N : Int) - bytesL l) j = none := by
    intro k
    induction k with
    | zero => intro j hk hj; rw [firstNZ, if_neg (by omega)]
    | succ k ih =>
      intro j hk hj
      rw [firstNZ]
      split
      · rename_i hlt
        rw [if_neg (by
          rw [built_bt (by omega) h hf, builtL, bld_gap h hf j (by omega) (by omega)]; simp), ih (j + 1) (by omega) (by omega)]
      · rfl
  simp only [hz N (2 + 4 * n) (by omega) (by omega)]

end Go.Proofs.Ytemglmcddaeedaa.PA

namespace Go.Proofs.Ytemglmcddaeedaa.PA
open Go.RowKit Go.Proofs.YtemglmcddaeedaaW.PrintWords Go.Proofs.YtemglmcddaeedaaW.PrintLast Go.Proofs.YtemglmcddaeedaaW.PrintMore
attribute [local go_sem] max2_int min2_int max_two min_two max_three min_three max_four min_four   -- for this text's walks alone
set_option linter.unusedVariables false
set_option linter.unusedSimpArgs false

/-! ### page_New: function 15 -/
def page_New.f (k : Nat) (a0 : Int) : Option (ByteArray × Int) := (page_Fill.f k a0 ([] : List (S45))).bind fun bt157 => (some (bt157.1, bt157.2))
theorem page_New.mono : ∀ a0 k, LeO (page_New.f k a0) (page_New.f (k + 1) a0) := by
  intro a0 k
  unfold page_New.f
  repeat' first
      | (with_reducible exact page_Fill.mono _ _ _)
      | (with_reducible exact LeO.refl _)
      | (with_reducible exact LeO.none _)
      | (with_reducible refine LeO.ite ?_ ?_)
      | (with_reducible refine LeO.bind ?_ (fun _ => ?_))
      | exact page_Fill.mono _ _ _
      | exact LeO.none _
      | refine LeO.ite ?_ ?_
      | refine LeO.bind ?_ (fun _ => ?_)
set_option maxHeartbeats 8000000 in
set_option maxRecDepth 100000 in
theorem page_New.calls (k : Nat) (a0 : Int) (r1 : ByteArray) (r2 : Int) (w : World) (h : page_New.f k a0 = some (r1, r2)) :
    Calls Try.prog 15 #[.int .i64 a0] w fun e w' => e = .returned (.tuple #[.string r1, .int .i64 r2]) ∧ Below w.heap.size w w' := by
  have HB := Aside0.mk (Below.refl w.heap.size w)
  have H : ((page_Fill.f k a0 ([] : List (S45))).bind fun bt157 => (some (bt157.1, bt157.2))) = some (r1, r2) := h
  clear h
  replace H := Option.bind_eq_some_iff.mp H
  obtain ⟨⟨t157, t158⟩, A20, H⟩ := H
  replace H : (some (t157, t158)) = some (r1, r2) := H
  have A2 := Aside0.mk A20
  clear A20
  simp only [Option.some.injEq, Prod.mk.injEq] at H
  obtain ⟨rfl, rfl⟩ := H
  go_enter Try.func15, Try.ntmps15
  go_wp2_with (first | ((with_reducible refine gate_callee (f := 17) rfl ?_); refine goesL_ (some 5) rfl rfl Try.func17 (by kernel_rfl) rfl #[.int .i64 a0, .slice none 0 0] rfl (by (try simp only [List.map_toArray, List.map_cons, List.map_nil]); first | done | rfl | (simp only [List.length_drop, List.length_take]; rfl)) ?_; (refine (page_Fill.calls k a0 _ _ ([] : List (S45)) t157 t158 _ ?side1 ?side2 A2.out).mono ?_); (case side1 => exact Kd.C_nil _ _); (case side2 => exact Nat.le_refl _); rintro e w3 ⟨rfl, hb⟩; refine ⟨_, rfl, ?_⟩; have n0_ := Aside0.mk (below_step (by repeat (first | (with_reducible first | exact HB.out | apply below_alloc | apply pw_below_drewN | apply below_drew1) | exact HB.out)) hb); clear HB; have HB := n0_; clear n0_; (try clear hb); (try clear hb2); (try clear hk); (try clear hi)))
  go_ret2
  exact ⟨by first | rfl | (simp [errW_none, errW_some] <;> rfl) | (simp [*, errW_none, errW_some] <;> rfl), by repeat (first | (with_reducible first | exact HB.out | apply below_alloc | apply pw_below_drewN | apply below_drew1) | exact HB.out)⟩

end Go.Proofs.Ytemglmcddaeedaa.PA

namespace Go.Proofs.Ytemglmcddaeedaa.PA
open Go.RowKit Go.Proofs.YtemglmcddaeedaaW.PrintWords Go.Proofs.YtemglmcddaeedaaW.PrintLast Go.Proofs.YtemglmcddaeedaaW.PrintMore
attribute [local go_sem] max2_int min2_int max_two min_two max_three min_three max_four min_four   -- for this text's walks alone
set_option linter.unusedVariables false
set_option linter.unusedSimpArgs false

/-! ### ringworkref06_New: function 16 -/
def ringworkref06_New.f (a0 : Int) : Option (ByteArray × Int) := (ringworkref06_Size.f a0).bind fun t159 => (if t159 = true then ((ringworkref06_Built.f a0 ([] : List (S45))).bind fun t160 => (some (t160, 0))) else (some ((⟨#[]⟩ : ByteArray), 7)))
set_option maxHeartbeats 8000000 in
set_option maxRecDepth 100000 in
theorem ringworkref06_New.calls (a0 : Int) (r1 : ByteArray) (r2 : Int) (w : World) (h : ringworkref06_New.f a0 = some (r1, r2)) :
    Calls Try.prog 16 #[.int .i64 a0] w fun e w' => e = .returned (.tuple #[.string r1, .int .i64 r2]) ∧ Below w.heap.size w w' := by
  have HB := Aside0.mk (Below.refl w.heap.size w)
  have H : ((ringworkref06_Size.f a0).bind fun t159 => (if t159 = true then ((ringworkref06_Built.f a0 ([] : List (S45))).bind fun t160 => (some (t160, 0))) else (some ((⟨#[]⟩ : ByteArray), 7)))) = some (r1, r2) := h
  clear h
  replace H := Option.bind_eq_some_iff.mp H
  obtain ⟨t159, A20, H⟩ := H
  replace H : (if t159 = true then ((ringworkref06_Built.f a0 ([] : List (S45))).bind fun t160 => (some (t160, 0))) else (some ((⟨#[]⟩ : ByteArray), 7))) = some (r1, r2) := H
  have A2 := Aside0.mk A20
  clear A20
  by_cases c3 : t159 = true
  · subst c3
    have H1 : ((ringworkref06_Built.f a0 ([] : List (S45))).bind fun t160 => (some (t160, 0))) = some (r1, r2) := by rw [if_pos rfl] at H; exact H
    clear H
    have H := H1
    clear H1
    replace H := Option.bind_eq_some_iff.mp H
    obtain ⟨t160, A40, H⟩ := H
    replace H : (some (t160, 0)) = some (r1, r2) := H
    have A4 := Aside0.mk A40
    clear A40
    simp only [Option.some.injEq, Prod.mk.injEq] at H
    obtain ⟨rfl, rfl⟩ := H
    go_enter Try.func16, Try.ntmps16
    go_wp2_with (first | ((with_reducible refine gate_callee (f := 50) rfl ?_); refine goesL_ (some 5) rfl rfl Try.func50 (by kernel_rfl) rfl #[.int .i64 a0] rfl (by (try simp only [List.map_toArray, List.map_cons, List.map_nil]); first | done | rfl | (simp only [List.length_drop, List.length_take]; rfl)) ?_; (with_reducible refine (ringworkref06_Size.calls a0 true _ A2.out).mono ?_); rintro e w' ⟨rfl, ⟨nd, rfl⟩⟩; refine ⟨_, rfl, ?_⟩) | ((with_reducible refine gate_callee (f := 51) rfl ?_); refine goesL_ (some 8) rfl rfl Try.func51 (by kernel_rfl) rfl #[.int .i64 a0, .slice none 0 0] rfl (by (try simp only [List.map_toArray, List.map_cons, List.map_nil]); first | done | rfl | (simp only [List.length_drop, List.length_take]; rfl)) ?_; (refine (ringworkref06_Built.calls a0 _ _ ([] : List (S45)) t160 _ ?side1 ?side2 A4.out).mono ?_); (case side1 => exact Kd.C_nil _ _); (case side2 => exact Nat.le_refl _); rintro e w5 ⟨rfl, hb⟩; refine ⟨_, rfl, ?_⟩; have n0_ := Aside0.mk (below_step (by repeat (first | (with_reducible first | exact HB.out | apply below_alloc | apply pw_below_drewN | apply below_drew1) | exact HB.out)) hb); clear HB; have HB := n0_; clear n0_; (try clear hb); (try clear hb2); (try clear hk); (try clear hi)))
    go_ret2
    exact ⟨by first | rfl | (simp [errW_none, errW_some] <;> rfl) | (simp [*, errW_none, errW_some] <;> rfl), by repeat (first | (with_reducible first | exact HB.out | apply below_alloc | apply pw_below_drewN | apply below_drew1) | exact HB.out)⟩
  · replace c3 := Bool.eq_false_iff.mpr c3
    subst c3
    have H1 : (some ((⟨#[]⟩ : ByteArray), 7)) = some (r1, r2) := by rw [if_neg (show ¬ (false = true) by decide)] at H; exact H
    clear H
    have H := H1
    clear H1
    simp only [Option.some.injEq, Prod.mk.injEq] at H
    obtain ⟨rfl, rfl⟩ := H
    go_enter Try.func16, Try.ntmps16
    go_wp2_with (first | ((with_reducible refine gate_callee (f := 50) rfl ?_); refine goesL_ (some 5) rfl rfl Try.func50 (by kernel_rfl) rfl #[.int .i64 a0] rfl (by (try simp only [List.map_toArray, List.map_cons, List.map_nil]); first | done | rfl | (simp only [List.length_drop, List.length_take]; rfl)) ?_; (with_reducible refine (ringworkref06_Size.calls a0 false _ A2.out).mono ?_); rintro e w' ⟨rfl, ⟨nd, rfl⟩⟩; refine ⟨_, rfl, ?_⟩))
    go_ret2
    exact ⟨by first | rfl | (simp [errW_none, errW_some] <;> rfl) | (simp [*, errW_none, errW_some] <;> rfl), by repeat (first | (with_reducible first | exact HB.out | apply below_alloc | apply pw_below_drewN | apply below_drew1) | exact HB.out)⟩

end Go.Proofs.Ytemglmcddaeedaa.PA

namespace Go.Proofs.Ytemglmcddaeedaa.PA
open Go.RowKit Go.Proofs.YtemglmcddaeedaaW.PrintWords Go.Proofs.YtemglmcddaeedaaW.PrintLast Go.Proofs.YtemglmcddaeedaaW.PrintMore
set_option linter.unusedVariables false
set_option linter.unusedSimpArgs false
/-! #### Fill, New, Cells: what both sides answer -/
def sizeOk (n : Int) : Prop := 32 ≤ n ∧ n ≤ 4096 ∧ n % 8 = 0
instance sizeOk.dec (n : Int) : Decidable (sizeOk n) := by unfold sizeOk; infer_instance
def fillS (n : Int) (l : List S45) : ByteArray × Int :=
  if CellsOk l then (if sizeOk n then (if needsL l > n then (⟨#[]⟩, 13) else (strOfNums (builtL n.toNat l), 0)) else (⟨#[]⟩, 7)) else (⟨#[]⟩, 1)
theorem w64 (x : Int) (h0 : -9223372036854775808 ≤ x) (h1 : x < 9223372036854775808) : wrap64 x = x := by unfold wrap64; omega
theorem size_f (n : Int) : page_size.f n = some (decide (sizeOk n)) := by
  unfold page_size.f
  split
  · split
    · rw [Int.tmod_eq_emod_of_nonneg (by omega)]
      congr 1
      by_cases h : n % 8 = 0
      · rw [decide_eq_true (show sizeOk n from ⟨by omega, by omega, h⟩), h]; rfl
      · rw [decide_eq_false (fun hs : sizeOk n => h hs.2.2)]; simpa using h
    · rw [decide_eq_false (fun hs : sizeOk n => by have := hs.2.1; omega)]
  · rw [decide_eq_false (fun hs : sizeOk n => by have := hs.1; omega)]
theorem refSize_f (n : Int) : ringworkref06_Size.f n = some (decide (sizeOk n)) := by
  rw [← size_f]; rfl
theorem line_f (n : Int) : page_line.f n = some (decide (1 ≤ n ∧ n ≤ 200)) := by
  unfold page_line.f
  split
  · rename_i h; simp; omega
  · rename_i h; simp; omega
theorem loop_spec (p : ByteArray) : ∀ (k i : Nat) (acc : List UInt8), p.size - i = k → i ≤ p.size → ByteArray.toList.loop p i acc = acc.reverse ++ p.data.toList.drop i := by
  intro k
  induction k with
  | zero =>
    intro i acc hk hi
    rw [ByteArray.toList.loop, if_neg (by omega), List.drop_of_length_le (by simp only [Array.length_toList]; show p.size ≤ i; omega), List.append_nil]
  | succ k ih =>
    intro i acc hk hi
    rw [ByteArray.toList.loop, if_pos (by omega), ih (i + 1) _ (by omega) (by omega)]
    have hl : i < p.data.toList.length := by simp only [Array.length_toList]; show i < p.size; omega
    rw [List.drop_eq_getElem_cons hl]
    have : p.get! i = p.data.toList[i] := by
      simp only [ByteArray.get!, Array.getElem_toList]
      exact getElem!_pos p.data i _
    rw [this]
    simp
theorem toList_data (p : ByteArray) : p.toList = p.data.toList := by
  unfold ByteArray.toList
  rw [loop_spec p p.size 0 [] (by omega) (by omega)]
  rfl
theorem toList_nil (p : ByteArray) : p.toList = ([] : List UInt8) ↔ p.size = 0 := by
  rw [toList_data]
  constructor
  · intro h
    have : p.data.toList.length = 0 := by rw [h]; rfl
    simpa using this
  · intro h
    apply List.length_eq_zero_iff.1
    simpa using h
theorem toList_inj (p q : ByteArray) : p.toList = q.toList ↔ p = q := by
  rw [toList_data, toList_data]
  constructor
  · intro h
    cases p; cases q
    congr 1
    exact Array.toList_inj.1 h
  · rintro rfl; rfl
theorem CellsOk_take {l : List S45} (h : CellsOk l) (i : Nat) : CellsOk (l.take i) := by
  rw [← List.take_append_drop i l] at h; exact h.append.1
/-- What one more cell asks. -/
theorem ok_next {l : List S45} (i : Nat) (hi : i < l.length) (h : CellsOk (l.take i)) :
    CellsOk (l.take (i + 1)) ↔ (1 ≤ l[i].f0 ∧ l[i].f0 ≤ 200 ∧ 0 < l[i].f1.size ∧ lastL (l.take i) < l[i].f0) := by
  rw [take_snoc l i hi]
  constructor
  · intro hc
    have h1 := hc.each l[i] (List.mem_append.2 (.inr (List.mem_singleton.2 rfl)))
    exact ⟨h1.1, h1.2.1, h1.2.2, lastL_lt hc⟩
  · rintro ⟨h1, h2, h3, h4⟩
    exact h.snoc ⟨h1, h2, h3⟩ h4
theorem lastL_take {l : List S45} (i : Nat) (hi : i ≤ l.length) (hp : 0 < i) : lastL (l.take i) = (l[i - 1]'(by omega)).f0 := by
  have e : l.take i = l.take (i - 1) ++ [l[i - 1]'(by omega)] := by
    have := take_snoc l (i - 1) (by omega)
    rw [show i - 1 + 1 = i by omega] at this
    exact this
  rw [e, lastL_snoc]
theorem lastL_zero {l : List S45} (i : Nat) (hp : ¬ 0 < i) : lastL (l.take i) = 0 := by
  have : i = 0 := by omega
  subst this
  rfl
theorem not_ok {l : List S45} (i : Nat) (h : ¬ CellsOk (l.take i)) : ¬ CellsOk l := fun hl => h (CellsOk_take hl i)
theorem fill_bad {l : List S45} (n : Int) (h : ¬ CellsOk l) : fillS n l = (⟨#[]⟩, 1) := by unfold fillS; rw [if_neg h]
theorem Fill_l0 (n : Int) (l : List S45) (hl : l.length ≤ 9223372036854775807) (hb : bytesL l ≤ 1000000000000) : ∀ (k i : Nat), i ≤ l.length → l.length - i < k → CellsOk (l.take i) →
    page_Fill.l0 k n l l (l.length : Int) (i : Int) = some (fillS n l) := by
  intro k
  induction k with
  | zero => intro i _ h; omega
  | succ k ih =>
    intro i hi hk hok
    rw [page_Fill.l0]
    by_cases hlt : i < l.length
    · have hn := ok_next i hlt hok
      rw [if_pos (by omega), if_pos (by omega), if_pos (by omega), rd_get l i hlt, line_f]
      simp only [Option.bind_some, decide_eq_true_eq]
      by_cases h1 : 1 ≤ l[i].f0 ∧ l[i].f0 ≤ 200
      · rw [if_pos h1]
        by_cases h2 : l[i].f1.toList = ([] : List UInt8)
        · rw [if_pos h2, fill_bad n (not_ok (i + 1) (fun hc => by have := (hn.1 hc).2.2.1; have := (toList_nil _).1 h2; omega))]
        · rw [if_neg h2]
          have h2' : 0 < l[i].f1.size := by
            rcases Nat.eq_zero_or_pos l[i].f1.size with h | h
            · exact absurd ((toList_nil _).2 h) h2
            · exact h
          by_cases h3 : (i : Int) > 0
          · rw [if_pos h3, w64 _ (by omega) (by omega), if_pos (by omega), if_pos (by omega), show (i : Int) - 1 = ((i - 1 : Nat) : Int) by omega, rd_get l (i - 1) (by omega)]
            by_cases h4 : (l[i - 1]'(by omega)).f0 ≥ l[i].f0
            · rw [if_pos h4, fill_bad n (not_ok (i + 1) (fun hc => by have := (hn.1 hc).2.2.2; rw [lastL_take i hi (by omega)] at this; omega))]
            · rw [if_neg h4, w64 _ (by omega) (by omega), show (i : Int) + 1 = ((i + 1 : Nat) : Int) by omega]
              exact ih (i + 1) (by omega) (by omega) (hn.2 ⟨h1.1, h1.2, h2', by rw [lastL_take i hi (by omega)]; omega⟩)
          · rw [if_neg h3, w64 _ (by omega) (by omega), show (i : Int) + 1 = ((i + 1 : Nat) : Int) by omega]
            exact ih (i + 1) (by omega) (by omega) (hn.2 ⟨h1.1, h1.2, h2', by rw [lastL_zero i (by omega)]; omega⟩)
      · rw [if_neg h1, fill_bad n (not_ok (i + 1) (fun hc => h1 ⟨(hn.1 hc).1, (hn.1 hc).2.1⟩))]
    · have hil : i = l.length := by omega
      rw [if_neg (by omega), size_f]
      rw [hil, List.take_length] at hok
      simp only [Option.bind_some, decide_eq_true_eq]
      unfold fillS
      rw [if_pos hok]
      by_cases hs : sizeOk n
      · rw [if_pos hs, if_pos hs]
        obtain ⟨s1, s2, s3⟩ := hs
        unfold page_filled.f
        rw [if_pos ⟨s1, s2, hok, hb⟩]
        split <;> rfl
      · rw [if_neg hs, if_neg hs]
theorem Fill_f (n : Int) (l : List S45) (hl : l.length ≤ 9223372036854775807) (hb : bytesL l ≤ 1000000000000) (k : Nat) (hk : l.length < k) : page_Fill.f k n l = some (fillS n l) :=
  Fill_l0 n l hl hb k 0 (by omega) (by omega) trivial
theorem New_f (n : Int) (k : Nat) (hk : 0 < k) : page_New.f k n = some (fillS n []) := by
  unfold page_New.f
  rw [Fill_f n [] (by simp) (by simp [bytesL]) k (by simpa using hk)]
  rfl
theorem refLast_f (l : List S45) (hl : l.length ≤ 9223372036854775807) : ringworkref06_Last.f l = some (lastL l) := by
  unfold ringworkref06_Last.f
  by_cases h : l.length = 0
  · rw [if_pos (by omega)]
    have : l = [] := List.length_eq_zero_iff.1 h
    subst this; rfl
  · rw [if_neg (by omega), w64 _ (by omega) (by omega), if_pos (by omega), if_pos (by omega), lastL_rd l (by omega)]
theorem refBytes_l0 (l : List S45) (hl : l.length ≤ 9223372036854775807) (hb : bytesL l ≤ 1000000000000) : ∀ (k i : Nat), i ≤ l.length → l.length - i < k →
    ringworkref06_Bytes.l0 k l (bytesL (l.take i) : Int) (i : Int) = some (bytesL l : Int) := by
  intro k
  induction k with
  | zero => intro i _ h; omega
  | succ k ih =>
    intro i hi hk
    rw [ringworkref06_Bytes.l0]
    by_cases hlt : i < l.length
    · have h1 := bytesL_take_succ l i hlt
      have h2 := bytesL_take_le l (i + 1)
      rw [if_pos (by omega), if_pos (by omega), rd_get l i hlt, w64 _ (by omega) (by omega), w64 _ (by omega) (by omega), show (i : Int) + 1 = ((i + 1 : Nat) : Int) by omega, show (bytesL (l.take i) : Int) + (l[i].f1.size : Int) = (bytesL (l.take (i + 1)) : Int) by omega]
      exact ih (i + 1) (by omega) (by omega)
    · rw [if_neg (by omega), List.take_of_length_le (by omega)]
theorem refBytes_f (l : List S45) (hl : l.length ≤ 9223372036854775807) (hb : bytesL l ≤ 1000000000000) (k : Nat) (hk : l.length < k) : ringworkref06_Bytes.f k l = some (bytesL l : Int) := by
  have := refBytes_l0 l hl hb k 0 (by omega) (by omega)
  exact this
theorem refRoom_f (n : Int) (l : List S45) (hn : -1000000000000 ≤ n ∧ n ≤ 1000000000000) (hl : l.length ≤ 9223372036854775807) (hb : bytesL l ≤ 1000000000000) (hok : CellsOk l) (k : Nat) (hk : l.length < k) :
    ringworkref06_Room.f k n l = some (n - needsL l) := by
  have h := lastL_nonneg hok
  unfold ringworkref06_Room.f
  rw [refLast_f l hl, Option.bind_some, refBytes_f l hl hb k hk, Option.bind_some, w64 (n - 2) (by omega) (by omega), w64 (4 * lastL l) (by omega) (by omega), w64 (n - 2 - 4 * lastL l) (by omega) (by omega), w64 _ (by omega) (by omega)]
  congr 1
  unfold needsL
  omega
theorem refFill_l0 (n : Int) (l : List S45) (hl : l.length ≤ 9223372036854775807) (hb : bytesL l ≤ 1000000000000) : ∀ (k i : Nat), i ≤ l.length → l.length - i + l.length + 1 < k → CellsOk (l.take i) →
    ringworkref06_Fill.l0 k n l (i : Int) = some (fillS n l) := by
  intro k
  induction k with
  | zero => intro i _ h; omega
  | succ k ih =>
    intro i hi hk hok
    rw [ringworkref06_Fill.l0]
    by_cases hlt : i < l.length
    · have hn := ok_next i hlt hok
      rw [if_pos (by omega), if_pos (by omega), rd_get l i hlt]
      by_cases h1 : l[i].f0 < 1
      · rw [if_pos h1, fill_bad n (not_ok (i + 1) (fun hc => by have := (hn.1 hc).1; omega))]
      · rw [if_neg h1]
        by_cases h1' : l[i].f0 > 200
        · rw [if_pos h1', fill_bad n (not_ok (i + 1) (fun hc => by have := (hn.1 hc).2.1; omega))]
        · rw [if_neg h1']
          have hz : l[i].f1.toList = ([] : List UInt8) → fillS n l = (⟨#[]⟩, 1) := fun h2 => fill_bad n (not_ok (i + 1) (fun hc => by have := (hn.1 hc).2.2.1; have := (toList_nil _).1 h2; omega))
          have hpos : ¬ l[i].f1.toList = ([] : List UInt8) → 0 < l[i].f1.size := fun h2 => by
            rcases Nat.eq_zero_or_pos l[i].f1.size with h | h
            · exact absurd ((toList_nil _).2 h) h2
            · exact h
          by_cases h3 : (i : Int) > 0
          · rw [if_pos h3, w64 ((i : Int) - 1) (by omega) (by omega), if_pos (by omega), if_pos (by omega), show (i : Int) - 1 = ((i - 1 : Nat) : Int) by omega, rd_get l (i - 1) (by omega)]
            by_cases h4 : l[i].f0 ≤ (l[i - 1]'(by omega)).f0
            · rw [if_pos h4, fill_bad n (not_ok (i + 1) (fun hc => by have := (hn.1 hc).2.2.2; rw [lastL_take i hi (by omega)] at this; omega))]
            · rw [if_neg h4]
              by_cases h2 : l[i].f1.toList = ([] : List UInt8)
              · rw [if_pos h2, hz h2]
              · rw [if_neg h2, w64 _ (by omega) (by omega), show (i : Int) + 1 = ((i + 1 : Nat) : Int) by omega]
                exact ih (i + 1) (by omega) (by omega) (hn.2 ⟨by omega, by omega, hpos h2, by rw [lastL_take i hi (by omega)]; omega⟩)
          · rw [if_neg h3]
            by_cases h2 : l[i].f1.toList = ([] : List UInt8)
            · rw [if_pos h2, hz h2]
            · rw [if_neg h2, w64 _ (by omega) (by omega), show (i : Int) + 1 = ((i + 1 : Nat) : Int) by omega]
              exact ih (i + 1) (by omega) (by omega) (hn.2 ⟨by omega, by omega, hpos h2, by rw [lastL_zero i (by omega)]; omega⟩)
    · have hil : i = l.length := by omega
      rw [if_neg (by omega), refSize_f]
      rw [hil, List.take_length] at hok
      simp only [Option.bind_some, decide_eq_true_eq]
      unfold fillS
      rw [if_pos hok]
      by_cases hs : sizeOk n
      · rw [if_pos hs, if_pos hs]
        obtain ⟨s1, s2, s3⟩ := hs
        rw [refRoom_f n l (by omega) hl hb hok k (by omega), Option.bind_some]
        by_cases hnd : needsL l > n
        · rw [if_pos (by omega), if_pos hnd]
        · rw [if_neg (by omega), if_neg hnd]
          unfold ringworkref06_Built.f
          rw [if_pos ⟨s1, s2, hok, hb, by omega⟩]
          rfl
      · rw [if_neg hs, if_neg hs]
theorem refFill_f (n : Int) (l : List S45) (hl : l.length ≤ 9223372036854775807) (hb : bytesL l ≤ 1000000000000) (k : Nat) (hk : 2 * l.length + 1 < k) : ringworkref06_Fill.f k n l = some (fillS n l) :=
  refFill_l0 n l hl hb k 0 (by omega) (by omega) trivial
theorem refNew_f (n : Int) : ringworkref06_New.f n = some (fillS n []) := by
  unfold ringworkref06_New.f fillS
  rw [refSize_f, Option.bind_some, if_pos (show CellsOk [] from trivial)]
  by_cases hs : sizeOk n
  · rw [if_pos (decide_eq_true hs), if_pos hs]
    obtain ⟨s1, s2, s3⟩ := hs
    have h0 : needsL ([] : List S45) = 2 := rfl
    rw [if_neg (show ¬ needsL ([] : List S45) > n by omega)]
    unfold ringworkref06_Built.f
    rw [if_pos ⟨s1, s2, trivial, by simp [bytesL], by omega⟩]
    rfl
  · rw [if_neg (by simpa using hs), if_neg hs]
theorem Wrong_f (p : ByteArray) (h : p.size ≤ 100000) : page_Wrong.f p = some (wrongS p) := by unfold page_Wrong.f; rw [if_pos h]
theorem Valid_f (p : ByteArray) (h : p.size ≤ 100000) : page_Valid.f p = some (decide (validS p)) := by
  unfold page_Valid.f validS
  rw [Wrong_f p h, Option.bind_some]
  congr 1
theorem Cells_f (p : ByteArray) (h : p.size ≤ 100000) : page_Cells.f p = some (if validS p then (cellsS p (twoS p 0).toNat, 0) else ([], 1)) := by
  unfold page_Cells.f
  rw [Valid_f p h, Option.bind_some]
  by_cases hv : validS p
  · rw [if_pos (decide_eq_true hv), if_pos hv]
    unfold page_cells.f
    rw [if_pos hv]
    rfl
  · rw [if_neg (by simpa using hv), if_neg hv]
/-- The page of cells that are right and fit is valid, with these cells. -/
theorem fill_good (n : Int) (l : List S45) (h : (fillS n l).2 = 0) : CellsOk l ∧ sizeOk n ∧ needsL l ≤ n ∧ (fillS n l).1 = strOfNums (builtL n.toNat l) := by
  unfold fillS at h ⊢
  split at h
  · rename_i h1
    split at h
    · rename_i h2
      split at h
      · cases h
      · rename_i h3
        refine ⟨h1, h2, by omega, ?_⟩
        rw [if_pos h1, if_pos h2, if_neg h3]
    · cases h
  · cases h
theorem built_cells (n : Int) (l : List S45) (h1 : CellsOk l) (h2 : sizeOk n) (h3 : needsL l ≤ n) :
    validS (strOfNums (builtL n.toNat l)) ∧ cellsS (strOfNums (builtL n.toNat l)) (twoS (strOfNums (builtL n.toNat l)) 0).toNat = l ∧ (strOfNums (builtL n.toNat l)).size = n.toNat := by
  obtain ⟨s1, s2, s3⟩ := h2
  obtain ⟨e1, e2, e3⟩ := built_valid (N := n.toNat) (by omega) (by omega) (by omega) h1 (by omega)
  exact ⟨by unfold validS; rw [e1], by rw [e2]; exact e3, built_size h1 (by omega)⟩

end Go.Proofs.Ytemglmcddaeedaa.PA

namespace Go.Proofs.Ytemglmcddaeedaa.PA
open Go.RowKit Go.Proofs.YtemglmcddaeedaaW.PrintWords Go.Proofs.YtemglmcddaeedaaW.PrintLast Go.Proofs.YtemglmcddaeedaaW.PrintMore
attribute [local go_sem] max2_int min2_int max_two min_two max_three min_three max_four min_four   -- for this text's walks alone
set_option linter.unusedVariables false
set_option linter.unusedSimpArgs false

/-! ### ringworklaw06_PageFills: function 4 -/
mutual
def ringworklaw06_PageFills.j0 : Nat → Int → List (S45) → Bool → Option (Bool)
  | 0, _, _, _ => none
  | k + 1, x0, x1, x32 => if x32 = true then (some false) else ((page_Fill.f k x0 x1).bind fun bt167 => ((ringworkref06_Fill.f k x0 x1).bind fun bt169 => (if bt167.1.toList = bt169.1.toList then (ringworklaw06_PageFills.j1 k x1 bt167.1 bt167.2 (bt167.2 != bt169.2)) else (ringworklaw06_PageFills.j1 k x1 bt167.1 bt167.2 true))))
def ringworklaw06_PageFills.j1 : Nat → List (S45) → ByteArray → Int → Bool → Option (Bool)
  | 0, _, _, _, _ => none
  | k + 1, x1, x5, x6, x52 => if x52 = true then (some false) else (if x6 = 0 then ((page_Cells.f x5).bind fun bt171 => (if bt171.2 = 0 then ((ringworklaw06_same.f k x1 bt171.1).bind fun t175 => (if t175 = true then ((ringworklaw06_awake.f k).bind fun t176 => (some t176)) else (some false))) else (some false))) else ((ringworklaw06_awake.f k).bind fun t177 => (some t177)))
end
def ringworklaw06_PageFills.f (k : Nat) (a0 : Int) (l1 : List (S45)) : Option (Bool) := (ringworklaw06_Cells.f k l1).bind fun t161 => (if t161 = true then ((page_New.f k a0).bind fun bt163 => ((ringworkref06_New.f a0).bind fun bt165 => (if bt163.1.toList = bt165.1.toList then (ringworklaw06_PageFills.j0 k a0 l1 (bt163.2 != bt165.2)) else (ringworklaw06_PageFills.j0 k a0 l1 true)))) else ((ringworklaw06_awake.f k).bind fun t162 => (some t162)))
theorem ringworklaw06_PageFills.mono_l : ∀ k, (∀ y0 y1 y2, LeO (ringworklaw06_PageFills.j0 k y0 y1 y2) (ringworklaw06_PageFills.j0 (k + 1) y0 y1 y2)) ∧ (∀ y0 y1 y2 y3, LeO (ringworklaw06_PageFills.j1 k y0 y1 y2 y3) (ringworklaw06_PageFills.j1 (k + 1) y0 y1 y2 y3))
  | 0 => ⟨fun _ _ _ r h => by simp [ringworklaw06_PageFills.j0] at h, fun _ _ _ _ r h => by simp [ringworklaw06_PageFills.j1] at h⟩
  | k + 1 => by
    obtain ⟨ih0, ih1⟩ := ringworklaw06_PageFills.mono_l k
    refine ⟨?_, ?_⟩
    · intro y0 y1 y2
      unfold ringworklaw06_PageFills.j0
      repeat' first
      | (with_reducible exact ih0 _ _ _)
      | (with_reducible exact ih1 _ _ _ _)
      | (with_reducible exact page_Fill.mono _ _ _)
      | (with_reducible exact page_New.mono _ _)
      | (with_reducible exact ringworklaw06_Cells.mono _ _)
      | (with_reducible exact ringworklaw06_awake.mono _)
      | (with_reducible exact ringworklaw06_same.mono _ _ _)
      | (with_reducible exact ringworkref06_Fill.mono _ _ _)
      | (with_reducible exact LeO.refl _)
      | (with_reducible exact LeO.none _)
      | (with_reducible refine LeO.ite ?_ ?_)
      | (with_reducible refine LeO.bind ?_ (fun _ => ?_))
      | exact ih0 _ _ _
      | exact ih1 _ _ _ _
      | exact page_Fill.mono _ _ _
      | exact page_New.mono _ _
      | exact ringworklaw06_Cells.mono _ _
      | exact ringworklaw06_awake.mono _
      | exact ringworklaw06_same.mono _ _ _
      | exact ringworkref06_Fill.mono _ _ _
      | exact LeO.none _
      | refine LeO.ite ?_ ?_
      | refine LeO.bind ?_ (fun _ => ?_)
    · intro y0 y1 y2 y3
      unfold ringworklaw06_PageFills.j1
      repeat' first
      | (with_reducible exact ih0 _ _ _)
      | (with_reducible exact ih1 _ _ _ _)
      | (with_reducible exact page_Fill.mono _ _ _)
      | (with_reducible exact page_New.mono _ _)
      | (with_reducible exact ringworklaw06_Cells.mono _ _)
      | (with_reducible exact ringworklaw06_awake.mono _)
      | (with_reducible exact ringworklaw06_same.mono _ _ _)
      | (with_reducible exact ringworkref06_Fill.mono _ _ _)
      | (with_reducible exact LeO.refl _)
      | (with_reducible exact LeO.none _)
      | (with_reducible refine LeO.ite ?_ ?_)
      | (with_reducible refine LeO.bind ?_ (fun _ => ?_))
      | exact ih0 _ _ _
      | exact ih1 _ _ _ _
      | exact page_Fill.mono _ _ _
      | exact page_New.mono _ _
      | exact ringworklaw06_Cells.mono _ _
      | exact ringworklaw06_awake.mono _
      | exact ringworklaw06_same.mono _ _ _
      | exact ringworkref06_Fill.mono _ _ _
      | exact LeO.none _
      | refine LeO.ite ?_ ?_
      | refine LeO.bind ?_ (fun _ => ?_)
theorem ringworklaw06_PageFills.mono : ∀ a0 a1 k, LeO (ringworklaw06_PageFills.f k a0 a1) (ringworklaw06_PageFills.f (k + 1) a0 a1) := by
  intro a0 a1 k
  obtain ⟨ih0, ih1⟩ := ringworklaw06_PageFills.mono_l k
  unfold ringworklaw06_PageFills.f
  repeat' first
      | (with_reducible exact ih0 _ _ _)
      | (with_reducible exact ih1 _ _ _ _)
      | (with_reducible exact page_Fill.mono _ _ _)
      | (with_reducible exact page_New.mono _ _)
      | (with_reducible exact ringworklaw06_Cells.mono _ _)
      | (with_reducible exact ringworklaw06_awake.mono _)
      | (with_reducible exact ringworklaw06_same.mono _ _ _)
      | (with_reducible exact ringworkref06_Fill.mono _ _ _)
      | (with_reducible exact LeO.refl _)
      | (with_reducible exact LeO.none _)
      | (with_reducible refine LeO.ite ?_ ?_)
      | (with_reducible refine LeO.bind ?_ (fun _ => ?_))
      | exact ih0 _ _ _
      | exact ih1 _ _ _ _
      | exact page_Fill.mono _ _ _
      | exact page_New.mono _ _
      | exact ringworklaw06_Cells.mono _ _
      | exact ringworklaw06_awake.mono _
      | exact ringworklaw06_same.mono _ _ _
      | exact ringworkref06_Fill.mono _ _ _
      | exact LeO.none _
      | refine LeO.ite ?_ ?_
      | refine LeO.bind ?_ (fun _ => ?_)
set_option maxHeartbeats 8000000 in
set_option maxRecDepth 100000 in
theorem ringworklaw06_PageFills.calls (k : Nat) (a0 : Int) (A1 : Option Addr) (c1 : Nat) (l1 : List (S45)) (r : Bool) (w : World) (hr1 : Kd.C k45 w A1 l1.length l1) (hc1 : l1.length ≤ c1) (h : ringworklaw06_PageFills.f k a0 l1 = some r) :
    Calls Try.prog 4 #[.int .i64 a0, .slice A1 l1.length c1] w fun e w' => e = .returned (.bool r) ∧ Below w.heap.size w w' := by
  have HR1 := Aside0.mk hr1
  have HC1 := Aside0.mk hc1
  clear hr1 hc1
  have HB := Aside0.mk (Below.refl w.heap.size w)
  have H : ((ringworklaw06_Cells.f k l1).bind fun t161 => (if t161 = true then ((page_New.f k a0).bind fun bt163 => ((ringworkref06_New.f a0).bind fun bt165 => (if bt163.1.toList = bt165.1.toList then (ringworklaw06_PageFills.j0 k a0 l1 (bt163.2 != bt165.2)) else (ringworklaw06_PageFills.j0 k a0 l1 true)))) else ((ringworklaw06_awake.f k).bind fun t162 => (some t162)))) = some r := h
  clear h
  replace H := Option.bind_eq_some_iff.mp H
  obtain ⟨t161, A30, H⟩ := H
  replace H : (if t161 = true then ((page_New.f k a0).bind fun bt163 => ((ringworkref06_New.f a0).bind fun bt165 => (if bt163.1.toList = bt165.1.toList then (ringworklaw06_PageFills.j0 k a0 l1 (bt163.2 != bt165.2)) else (ringworklaw06_PageFills.j0 k a0 l1 true)))) else ((ringworklaw06_awake.f k).bind fun t162 => (some t162))) = some r := H
  have A3 := Aside0.mk A30
  clear A30
  by_cases c4 : t161 = true
  · subst c4
    have H1 : ((page_New.f k a0).bind fun bt163 => ((ringworkref06_New.f a0).bind fun bt165 => (if bt163.1.toList = bt165.1.toList then (ringworklaw06_PageFills.j0 k a0 l1 (bt163.2 != bt165.2)) else (ringworklaw06_PageFills.j0 k a0 l1 true)))) = some r := by rw [if_pos rfl] at H; exact H
    clear H
    have H := H1
    clear H1
    replace H := Option.bind_eq_some_iff.mp H
    obtain ⟨⟨t163, t164⟩, A50, H⟩ := H
    replace H : ((ringworkref06_New.f a0).bind fun bt165 => (if t163.toList = bt165.1.toList then (ringworklaw06_PageFills.j0 k a0 l1 (t164 != bt165.2)) else (ringworklaw06_PageFills.j0 k a0 l1 true))) = some r := H
    have A5 := Aside0.mk A50
    clear A50
    replace H := Option.bind_eq_some_iff.mp H
    obtain ⟨⟨t165, t166⟩, A60, H⟩ := H
    replace H : (if t163.toList = t165.toList then (ringworklaw06_PageFills.j0 k a0 l1 (t164 != t166)) else (ringworklaw06_PageFills.j0 k a0 l1 true)) = some r := H
    have A6 := Aside0.mk A60
    clear A60
    have HC7 := Aside0.mk H
    clear H
    go_enter Try.func4, Try.ntmps4
    go_upto_region 5 with (first | ((with_reducible refine gate_callee (f := 14) rfl ?_); refine goesL_ (some 12) rfl rfl Try.func14 (by kernel_rfl) rfl #[.slice A1 l1.length c1] rfl (by (try simp only [List.map_toArray, List.map_cons, List.map_nil]); first | done | rfl | (simp only [List.length_drop, List.length_take]; rfl)) ?_; (with_reducible refine (ringworklaw06_Cells.calls k _ _ l1 true _ ?side1 ?side2 A3.out).mono ?_); (case side1 => repeat (first | exact HR1.out | (with_reducible refine Kd.C_alloc ?_ _) | (with_reducible refine Kd.C_drewN ?_ _) | (with_reducible refine Kd.C_drew ?_))); (case side2 => exact HC1.out); rintro e w' ⟨rfl, ⟨nd, rfl⟩⟩; refine ⟨_, rfl, ?_⟩) | ((with_reducible refine gate_callee (f := 15) rfl ?_); refine goesL_ (some 17) rfl rfl Try.func15 (by kernel_rfl) rfl #[.int .i64 a0] rfl (by (try simp only [List.map_toArray, List.map_cons, List.map_nil]); first | done | rfl | (simp only [List.length_drop, List.length_take]; rfl)) ?_; (with_reducible refine (page_New.calls k a0 t163 t164 _ A5.out).mono ?_); rintro e w8 ⟨rfl, hb⟩; refine ⟨_, rfl, ?_⟩; have n0_ := Aside0.mk (below_step (by repeat (first | (with_reducible first | exact HB.out | apply below_alloc | apply pw_below_drewN | apply below_drew1) | exact HB.out)) hb); clear HB; have HB := n0_; clear n0_; (try clear hb); (try clear hb2); (try clear hk); (try clear hi)) | ((with_reducible refine gate_callee (f := 16) rfl ?_); refine goesL_ (some 22) rfl rfl Try.func16 (by kernel_rfl) rfl #[.int .i64 a0] rfl (by (try simp only [List.map_toArray, List.map_cons, List.map_nil]); first | done | rfl | (simp only [List.length_drop, List.length_take]; rfl)) ?_; (with_reducible refine (ringworkref06_New.calls a0 t165 t166 _ A6.out).mono ?_); rintro e w9 ⟨rfl, hb⟩; refine ⟨_, rfl, ?_⟩; have n0_ := Aside0.mk (below_step (by repeat (first | (with_reducible first | exact HB.out | apply below_alloc | apply pw_below_drewN | apply below_drew1) | exact HB.out)) hb); clear HB; have HB := n0_; clear n0_; (try clear hb); (try clear hb2); (try clear hk); (try clear hi)))
    (try simp only [Act.put, List.setIfInBounds_toArray, List.set_cons_zero, List.set_cons_succ])
    go_cut [32] (fun v32 wc => ∃ (kq : Nat) (x32_6 : Bool), v32 = .bool x32_6 ∧ Aside0 (ringworklaw06_PageFills.j0 kq a0 l1 x32_6 = some r) ∧ Aside0 (kq ≤ k) ∧ Aside0 (Below w.heap.size w wc))
    case first =>
      have H := HC7.out
      clear HC7
      by_cases c10 : t163.toList = t165.toList
      · rw [if_pos c10] at H
        have c10b0 : (t163.toList == t165.toList) = true := beq_iff_eq.mpr c10
        have c10b1 : (t163.toList != t165.toList) = false := bne_eq_false_iff_eq.mpr c10
        clear c10
        (first | rw [c10b0] | (simp only [i64_w, i32_w]; rw [c10b0]) | skip)
        have H' := Aside0.mk H
        clear H
        go_wp2
        go_meet
        case rel => exact ⟨_, ((t164 != t166)), (by first | rfl | (simp; done) | (simp [*]; done)), H', ⟨by first | omega | exact Nat.le_refl _⟩, ⟨by repeat (first | (with_reducible first | exact HB.out | apply below_alloc | apply pw_below_drewN | apply below_drew1) | exact HB.out)⟩⟩
      · rw [if_neg c10] at H
        have c10b0 : (t163.toList == t165.toList) = false := beq_eq_false_iff_ne.mpr c10
        have c10b1 : (t163.toList != t165.toList) = true := bne_iff_ne.mpr c10
        (first | rw [c10b0] | (simp only [i64_w, i32_w]; rw [c10b0]) | skip)
        have H' := Aside0.mk H
        clear H
        go_wp2
        go_meet
        case rel => exact ⟨_, (true), (by first | rfl | (simp; done) | (simp [*]; done)), H', ⟨by first | omega | exact Nat.le_refl _⟩, ⟨by repeat (first | (with_reducible first | exact HB.out | apply below_alloc | apply pw_below_drewN | apply below_drew1) | exact HB.out)⟩⟩
    case rest =>
      clear HC7
      try clear c1
      try clear p2
      try clear c4
      try clear c10
      try clear c10b0
      try clear c10b1
      obtain ⟨kq, x32_6, rfl, HA, HJ6, HB⟩ := hcut
      cases kq with
      | zero => exact absurd HA.out (by simp [ringworklaw06_PageFills.j0])
      | succ kj6 =>
        have H := HA.out
        clear HA
        simp only [ringworklaw06_PageFills.j0] at H
        by_cases c11 : x32_6 = true
        · subst c11
          have H1 : (some false) = some r := by rw [if_pos rfl] at H; exact H
          clear H
          have H := H1
          clear H1
          obtain rfl := Option.some.inj H
          go_wp2
          go_ret
          exact ⟨by first | rfl | (simp [errW_none, errW_some] <;> rfl) | (simp [*, errW_none, errW_some] <;> rfl), by repeat (first | (with_reducible first | exact HB.out | apply below_alloc | apply pw_below_drewN | apply below_drew1) | exact HB.out)⟩
        · replace c11 := Bool.eq_false_iff.mpr c11
          subst c11
          have H1 : ((page_Fill.f kj6 a0 l1).bind fun bt167 => ((ringworkref06_Fill.f kj6 a0 l1).bind fun bt169 => (if bt167.1.toList = bt169.1.toList then (ringworklaw06_PageFills.j1 kj6 l1 bt167.1 bt167.2 (bt167.2 != bt169.2)) else (ringworklaw06_PageFills.j1 kj6 l1 bt167.1 bt167.2 true)))) = some r := by rw [if_neg (show ¬ (false = true) by decide)] at H; exact H
          clear H
          have H := H1
          clear H1
          replace H := Option.bind_eq_some_iff.mp H
          obtain ⟨⟨t167, t168⟩, A120, H⟩ := H
          replace H : ((ringworkref06_Fill.f kj6 a0 l1).bind fun bt169 => (if t167.toList = bt169.1.toList then (ringworklaw06_PageFills.j1 kj6 l1 t167 t168 (t168 != bt169.2)) else (ringworklaw06_PageFills.j1 kj6 l1 t167 t168 true))) = some r := H
          have A12 := Aside0.mk A120
          clear A120
          replace H := Option.bind_eq_some_iff.mp H
          obtain ⟨⟨t169, t170⟩, A130, H⟩ := H
          replace H : (if t167.toList = t169.toList then (ringworklaw06_PageFills.j1 kj6 l1 t167 t168 (t168 != t170)) else (ringworklaw06_PageFills.j1 kj6 l1 t167 t168 true)) = some r := H
          have A13 := Aside0.mk A130
          clear A130
          have HC14 := Aside0.mk H
          clear H
          go_upto_region 9 with (first | ((with_reducible refine gate_callee (f := 17) rfl ?_); refine goesL_ (some 36) rfl rfl Try.func17 (by kernel_rfl) rfl #[.int .i64 a0, .slice A1 l1.length c1] rfl (by (try simp only [List.map_toArray, List.map_cons, List.map_nil]); first | done | rfl | (simp only [List.length_drop, List.length_take]; rfl)) ?_; (with_reducible refine (page_Fill.calls kj6 a0 _ _ l1 t167 t168 _ ?side1 ?side2 A12.out).mono ?_); (case side1 => repeat (first | exact (Kd.C_below HR1.out HB.out) | (with_reducible refine Kd.C_alloc ?_ _) | (with_reducible refine Kd.C_drewN ?_ _) | (with_reducible refine Kd.C_drew ?_))); (case side2 => exact HC1.out); rintro e w15 ⟨rfl, hb⟩; refine ⟨_, rfl, ?_⟩; have n0_ := Aside0.mk (below_step (by repeat (first | (with_reducible first | exact HB.out | apply below_alloc | apply pw_below_drewN | apply below_drew1) | exact HB.out)) hb); clear HB; have HB := n0_; clear n0_; (try clear hb); (try clear hb2); (try clear hk); (try clear hi)) | ((with_reducible refine gate_callee (f := 18) rfl ?_); refine goesL_ (some 42) rfl rfl Try.func18 (by kernel_rfl) rfl #[.int .i64 a0, .slice A1 l1.length c1] rfl (by (try simp only [List.map_toArray, List.map_cons, List.map_nil]); first | done | rfl | (simp only [List.length_drop, List.length_take]; rfl)) ?_; (with_reducible refine (ringworkref06_Fill.calls kj6 a0 _ _ l1 t169 t170 _ ?side1 ?side2 A13.out).mono ?_); (case side1 => repeat (first | exact (Kd.C_below HR1.out HB.out) | (with_reducible refine Kd.C_alloc ?_ _) | (with_reducible refine Kd.C_drewN ?_ _) | (with_reducible refine Kd.C_drew ?_))); (case side2 => exact HC1.out); rintro e w16 ⟨rfl, hb⟩; refine ⟨_, rfl, ?_⟩; have n0_ := Aside0.mk (below_step (by repeat (first | (with_reducible first | exact HB.out | apply below_alloc | apply pw_below_drewN | apply below_drew1) | exact HB.out)) hb); clear HB; have HB := n0_; clear n0_; (try clear hb); (try clear hb2); (try clear hk); (try clear hi)))
          (try simp only [Act.put, List.setIfInBounds_toArray, List.set_cons_zero, List.set_cons_succ])
          go_cut [52] (fun v52 wc => ∃ (kq : Nat) (x52_13 : Bool), v52 = .bool x52_13 ∧ Aside0 (ringworklaw06_PageFills.j1 kq l1 t167 t168 x52_13 = some r) ∧ Aside0 (kq ≤ kj6) ∧ Aside0 (Below w.heap.size w wc))
          case first =>
            have H := HC14.out
            clear HC14
            by_cases c17 : t167.toList = t169.toList
            · rw [if_pos c17] at H
              have c17b0 : (t167.toList == t169.toList) = true := beq_iff_eq.mpr c17
              have c17b1 : (t167.toList != t169.toList) = false := bne_eq_false_iff_eq.mpr c17
              clear c17
              (first | rw [c17b0] | (simp only [i64_w, i32_w]; rw [c17b0]) | skip)
              have H' := Aside0.mk H
              clear H
              go_wp2
              go_meet
              case rel => exact ⟨_, ((t168 != t170)), (by first | rfl | (simp; done) | (simp [*]; done)), H', ⟨by have := HJ6.out; first | omega | exact Nat.le_refl _⟩, ⟨by repeat (first | (with_reducible first | exact HB.out | apply below_alloc | apply pw_below_drewN | apply below_drew1) | exact HB.out)⟩⟩
            · rw [if_neg c17] at H
              have c17b0 : (t167.toList == t169.toList) = false := beq_eq_false_iff_ne.mpr c17
              have c17b1 : (t167.toList != t169.toList) = true := bne_iff_ne.mpr c17
              (first | rw [c17b0] | (simp only [i64_w, i32_w]; rw [c17b0]) | skip)
              have H' := Aside0.mk H
              clear H
              go_wp2
              go_meet
              case rel => exact ⟨_, (true), (by first | rfl | (simp; done) | (simp [*]; done)), H', ⟨by have := HJ6.out; first | omega | exact Nat.le_refl _⟩, ⟨by repeat (first | (with_reducible first | exact HB.out | apply below_alloc | apply pw_below_drewN | apply below_drew1) | exact HB.out)⟩⟩
          case rest =>
            clear HC14
            try clear c1
            try clear p2
            try clear c4
            try clear c10
            try clear c10b0
            try clear c10b1
            try clear c11
            try clear c14
            try clear c15
            try clear c16
            try clear c17
            try clear c17b0
            try clear c17b1
            try clear p2
            obtain ⟨kq, x52_13, rfl, HA, HJ13, HB⟩ := hcut
            cases kq with
            | zero => exact absurd HA.out (by simp [ringworklaw06_PageFills.j1])
            | succ kj13 =>
              have H := HA.out
              clear HA
              simp only [ringworklaw06_PageFills.j1] at H
              by_cases c18 : x52_13 = true
              · subst c18
                have H1 : (some false) = some r := by rw [if_pos rfl] at H; exact H
                clear H
                have H := H1
                clear H1
                obtain rfl := Option.some.inj H
                go_wp2
                go_ret
                exact ⟨by first | rfl | (simp [errW_none, errW_some] <;> rfl) | (simp [*, errW_none, errW_some] <;> rfl), by repeat (first | (with_reducible first | exact HB.out | apply below_alloc | apply pw_below_drewN | apply below_drew1) | exact HB.out)⟩
              · replace c18 := Bool.eq_false_iff.mpr c18
                subst c18
                have H1 : (if t168 = 0 then ((page_Cells.f t167).bind fun bt171 => (if bt171.2 = 0 then ((ringworklaw06_same.f kj13 l1 bt171.1).bind fun t175 => (if t175 = true then ((ringworklaw06_awake.f kj13).bind fun t176 => (some t176)) else (some false))) else (some false))) else ((ringworklaw06_awake.f kj13).bind fun t177 => (some t177))) = some r := by rw [if_neg (show ¬ (false = true) by decide)] at H; exact H
                clear H
                have H := H1
                clear H1
                by_cases c19 : t168 = 0
                · rw [if_pos c19] at H
                  have c19b0 : (t168 == 0) = true := beq_iff_eq.mpr c19
                  have c19b1 : (t168 != 0) = false := bne_eq_false_iff_eq.mpr c19
                  clear c19
                  replace H := Option.bind_eq_some_iff.mp H
                  obtain ⟨⟨t171, t172⟩, A200, H⟩ := H
                  replace H : (if t172 = 0 then ((ringworklaw06_same.f kj13 l1 t171).bind fun t175 => (if t175 = true then ((ringworklaw06_awake.f kj13).bind fun t176 => (some t176)) else (some false))) else (some false)) = some r := H
                  have A20 := Aside0.mk A200
                  clear A200
                  by_cases c21 : t172 = 0
                  · rw [if_pos c21] at H
                    have c21b0 : (t172 == 0) = true := beq_iff_eq.mpr c21
                    have c21b1 : (t172 != 0) = false := bne_eq_false_iff_eq.mpr c21
                    clear c21
                    replace H := Option.bind_eq_some_iff.mp H
                    obtain ⟨t175, A220, H⟩ := H
                    replace H : (if t175 = true then ((ringworklaw06_awake.f kj13).bind fun t176 => (some t176)) else (some false)) = some r := H
                    have A22 := Aside0.mk A220
                    clear A220
                    by_cases c23 : t175 = true
                    · subst c23
                      have H1 : ((ringworklaw06_awake.f kj13).bind fun t176 => (some t176)) = some r := by rw [if_pos rfl] at H; exact H
                      clear H
                      have H := H1
                      clear H1
                      replace H := Option.bind_eq_some_iff.mp H
                      obtain ⟨t176, A240, H⟩ := H
                      replace H : (some t176) = some r := H
                      have A24 := Aside0.mk A240
                      clear A240
                      obtain rfl := Option.some.inj H
                      go_wp2_with (first | ((with_reducible refine gate_callee (f := 12) rfl ?_); refine goesL_ (some 57) rfl rfl Try.func12 (by kernel_rfl) rfl #[.string t167] rfl (by (try simp only [List.map_toArray, List.map_cons, List.map_nil]); first | done | rfl | (simp only [List.length_drop, List.length_take]; rfl)) ?_; (with_reducible refine (page_Cells.calls t167 t171 t172 _ A20.out).mono ?_); rintro e w25 ⟨v173, rfl, ho0, hb⟩; refine ⟨_, rfl, ?_⟩; have n0_ := Aside0.mk (Kd.R_lower ho0 (below_size (by repeat (first | (with_reducible first | exact HB.out | apply below_alloc | apply pw_below_drewN | apply below_drew1) | exact HB.out)))); have n1_ := Aside0.mk (below_step (by repeat (first | (with_reducible first | exact HB.out | apply below_alloc | apply pw_below_drewN | apply below_drew1) | exact HB.out)) hb); clear HB; have HO174 := n0_; have HB := n1_; clear n0_ n1_; (try clear hb); (try clear hb2); (try clear hk); (try clear hi); (try clear ho0); obtain ⟨Ao26, co26, eo26⟩ := Kd.R_slice HO174.out; subst eo26) | (go_at_call 13; (with_reducible refine (ringworklaw06_same.calls kj13 _ _ l1 _ _ t171 true _ ?side1 ?side2 ?side3 ?side4 A22.out).mono ?_); (case side1 => repeat (first | exact (Kd.C_below HR1.out HB.out) | (with_reducible refine Kd.C_alloc ?_ _) | (with_reducible refine Kd.C_drewN ?_ _) | (with_reducible refine Kd.C_drew ?_))); (case side2 => exact HC1.out); (case side3 => repeat (first | exact (Kd.R_reads' HO174.out).2.2 | (with_reducible refine Kd.C_alloc ?_ _) | (with_reducible refine Kd.C_drewN ?_ _) | (with_reducible refine Kd.C_drew ?_))); (case side4 => exact (Kd.R_reads' HO174.out).2.1); rintro e w' ⟨rfl, ⟨nd, rfl⟩⟩) | ((with_reducible refine gate_callee (f := 11) rfl ?_); refine goesL_ (some 68) rfl rfl Try.func11 (by kernel_rfl) rfl #[] rfl (by (try simp only [List.map_toArray, List.map_cons, List.map_nil]); first | done | rfl | (simp only [List.length_drop, List.length_take]; rfl)) ?_; (with_reducible refine (ringworklaw06_awake.calls kj13  t176 _ A24.out).mono ?_); rintro e w27 ⟨rfl, hb⟩; refine ⟨_, rfl, ?_⟩; have n0_ := Aside0.mk (Kd.R_below (by (with_reducible repeat (first | apply Kd.R_alloc | apply Kd.R_drewN | apply Kd.R_drew)); exact HO174.out) hb); have n1_ := Aside0.mk (below_step (by repeat (first | (with_reducible first | exact HB.out | apply below_alloc | apply pw_below_drewN | apply below_drew1) | exact HB.out)) hb); clear HO174; clear HB; have HO174 := n0_; have HB := n1_; clear n0_ n1_; (try clear hb); (try clear hb2); (try clear hk); (try clear hi)))
                      go_ret
                      exact ⟨by first | rfl | (simp [errW_none, errW_some] <;> rfl) | (simp [*, errW_none, errW_some] <;> rfl), by repeat (first | (with_reducible first | exact HB.out | apply below_alloc | apply pw_below_drewN | apply below_drew1) | exact HB.out)⟩
                    · replace c23 := Bool.eq_false_iff.mpr c23
                      subst c23
                      have H1 : (some false) = some r := by rw [if_neg (show ¬ (false = true) by decide)] at H; exact H
                      clear H
                      have H := H1
                      clear H1
                      obtain rfl := Option.some.inj H
                      go_wp2_with (first | ((with_reducible refine gate_callee (f := 12) rfl ?_); refine goesL_ (some 57) rfl rfl Try.func12 (by kernel_rfl) rfl #[.string t167] rfl (by (try simp only [List.map_toArray, List.map_cons, List.map_nil]); first | done | rfl | (simp only [List.length_drop, List.length_take]; rfl)) ?_; (with_reducible refine (page_Cells.calls t167 t171 t172 _ A20.out).mono ?_); rintro e w28 ⟨v173, rfl, ho0, hb⟩; refine ⟨_, rfl, ?_⟩; have n0_ := Aside0.mk (Kd.R_lower ho0 (below_size (by repeat (first | (with_reducible first | exact HB.out | apply below_alloc | apply pw_below_drewN | apply below_drew1) | exact HB.out)))); have n1_ := Aside0.mk (below_step (by repeat (first | (with_reducible first | exact HB.out | apply below_alloc | apply pw_below_drewN | apply below_drew1) | exact HB.out)) hb); clear HB; have HO174 := n0_; have HB := n1_; clear n0_ n1_; (try clear hb); (try clear hb2); (try clear hk); (try clear hi); (try clear ho0); obtain ⟨Ao29, co29, eo29⟩ := Kd.R_slice HO174.out; subst eo29) | (go_at_call 13; (with_reducible refine (ringworklaw06_same.calls kj13 _ _ l1 _ _ t171 false _ ?side1 ?side2 ?side3 ?side4 A22.out).mono ?_); (case side1 => repeat (first | exact (Kd.C_below HR1.out HB.out) | (with_reducible refine Kd.C_alloc ?_ _) | (with_reducible refine Kd.C_drewN ?_ _) | (with_reducible refine Kd.C_drew ?_))); (case side2 => exact HC1.out); (case side3 => repeat (first | exact (Kd.R_reads' HO174.out).2.2 | (with_reducible refine Kd.C_alloc ?_ _) | (with_reducible refine Kd.C_drewN ?_ _) | (with_reducible refine Kd.C_drew ?_))); (case side4 => exact (Kd.R_reads' HO174.out).2.1); rintro e w' ⟨rfl, ⟨nd, rfl⟩⟩))
                      go_ret
                      exact ⟨by first | rfl | (simp [errW_none, errW_some] <;> rfl) | (simp [*, errW_none, errW_some] <;> rfl), by repeat (first | (with_reducible first | exact HB.out | apply below_alloc | apply pw_below_drewN | apply below_drew1) | exact HB.out)⟩
                  · rw [if_neg c21] at H
                    have c21b0 : (t172 == 0) = false := beq_eq_false_iff_ne.mpr c21
                    have c21b1 : (t172 != 0) = true := bne_iff_ne.mpr c21
                    obtain rfl := Option.some.inj H
                    go_wp2_with (first | ((with_reducible refine gate_callee (f := 12) rfl ?_); refine goesL_ (some 57) rfl rfl Try.func12 (by kernel_rfl) rfl #[.string t167] rfl (by (try simp only [List.map_toArray, List.map_cons, List.map_nil]); first | done | rfl | (simp only [List.length_drop, List.length_take]; rfl)) ?_; (with_reducible refine (page_Cells.calls t167 t171 t172 _ A20.out).mono ?_); rintro e w30 ⟨v173, rfl, ho0, hb⟩; refine ⟨_, rfl, ?_⟩; have n0_ := Aside0.mk (Kd.R_lower ho0 (below_size (by repeat (first | (with_reducible first | exact HB.out | apply below_alloc | apply pw_below_drewN | apply below_drew1) | exact HB.out)))); have n1_ := Aside0.mk (below_step (by repeat (first | (with_reducible first | exact HB.out | apply below_alloc | apply pw_below_drewN | apply below_drew1) | exact HB.out)) hb); clear HB; have HO174 := n0_; have HB := n1_; clear n0_ n1_; (try clear hb); (try clear hb2); (try clear hk); (try clear hi); (try clear ho0)))
                    go_ret
                    exact ⟨by first | rfl | (simp [errW_none, errW_some] <;> rfl) | (simp [*, errW_none, errW_some] <;> rfl), by repeat (first | (with_reducible first | exact HB.out | apply below_alloc | apply pw_below_drewN | apply below_drew1) | exact HB.out)⟩
                · rw [if_neg c19] at H
                  have c19b0 : (t168 == 0) = false := beq_eq_false_iff_ne.mpr c19
                  have c19b1 : (t168 != 0) = true := bne_iff_ne.mpr c19
                  replace H := Option.bind_eq_some_iff.mp H
                  obtain ⟨t177, A310, H⟩ := H
                  replace H : (some t177) = some r := H
                  have A31 := Aside0.mk A310
                  clear A310
                  obtain rfl := Option.some.inj H
                  go_wp2_with (first | ((with_reducible refine gate_callee (f := 11) rfl ?_); refine goesL_ (some 68) rfl rfl Try.func11 (by kernel_rfl) rfl #[] rfl (by (try simp only [List.map_toArray, List.map_cons, List.map_nil]); first | done | rfl | (simp only [List.length_drop, List.length_take]; rfl)) ?_; (with_reducible refine (ringworklaw06_awake.calls kj13  t177 _ A31.out).mono ?_); rintro e w32 ⟨rfl, hb⟩; refine ⟨_, rfl, ?_⟩; have n0_ := Aside0.mk (below_step (by repeat (first | (with_reducible first | exact HB.out | apply below_alloc | apply pw_below_drewN | apply below_drew1) | exact HB.out)) hb); clear HB; have HB := n0_; clear n0_; (try clear hb); (try clear hb2); (try clear hk); (try clear hi)))
                  go_ret
                  exact ⟨by first | rfl | (simp [errW_none, errW_some] <;> rfl) | (simp [*, errW_none, errW_some] <;> rfl), by repeat (first | (with_reducible first | exact HB.out | apply below_alloc | apply pw_below_drewN | apply below_drew1) | exact HB.out)⟩
  · replace c4 := Bool.eq_false_iff.mpr c4
    subst c4
    have H1 : ((ringworklaw06_awake.f k).bind fun t162 => (some t162)) = some r := by rw [if_neg (show ¬ (false = true) by decide)] at H; exact H
    clear H
    have H := H1
    clear H1
    replace H := Option.bind_eq_some_iff.mp H
    obtain ⟨t162, A330, H⟩ := H
    replace H : (some t162) = some r := H
    have A33 := Aside0.mk A330
    clear A330
    obtain rfl := Option.some.inj H
    go_enter Try.func4, Try.ntmps4
    go_wp2_with (first | ((with_reducible refine gate_callee (f := 14) rfl ?_); refine goesL_ (some 12) rfl rfl Try.func14 (by kernel_rfl) rfl #[.slice A1 l1.length c1] rfl (by (try simp only [List.map_toArray, List.map_cons, List.map_nil]); first | done | rfl | (simp only [List.length_drop, List.length_take]; rfl)) ?_; (with_reducible refine (ringworklaw06_Cells.calls k _ _ l1 false _ ?side1 ?side2 A3.out).mono ?_); (case side1 => repeat (first | exact HR1.out | (with_reducible refine Kd.C_alloc ?_ _) | (with_reducible refine Kd.C_drewN ?_ _) | (with_reducible refine Kd.C_drew ?_))); (case side2 => exact HC1.out); rintro e w' ⟨rfl, ⟨nd, rfl⟩⟩; refine ⟨_, rfl, ?_⟩) | ((with_reducible refine gate_callee (f := 11) rfl ?_); refine goesL_ (some 14) rfl rfl Try.func11 (by kernel_rfl) rfl #[] rfl (by (try simp only [List.map_toArray, List.map_cons, List.map_nil]); first | done | rfl | (simp only [List.length_drop, List.length_take]; rfl)) ?_; (with_reducible refine (ringworklaw06_awake.calls k  t162 _ A33.out).mono ?_); rintro e w34 ⟨rfl, hb⟩; refine ⟨_, rfl, ?_⟩; have n0_ := Aside0.mk (below_step (by repeat (first | (with_reducible first | exact HB.out | apply below_alloc | apply pw_below_drewN | apply below_drew1) | exact HB.out)) hb); clear HB; have HB := n0_; clear n0_; (try clear hb); (try clear hb2); (try clear hk); (try clear hi)))
    go_ret
    exact ⟨by first | rfl | (simp [errW_none, errW_some] <;> rfl) | (simp [*, errW_none, errW_some] <;> rfl), by repeat (first | (with_reducible first | exact HB.out | apply below_alloc | apply pw_below_drewN | apply below_drew1) | exact HB.out)⟩

end Go.Proofs.Ytemglmcddaeedaa.PA

namespace Go.Proofs.Ytemglmcddaeedaa.PA
open Go.RowKit Go.Proofs.YtemglmcddaeedaaW.PrintWords Go.Proofs.YtemglmcddaeedaaW.PrintLast Go.Proofs.YtemglmcddaeedaaW.PrintMore
set_option linter.unusedVariables false
set_option linter.unusedSimpArgs false
/-! #### a []api.Cell argument, opened -/
open Go.ChangeShapes Go.WideShapes Go.ChangeAt Go.Deep
theorem mem_weightsAll {H : Type} {P : Program} {e : TypeId} {n : Nat} : ∀ {ds : List (DataW H)} {d : DataW H}, d ∈ ds → n ∈ d.weights P e → n ∈ DataW.weightsAll P e ds
  | d0 :: r, d, hd, hn => by
    simp only [DataW.weightsAll, List.mem_append]
    rcases List.mem_cons.1 hd with rfl | hd
    · exact .inl hn
    · exact .inr (mem_weightsAll hd hn)
theorem open_cells {H : Type} {enc : TypeId × Value → H} {W : World} {base : Nat} {a : Option Addr} {len cap : Nat} {d : DataW H} {ps : List MemPlace}
    (h : DataW.Trod enc Try.prog W base (fun _ => true) true 22 (.slice a len cap) d ps) (hw : ∀ x ∈ d.weights Try.prog 22, x ≤ reachBytes) :
    ∃ l : List S45, l.length = len ∧ len ≤ cap ∧ Kd.C k45 W a l.length l ∧ len ≤ maxLen ∧ ∀ c ∈ l, c.f1.size ≤ reachBytes := by
  obtain ⟨fuel, hf⟩ := h
  rcases open_slice_pairs Try.underlying22 Try.underlying45 (by kernel_rfl) rfl rfl (by kernel_rfl) (by kernel_rfl) hf with ⟨hcs, _⟩ | ⟨x, n1, n2, m, n, V0, V1, D0, D1, P0, P1, hcs, hb, hl, hm, hmm, hx, hi⟩
  · simp [Value.cells] at hcs
    obtain ⟨rfl, rfl, rfl⟩ := hcs
    exact ⟨[], rfl, Nat.le_refl 0, ⟨rfl, by simp, fun h => by simp at h⟩, by simp, by simp⟩
  · simp [Value.cells] at hcs
    obtain ⟨e1, e2, e3⟩ := hcs
    simp only [if_true] at hmm
    rw [hmm] at hi
    obtain ⟨hd, _⟩ := Prod.mk.inj hx
    rw [hd] at hw
    have hex : ∀ i, ∃ c : S45, i < n2 → V0 i = .int .i64 c.f0 ∧ V1 i = .string c.f1 ∧ D1 i = .lit (.string c.f1.data.toList) := by
      intro i
      by_cases hic : i < n2
      · obtain ⟨_, _, t0, t1⟩ := hi i hic
        obtain ⟨z, hz, _, _⟩ := DataW.trod_int Try.underlying3 t0
        obtain ⟨s, hs, hs2, hsz⟩ := DataW.trod_string Try.underlying9 t1
        simp only [List.cons.injEq, and_true] at hz hs
        exact ⟨⟨z, s⟩, fun _ => ⟨hz, hs, (Prod.mk.inj hs2).1⟩⟩
      · exact ⟨z45, fun h => absurd h hic⟩
    obtain ⟨f, hfc⟩ := Classical.axiomOfChoice hex
    rw [e1, e2, e3]
    refine ⟨(List.range n1).map f, by simp, hl, ⟨rfl, by simp; have := hm; unfold maxLen at this; omega, fun _ => ⟨x, rfl, ?_⟩⟩, Nat.le_trans hl hm, ?_⟩
    · intro j p hj
      have hjl : j < n1 := by
        have := (List.getElem?_eq_some_iff.1 hj).1
        simpa using this
      have hp : p = f j := by
        rw [List.getElem?_map, List.getElem?_range hjl] at hj
        exact (Option.some.inj hj).symm
      obtain ⟨c0, c1, _, _⟩ := hi j (by omega)
      obtain ⟨v0, v1, _⟩ := hfc j (by omega)
      refine ⟨[.int .i64 p.f0, .string p.f1], rfl, k45_mk W p, fun i u hu => ?_⟩
      rw [hp] at hu
      match i with
      | 0 =>
        simp only [List.getElem?_cons_zero, Option.some.injEq] at hu
        subst hu
        exact c0.trans (by rw [v0])
      | 1 =>
        simp only [List.getElem?_cons_succ, List.getElem?_cons_zero, Option.some.injEq] at hu
        subst hu
        exact c1.trans (by rw [v1])
      | i + 2 => simp at hu
    · intro c hc
      obtain ⟨j, hj, rfl⟩ := List.mem_map.1 hc
      have hj' := List.mem_range.1 hj
      have hd1 := (hfc j (by omega)).2.2
      have hlen : (f j).f1.size = (f j).f1.data.toList.length := by rw [Array.length_toList]; rfl
      rw [hlen]
      apply hw
      simp only [DataW.weights, Try.underlying22, List.mem_cons, List.mem_append]
      refine .inr (.inl (mem_weightsAll (d := .agg [D0 j, D1 j]) (List.mem_map.2 ⟨j, hj, rfl⟩) ?_))
      simp only [DataW.weights, Try.underlying45, List.map_cons, List.map_nil, DataW.weightsEach, List.mem_append]
      refine .inr (.inl ?_)
      rw [hd1]
      simp [DataW.weights]
theorem bytes_bound (l : List S45) (B : Nat) (h : ∀ c ∈ l, c.f1.size ≤ B) : bytesL l ≤ l.length * B := by
  induction l with
  | nil => simp [bytesL]
  | cons c r ih =>
    have h1 := h c (by simp)
    have h2 := ih (fun d hd => h d (by simp [hd]))
    rw [bytesL_cons, List.length_cons, Nat.succ_mul]
    omega

end Go.Proofs.Ytemglmcddaeedaa.PA

namespace Go.Proofs.Ytemglmcddaeedaa.PA
open Go.RowKit Go.Proofs.YtemglmcddaeedaaW.PrintWords Go.Proofs.YtemglmcddaeedaaW.PrintLast Go.Proofs.YtemglmcddaeedaaW.PrintMore
set_option linter.unusedVariables false
set_option linter.unusedSimpArgs false
/-! #### PageFills, the plain law -/
theorem wrap_add (a b : Int) : wrap64 (wrap64 a + b) = wrap64 (a + b) := by unfold wrap64; omega
theorem lawCells_l0 (l : List S45) (hl : l.length ≤ 9223372036854775807) (hb : l.length ≤ 60 → bytesL l ≤ 9000000000000000) : ∀ (k i : Nat), i ≤ l.length → l.length - i < k →
    ringworklaw06_Cells.l0 k l (wrap64 (bytesL (l.take i) : Int)) (i : Int) = some (decide (l.length ≤ 60 ∧ bytesL l ≤ 6000)) := by
  intro k
  induction k with
  | zero => intro i _ h; omega
  | succ k ih =>
    intro i hi hk
    rw [ringworklaw06_Cells.l0]
    by_cases hlt : i < l.length
    · have h1 := bytesL_take_succ l i hlt
      rw [if_pos (by omega), if_pos (by omega), rd_get l i hlt, w64 ((i : Int) + 1) (by omega) (by omega), show (i : Int) + 1 = ((i + 1 : Nat) : Int) by omega, wrap_add, show (bytesL (l.take i) : Int) + (l[i].f1.size : Int) = (bytesL (l.take (i + 1)) : Int) by omega]
      exact ih (i + 1) (by omega) (by omega)
    · rw [if_neg (by omega), List.take_of_length_le (by omega)]
      by_cases h6 : l.length ≤ 60
      · have := hb h6
        rw [if_pos (by omega), w64 _ (by omega) (by omega)]
        congr 1
        by_cases h7 : bytesL l ≤ 6000
        · rw [decide_eq_true (show (bytesL l : Int) ≤ 6000 by omega), decide_eq_true ⟨h6, h7⟩]
        · rw [decide_eq_false (show ¬ (bytesL l : Int) ≤ 6000 by omega), decide_eq_false (fun h => h7 h.2)]
      · rw [if_neg (by omega), decide_eq_false (fun h => h6 h.1)]
theorem lawCells_f (l : List S45) (hl : l.length ≤ 9223372036854775807) (hb : l.length ≤ 60 → bytesL l ≤ 9000000000000000) (k : Nat) (hk : l.length < k) :
    ringworklaw06_Cells.f k l = some (decide (l.length ≤ 60 ∧ bytesL l ≤ 6000)) := by
  have := lawCells_l0 l hl hb k 0 (by omega) (by omega)
  rw [show wrap64 (bytesL (l.take 0) : Int) = 0 by simp [bytesL, wrap64]] at this
  exact this
theorem same_l0 (l : List S45) (hl : l.length ≤ 9223372036854775807) : ∀ (k i : Nat), i ≤ l.length → l.length - i < k → ringworklaw06_same.l0 k l l (i : Int) = some true := by
  intro k
  induction k with
  | zero => intro i _ h; omega
  | succ k ih =>
    intro i hi hk
    rw [ringworklaw06_same.l0]
    by_cases hlt : i < l.length
    · rw [if_pos (by omega), if_pos (by omega), if_pos (by omega), if_neg (by simp), w64 _ (by omega) (by omega), show (i : Int) + 1 = ((i + 1 : Nat) : Int) by omega]
      exact ih (i + 1) (by omega) (by omega)
    · rw [if_neg (by omega)]
theorem same_f (l : List S45) (hl : l.length ≤ 9223372036854775807) (k : Nat) (hk : l.length < k) : ringworklaw06_same.f k l l = some true := by
  unfold ringworklaw06_same.f
  rw [if_pos rfl]
  exact same_l0 l hl k 0 (by omega) (by omega)
theorem awake_f (k : Nat) (hk : 1 < k) : ringworklaw06_awake.f k = some true := by
  unfold ringworklaw06_awake.f
  rw [Fill_f 32 _ (by simp) (by decide +kernel) k (by simpa using hk)]
  have e : fillS 32 [(⟨1, (⟨#[97, 98]⟩ : ByteArray)⟩ : S45)] = (⟨#[0, 1, 0, 30, 0, 2, 0, 0, 0, 0, 0, 0, 0, 0, 0, 0, 0, 0, 0, 0, 0, 0, 0, 0, 0, 0, 0, 0, 0, 0, 97, 98]⟩, 0) := by decide +kernel
  rw [e]
  simp only [Option.bind_some, toList_data]
  decide +kernel
theorem PageFills_pure (n : Int) (l : List S45) (hl : l.length ≤ 9223372036854775807) (hb : l.length ≤ 60 → bytesL l ≤ 9000000000000000) : ∃ k, ringworklaw06_PageFills.f k n l = some true := by
  refine ⟨2 * l.length + 10, ?_⟩
  unfold ringworklaw06_PageFills.f
  rw [lawCells_f l hl hb _ (by omega), Option.bind_some]
  by_cases hc : l.length ≤ 60 ∧ bytesL l ≤ 6000
  · rw [if_pos (decide_eq_true hc), New_f n _ (by omega), Option.bind_some, refNew_f, Option.bind_some, if_pos rfl]
    have hb' : bytesL l ≤ 1000000000000 := by omega
    rw [show 2 * l.length + 10 = (2 * l.length + 8) + 1 + 1 by omega, ringworklaw06_PageFills.j0, if_neg (by simp), Fill_f n l hl hb' _ (by omega), Option.bind_some, refFill_f n l hl hb' _ (by omega), Option.bind_some, if_pos rfl, ringworklaw06_PageFills.j1, if_neg (by simp)]
    by_cases hf : (fillS n l).2 = 0
    · obtain ⟨g1, g2, g3, g4⟩ := fill_good n l hf
      obtain ⟨v1, v2, v3⟩ := built_cells n l g1 g2 g3
      obtain ⟨s1, s2, s3⟩ := g2
      rw [if_pos hf, g4, Cells_f _ (by rw [v3]; omega), Option.bind_some, if_pos v1, if_pos rfl, v2, same_f l hl _ (by omega), Option.bind_some, if_pos rfl, awake_f _ (by omega)]
      rfl
    · rw [if_neg hf, awake_f _ (by omega)]
      rfl
  · rw [if_neg (by simpa using hc), awake_f _ (by omega)]
    rfl
theorem bound60 (l : List S45) (h : ∀ c ∈ l, c.f1.size ≤ reachBytes) (h6 : l.length ≤ 60) : bytesL l ≤ 9000000000000000 := by
  have h1 := bytes_bound l reachBytes h
  have h2 : l.length * reachBytes ≤ 60 * reachBytes := Nat.mul_le_mul_right _ h6
  have h3 : 60 * reachBytes ≤ 9000000000000000 := by decide
  omega
theorem PageFills_law (n : Int) (hn : (Lit.int .i64 n).wf = true) (l : List S45) (hm : l.length ≤ maxLen) (hb : ∀ c ∈ l, c.f1.size ≤ reachBytes) : ∃ k, ringworklaw06_PageFills.f k n l = some true :=
  PageFills_pure n l (by unfold maxLen at hm; omega) (bound60 l hb)

end Go.Proofs.Ytemglmcddaeedaa.PA

namespace Go.Proofs.Ytemglmcddaeedaa.PA
open Go.RowKit Go.Proofs.YtemglmcddaeedaaW.PrintWords Go.Proofs.YtemglmcddaeedaaW.PrintLast Go.Proofs.YtemglmcddaeedaaW.PrintMore
set_option linter.unusedVariables false
set_option linter.unusedSimpArgs false
/-! #### PageDamage, the plain law -/
theorem same_l0_ne (l m : List S45) (hl : l.length ≤ 9223372036854775807) (hlm : l.length = m.length) (hne : l ≠ m) : ∀ (k i : Nat), i ≤ l.length → l.length - i < k → l.take i = m.take i →
    ringworklaw06_same.l0 k l m (i : Int) = some false := by
  intro k
  induction k with
  | zero => intro i _ h; omega
  | succ k ih =>
    intro i hi hk ht
    rw [ringworklaw06_same.l0]
    by_cases hlt : i < l.length
    · rw [if_pos (by omega), if_pos (by omega), if_pos (by omega), rd_get l i hlt, rd_get m i (by omega)]
      by_cases he : l[i] = m[i]'(by omega)
      · rw [if_neg (by rw [he]; simp), w64 _ (by omega) (by omega), show (i : Int) + 1 = ((i + 1 : Nat) : Int) by omega]
        exact ih (i + 1) (by omega) (by omega) (by rw [take_snoc l i hlt, take_snoc m i (by omega), ht, he])
      · rw [if_pos]
        generalize l[i] = x at he
        generalize m[i]'(by omega) = y at he
        cases x with | mk x0 x1 =>
        cases y with | mk y0 y1 =>
        simp only [Bool.or_eq_true, Bool.not_eq_true', beq_eq_false_iff_ne, ne_eq, toList_inj]
        by_cases h0 : x0 = y0
        · right
          intro h1
          exact he (by rw [h0, h1])
        · exact .inl h0
    · exact absurd (by rw [List.take_of_length_le (by omega), List.take_of_length_le (by omega)] at ht; exact ht) hne
theorem same_ne (l m : List S45) (hl : l.length ≤ 9223372036854775807) (hne : l ≠ m) (k : Nat) (hk : l.length < k) : ringworklaw06_same.f k l m = some false := by
  unfold ringworklaw06_same.f
  by_cases h : l.length = m.length
  · rw [if_pos (by omega)]
    exact same_l0_ne l m hl h hne k 0 (by omega) (by omega) rfl
  · rw [if_neg (by omega)]
theorem Made_f (n : Int) (l : List S45) (hl : l.length ≤ 9223372036854775807) (hb : l.length ≤ 60 → bytesL l ≤ 9000000000000000) (k : Nat) (hk : 2 * l.length + 1 < k) :
    ringworklaw06_Made.f k n l = some (if l.length ≤ 60 ∧ bytesL l ≤ 6000 then ((fillS n l).1, (fillS n l).2 == 0) else (⟨#[]⟩, false)) := by
  unfold ringworklaw06_Made.f
  rw [lawCells_f l hl hb k (by omega), Option.bind_some]
  by_cases hc : l.length ≤ 60 ∧ bytesL l ≤ 6000
  · rw [if_pos (decide_eq_true hc), if_pos hc, refFill_f n l hl (by omega) k hk]
    rfl
  · rw [if_neg (by simpa using hc), if_neg hc]
theorem xor_u8 (a c : Int) (h0 : 0 ≤ a) (h1 : a ≤ 255) (h2 : 1 ≤ c) (h3 : c ≤ 255) : 0 ≤ Go.bits .xor .u8 a c ∧ Go.bits .xor .u8 a c ≤ 255 ∧ Go.bits .xor .u8 a c ≠ a := by
  rw [u8_xor a c h0 (by omega) (by omega) (by omega)]
  have hx := Nat.xor_lt_two_pow (x := a.toNat) (y := c.toNat) (n := 8) (by omega) (by omega)
  refine ⟨by omega, by omega, fun h => ?_⟩
  have h4 : a.toNat ^^^ c.toNat = a.toNat := by omega
  have h5 : a.toNat ^^^ (a.toNat ^^^ c.toNat) = c.toNat := by rw [← Nat.xor_assoc, Nat.xor_self, Nat.zero_xor]
  rw [h4, Nat.xor_self] at h5
  omega
theorem PageDamage_pure (n : Int) (hn : (Lit.int .i64 n).wf = true) (l : List S45) (hl : l.length ≤ 9223372036854775807) (hb : l.length ≤ 60 → bytesL l ≤ 9000000000000000) (a b : Int) :
    ∃ k, ringworklaw06_PageDamage.f k n l a b = some true := by
  refine ⟨2 * l.length + 10, ?_⟩
  unfold ringworklaw06_PageDamage.f
  rw [Made_f n l hl hb _ (by omega), Option.bind_some]
  have haw := awake_f (2 * l.length + 10) (by omega)
  by_cases hc : l.length ≤ 60 ∧ bytesL l ≤ 6000
  · rw [if_pos hc]
    by_cases hf : (fillS n l).2 = 0
    · obtain ⟨g1, g2, g3, g4⟩ := fill_good n l hf
      obtain ⟨v1, v2, v3⟩ := built_cells n l g1 g2 g3
      have hs := g2
      obtain ⟨s1, s2, s3⟩ := hs
      rw [if_pos (by simpa using hf)]
      simp only
      have en : IntKind.u64.wrap n = n := by rw [IntKind.wrap_u64]; omega
      have ha0 : 0 ≤ IntKind.u64.wrap a := by rw [IntKind.wrap_u64]; omega
      have hb0 : 0 ≤ IntKind.u64.wrap b := by rw [IntKind.wrap_u64]; omega
      rw [en, g4]
      rw [g4] at *
      generalize IntKind.u64.wrap a = ua at *
      generalize IntKind.u64.wrap b = ub at *
      rw [if_neg (by omega), Int.tmod_eq_emod_of_nonneg ha0, Int.tmod_eq_emod_of_nonneg hb0]
      have hK0 : 0 ≤ ua % n := Int.emod_nonneg _ (by omega)
      have hK1 : ua % n < n := Int.emod_lt_of_pos _ (by omega)
      rw [w64 (ua % n) (by omega) (by omega), w64 (ua % n + 1) (by omega) (by omega)]
      generalize ua % n = K at *
      have hC : 1 ≤ IntKind.u64.wrap (1 + ub % 255) % 256 ∧ IntKind.u64.wrap (1 + ub % 255) % 256 ≤ 255 := by rw [IntKind.wrap_u64]; omega
      generalize IntKind.u64.wrap (1 + ub % 255) % 256 = C at *
      generalize hp : strOfNums (builtL n.toNat l) = p at *
      have hpb := bt_range p K
      obtain ⟨x0, x1, x2⟩ := xor_u8 (bt p K) C hpb.1 hpb.2 hC.1 hC.2
      generalize Go.bits .xor .u8 (bt p K) C = x at *
      have e1 := extract_size p 0 K.toNat (by omega)
      have e2 := extract_size p (K + 1).toNat p.size (by omega)
      have e3 : (strOfNums [x]).size = 1 := by simp [strOfNums, ByteArray.size]
      rw [if_pos hK0, if_pos (by omega), if_pos (by omega), Option.bind_some, if_pos (by omega), if_pos (by omega), if_pos (by omega), if_pos (by rw [ByteArray.size_append]; omega)]
      generalize hq : p.extract 0 K.toNat ++ strOfNums [x] ++ p.extract (K + 1).toNat p.size = q
      have hqs : q.size = p.size := by rw [← hq, ByteArray.size_append, ByteArray.size_append]; omega
      have hqp : q ≠ p := by
        intro h
        have h1 : bytesOf q = (bytesOf p).take K.toNat ++ ([x] ++ (bytesOf p).drop (K + 1).toNat) := by
          rw [← hq]
          simp only [bytesOf_append, bytesOf_strOfNums [x] (by simpa using ⟨x0, x1⟩), bytesOf_extract _ _ _ (show K.toNat ≤ p.size by omega), bytesOf_extract _ _ _ (Nat.le_refl p.size), List.append_assoc, Nat.sub_zero, List.drop_zero]
          congr 2
          rw [List.take_of_length_le (by rw [List.length_drop, bytesOf_length]; omega)]
        rw [h] at h1
        have h2 := bytesOf_getD p K.toNat
        rw [h1, getD_right _ _ _ (by rw [List.length_take]; omega), show K.toNat - ((bytesOf p).take K.toNat).length = 0 by rw [List.length_take, bytesOf_length]; omega] at h2
        simp only [List.cons_append, List.getD_cons_zero] at h2
        rw [Int.toNat_of_nonneg hK0] at h2
        exact x2 h2
      rw [Cells_f q (by omega), Option.bind_some]
      by_cases hv : validS q
      · rw [if_pos hv]
        simp only
        rw [if_neg (by omega), if_pos trivial, same_ne l _ hl (fun he => hqp (by
          have hr := valid_built q hv
          rw [← he, hqs, v3, hp] at hr
          exact hr.symm)) _ (by omega), Option.bind_some, if_neg (by simp), haw]
        rfl
      · rw [if_neg hv]
        simp only
        rw [if_pos trivial, haw]
        rfl
    · rw [if_neg (by simpa using hf), haw]
      rfl
  · rw [if_neg hc, if_neg (by simp), haw]
    rfl
theorem PageDamage_law (n : Int) (hn : (Lit.int .i64 n).wf = true) (l : List S45) (hm : l.length ≤ maxLen) (hb : ∀ c ∈ l, c.f1.size ≤ reachBytes) (a : Int) (ha : (Lit.int .i64 a).wf = true) (b : Int) (hb2 : (Lit.int .i64 b).wf = true) :
    ∃ k, ringworklaw06_PageDamage.f k n l a b = some true :=
  PageDamage_pure n hn l (by unfold maxLen at hm; omega) (bound60 l hb) a b

end Go.Proofs.Ytemglmcddaeedaa.PA
