/- What bytes.Buffer's WriteByte does to a buffer that lies alone: walks of its functions, with the exact worlds. -/
import Derived.Test.YteljmjpmhhofoabGreatDoorProg
import Derived.Test.YteljmjpmhhofoabGreatDoorAm3
import Derived.Lib.ByteType
import Derived.Lib.BufferAt
import Derived.Lib.BufferMore
import Derived.Lib.BufferOwn
import Derived.Lib.BufferWrite
import Derived.Lib.BufferGrow
import Derived.Lib.Walk
import Derived.Lib.Buffer
import Derived.Lib.AppendZeros
import Derived.Lib.Hide
import Derived.Laws.CopyRow
import Derived.Laws.IdiomCopy
import Derived.Laws.MakeOwn
import Derived.WalkKit
import Derived.OwnWalk
import Derived.Defers
import Derived.Recover
import Derived.RegionTactic
import Derived.Deep.RegionWith
import Derived.Deep.Draws
import Derived.BigCall
import Derived.BigGuard
namespace Go.Proofs.YteljmjpmhhofoabGreatDoor.Wb
open Go.RowKit

set_option maxHeartbeats 2000000 in
set_option maxRecDepth 100000 in
theorem tg_room (b q : Nat) (ao : Option Addr) (l cap n : Nat) (w : World) (c0 : w.cell? ⟨b, q, none⟩ = some (.slice ao l cap)) (f0 : w.frozen? ⟨b, q, none⟩ = false) (hlc : l ≤ cap) (hcap : cap ≤ maxLen) (hn : n ≤ cap - l) :
    Calls Tryz.prog 232 #[.pointer (some ⟨b, q, none⟩), .int .i64 n] w fun e w' => e = .returned (.tuple #[.int .i64 l, .bool true]) ∧ w' = w.setCell ⟨b, q, none⟩ (.slice ao (l + n) cap) := by
  unfold maxLen at hcap
  go_enter Tryz.func232, Tryz.ntmps232
  go_wp2
  go_ret2
  exact ⟨rfl, rfl⟩

set_option maxHeartbeats 2000000 in
set_option maxRecDepth 100000 in
theorem tg_none (b q : Nat) (ao : Option Addr) (l cap n : Nat) (w : World) (c0 : w.cell? ⟨b, q, none⟩ = some (.slice ao l cap)) (hlc : l ≤ cap) (hcap : cap ≤ maxLen) (hn : cap - l < n) :
    Calls Tryz.prog 232 #[.pointer (some ⟨b, q, none⟩), .int .i64 n] w fun e w' => e = .returned (.tuple #[.int .i64 0, .bool false]) ∧ w' = w := by
  unfold maxLen at hcap
  go_enter Tryz.func232, Tryz.ntmps232
  go_wp2
  go_ret2
  exact ⟨rfl, rfl⟩

set_option maxRecDepth 100000 in
theorem len_at (b q : Nat) (ao : Option Addr) (l cap : Nat) (w : World) (c0 : w.cell? ⟨b, q, none⟩ = some (.slice ao l cap)) (c1 : w.cell? ⟨b, q + 1, none⟩ = some (.int .i64 0)) (hmax : l ≤ 9223372036854775807) :
    Calls Tryz.prog 249 #[.pointer (some ⟨b, q, none⟩)] w fun e w' => e = .returned (.int .i64 l) ∧ ∃ n, w' = w.drewN n := by
  go_enter Tryz.func249, Tryz.ntmps249
  go_wp2
  go_region
  all_goals (go_wp2; go_ret; exact ⟨by simp, 1, rfl⟩)

theorem catch_idle (w : World) : CallsD Tryz.prog 262 #[] .returning w fun e u' w' => e = .returned (.tuple #[]) ∧ u' = .returning ∧ w' = w := by
  have hnn : ∀ w, (binOp .neq 20 .nilIface .nilIface).run Tryz.prog w = .ok (.bool false) w := fun w => Lib.run_neq_nil_nil w Tryz.underlying20
  refine callsD_of_wpS Tryz.func262 rfl fun c₀ cs hu => ?_
  apply wpS_seq
  apply wpS_region
  simp [wpOpsS, go_sem, recoverD, hu, hnn, Tryz.ntmps262, Exit.thenS]
  refine wpS_cond (t := false) (by simp [Act.eval, Array.replicate]) ?_
  simp only [Bool.false_eq_true, if_false]
  refine wpS_of_wp (wp_skip ?_)
  cases c₀
  simp_all [bodyPostS, results]

theorem info5 : ∃ i0, Tryz.prog.info? 5 = some i0 ∧ i0.zero = some (.int .u8 0) ∧ i0.size = 1 ∧ i0.bytes = 1 := by
  have h : (Tryz.prog.info? 5).map (fun i => (i.zero, i.size, i.bytes)) = some (some (Value.int IntKind.u8 0), 1, 1) := by kernel_rfl
  cases e : Tryz.prog.info? 5 with
  | none => rw [e] at h; cases h
  | some i =>
    rw [e] at h
    simp only [Option.map_some, Option.some.injEq, Prod.mk.injEq] at h
    exact ⟨i, rfl, h.1, h.2.1, h.2.2⟩

set_option maxHeartbeats 6400000 in
set_option maxRecDepth 100000 in
/-- bytes.growSlice, of a slice at the head of a row. -/
theorem gs_row (g l c n : Nat) (cur : Array Value) (E : TypeId) (fz : Nat × Nat) (w : World) (hg : w.heap[g]? = some (.cells cur E fz)) (hcs : c ≤ cur.size) (hlc : l ≤ c) (hn : 1 ≤ n)
    (hlim : l + n ≤ 140737488355328) (hc2 : c ≤ 140737488355328) (h1 : ∀ v ∈ cur.toList.take l, v.oneCell' = true) :
    Calls Tryz.prog 251 #[.slice (some ⟨g, 0, none⟩) l c, .int .i64 n] w fun e w' => ∃ cap2 cells, e = .returned (.slice (some ⟨w.heap.size, 0, none⟩) l cap2) ∧ w'.heap[w.heap.size]? = some (.cells cells 5 (0, 0)) ∧
      cells.size = cap2 ∧ cells.toList.take l = cur.toList.take l ∧ l + n ≤ cap2 ∧ cap2 ≤ maxLen ∧ Below w.heap.size w w' := by
  obtain ⟨i0, hi, hz0, hz1, hz2⟩ := info5
  have hsz1 : (Tryz.prog.info? 5).map (·.size) = some 1 := by rw [hi]; simp [hz1]
  have hxl : (cur.toList.take l).length = l := by rw [List.length_take, Array.length_toList]; omega
  have hgl : g < w.heap.size := by
    rcases Nat.lt_or_ge g w.heap.size with h | h
    · exact h
    · rw [Array.getElem?_eq_none h] at hg; cases hg
  by_cases hC : l + n < 2 * c
  · skip
    have happ := Lib.run_append_nil_zeros (P := Tryz.prog) w 41 3 41 5 i0 (.int .u8 0) .i64 .i64 Tryz.underlying41 Tryz.underlying3 hi hz0 (2 * c) (by omega) (by omega) (by omega) (by rw [hz2]; omega)
    rw [show (((2 * c : Nat)) : Int) = 2 * (c : Int) by omega] at happ
    generalize hcap : grownCap w (2 * c) 0 5 = cap2 at happ
    have hcapge : 2 * c ≤ cap2 := by rw [← hcap]; exact grownCap_ge w _ 0 5
    have hcaple : cap2 ≤ maxLen := by rw [← hcap]; exact grownCap_le_maxLen w _ 0 5 (by unfold maxLen; omega)
    generalize hZ : (Builtin.zeroCells (Value.int .u8 0).cells (2 * c) ++ Builtin.zeroCells (Value.int .u8 0).cells (cap2 - (2 * c))) = Z at happ
    have hZs : Z.size = cap2 := by rw [← hZ]; simp [size_zeroCells, Value.cells]; omega
    clear hcap hZ
    have hg1 : (w.alloc (.cells Z 5)).drew.heap[g]? = some (.cells cur E fz) := by show (w.alloc (.cells Z 5)).heap[g]? = _; rw [RowKit.Below.heap_alloc w _ g hgl]; exact hg
    have hcopy := run_copy_row (P := Tryz.prog) (w.alloc (.cells Z 5)).drew 41 41 3 5 w.heap.size 0 (2 * c) cap2 ⟨g, 0, none⟩ l c Z 5 (cur.toList.take l) Tryz.underlying41 hsz1 (heap_alloc_new w _) (by rw [hxl]; exact (Nat.min_eq_left (by omega)).symm) (Lib.cells_of_row hg1 l) (by rw [hxl]; omega) h1
    rw [hxl] at hcopy
    generalize hY : (Z.toList.take 0 ++ cur.toList.take l ++ Z.toList.drop (0 + l)).toArray = Y at hcopy
    go_enter_defers Tryz.func251, Tryz.ntmps251
    go_wp2_with (at_builtin; refine Lib.wpList_append_run _ rfl _ _ _ _ rfl _ _ rfl rfl _ _ happ ?_)
    refine leaves_cons (f := 262) (args := #[]) (by simp) (Am.run_callFunc Tryz.func262 rfl (by kernel_rfl)) ?_
    refine (catch_idle _).mono ?_
    rintro e u' w'' ⟨rfl, rfl, rfl⟩
    refine ⟨_, results_tmp rfl _ _ _, ?_⟩
    have hYl : Y.toList = cur.toList.take l ++ Z.toList.drop l := by rw [← hY]; simp
    refine ⟨cap2, Y, rfl, setRow_heap _ _ Z Y 5 (0, 0) (heap_alloc_new w _), ?_, ?_, by omega, hcaple, ?_⟩
    · have : Y.toList.length = cap2 := by rw [hYl, List.length_append, hxl, List.length_drop, Array.length_toList, hZs]; omega
      simpa using this
    · rw [hYl, List.take_append_of_le_length (by rw [hxl]; exact Nat.le_refl _), List.take_of_length_le (by rw [hxl]; exact Nat.le_refl _)]
    · exact ⟨rfl, rfl, rfl, by simp, fun k hk => by rw [setRow_other _ _ _ _ (by omega)]; exact Below.heap_alloc w _ k hk⟩
  · skip
    have happ := Lib.run_append_nil_zeros (P := Tryz.prog) w 41 3 41 5 i0 (.int .u8 0) .i64 .i64 Tryz.underlying41 Tryz.underlying3 hi hz0 (l + n) (by omega) (by omega) (by omega) (by rw [hz2]; omega)
    rw [show (((l + n : Nat)) : Int) = (l : Int) + (n : Int) by omega] at happ
    generalize hcap : grownCap w (l + n) 0 5 = cap2 at happ
    have hcapge : l + n ≤ cap2 := by rw [← hcap]; exact grownCap_ge w _ 0 5
    have hcaple : cap2 ≤ maxLen := by rw [← hcap]; exact grownCap_le_maxLen w _ 0 5 (by unfold maxLen; omega)
    generalize hZ : (Builtin.zeroCells (Value.int .u8 0).cells (l + n) ++ Builtin.zeroCells (Value.int .u8 0).cells (cap2 - (l + n))) = Z at happ
    have hZs : Z.size = cap2 := by rw [← hZ]; simp [size_zeroCells, Value.cells]; omega
    clear hcap hZ
    have hg1 : (w.alloc (.cells Z 5)).drew.heap[g]? = some (.cells cur E fz) := by show (w.alloc (.cells Z 5)).heap[g]? = _; rw [RowKit.Below.heap_alloc w _ g hgl]; exact hg
    have hcopy := run_copy_row (P := Tryz.prog) (w.alloc (.cells Z 5)).drew 41 41 3 5 w.heap.size 0 (l + n) cap2 ⟨g, 0, none⟩ l c Z 5 (cur.toList.take l) Tryz.underlying41 hsz1 (heap_alloc_new w _) (by rw [hxl]; exact (Nat.min_eq_left (by omega)).symm) (Lib.cells_of_row hg1 l) (by rw [hxl]; omega) h1
    rw [hxl] at hcopy
    generalize hY : (Z.toList.take 0 ++ cur.toList.take l ++ Z.toList.drop (0 + l)).toArray = Y at hcopy
    go_enter_defers Tryz.func251, Tryz.ntmps251
    go_wp2_with (at_builtin; refine Lib.wpList_append_run _ rfl _ _ _ _ rfl _ _ rfl rfl _ _ happ ?_)
    refine leaves_cons (f := 262) (args := #[]) (by simp) (Am.run_callFunc Tryz.func262 rfl (by kernel_rfl)) ?_
    refine (catch_idle _).mono ?_
    rintro e u' w'' ⟨rfl, rfl, rfl⟩
    refine ⟨_, results_tmp rfl _ _ _, ?_⟩
    have hYl : Y.toList = cur.toList.take l ++ Z.toList.drop l := by rw [← hY]; simp
    refine ⟨cap2, Y, rfl, setRow_heap _ _ Z Y 5 (0, 0) (heap_alloc_new w _), ?_, ?_, by omega, hcaple, ?_⟩
    · have : Y.toList.length = cap2 := by rw [hYl, List.length_append, hxl, List.length_drop, Array.length_toList, hZs]; omega
      simpa using this
    · rw [hYl, List.take_append_of_le_length (by rw [hxl]; exact Nat.le_refl _), List.take_of_length_le (by rw [hxl]; exact Nat.le_refl _)]
    · exact ⟨rfl, rfl, rfl, by simp, fun k hk => by rw [setRow_other _ _ _ _ (by omega)]; exact Below.heap_alloc w _ k hk⟩

set_option maxHeartbeats 6400000 in
set_option maxRecDepth 100000 in
/-- grow, of a buffer that holds nothing. -/
theorem grow_nil (T : TypeId) (R : Nat → Option Value) (b q n : Nat) (lr : Int) (w : World) (hbk : LibA.Three w b q T R (.slice none 0 0) (.int .i64 0) (.int .i8 lr)) (hn : 1 ≤ n) (h64 : n ≤ 64) :
    Calls Tryz.prog 233 #[.pointer (some ⟨b, q, none⟩), .int .i64 n] w fun e w' => e = .returned (.int .i64 0) ∧ ∃ M, M.size = 64 ∧
      LibA.Three w' b q T R (.slice (some ⟨w.heap.size, 0, none⟩) n 64) (.int .i64 0) (.int .i8 lr) ∧ w'.heap[w.heap.size]? = some (.cells M 5 (0, 0)) ∧ w.grownBy w' (some b) := by
  obtain ⟨i0, hi, hz0, hz1, hz2⟩ := info5
  obtain ⟨M, hM⟩ : ∃ M, M = madeCells (Value.int .u8 0).cells ((64 : Int).toNat * i0.size) := ⟨_, rfl⟩
  have hMs : M.size = 64 := by rw [hM, size_madeCells, hz1]; rfl
  have hmk : ∀ W : World, (Instr.makeSlice 41 (.int .i64 (n : Int)) (.int .i64 64)).run Tryz.prog W = .ok (.slice (some ⟨W.heap.size, 0, none⟩) n 64) (W.alloc (.cells M 5)) := fun W => by
    have h := run_makeSlice (P := Tryz.prog) W 41 5 i0 (.int .u8 0) Tryz.underlying41 hi hz0 .i64 .i64 (n : Int) 64 (by omega) (by omega) (by rw [hz1]; decide) (by rw [hz2]; decide) (by decide)
    rw [← hM] at h
    simpa using h
  clear hM
  have hnil : ∀ W, (binOp .eql 41 (.slice none 0 0) (.slice none 0 0)).run Tryz.prog W = .ok (.bool true) W := fun W => Lib.run_eql_slice_nil_nil W _ _ Tryz.underlying41
  have a0 : w.cell? ⟨b, q, none⟩ = some (.slice none 0 0) := hbk.c0
  have a1 : w.cell? ⟨b, q + 1, none⟩ = some (.int .i64 0) := hbk.c1
  go_enter Tryz.func233, Tryz.ntmps233
  go_wp2_with (go_at_call 249; refine (len_at b q none 0 0 _ a0 a1 (by omega)).mono ?_)
  rintro e W0 ⟨rfl, k, hW0⟩
  have hbk0 : LibA.Three W0 b q T R (.slice none 0 0) (.int .i64 0) (.int .i8 lr) := by rw [hW0]; exact hbk
  have c0 : W0.cell? ⟨b, q, none⟩ = some (.slice none 0 0) := hbk0.c0
  have c1 : W0.cell? ⟨b, q + 1, none⟩ = some (.int .i64 0) := hbk0.c1
  have f0 : W0.frozen? ⟨b, q, none⟩ = false := hbk0.f q
  have f1 : W0.frozen? ⟨b, q + 1, none⟩ = false := hbk0.f (q + 1)
  have hbW0 := hbk0.lt
  have c0a : ∀ o, (W0.alloc o).cell? ⟨b, q, none⟩ = some (.slice none 0 0) := fun o => (World.cell?_of_block (a := ⟨b, q, none⟩) (Below.heap_alloc W0 o b hbW0)).trans c0
  have f0a : ∀ o, (W0.alloc o).frozen? ⟨b, q, none⟩ = false := fun o => (World.frozen?_of_block (a := ⟨b, q, none⟩) (Below.heap_alloc W0 o b hbW0)).trans f0
  have HW0 := Lib.hid hW0
  clear hW0 a0 a1
  go_wp2_with (go_at_call 232; refine (tg_none b q _ 0 0 n _ c0 (Nat.le_refl _) (Nat.zero_le _) (by omega)).mono ?_; rintro e w' ⟨rfl, rfl⟩)
  go_ret
  have hsz0 : w'.heap.size = w.heap.size := by rw [HW0.out]; rfl
  have hg0 : w.grownBy w' (some b) := by rw [HW0.out]; exact ⟨rfl, rfl, rfl, Nat.le_refl _, fun _ _ _ => rfl⟩
  refine ⟨rfl, M, hMs, ?_, ?_, ?_⟩
  · have hb1 := hbk0.set0 (.slice (some ⟨w'.heap.size, 0, none⟩) n 64)
    have h1 := hb1.of_heap (w' := (w'.setCell ⟨b, q, none⟩ (.slice (some ⟨w'.heap.size, 0, none⟩) n 64)).alloc (.cells M 5)) (Below.heap_alloc _ _ b hb1.lt)
    rw [← hsz0]
    exact h1
  · have h1 := heap_alloc_new (w'.setCell ⟨b, q, none⟩ (.slice (some ⟨w'.heap.size, 0, none⟩) n 64)) (.cells M 5)
    have h2 : (w'.setCell ⟨b, q, none⟩ (.slice (some ⟨w'.heap.size, 0, none⟩) n 64)).heap.size = w.heap.size := by rw [← hsz0]; simp [World.setCell]
    rw [h2] at h1
    exact h1
  · exact Lib.grownBy_allocR (Lib.grownBy_setB hg0 q _) _

set_option maxHeartbeats 12800000 in
set_option maxRecDepth 100000 in
/-- grow, of a buffer whose row has no room. -/
theorem grow_row (T : TypeId) (R : Nat → Option Value) (b q g l cap n : Nat) (lr : Int) (cur : Array Value) (E : TypeId) (fz : Nat × Nat) (w : World) (hbk : LibA.Three w b q T R (.slice (some ⟨g, 0, none⟩) l cap) (.int .i64 0) (.int .i8 lr))
    (hl1 : 1 ≤ l) (hg : w.heap[g]? = some (.cells cur E fz)) (hlc : l ≤ cap) (hcm : cap ≤ maxLen) (hcs : cap ≤ cur.size) (h1 : ∀ v ∈ cur.toList.take l, v.oneCell' = true) (hn : 1 ≤ n) (hroom : cap - l < n) (hlim : l + n ≤ 140737488355328) :
    Calls Tryz.prog 233 #[.pointer (some ⟨b, q, none⟩), .int .i64 n] w fun e w' => e = .returned (.int .i64 l) ∧ ∃ cap2 cells,
      LibA.Three w' b q T R (.slice (some ⟨w.heap.size, 0, none⟩) (l + n) cap2) (.int .i64 0) (.int .i8 lr) ∧ w'.heap[w.heap.size]? = some (.cells cells 5 (0, 0)) ∧
      cells.size = cap2 ∧ cells.toList.take l = cur.toList.take l ∧ l + n ≤ cap2 ∧ cap2 ≤ maxLen ∧ w.grownBy w' (some b) := by
  have hnil : ∀ W, (binOp .eql 41 (.slice (some ⟨g, 0, none⟩) l cap) (.slice none 0 0)).run Tryz.prog W = .ok (.bool false) W := fun W => Lib.run_eql_slice_some_nil W _ _ _ Tryz.underlying41
  have a0 : w.cell? ⟨b, q, none⟩ = some (.slice (some ⟨g, 0, none⟩) l cap) := hbk.c0
  have a1 : w.cell? ⟨b, q + 1, none⟩ = some (.int .i64 0) := hbk.c1
  have hl63 : l ≤ 9223372036854775807 := by unfold maxLen at hcm; omega
  go_enter Tryz.func233, Tryz.ntmps233
  go_wp2_with (go_at_call 249; refine (len_at b q _ l cap _ a0 a1 hl63).mono ?_)
  rintro e W0 ⟨rfl, k, hW0⟩
  have hbk0 : LibA.Three W0 b q T R (.slice (some ⟨g, 0, none⟩) l cap) (.int .i64 0) (.int .i8 lr) := by rw [hW0]; exact hbk
  have hg0 : W0.heap[g]? = some (.cells cur E fz) := by rw [hW0]; exact hg
  have c0 : W0.cell? ⟨b, q, none⟩ = some (.slice (some ⟨g, 0, none⟩) l cap) := hbk0.c0
  have c1 : W0.cell? ⟨b, q + 1, none⟩ = some (.int .i64 0) := hbk0.c1
  have f0 : W0.frozen? ⟨b, q, none⟩ = false := hbk0.f q
  have f1 : W0.frozen? ⟨b, q + 1, none⟩ = false := hbk0.f (q + 1)
  have HW0 := Lib.hid hW0
  clear hW0 a0 a1
  have hcm' := hcm
  unfold maxLen at hcm'
  go_wp2_with (go_at_call 232; refine (tg_none b q _ l cap n _ c0 hlc hcm hroom).mono ?_; rintro e w' ⟨rfl, rfl⟩)
  have hc2 : cap ≤ 140737488355328 := by omega
  have hbW := hbk0.lt
  have hwn : IntKind.i64.wrap (n : Int) = n := by rw [IntKind.wrap_i64]; omega
  go_region_with (
      go_at_call 251
      refine (gs_row g l cap n cur E fz _ ?_ hcs hlc hn hlim hc2 h1).mono ?_
      exact hg0
      rintro e w2 ⟨cap2, cells, rfl, hN, hcsz, htk, hcap2, hcm2, hbel⟩
      have hbk2 : LibA.Three w2 b q T R (.slice (some ⟨g, 0, none⟩) l cap) (.int .i64 0) (.int .i8 lr) := hbk0.of_heap (hbel.block b hbW)
      have d0 : w2.cell? ⟨b, q, none⟩ = some (.slice (some ⟨g, 0, none⟩) l cap) := hbk2.c0
      have d1 : w2.cell? ⟨b, q + 1, none⟩ = some (.int .i64 0) := hbk2.c1
      have e0 : w2.frozen? ⟨b, q, none⟩ = false := hbk2.f q
      have e1 : w2.frozen? ⟨b, q + 1, none⟩ = false := hbk2.f (q + 1))
  all_goals (
    go_wp2
    go_ret
    have hsz0 : w'.heap.size = w.heap.size := by rw [HW0.out]; rfl
    have hg2 : w.grownBy w2 (some b) := Lib.grownBy_below (w := w'.drew) (by rw [HW0.out]; exact ⟨rfl, rfl, rfl, Nat.le_refl _, fun _ _ _ => rfl⟩) hbel
    refine ⟨rfl, cap2, cells, ?_, ?_, hcsz, htk, hcap2, hcm2, ?_⟩
    · rw [← hsz0]; exact ((hbk2.set0 _).set1 _).set0 _
    · have hne : w'.heap.size ≠ b := by omega
      rw [← hsz0, Below.heap_setCell _ _ _ _ hne, Below.heap_setCell _ _ _ _ hne, Below.heap_setCell _ _ _ _ hne]
      exact hN
    · exact Lib.grownBy_setB (Lib.grownBy_setB (Lib.grownBy_setB hg2 q _) (q + 1) _) q _)

theorem three_eq {w : World} {b : Nat} {T : TypeId} {x y z : Value} (h : LibA.Three w b 0 T (fun _ => none) x y z) : w.heap[b]? = some (.cells #[x, y, z] T (0, 0)) := by
  obtain ⟨cs, hb, h0, h1, h2, hr⟩ := h
  have hs : cs.size ≤ 3 := by
    rcases Nat.lt_or_ge 3 cs.size with h | h
    · have := hr 3 (.inr (Nat.le_refl _))
      rw [Array.getElem?_eq_getElem h] at this; cases this
    · exact h
  have : cs = #[x, y, z] := by
    apply Array.ext_getElem?
    intro i
    match i with
    | 0 => exact h0
    | 1 => exact h1
    | 2 => exact h2
    | i + 3 => rw [Array.getElem?_eq_none (by omega), Array.getElem?_eq_none (by simp)]
  rw [hb, this]

theorem take_set : ∀ (l : List Value) (n : Nat) (v : Value), n < l.length → (l.set n v).take (n + 1) = l.take n ++ [v]
  | [], _, _, h => by simp at h
  | _ :: _, 0, _, _ => rfl
  | a :: l, n + 1, v, h => by simpa using take_set l n v (by simpa using h)

set_option maxHeartbeats 12800000 in
set_option maxRecDepth 100000 in
/-- WriteByte, of a buffer that holds nothing. -/
theorem wb_nil (w : World) (b : Nat) (T : TypeId) (r c : Int) (hb : w.heap[b]? = some (.cells #[.slice none 0 0, .int .i64 0, .int .i8 r] T (0, 0))) :
    Calls Tryz.prog 208 #[.pointer (some ⟨b, 0, none⟩), .int .u8 c] w fun e w' => e = .returned .nilIface ∧ ∃ M, M.size = 64 ∧
      w'.heap[b]? = some (.cells #[.slice (some ⟨w.heap.size, 0, none⟩) 1 64, .int .i64 0, .int .i8 0] T (0, 0)) ∧ w'.heap[w.heap.size]? = some (.cells M 5 (0, 0)) ∧ M.toList.take 1 = [.int .u8 c] ∧ w.grownBy w' (some b) := by
  have hbk := LibA.three_whole hb
  have c0 : w.cell? ⟨b, 0, none⟩ = some (.slice none 0 0) := hbk.c0
  have c2 : w.cell? ⟨b, 2, none⟩ = some (.int .i8 r) := hbk.c2
  have f2 : w.frozen? ⟨b, 2, none⟩ = false := hbk.f 2
  have h' := hbk.set2 (.int .i8 0)
  have d0 : (w.setCell ⟨b, 2, none⟩ (.int .i8 0)).cell? ⟨b, 0, none⟩ = some (.slice none 0 0) := h'.c0
  have hg0 : w.grownBy (w.setCell ⟨b, 2, none⟩ (.int .i8 0)) (some b) := Lib.grownBy_setCell w b 2 _
  have hsz : (w.setCell ⟨b, 2, none⟩ (.int .i8 0)).heap.size = w.heap.size := by simp [World.setCell]
  have hlt := hbk.lt
  go_enter Tryz.func208, Tryz.ntmps208
  go_wp2_with (go_at_call 232; refine (tg_none b 0 _ 0 0 1 _ d0 (Nat.le_refl _) (Nat.zero_le _) (by omega)).mono ?_; rintro e w1 ⟨rfl, rfl⟩)
  go_wp2_with (go_at_call 233; refine (grow_nil T _ b 0 1 0 _ h' (by omega) (by omega)).mono ?_)
  rintro e W1 ⟨rfl, M, hMs, hI, hN, hg⟩
  have hsz' : (w.setCell ⟨b, 0 + 2, none⟩ (.int .i8 0)).heap.size = w.heap.size := hsz
  rw [hsz'] at hI hN
  have e0 : W1.cell? ⟨b, 0, none⟩ = some (.slice (some ⟨w.heap.size, 0, none⟩) 1 64) := hI.c0
  have hlt0 : 0 < M.size := by omega
  have dg : W1.cell? ⟨w.heap.size, 0, none⟩ = some M[0] := by rw [Lib.cell_of_heap hN, Array.getElem?_eq_getElem hlt0]
  have fg : W1.frozen? ⟨w.heap.size, 0, none⟩ = false := Lib.frozen_of_heap hN _
  have hg1 : w.grownBy W1 (some b) := Lib.grownBy_trans hg0 hg
  go_wp2
  go_ret
  have hne : b ≠ w.heap.size := by omega
  refine ⟨rfl, M.setIfInBounds 0 (.int .u8 c), by simpa using hMs, ?_, ?_, ?_, ?_⟩
  · rw [Below.heap_setCell _ _ _ _ hne]; exact three_eq hI
  · exact Lib.heap_setCell_same (i := 0) hN _
  · have : 0 < M.toList.length := by simpa using hlt0
    rw [Array.toList_setIfInBounds]
    cases e : M.toList with
    | nil => rw [e] at this; simp at this
    | cons a l => simp
  · exact ⟨hg1.os, hg1.tape, hg1.output, by simpa [World.setCell] using hg1.size, fun k hk hn => by
      have hk' : k < w.heap.size := hk
      rw [Below.heap_setCell _ _ _ _ (show k ≠ w.heap.size by omega)]
      exact hg1.block k hk hn⟩

set_option maxHeartbeats 12800000 in
set_option maxRecDepth 100000 in
/-- WriteByte, of a buffer that holds something. -/
theorem wb_row (w : World) (b : Nat) (T : TypeId) (r c : Int) (g l cap : Nat) (cur : Array Value) (E : TypeId) (fz : Nat × Nat) (hb : w.heap[b]? = some (.cells #[.slice (some ⟨g, 0, none⟩) l cap, .int .i64 0, .int .i8 r] T (0, 0)))
    (hl1 : 1 ≤ l) (hl2 : l ≤ 1099511627776) (hlc : l ≤ cap) (hcs : cap ≤ cur.size) (hcm : cap ≤ maxLen) (hgb : g ≠ b) (hg : w.heap[g]? = some (.cells cur E fz)) (hfz : Am.freeCells fz cur.size) (h1 : ∀ v ∈ cur.toList.take l, v.oneCell' = true) :
    Calls Tryz.prog 208 #[.pointer (some ⟨b, 0, none⟩), .int .u8 c] w fun e w' => e = .returned .nilIface ∧ ∃ g' cap' M E' fz',
      w'.heap[b]? = some (.cells #[.slice (some ⟨g', 0, none⟩) (l + 1) cap', .int .i64 0, .int .i8 0] T (0, 0)) ∧ w'.heap[g']? = some (.cells M E' fz') ∧
      l + 1 ≤ cap' ∧ cap' ≤ M.size ∧ cap' ≤ 9223372036854775807 ∧ M.toList.take (l + 1) = cur.toList.take l ++ [.int .u8 c] ∧
      (g' = g ∧ M.size = cur.size ∧ fz' = fz ∧ Am.Aft w w' b (some g) ∨ w.heap.size ≤ g' ∧ fz' = (0, 0) ∧ Am.Aft w w' b none) := by
  have hbk := LibA.three_whole hb
  have c2 : w.cell? ⟨b, 2, none⟩ = some (.int .i8 r) := hbk.c2
  have f2 : w.frozen? ⟨b, 2, none⟩ = false := hbk.f 2
  have h' := hbk.set2 (.int .i8 0)
  have d0 : (w.setCell ⟨b, 2, none⟩ (.int .i8 0)).cell? ⟨b, 0, none⟩ = some (.slice (some ⟨g, 0, none⟩) l cap) := h'.c0
  have x0 : (w.setCell ⟨b, 2, none⟩ (.int .i8 0)).frozen? ⟨b, 0, none⟩ = false := h'.f 0
  have hg0 : w.grownBy (w.setCell ⟨b, 2, none⟩ (.int .i8 0)) (some b) := Lib.grownBy_setCell w b 2 _
  have hsz : (w.setCell ⟨b, 2, none⟩ (.int .i8 0)).heap.size = w.heap.size := by simp [World.setCell]
  have hlt := hbk.lt
  have hgl : g < w.heap.size := by
    rcases Nat.lt_or_ge g w.heap.size with h | h
    · exact h
    · rw [Array.getElem?_eq_none h] at hg; cases hg
  have hg' : (w.setCell ⟨b, 0 + 2, none⟩ (.int .i8 0)).heap[g]? = some (.cells cur E fz) := by rw [Below.heap_setCell _ _ _ _ hgb]; exact hg
  have hcm' := hcm
  unfold maxLen at hcm'
  by_cases hr : 1 ≤ cap - l
  · -- there is room
    go_enter Tryz.func208, Tryz.ntmps208
    go_wp2_with (go_at_call 232; refine (tg_room b 0 _ l cap 1 _ d0 x0 hlc hcm hr).mono ?_)
    rintro e W1 ⟨rfl, hW1⟩
    have hI : LibA.Three W1 b 0 T (fun _ => none) (.slice (some ⟨g, 0, none⟩) (l + 1) cap) (.int .i64 0) (.int .i8 0) := by rw [hW1]; exact h'.set0 _
    have hN : W1.heap[g]? = some (.cells cur E fz) := by rw [hW1, Below.heap_setCell _ _ _ _ hgb]; exact hg'
    have hg1 : w.grownBy W1 (some b) := by rw [hW1]; exact Lib.grownBy_setB hg0 0 _
    clear hW1
    have e0 : W1.cell? ⟨b, 0, none⟩ = some (.slice (some ⟨g, 0, none⟩) (l + 1) cap) := hI.c0
    have hlt0 : l < cur.size := by omega
    have dg : W1.cell? ⟨g, l, none⟩ = some cur[l] := by rw [Lib.cell_of_heap hN, Array.getElem?_eq_getElem hlt0]
    have fg : W1.frozen? ⟨g, l, none⟩ = false := by
      have := hfz l hlt0
      simp only [World.frozen?, hN]
      simpa using this
    go_wp2
    go_ret
    refine ⟨rfl, g, cap, cur.setIfInBounds l (.int .u8 c), E, fz, ?_, ?_, by omega, by simpa using hcs, hcm', ?_, .inl ⟨rfl, by simp, rfl, ?_⟩⟩
    · rw [Below.heap_setCell _ _ _ _ (Ne.symm hgb)]; exact three_eq hI
    · exact Lib.heap_setCell_same (i := l) hN _
    · rw [Array.toList_setIfInBounds, take_set _ _ _ (by simpa using hlt0)]
    · exact ⟨hg1.os, hg1.tape, hg1.output, by simpa [World.setCell] using hg1.size, fun k hk hn hn2 => by rw [Below.heap_setCell _ _ _ _ (by simpa using hn2)]; exact hg1.block k hk (by simpa using hn)⟩
  · -- there is none
    go_enter Tryz.func208, Tryz.ntmps208
    go_wp2_with (go_at_call 232; refine (tg_none b 0 _ l cap 1 _ d0 hlc hcm (by omega)).mono ?_; rintro e w1 ⟨rfl, rfl⟩)
    go_wp2_with (go_at_call 233; refine (grow_row T _ b 0 g l cap 1 0 cur E fz _ h' hl1 hg' hlc hcm hcs h1 (by omega) (by omega) (by omega)).mono ?_)
    rintro e W1 ⟨rfl, cap2, M, hI, hN, hcsz, htk, hcap2, hcm2, hg2⟩
    have hsz' : (w.setCell ⟨b, 0 + 2, none⟩ (.int .i8 0)).heap.size = w.heap.size := hsz
    rw [hsz'] at hI hN
    have hg1 : w.grownBy W1 (some b) := Lib.grownBy_trans hg0 hg2
    have e0 : W1.cell? ⟨b, 0, none⟩ = some (.slice (some ⟨w.heap.size, 0, none⟩) (l + 1) cap2) := hI.c0
    have hlt0 : l < M.size := by omega
    have dg : W1.cell? ⟨w.heap.size, l, none⟩ = some M[l] := by rw [Lib.cell_of_heap hN, Array.getElem?_eq_getElem hlt0]
    have fg : W1.frozen? ⟨w.heap.size, l, none⟩ = false := Lib.frozen_of_heap hN _
    have hcm2' := hcm2
    unfold maxLen at hcm2'
    go_wp2
    go_ret
    have hne : b ≠ w.heap.size := by omega
    refine ⟨rfl, w.heap.size, cap2, M.setIfInBounds l (.int .u8 c), 5, (0, 0), ?_, ?_, hcap2, by simpa using Nat.le_of_eq hcsz.symm, hcm2', ?_, .inr ⟨Nat.le_refl _, rfl, ?_⟩⟩
    · rw [Below.heap_setCell _ _ _ _ hne]; exact three_eq hI
    · exact Lib.heap_setCell_same (i := l) hN _
    · rw [Array.toList_setIfInBounds, take_set _ _ _ (by simpa using hlt0), htk]
    · exact ⟨hg1.os, hg1.tape, hg1.output, by simpa [World.setCell] using hg1.size, fun k hk hn _ => by
        have hk' : k < w.heap.size := hk
        rw [Below.heap_setCell _ _ _ _ (show k ≠ w.heap.size by omega)]
        exact hg1.block k hk (by simpa using hn)⟩

theorem wbc : Am.WBC Tryz.prog 208 := by
  intro w b T r c v0 hb
  refine ⟨fun h => ?_, fun g l cap cur E fz h h1 h2 h3 h4 h5 h6 h7 h8 h9 => ?_⟩
  · subst h
    refine (wb_nil w b T r c hb).mono fun e w' hh => ?_
    obtain ⟨he, M, hM, q1, q2, q3, q4⟩ := hh
    exact ⟨he, w.heap.size, 64, M, 5, q1, q2, by omega, by omega, by omega, q3, Nat.le_refl _, ⟨q4.os, q4.tape, q4.output, q4.size, fun k hk hn _ => q4.block k hk (by simpa using hn)⟩⟩
  · subst h
    exact wb_row w b T r c g l cap cur E fz hb h1 h2 h3 h4 h5 h6 h7 h8 h9

/-- What the machine asks. -/
theorem wb : Am.WB Tryz.prog 208 := Am.wb_of wbc fun _ => ⟨Tryz.f208, _, Tryz.func208, rfl, by kernel_rfl⟩
end Go.Proofs.YteljmjpmhhofoabGreatDoor.Wb
