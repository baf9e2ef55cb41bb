/- What the last of these texts proves is told there. Joined by a program of this session out of its texts. -/
import Derived.Test.YtecgkcgfeghhgaaGreatDoorQBagAggregates2
import Derived.Below
import Derived.Deep.Draws
import Derived.Deep.AppendLies
import Derived.Maps.AppendAt
import Derived.OwnWalk
import Derived.Laws.BytesArg
import Derived.Laws.MakeOwn
import Derived.Laws.OwnMore
import Derived.Deep.OwnRows
import Derived.Tactics
import Derived.Lib.ConvBytes
import Derived.Laws.Slices
import Derived.WalkKit
import Derived.KernelRfl
import Derived.RowKit3
import Derived.Deep.LoopGhost
import Derived.Deep.QuietTactic
import Derived.BigQuiet
import Derived.WideLaws
import Derived.Deep.DeepCutAuto
import Derived.Deep.CutBlock
import Derived.Deep.RegionHeld3
import Derived.Laws.Rows
import Derived.Lib.AppendStr
import Derived.ArgAppend
import Derived.Laws.IdiomCopy
import Derived.RowKit
import Derived.OrdersHeld
import Derived.Laws.BitsLemmas
import Derived.Laws.StructEq
import Derived.Shelf.Strings.BuilderK
import Derived.Shelf.Spec.SlicesGrow
import Derived.Shelf.SlGeneric
import Derived.Ground.Names8Prog
import Derived.Shelf.SlSortCmp.NoneTotal
import Derived.Ground.SlsfProg
import Derived.Ground.NamesProg
import Derived.Shelf.Spec.BitsCarry
import Derived.Ground.Names7Prog
import Derived.Shelf.Strings.Builder1
import Derived.Shelf.Small.Bits
import Derived.Shelf.Small.Strs
import Derived.Shelf.Strings.BuilderF
import Derived.Shelf.Strconv.Itoa0
import Derived.Shelf.Strconv.Itoa1
import Derived.Shelf.LaysM
import Derived.Shelf.Strconv.Itoa2
import Derived.Shelf.Strconv.Itoa3
import Derived.Shelf.Strconv.Itoa4
import Derived.Shelf.Strings.BuilderCap
import Derived.Maps.OwnOps
import Derived.ChangeArms
import Derived.Deep.Slices
import Derived.Deep.Strs
import Derived.Lib.ItoaLen
import Derived.Sort.Statements
import Derived.WalkSpells
import Derived.WalkMore
import Derived.BigRegion
import Derived.RegionTactic
set_option maxHeartbeats 8000000
set_option maxRecDepth 100000
namespace Go.Proofs.YtecgkcgfeghhgaaGreatDoor.PAll
open Go.RowKit Go.Proofs.YtecgkcgfeghhgaaGreatDoorW.PrintWords Go.Proofs.YtecgkcgfeghhgaaGreatDoorW.PrintLast Go.Proofs.YtecgkcgfeghhgaaGreatDoorW.PrintMore
attribute [local go_sem] max2_int min2_int max_two min_two max_three min_three max_four min_four
set_option linter.unusedVariables false
set_option linter.unusedSimpArgs false
def r1_Same.f (a0_0 : Int) (a0_1 : Int) (a0_2 : ByteArray) (a1_0 : Int) (a1_1 : Int) (a1_2 : ByteArray) : Option (Bool) := if a0_0 = a1_0 then (if a0_1 = a1_1 then (some (a0_2.toList == a1_2.toList)) else (some false)) else (some false)
theorem r1_Same.calls (a0_0 : Int) (a0_1 : Int) (a0_2 : ByteArray) (a1_0 : Int) (a1_1 : Int) (a1_2 : ByteArray) (r : Bool) (w : World) (h : r1_Same.f a0_0 a0_1 a0_2 a1_0 a1_1 a1_2 = some r) :
 Calls Tryz.prog 22 #[.agg #[.int .u8 a0_0, .int .i64 a0_1, .string a0_2], .agg #[.int .u8 a1_0, .int .i64 a1_1, .string a1_2]] w fun e w' => e = .returned (.bool r) ∧ Below w.heap.size w w' := by
 have hu36 := Tryz.underlying36
 have HB := Aside0.mk (Below.refl w.heap.size w)
 have H : (if a0_0 = a1_0 then (if a0_1 = a1_1 then (some (a0_2.toList == a1_2.toList)) else (some false)) else (some false)) = some r := h
 clear h
 by_cases c3 : a0_0 = a1_0
 · rw [if_pos c3] at H
   have c3b0 : (a0_0 == a1_0) = true := beq_iff_eq.mpr c3
   have c3b1 : (a0_0 != a1_0) = false := bne_eq_false_iff_eq.mpr c3
   clear c3
   by_cases c4 : a0_1 = a1_1
   · rw [if_pos c4] at H
     have c4b0 : (a0_1 == a1_1) = true := beq_iff_eq.mpr c4
     have c4b1 : (a0_1 != a1_1) = false := bne_eq_false_iff_eq.mpr c4
     clear c4
     obtain rfl := Option.some.inj H
     go_enter Tryz.func22, Tryz.ntmps22
     go_wp2_with (first | ((with_reducible refine gate_dst (N := 2) rfl ?_); refine box_event ?hg (N := 2) ?hd (cs := #[.int .u8 a0_0, .int .i64 a0_1, .string a0_2]) (t := 36) ?hr ?_; (case hd => rfl); (case hg => rfl); (case hr => first | (go_simp; done) | (go_simp; rfl)); intro gb125 hg w5 hbox hb; have n0_ := Aside0.mk (below_step (by repeat (first | (with_reducible first | exact HB.out | apply bA_ | apply bN_ | apply b1_) | exact HB.out)) hb); have n1_ := Aside0.mk (hbox); have n2_ := Aside0.mk ((by rw [hg]; exact (below_size (by repeat (first | (with_reducible first | exact HB.out | apply bA_ | apply bN_ | apply b1_) | exact HB.out))) : w.heap.size ≤ gb125)); have n3_ := Aside0.mk ((by rw [hg]; exact (below_size (by repeat (first | (with_reducible first | exact HB.out | apply bA_ | apply bN_ | apply b1_) | exact HB.out))) : w.heap.size ≤ gb125)); clear HB; have HB := n0_; have BK125 := n1_; have GW125 := n2_; have GE125 := n3_; clear n0_ n1_ n2_ n3_; clear hb hbox hg) | ((with_reducible refine gate_dst (N := 3) rfl ?_); refine box_event ?hg (N := 3) ?hd (cs := #[.int .u8 a1_0, .int .i64 a1_1, .string a1_2]) (t := 36) ?hr ?_; (case hd => rfl); (case hg => rfl); (case hr => first | (go_simp; done) | (go_simp; rfl)); intro gb126 hg w6 hbox hb; have n0_ := Aside0.mk (blk_below (g := gb125) (o := .cells #[.int .u8 a0_0, .int .i64 a0_1, .string a0_2] 36 (0, 0)) (by (with_reducible repeat (first | refine blk_drewN ?_ _ | refine blk_drew ?_ | refine blk_alloc ?_ _)); exact BK125.out) hb); have n1_ := Aside0.mk (below_step (by repeat (first | (with_reducible first | exact HB.out | apply bA_ | apply bN_ | apply b1_ | refine below_set ?_ GE125.out) | exact HB.out)) hb); have n2_ := Aside0.mk (hbox); have n3_ := Aside0.mk ((by rw [hg]; exact (below_size (by repeat (first | (with_reducible first | exact HB.out | apply bA_ | apply bN_ | apply b1_ | refine below_set ?_ GE125.out) | exact HB.out))) : w.heap.size ≤ gb126)); have n4_ := Aside0.mk ((by rw [hg]; exact (below_size (by repeat (first | (with_reducible first | exact HB.out | apply bA_ | apply bN_ | apply b1_ | refine below_set ?_ GE125.out) | exact HB.out))) : w.heap.size ≤ gb126)); have n5_ := Aside0.mk ((by rw [hg]; exact Nat.ne_of_lt (blk_lt (g := gb125) (o := .cells #[.int .u8 a0_0, .int .i64 a0_1, .string a0_2] 36 (0, 0)) (by (with_reducible repeat (first | refine blk_drewN ?_ _ | refine blk_drew ?_ | refine blk_alloc ?_ _)); exact BK125.out)) : gb125 ≠ gb126)); have n6_ := Aside0.mk ((by rw [hg]; exact Nat.ne_of_gt (blk_lt (g := gb125) (o := .cells #[.int .u8 a0_0, .int .i64 a0_1, .string a0_2] 36 (0, 0)) (by (with_reducible repeat (first | refine blk_drewN ?_ _ | refine blk_drew ?_ | refine blk_alloc ?_ _)); exact BK125.out)) : gb126 ≠ gb125)); clear BK125; clear HB; have BK125 := n0_; have HB := n1_; have BK126 := n2_; have GW126 := n3_; have GE126 := n4_; have NB125_126 := n5_; have NB126_125 := n6_; clear n0_ n1_ n2_ n3_ n4_ n5_ n6_; clear hb hbox hg; have hnb7 := NB125_126.out; have hnc7 := NB126_125.out; have hcz8_0 : w6.cell? ⟨gb125, 0, none⟩ = some (.int .u8 a0_0) := (blk_cell BK125.out 0).trans rfl; have hcz8_1 : w6.cell? ⟨gb125, 1, none⟩ = some (.int .i64 a0_1) := (blk_cell BK125.out 1).trans rfl; have hcz8_2 : w6.cell? ⟨gb125, 2, none⟩ = some (.string a0_2) := (blk_cell BK125.out 2).trans rfl; have hfz8_0 := blk_frozen BK125.out 0; have hfz8_1 := blk_frozen BK125.out 1; have hfz8_2 := blk_frozen BK125.out 2; have hcz9_0 : w6.cell? ⟨gb126, 0, none⟩ = some (.int .u8 a1_0) := (blk_cell BK126.out 0).trans rfl; have hcz9_1 : w6.cell? ⟨gb126, 1, none⟩ = some (.int .i64 a1_1) := (blk_cell BK126.out 1).trans rfl; have hcz9_2 : w6.cell? ⟨gb126, 2, none⟩ = some (.string a1_2) := (blk_cell BK126.out 2).trans rfl; have hfz9_0 := blk_frozen BK126.out 0; have hfz9_1 := blk_frozen BK126.out 1; have hfz9_2 := blk_frozen BK126.out 2))
     go_ret
     exact ⟨by first | rfl | (simp [*, errW_none, errW_some] <;> rfl), by repeat (first | (with_reducible first | exact HB.out | apply bA_ | apply bN_ | apply b1_ | refine below_set ?_ GE125.out | refine below_set ?_ GE126.out) | exact HB.out)⟩
   · rw [if_neg c4] at H
     have c4b0 : (a0_1 == a1_1) = false := beq_eq_false_iff_ne.mpr c4
     have c4b1 : (a0_1 != a1_1) = true := bne_iff_ne.mpr c4
     obtain rfl := Option.some.inj H
     go_enter Tryz.func22, Tryz.ntmps22
     go_wp2_with (first | ((with_reducible refine gate_dst (N := 2) rfl ?_); refine box_event ?hg (N := 2) ?hd (cs := #[.int .u8 a0_0, .int .i64 a0_1, .string a0_2]) (t := 36) ?hr ?_; (case hd => rfl); (case hg => rfl); (case hr => first | (go_simp; done) | (go_simp; rfl)); intro gb125 hg w10 hbox hb; have n0_ := Aside0.mk (below_step (by repeat (first | (with_reducible first | exact HB.out | apply bA_ | apply bN_ | apply b1_) | exact HB.out)) hb); have n1_ := Aside0.mk (hbox); have n2_ := Aside0.mk ((by rw [hg]; exact (below_size (by repeat (first | (with_reducible first | exact HB.out | apply bA_ | apply bN_ | apply b1_) | exact HB.out))) : w.heap.size ≤ gb125)); have n3_ := Aside0.mk ((by rw [hg]; exact (below_size (by repeat (first | (with_reducible first | exact HB.out | apply bA_ | apply bN_ | apply b1_) | exact HB.out))) : w.heap.size ≤ gb125)); clear HB; have HB := n0_; have BK125 := n1_; have GW125 := n2_; have GE125 := n3_; clear n0_ n1_ n2_ n3_; clear hb hbox hg) | ((with_reducible refine gate_dst (N := 3) rfl ?_); refine box_event ?hg (N := 3) ?hd (cs := #[.int .u8 a1_0, .int .i64 a1_1, .string a1_2]) (t := 36) ?hr ?_; (case hd => rfl); (case hg => rfl); (case hr => first | (go_simp; done) | (go_simp; rfl)); intro gb126 hg w11 hbox hb; have n0_ := Aside0.mk (blk_below (g := gb125) (o := .cells #[.int .u8 a0_0, .int .i64 a0_1, .string a0_2] 36 (0, 0)) (by (with_reducible repeat (first | refine blk_drewN ?_ _ | refine blk_drew ?_ | refine blk_alloc ?_ _)); exact BK125.out) hb); have n1_ := Aside0.mk (below_step (by repeat (first | (with_reducible first | exact HB.out | apply bA_ | apply bN_ | apply b1_ | refine below_set ?_ GE125.out) | exact HB.out)) hb); have n2_ := Aside0.mk (hbox); have n3_ := Aside0.mk ((by rw [hg]; exact (below_size (by repeat (first | (with_reducible first | exact HB.out | apply bA_ | apply bN_ | apply b1_ | refine below_set ?_ GE125.out) | exact HB.out))) : w.heap.size ≤ gb126)); have n4_ := Aside0.mk ((by rw [hg]; exact (below_size (by repeat (first | (with_reducible first | exact HB.out | apply bA_ | apply bN_ | apply b1_ | refine below_set ?_ GE125.out) | exact HB.out))) : w.heap.size ≤ gb126)); have n5_ := Aside0.mk ((by rw [hg]; exact Nat.ne_of_lt (blk_lt (g := gb125) (o := .cells #[.int .u8 a0_0, .int .i64 a0_1, .string a0_2] 36 (0, 0)) (by (with_reducible repeat (first | refine blk_drewN ?_ _ | refine blk_drew ?_ | refine blk_alloc ?_ _)); exact BK125.out)) : gb125 ≠ gb126)); have n6_ := Aside0.mk ((by rw [hg]; exact Nat.ne_of_gt (blk_lt (g := gb125) (o := .cells #[.int .u8 a0_0, .int .i64 a0_1, .string a0_2] 36 (0, 0)) (by (with_reducible repeat (first | refine blk_drewN ?_ _ | refine blk_drew ?_ | refine blk_alloc ?_ _)); exact BK125.out)) : gb126 ≠ gb125)); clear BK125; clear HB; have BK125 := n0_; have HB := n1_; have BK126 := n2_; have GW126 := n3_; have GE126 := n4_; have NB125_126 := n5_; have NB126_125 := n6_; clear n0_ n1_ n2_ n3_ n4_ n5_ n6_; clear hb hbox hg; have hnb12 := NB125_126.out; have hnc12 := NB126_125.out; have hcz13_0 : w11.cell? ⟨gb125, 0, none⟩ = some (.int .u8 a0_0) := (blk_cell BK125.out 0).trans rfl; have hcz13_1 : w11.cell? ⟨gb125, 1, none⟩ = some (.int .i64 a0_1) := (blk_cell BK125.out 1).trans rfl; have hcz13_2 : w11.cell? ⟨gb125, 2, none⟩ = some (.string a0_2) := (blk_cell BK125.out 2).trans rfl; have hfz13_0 := blk_frozen BK125.out 0; have hfz13_1 := blk_frozen BK125.out 1; have hfz13_2 := blk_frozen BK125.out 2; have hcz14_0 : w11.cell? ⟨gb126, 0, none⟩ = some (.int .u8 a1_0) := (blk_cell BK126.out 0).trans rfl; have hcz14_1 : w11.cell? ⟨gb126, 1, none⟩ = some (.int .i64 a1_1) := (blk_cell BK126.out 1).trans rfl; have hcz14_2 : w11.cell? ⟨gb126, 2, none⟩ = some (.string a1_2) := (blk_cell BK126.out 2).trans rfl; have hfz14_0 := blk_frozen BK126.out 0; have hfz14_1 := blk_frozen BK126.out 1; have hfz14_2 := blk_frozen BK126.out 2))
     go_ret
     exact ⟨by first | rfl | (simp [*, errW_none, errW_some] <;> rfl), by repeat (first | (with_reducible first | exact HB.out | apply bA_ | apply bN_ | apply b1_ | refine below_set ?_ GE125.out | refine below_set ?_ GE126.out) | exact HB.out)⟩
 · rw [if_neg c3] at H
   have c3b0 : (a0_0 == a1_0) = false := beq_eq_false_iff_ne.mpr c3
   have c3b1 : (a0_0 != a1_0) = true := bne_iff_ne.mpr c3
   obtain rfl := Option.some.inj H
   go_enter Tryz.func22, Tryz.ntmps22
   go_wp2_with (first | ((with_reducible refine gate_dst (N := 2) rfl ?_); refine box_event ?hg (N := 2) ?hd (cs := #[.int .u8 a0_0, .int .i64 a0_1, .string a0_2]) (t := 36) ?hr ?_; (case hd => rfl); (case hg => rfl); (case hr => first | (go_simp; done) | (go_simp; rfl)); intro gb125 hg w15 hbox hb; have n0_ := Aside0.mk (below_step (by repeat (first | (with_reducible first | exact HB.out | apply bA_ | apply bN_ | apply b1_) | exact HB.out)) hb); have n1_ := Aside0.mk (hbox); have n2_ := Aside0.mk ((by rw [hg]; exact (below_size (by repeat (first | (with_reducible first | exact HB.out | apply bA_ | apply bN_ | apply b1_) | exact HB.out))) : w.heap.size ≤ gb125)); have n3_ := Aside0.mk ((by rw [hg]; exact (below_size (by repeat (first | (with_reducible first | exact HB.out | apply bA_ | apply bN_ | apply b1_) | exact HB.out))) : w.heap.size ≤ gb125)); clear HB; have HB := n0_; have BK125 := n1_; have GW125 := n2_; have GE125 := n3_; clear n0_ n1_ n2_ n3_; clear hb hbox hg) | ((with_reducible refine gate_dst (N := 3) rfl ?_); refine box_event ?hg (N := 3) ?hd (cs := #[.int .u8 a1_0, .int .i64 a1_1, .string a1_2]) (t := 36) ?hr ?_; (case hd => rfl); (case hg => rfl); (case hr => first | (go_simp; done) | (go_simp; rfl)); intro gb126 hg w16 hbox hb; have n0_ := Aside0.mk (blk_below (g := gb125) (o := .cells #[.int .u8 a0_0, .int .i64 a0_1, .string a0_2] 36 (0, 0)) (by (with_reducible repeat (first | refine blk_drewN ?_ _ | refine blk_drew ?_ | refine blk_alloc ?_ _)); exact BK125.out) hb); have n1_ := Aside0.mk (below_step (by repeat (first | (with_reducible first | exact HB.out | apply bA_ | apply bN_ | apply b1_ | refine below_set ?_ GE125.out) | exact HB.out)) hb); have n2_ := Aside0.mk (hbox); have n3_ := Aside0.mk ((by rw [hg]; exact (below_size (by repeat (first | (with_reducible first | exact HB.out | apply bA_ | apply bN_ | apply b1_ | refine below_set ?_ GE125.out) | exact HB.out))) : w.heap.size ≤ gb126)); have n4_ := Aside0.mk ((by rw [hg]; exact (below_size (by repeat (first | (with_reducible first | exact HB.out | apply bA_ | apply bN_ | apply b1_ | refine below_set ?_ GE125.out) | exact HB.out))) : w.heap.size ≤ gb126)); have n5_ := Aside0.mk ((by rw [hg]; exact Nat.ne_of_lt (blk_lt (g := gb125) (o := .cells #[.int .u8 a0_0, .int .i64 a0_1, .string a0_2] 36 (0, 0)) (by (with_reducible repeat (first | refine blk_drewN ?_ _ | refine blk_drew ?_ | refine blk_alloc ?_ _)); exact BK125.out)) : gb125 ≠ gb126)); have n6_ := Aside0.mk ((by rw [hg]; exact Nat.ne_of_gt (blk_lt (g := gb125) (o := .cells #[.int .u8 a0_0, .int .i64 a0_1, .string a0_2] 36 (0, 0)) (by (with_reducible repeat (first | refine blk_drewN ?_ _ | refine blk_drew ?_ | refine blk_alloc ?_ _)); exact BK125.out)) : gb126 ≠ gb125)); clear BK125; clear HB; have BK125 := n0_; have HB := n1_; have BK126 := n2_; have GW126 := n3_; have GE126 := n4_; have NB125_126 := n5_; have NB126_125 := n6_; clear n0_ n1_ n2_ n3_ n4_ n5_ n6_; clear hb hbox hg; have hnb17 := NB125_126.out; have hnc17 := NB126_125.out; have hcz18_0 : w16.cell? ⟨gb125, 0, none⟩ = some (.int .u8 a0_0) := (blk_cell BK125.out 0).trans rfl; have hcz18_1 : w16.cell? ⟨gb125, 1, none⟩ = some (.int .i64 a0_1) := (blk_cell BK125.out 1).trans rfl; have hcz18_2 : w16.cell? ⟨gb125, 2, none⟩ = some (.string a0_2) := (blk_cell BK125.out 2).trans rfl; have hfz18_0 := blk_frozen BK125.out 0; have hfz18_1 := blk_frozen BK125.out 1; have hfz18_2 := blk_frozen BK125.out 2; have hcz19_0 : w16.cell? ⟨gb126, 0, none⟩ = some (.int .u8 a1_0) := (blk_cell BK126.out 0).trans rfl; have hcz19_1 : w16.cell? ⟨gb126, 1, none⟩ = some (.int .i64 a1_1) := (blk_cell BK126.out 1).trans rfl; have hcz19_2 : w16.cell? ⟨gb126, 2, none⟩ = some (.string a1_2) := (blk_cell BK126.out 2).trans rfl; have hfz19_0 := blk_frozen BK126.out 0; have hfz19_1 := blk_frozen BK126.out 1; have hfz19_2 := blk_frozen BK126.out 2))
   go_ret
   exact ⟨by first | rfl | (simp [*, errW_none, errW_some] <;> rfl), by repeat (first | (with_reducible first | exact HB.out | apply bA_ | apply bN_ | apply b1_ | refine below_set ?_ GE125.out | refine below_set ?_ GE126.out) | exact HB.out)⟩
def r1_SameRows.l0 : Nat → List (S36) → List (S36) → Int → Option (Bool)
 | 0, _, _, _ => none
 | k + 1, x0, x1, x5 => if x5 < (x0.length : Int) then (if 0 ≤ x5 then (if x5 < (x1.length : Int) then ((r1_Same.f ((rd_T36 x0 x5).f0) ((rd_T36 x0 x5).f1) ((rd_T36 x0 x5).f2) ((rd_T36 x1 x5).f0) ((rd_T36 x1 x5).f1) ((rd_T36 x1 x5).f2)).bind fun t129 => (if t129 = true then (r1_SameRows.l0 k x0 x1 (wrap64 (x5 + 1))) else (some false))) else (none)) else (none)) else (some true)
def r1_SameRows.f (k : Nat) (l0 : List (S36)) (l1 : List (S36)) : Option (Bool) := if (l0.length : Int) = (l1.length : Int) then (r1_SameRows.l0 k l0 l1 0) else (some false)
def r1_SameRows.T6 : Bool × List (List Nat × List Nat) := (true, [([], []), ([], []), ([0, 1], [0, 1]), ([2], [2]), ([], []), ([], []), ([4, 5], [4, 5]), ([6], [6]), ([3, 7], [3, 7]), ([8], [8])])
def r1_SameRows.B6 : List Nat := [0, 0, 3, 7, 0, 0, 48, 112, 255, 511]
theorem r1_SameRows.tab6 : rtab .any (opsOf Tryz.f50 6) = r1_SameRows.T6 := by kernel_rfl
theorem r1_SameRows.bits6 : waitsOk r1_SameRows.T6.2 r1_SameRows.B6 = true := by kernel_rfl
theorem r1_SameRows.calls (k : Nat) (A0 : Option Addr) (c0 : Nat) (l0 : List (S36)) (A1 : Option Addr) (c1 : Nat) (l1 : List (S36)) (r : Bool) (w : World) (hr0 : Kd.C k36 w A0 l0.length l0) (hc0 : l0.length ≤ c0) (hr1 : Kd.C k36 w A1 l1.length l1) (hc1 : l1.length ≤ c1) (h : r1_SameRows.f k l0 l1 = some r) :
 Calls Tryz.prog 50 #[.slice A0 l0.length c0, .slice A1 l1.length c1] w fun e w' => e = .returned (.bool r) ∧ Below w.heap.size w w' := by
 have hu36 := Tryz.underlying36
 have HR0 := Aside0.mk hr0
 have HC0 := Aside0.mk hc0
 clear hr0 hc0
 have HR1 := Aside0.mk hr1
 have HC1 := Aside0.mk hc1
 clear hr1 hc1
 have HB := Aside0.mk (Below.refl w.heap.size w)
 have H : (if (l0.length : Int) = (l1.length : Int) then (r1_SameRows.l0 k l0 l1 0) else (some false)) = some r := h
 clear h
 by_cases c3 : (l0.length : Int) = (l1.length : Int)
 · rw [if_pos c3] at H
   have c3b0 : ((l0.length : Int) == (l1.length : Int)) = true := beq_iff_eq.mpr c3
   have c3b1 : ((l0.length : Int) != (l1.length : Int)) = false := bne_eq_false_iff_eq.mpr c3
   have c3b2 : (l0.length == l1.length) = true := by first | simpa using c3 | (simp at c3 ⊢; omega)
   clear c3
   have H' := Aside0.mk H
   clear H
   go_enter Tryz.func50, Tryz.ntmps50
   go_wp2
   go_loopg [5] k (fun kq v5 w' => ∃ (x5_1 : Int), v5 = .int .i64 x5_1 ∧ Aside0 (r1_SameRows.l0 kq l0 l1 x5_1 = some r) ∧ Aside0 (kq ≤ k) ∧ Aside0 (Below w.heap.size w w'))
   case atStart => exact ⟨(0), (by first | rfl | (simp; done) | (simp [*]; done)), H', ⟨Nat.le_refl _⟩, ⟨by repeat (first | (with_reducible first | exact HB.out | apply bA_ | apply bN_ | apply b1_) | exact HB.out)⟩⟩
   case round =>
    clear H'
    try clear c1
    try clear p2
    try clear c3
    try clear c3b0
    try clear c3b1
    try clear c3b2
    obtain ⟨x5_1, rfl, HA, HK1, HB⟩ := hrel
    cases gk with
    | zero => exact absurd HA.out (by simp [r1_SameRows.l0])
    | succ k1 =>
     have H := HA.out
     clear HA
     simp only [r1_SameRows.l0] at H
     by_cases c4 : x5_1 < (l0.length : Int)
     · rw [if_pos c4] at H
       have c4b0 : decide (x5_1 < (l0.length : Int)) = true := dT_ c4
       clear c4
       by_cases c5 : 0 ≤ x5_1
       · rw [if_pos c5] at H
         have c5b0 : decide (0 ≤ x5_1) = true := dT_ c5
         clear c5
         by_cases c6 : x5_1 < (l1.length : Int)
         · rw [if_pos c6] at H
           have c6b0 : decide (x5_1 < (l1.length : Int)) = true := dT_ c6
           clear c6
           replace H := Option.bind_eq_some_iff.mp H
           obtain ⟨t129, A70, H⟩ := H
           replace H : (if t129 = true then (r1_SameRows.l0 k1 l0 l1 (wrap64 (x5_1 + 1))) else (some false)) = some r := H
           have A7 := Aside0.mk A70
           clear A70
           by_cases c8 : t129 = true
           · subst c8
             have H1 : (r1_SameRows.l0 k1 l0 l1 (wrap64 (x5_1 + 1))) = some r := by rw [if_pos rfl] at H; exact H
             clear H
             have H := H1
             clear H1
             have H' := Aside0.mk H
             clear H
             try go_wp2
             have n0_ := Aside0.mk (b1_ HB.out)
             clear HB
             have HB := n0_
             clear n0_
             have p127 : 0 ≤ (x5_1 : Int) := oT_ (by assumption)
             have q127 : x5_1 < (l0.length : Int) := oT_ (by assumption)
             obtain ⟨ad127, e127, hx127_0, hx127_1, hx127_2⟩ := at_T36 HR0.out x5_1 p127 q127
             have hw127_2 := hx127_2
             have hw127_1 := hx127_1
             have hw127_0 := hx127_0
             cases e127
             replace hx127_0 := (HB.out.cell (bLC_ w _ hx127_0)).trans hx127_0
             replace hx127_1 := (HB.out.cell (bLC_ w _ hx127_1)).trans hx127_1
             replace hx127_2 := (HB.out.cell (bLC_ w _ hx127_2)).trans hx127_2
             replace p127 := eq_true p127
             replace q127 := eq_true q127
             have p128 : 0 ≤ (x5_1 : Int) := oT_ (by assumption)
             have q128 : x5_1 < (l1.length : Int) := oT_ (by assumption)
             obtain ⟨ad128, e128, hx128_0, hx128_1, hx128_2⟩ := at_T36 HR1.out x5_1 p128 q128
             have hw128_2 := hx128_2
             have hw128_1 := hx128_1
             have hw128_0 := hx128_0
             cases e128
             replace hx128_0 := (HB.out.cell (bLC_ w _ hx128_0)).trans hx128_0
             replace hx128_1 := (HB.out.cell (bLC_ w _ hx128_1)).trans hx128_1
             replace hx128_2 := (HB.out.cell (bLC_ w _ hx128_2)).trans hx128_2
             replace p128 := eq_true p128
             replace q128 := eq_true q128
             refine start_ (n := 10) (S := fun w' => w'.cell? (ad127.add ((x5_1).toNat * 3)) = some (.int .u8 ((rd_T36 l0 x5_1).f0)) ∧ w'.cell? ⟨(ad127.add ((x5_1).toNat * 3)).block, (ad127.add ((x5_1).toNat * 3)).off + 1, none⟩ = some (.int .i64 ((rd_T36 l0 x5_1).f1)) ∧ w'.cell? ⟨(ad127.add ((x5_1).toNat * 3)).block, (ad127.add ((x5_1).toNat * 3)).off + 2, none⟩ = some (.string ((rd_T36 l0 x5_1).f2)) ∧ w'.cell? (ad128.add ((x5_1).toNat * 3)) = some (.int .u8 ((rd_T36 l1 x5_1).f0)) ∧ w'.cell? ⟨(ad128.add ((x5_1).toNat * 3)).block, (ad128.add ((x5_1).toNat * 3)).off + 1, none⟩ = some (.int .i64 ((rd_T36 l1 x5_1).f1)) ∧ w'.cell? ⟨(ad128.add ((x5_1).toNat * 3)).block, (ad128.add ((x5_1).toNat * 3)).off + 2, none⟩ = some (.string ((rd_T36 l1 x5_1).f2))) (ds := []) #[X_,X_,X_,X_,X_,X_,X_,X_,X_,X_] (by kernel_rfl) rfl rfl ⟨((HB.out.cell (bLC_ w _ hw127_0)).trans hw127_0), ((HB.out.cell (bLC_ w _ hw127_1)).trans hw127_1), ((HB.out.cell (bLC_ w _ hw127_2)).trans hw127_2), ((HB.out.cell (bLC_ w _ hw128_0)).trans hw128_0), ((HB.out.cell (bLC_ w _ hw128_1)).trans hw128_1), ((HB.out.cell (bLC_ w _ hw128_2)).trans hw128_2)⟩ (fun hHeld => ?_); refine with_tabW r1_SameRows.tab6 r1_SameRows.bits6 (fun HT_ HW_ => ?_)
             generalize wr.drew = w9 at HB hx127_0 hx127_1 hx127_2 hx128_0 hx128_1 hx128_2 hHeld ⊢
             refine pure_ (i := 0) (N := some 17) (v := ?_) (a' := ?_) #[Y_,X_,X_,X_,X_,X_,X_,X_,X_,X_] rfl rfl (any_of HT_.out (by kernel_rfl)) (fun _ _ _ h => h) (Or.inl ⟨by rfl, ?_⟩) ?_ ?_
             rotate_left
             · intro w'
               go_simp
               with_reducible rfl
             rotate_left
             · simp only [Act.put, sTA_, sCZ_, sCS_, i64_w, i32_w]
               rfl
             refine pure_ (i := 1) (N := some 18) (v := ?_) (a' := ?_) #[Y_,Y_,X_,X_,X_,X_,X_,X_,X_,X_] rfl rfl (any_of HT_.out (by kernel_rfl)) (fun _ _ _ h => h) (Or.inl ⟨by rfl, ?_⟩) ?_ ?_
             rotate_left
             · intro w'
               go_simp
               with_reducible rfl
             rotate_left
             · simp only [Act.put, sTA_, sCZ_, sCS_, i64_w, i32_w]
               rfl
             refine pure_ (i := 2) (N := some 19) (v := ?_) (a' := ?_) #[Y_,Y_,Y_,X_,X_,X_,X_,X_,X_,X_] rfl rfl (any_of HT_.out (by kernel_rfl)) (fun _ _ _ h => h) (Or.inl ⟨by rfl, ?_⟩) ?_ ?_
             rotate_left
             · intro w'
               go_simp
               with_reducible rfl
             rotate_left
             · simp only [Act.put, sTA_, sCZ_, sCS_, i64_w, i32_w]
               rfl
             refine pure_ (i := 4) (N := some 21) (v := ?_) (a' := ?_) #[Y_,Y_,Y_,X_,Y_,X_,X_,X_,X_,X_] rfl rfl (any_of HT_.out (by kernel_rfl)) (fun _ _ _ h => h) (Or.inl ⟨by rfl, ?_⟩) ?_ ?_
             rotate_left
             · intro w'
               go_simp
               with_reducible rfl
             rotate_left
             · simp only [Act.put, sTA_, sCZ_, sCS_, i64_w, i32_w]
               rfl
             refine pure_ (i := 5) (N := some 22) (v := ?_) (a' := ?_) #[Y_,Y_,Y_,X_,Y_,Y_,X_,X_,X_,X_] rfl rfl (any_of HT_.out (by kernel_rfl)) (fun _ _ _ h => h) (Or.inl ⟨by rfl, ?_⟩) ?_ ?_
             rotate_left
             · intro w'
               go_simp
               with_reducible rfl
             rotate_left
             · simp only [Act.put, sTA_, sCZ_, sCS_, i64_w, i32_w]
               rfl
             refine pure_ (i := 6) (N := some 23) (v := ?_) (a' := ?_) #[Y_,Y_,Y_,X_,Y_,Y_,Y_,X_,X_,X_] rfl rfl (any_of HT_.out (by kernel_rfl)) (fun _ _ _ h => h) (Or.inl ⟨by rfl, ?_⟩) ?_ ?_
             rotate_left
             · intro w'
               go_simp
               with_reducible rfl
             rotate_left
             · simp only [Act.put, sTA_, sCZ_, sCS_, i64_w, i32_w]
               rfl
             refine take_ (i := 3) (N := some 20) (v := ?_) (a' := ?_) #[Y_,Y_,Y_,Y_,Y_,Y_,Y_,X_,X_,X_] rfl rfl (take_ofW HT_.out HW_.out (by kernel_rfl)) (fun _ _ _ h => h) (Or.inl ⟨by rfl, ?_⟩) hHeld ?_ ?_
             rotate_left
             · rintro w' ⟨s0, s1, s2, s3, s4, s5⟩
               go_simp
               with_reducible rfl
             rotate_left
             · simp only [Act.put, sTA_, sCZ_, sCS_, i64_w, i32_w]
               rfl
             refine take_ (i := 7) (N := some 24) (v := ?_) (a' := ?_) #[Y_,Y_,Y_,Y_,Y_,Y_,Y_,Y_,X_,X_] rfl rfl (take_ofW HT_.out HW_.out (by kernel_rfl)) (fun _ _ _ h => h) (Or.inl ⟨by rfl, ?_⟩) hHeld ?_ ?_
             rotate_left
             · rintro w' ⟨s0, s1, s2, s3, s4, s5⟩
               go_simp
               with_reducible rfl
             rotate_left
             · simp only [Act.put, sTA_, sCZ_, sCS_, i64_w, i32_w]
               rfl
             refine one_ (i := 8) (N := some 25) #[Y_,Y_,Y_,Y_,Y_,Y_,Y_,Y_,Y_,X_] rfl rfl (one_of HT_.out (by kernel_rfl)) (by decide) (fun K hK => ?_)
             refine goes_ Tryz.func22 (by kernel_rfl) rfl #[.agg #[.int .u8 ((rd_T36 l0 x5_1).f0), .int .i64 ((rd_T36 l0 x5_1).f1), .string ((rd_T36 l0 x5_1).f2)], .agg #[.int .u8 ((rd_T36 l1 x5_1).f0), .int .i64 ((rd_T36 l1 x5_1).f1), .string ((rd_T36 l1 x5_1).f2)]] (by rfl) rfl rfl (by (try simp only [List.map_toArray, List.map_cons, List.map_nil]); first | done | rfl | (simp only [List.length_drop, List.length_take]; rfl)) ?_
             with_reducible refine (r1_Same.calls ((rd_T36 l0 x5_1).f0) ((rd_T36 l0 x5_1).f1) ((rd_T36 l0 x5_1).f2) ((rd_T36 l1 x5_1).f0) ((rd_T36 l1 x5_1).f1) ((rd_T36 l1 x5_1).f2) true _ A7.out).mono ?_
             rintro e w10 ⟨rfl, hb⟩
             refine ⟨_, rfl, ?_⟩
             have n0_ := Aside0.mk (below_step (by repeat (first | (with_reducible first | exact HB.out | apply bA_ | apply bN_ | apply b1_) | exact HB.out)) hb)
             clear HB
             have HB := n0_
             clear n0_
             (try clear hb)
             (try clear hb2)
             (try clear hk)
             (try clear hi)
             refine hK.out _ _ ⟨((HB.out.cell (bLC_ w _ hw127_0)).trans hw127_0), ((HB.out.cell (bLC_ w _ hw127_1)).trans hw127_1), ((HB.out.cell (bLC_ w _ hw127_2)).trans hw127_2), ((HB.out.cell (bLC_ w _ hw128_0)).trans hw128_0), ((HB.out.cell (bLC_ w _ hw128_1)).trans hw128_1), ((HB.out.cell (bLC_ w _ hw128_2)).trans hw128_2)⟩ (fun hHeld => ?_)
             clear hK K
             refine norm_ (a' := ?_) ?_ ?_
             rotate_left
             · show Act.put _ (some 25) _ = _
               simp only [Act.put, sTA_, sCZ_, sCS_, i64_w, i32_w]
               rfl
             refine pure_ (i := 9) (N := some 26) (v := ?_) (a' := ?_) #[Y_,Y_,Y_,Y_,Y_,Y_,Y_,Y_,Y_,Y_] rfl rfl (any_of HT_.out (by kernel_rfl)) (fun _ _ _ h => h) (Or.inl ⟨by rfl, ?_⟩) ?_ ?_
             rotate_left
             · intro w'
               go_simp
               with_reducible rfl
             rotate_left
             · simp only [Act.put, sTA_, sCZ_, sCS_, i64_w, i32_w]
               rfl
             refine done_ (done_of HT_.out (by kernel_rfl)) ?_
             try go_wp2
             go_roundg k1
             case measure => have := HK1.out; omega
             case rel => exact ⟨(wrap64 (x5_1 + 1)), (by first | rfl | (simp; done) | (simp [*]; done)), H', ⟨by have := HK1.out; omega⟩, ⟨by repeat (first | (with_reducible first | exact HB.out | apply bA_ | apply bN_ | apply b1_) | exact HB.out)⟩⟩
           · replace c8 := Bool.eq_false_iff.mpr c8
             subst c8
             have H1 : (some false) = some r := by rw [if_neg (show ¬ (false = true) by decide)] at H; exact H
             clear H
             have H := H1
             clear H1
             obtain rfl := Option.some.inj H
             try go_wp2
             have n0_ := Aside0.mk (b1_ HB.out)
             clear HB
             have HB := n0_
             clear n0_
             have p127 : 0 ≤ (x5_1 : Int) := oT_ (by assumption)
             have q127 : x5_1 < (l0.length : Int) := oT_ (by assumption)
             obtain ⟨ad127, e127, hx127_0, hx127_1, hx127_2⟩ := at_T36 HR0.out x5_1 p127 q127
             have hw127_2 := hx127_2
             have hw127_1 := hx127_1
             have hw127_0 := hx127_0
             cases e127
             replace hx127_0 := (HB.out.cell (bLC_ w _ hx127_0)).trans hx127_0
             replace hx127_1 := (HB.out.cell (bLC_ w _ hx127_1)).trans hx127_1
             replace hx127_2 := (HB.out.cell (bLC_ w _ hx127_2)).trans hx127_2
             replace p127 := eq_true p127
             replace q127 := eq_true q127
             have p128 : 0 ≤ (x5_1 : Int) := oT_ (by assumption)
             have q128 : x5_1 < (l1.length : Int) := oT_ (by assumption)
             obtain ⟨ad128, e128, hx128_0, hx128_1, hx128_2⟩ := at_T36 HR1.out x5_1 p128 q128
             have hw128_2 := hx128_2
             have hw128_1 := hx128_1
             have hw128_0 := hx128_0
             cases e128
             replace hx128_0 := (HB.out.cell (bLC_ w _ hx128_0)).trans hx128_0
             replace hx128_1 := (HB.out.cell (bLC_ w _ hx128_1)).trans hx128_1
             replace hx128_2 := (HB.out.cell (bLC_ w _ hx128_2)).trans hx128_2
             replace p128 := eq_true p128
             replace q128 := eq_true q128
             refine start_ (n := 10) (S := fun w' => w'.cell? (ad127.add ((x5_1).toNat * 3)) = some (.int .u8 ((rd_T36 l0 x5_1).f0)) ∧ w'.cell? ⟨(ad127.add ((x5_1).toNat * 3)).block, (ad127.add ((x5_1).toNat * 3)).off + 1, none⟩ = some (.int .i64 ((rd_T36 l0 x5_1).f1)) ∧ w'.cell? ⟨(ad127.add ((x5_1).toNat * 3)).block, (ad127.add ((x5_1).toNat * 3)).off + 2, none⟩ = some (.string ((rd_T36 l0 x5_1).f2)) ∧ w'.cell? (ad128.add ((x5_1).toNat * 3)) = some (.int .u8 ((rd_T36 l1 x5_1).f0)) ∧ w'.cell? ⟨(ad128.add ((x5_1).toNat * 3)).block, (ad128.add ((x5_1).toNat * 3)).off + 1, none⟩ = some (.int .i64 ((rd_T36 l1 x5_1).f1)) ∧ w'.cell? ⟨(ad128.add ((x5_1).toNat * 3)).block, (ad128.add ((x5_1).toNat * 3)).off + 2, none⟩ = some (.string ((rd_T36 l1 x5_1).f2))) (ds := []) #[X_,X_,X_,X_,X_,X_,X_,X_,X_,X_] (by kernel_rfl) rfl rfl ⟨((HB.out.cell (bLC_ w _ hw127_0)).trans hw127_0), ((HB.out.cell (bLC_ w _ hw127_1)).trans hw127_1), ((HB.out.cell (bLC_ w _ hw127_2)).trans hw127_2), ((HB.out.cell (bLC_ w _ hw128_0)).trans hw128_0), ((HB.out.cell (bLC_ w _ hw128_1)).trans hw128_1), ((HB.out.cell (bLC_ w _ hw128_2)).trans hw128_2)⟩ (fun hHeld => ?_); refine with_tabW r1_SameRows.tab6 r1_SameRows.bits6 (fun HT_ HW_ => ?_)
             generalize wr.drew = w11 at HB hx127_0 hx127_1 hx127_2 hx128_0 hx128_1 hx128_2 hHeld ⊢
             refine pure_ (i := 0) (N := some 17) (v := ?_) (a' := ?_) #[Y_,X_,X_,X_,X_,X_,X_,X_,X_,X_] rfl rfl (any_of HT_.out (by kernel_rfl)) (fun _ _ _ h => h) (Or.inl ⟨by rfl, ?_⟩) ?_ ?_
             rotate_left
             · intro w'
               go_simp
               with_reducible rfl
             rotate_left
             · simp only [Act.put, sTA_, sCZ_, sCS_, i64_w, i32_w]
               rfl
             refine pure_ (i := 1) (N := some 18) (v := ?_) (a' := ?_) #[Y_,Y_,X_,X_,X_,X_,X_,X_,X_,X_] rfl rfl (any_of HT_.out (by kernel_rfl)) (fun _ _ _ h => h) (Or.inl ⟨by rfl, ?_⟩) ?_ ?_
             rotate_left
             · intro w'
               go_simp
               with_reducible rfl
             rotate_left
             · simp only [Act.put, sTA_, sCZ_, sCS_, i64_w, i32_w]
               rfl
             refine pure_ (i := 2) (N := some 19) (v := ?_) (a' := ?_) #[Y_,Y_,Y_,X_,X_,X_,X_,X_,X_,X_] rfl rfl (any_of HT_.out (by kernel_rfl)) (fun _ _ _ h => h) (Or.inl ⟨by rfl, ?_⟩) ?_ ?_
             rotate_left
             · intro w'
               go_simp
               with_reducible rfl
             rotate_left
             · simp only [Act.put, sTA_, sCZ_, sCS_, i64_w, i32_w]
               rfl
             refine pure_ (i := 4) (N := some 21) (v := ?_) (a' := ?_) #[Y_,Y_,Y_,X_,Y_,X_,X_,X_,X_,X_] rfl rfl (any_of HT_.out (by kernel_rfl)) (fun _ _ _ h => h) (Or.inl ⟨by rfl, ?_⟩) ?_ ?_
             rotate_left
             · intro w'
               go_simp
               with_reducible rfl
             rotate_left
             · simp only [Act.put, sTA_, sCZ_, sCS_, i64_w, i32_w]
               rfl
             refine pure_ (i := 5) (N := some 22) (v := ?_) (a' := ?_) #[Y_,Y_,Y_,X_,Y_,Y_,X_,X_,X_,X_] rfl rfl (any_of HT_.out (by kernel_rfl)) (fun _ _ _ h => h) (Or.inl ⟨by rfl, ?_⟩) ?_ ?_
             rotate_left
             · intro w'
               go_simp
               with_reducible rfl
             rotate_left
             · simp only [Act.put, sTA_, sCZ_, sCS_, i64_w, i32_w]
               rfl
             refine pure_ (i := 6) (N := some 23) (v := ?_) (a' := ?_) #[Y_,Y_,Y_,X_,Y_,Y_,Y_,X_,X_,X_] rfl rfl (any_of HT_.out (by kernel_rfl)) (fun _ _ _ h => h) (Or.inl ⟨by rfl, ?_⟩) ?_ ?_
             rotate_left
             · intro w'
               go_simp
               with_reducible rfl
             rotate_left
             · simp only [Act.put, sTA_, sCZ_, sCS_, i64_w, i32_w]
               rfl
             refine take_ (i := 3) (N := some 20) (v := ?_) (a' := ?_) #[Y_,Y_,Y_,Y_,Y_,Y_,Y_,X_,X_,X_] rfl rfl (take_ofW HT_.out HW_.out (by kernel_rfl)) (fun _ _ _ h => h) (Or.inl ⟨by rfl, ?_⟩) hHeld ?_ ?_
             rotate_left
             · rintro w' ⟨s0, s1, s2, s3, s4, s5⟩
               go_simp
               with_reducible rfl
             rotate_left
             · simp only [Act.put, sTA_, sCZ_, sCS_, i64_w, i32_w]
               rfl
             refine take_ (i := 7) (N := some 24) (v := ?_) (a' := ?_) #[Y_,Y_,Y_,Y_,Y_,Y_,Y_,Y_,X_,X_] rfl rfl (take_ofW HT_.out HW_.out (by kernel_rfl)) (fun _ _ _ h => h) (Or.inl ⟨by rfl, ?_⟩) hHeld ?_ ?_
             rotate_left
             · rintro w' ⟨s0, s1, s2, s3, s4, s5⟩
               go_simp
               with_reducible rfl
             rotate_left
             · simp only [Act.put, sTA_, sCZ_, sCS_, i64_w, i32_w]
               rfl
             refine one_ (i := 8) (N := some 25) #[Y_,Y_,Y_,Y_,Y_,Y_,Y_,Y_,Y_,X_] rfl rfl (one_of HT_.out (by kernel_rfl)) (by decide) (fun K hK => ?_)
             refine goes_ Tryz.func22 (by kernel_rfl) rfl #[.agg #[.int .u8 ((rd_T36 l0 x5_1).f0), .int .i64 ((rd_T36 l0 x5_1).f1), .string ((rd_T36 l0 x5_1).f2)], .agg #[.int .u8 ((rd_T36 l1 x5_1).f0), .int .i64 ((rd_T36 l1 x5_1).f1), .string ((rd_T36 l1 x5_1).f2)]] (by rfl) rfl rfl (by (try simp only [List.map_toArray, List.map_cons, List.map_nil]); first | done | rfl | (simp only [List.length_drop, List.length_take]; rfl)) ?_
             with_reducible refine (r1_Same.calls ((rd_T36 l0 x5_1).f0) ((rd_T36 l0 x5_1).f1) ((rd_T36 l0 x5_1).f2) ((rd_T36 l1 x5_1).f0) ((rd_T36 l1 x5_1).f1) ((rd_T36 l1 x5_1).f2) false _ A7.out).mono ?_
             rintro e w12 ⟨rfl, hb⟩
             refine ⟨_, rfl, ?_⟩
             have n0_ := Aside0.mk (below_step (by repeat (first | (with_reducible first | exact HB.out | apply bA_ | apply bN_ | apply b1_) | exact HB.out)) hb)
             clear HB
             have HB := n0_
             clear n0_
             (try clear hb)
             (try clear hb2)
             (try clear hk)
             (try clear hi)
             refine hK.out _ _ ⟨((HB.out.cell (bLC_ w _ hw127_0)).trans hw127_0), ((HB.out.cell (bLC_ w _ hw127_1)).trans hw127_1), ((HB.out.cell (bLC_ w _ hw127_2)).trans hw127_2), ((HB.out.cell (bLC_ w _ hw128_0)).trans hw128_0), ((HB.out.cell (bLC_ w _ hw128_1)).trans hw128_1), ((HB.out.cell (bLC_ w _ hw128_2)).trans hw128_2)⟩ (fun hHeld => ?_)
             clear hK K
             refine norm_ (a' := ?_) ?_ ?_
             rotate_left
             · show Act.put _ (some 25) _ = _
               simp only [Act.put, sTA_, sCZ_, sCS_, i64_w, i32_w]
               rfl
             refine pure_ (i := 9) (N := some 26) (v := ?_) (a' := ?_) #[Y_,Y_,Y_,Y_,Y_,Y_,Y_,Y_,Y_,Y_] rfl rfl (any_of HT_.out (by kernel_rfl)) (fun _ _ _ h => h) (Or.inl ⟨by rfl, ?_⟩) ?_ ?_
             rotate_left
             · intro w'
               go_simp
               with_reducible rfl
             rotate_left
             · simp only [Act.put, sTA_, sCZ_, sCS_, i64_w, i32_w]
               rfl
             refine done_ (done_of HT_.out (by kernel_rfl)) ?_
             try go_wp2
             go_ret
             exact ⟨by first | rfl | (simp [*, errW_none, errW_some] <;> rfl), by repeat (first | (with_reducible first | exact HB.out | apply bA_ | apply bN_ | apply b1_) | exact HB.out)⟩
         · rw [if_neg c6] at H
           exact absurd H (by simp)
       · rw [if_neg c5] at H
         exact absurd H (by simp)
     · rw [if_neg c4] at H
       have c4b0 : decide (x5_1 < (l0.length : Int)) = false := dF_ c4
       clear c4
       obtain rfl := Option.some.inj H
       go_wp2
       go_ret
       exact ⟨by first | rfl | (simp [*, errW_none, errW_some] <;> rfl), by repeat (first | (with_reducible first | exact HB.out | apply bA_ | apply bN_ | apply b1_) | exact HB.out)⟩
 · rw [if_neg c3] at H
   have c3b0 : ((l0.length : Int) == (l1.length : Int)) = false := beq_eq_false_iff_ne.mpr c3
   have c3b1 : ((l0.length : Int) != (l1.length : Int)) = true := bne_iff_ne.mpr c3
   have c3b2 : (l0.length == l1.length) = false := by first | simpa using c3 | (simp at c3 ⊢; omega)
   obtain rfl := Option.some.inj H
   go_enter Tryz.func50, Tryz.ntmps50
   go_wp2
   go_ret
   exact ⟨by first | rfl | (simp [*, errW_none, errW_some] <;> rfl), by repeat (first | (with_reducible first | exact HB.out | apply bA_ | apply bN_ | apply b1_) | exact HB.out)⟩
def r6_SameLists.l0 : Nat → List (List (S36)) → List (List (S36)) → Int → Option (Bool)
 | 0, _, _, _ => none
 | k + 1, x0, x1, x5 => if x5 < (x0.length : Int) then (if 0 ≤ x5 then (if x5 < (x1.length : Int) then ((r1_SameRows.f k (rd_L4 x0 x5) (rd_L4 x1 x5)).bind fun t132 => (if t132 = true then (r6_SameLists.l0 k x0 x1 (wrap64 (x5 + 1))) else (some false))) else (none)) else (none)) else (some true)
def r6_SameLists.f (k : Nat) (l0 : List (List (S36))) (l1 : List (List (S36))) : Option (Bool) := if (l0.length : Int) = (l1.length : Int) then (r6_SameLists.l0 k l0 l1 0) else (some false)
def r6_SameLists.T6 : Bool × List (List Nat × List Nat) := (true, [([], []), ([], []), ([0, 1], [0, 1]), ([2], [2]), ([], []), ([], []), ([4, 5], [4, 5]), ([6], [6]), ([3, 7], [3, 7]), ([8], [8])])
def r6_SameLists.B6 : List Nat := [0, 0, 3, 7, 0, 0, 48, 112, 255, 511]
theorem r6_SameLists.tab6 : rtab .any (opsOf Tryz.f19 6) = r6_SameLists.T6 := by kernel_rfl
theorem r6_SameLists.bits6 : waitsOk r6_SameLists.T6.2 r6_SameLists.B6 = true := by kernel_rfl
theorem r6_SameLists.calls (k : Nat) (A0 : Option Addr) (c0 : Nat) (l0 : List (List (S36))) (A1 : Option Addr) (c1 : Nat) (l1 : List (List (S36))) (r : Bool) (w : World) (hr0 : Kd.C (Kd.slice 36 k36) w A0 l0.length l0) (hc0 : l0.length ≤ c0) (hr1 : Kd.C (Kd.slice 36 k36) w A1 l1.length l1) (hc1 : l1.length ≤ c1) (h : r6_SameLists.f k l0 l1 = some r) :
 Calls Tryz.prog 19 #[.slice A0 l0.length c0, .slice A1 l1.length c1] w fun e w' => e = .returned (.bool r) ∧ Below w.heap.size w w' := by
 have HR0 := Aside0.mk hr0
 have HC0 := Aside0.mk hc0
 clear hr0 hc0
 have HR1 := Aside0.mk hr1
 have HC1 := Aside0.mk hc1
 clear hr1 hc1
 have HB := Aside0.mk (Below.refl w.heap.size w)
 have H : (if (l0.length : Int) = (l1.length : Int) then (r6_SameLists.l0 k l0 l1 0) else (some false)) = some r := h
 clear h
 by_cases c3 : (l0.length : Int) = (l1.length : Int)
 · rw [if_pos c3] at H
   have c3b0 : ((l0.length : Int) == (l1.length : Int)) = true := beq_iff_eq.mpr c3
   have c3b1 : ((l0.length : Int) != (l1.length : Int)) = false := bne_eq_false_iff_eq.mpr c3
   have c3b2 : (l0.length == l1.length) = true := by first | simpa using c3 | (simp at c3 ⊢; omega)
   clear c3
   have H' := Aside0.mk H
   clear H
   go_enter Tryz.func19, Tryz.ntmps19
   go_wp2
   go_loopg [5] k (fun kq v5 w' => ∃ (x5_1 : Int), v5 = .int .i64 x5_1 ∧ Aside0 (r6_SameLists.l0 kq l0 l1 x5_1 = some r) ∧ Aside0 (kq ≤ k) ∧ Aside0 (Below w.heap.size w w'))
   case atStart => exact ⟨(0), (by first | rfl | (simp; done) | (simp [*]; done)), H', ⟨Nat.le_refl _⟩, ⟨by repeat (first | (with_reducible first | exact HB.out | apply bA_ | apply bN_ | apply b1_) | exact HB.out)⟩⟩
   case round =>
    clear H'
    try clear c1
    try clear p2
    try clear c3
    try clear c3b0
    try clear c3b1
    try clear c3b2
    obtain ⟨x5_1, rfl, HA, HK1, HB⟩ := hrel
    cases gk with
    | zero => exact absurd HA.out (by simp [r6_SameLists.l0])
    | succ k1 =>
     have H := HA.out
     clear HA
     simp only [r6_SameLists.l0] at H
     by_cases c4 : x5_1 < (l0.length : Int)
     · rw [if_pos c4] at H
       have c4b0 : decide (x5_1 < (l0.length : Int)) = true := dT_ c4
       clear c4
       by_cases c5 : 0 ≤ x5_1
       · rw [if_pos c5] at H
         have c5b0 : decide (0 ≤ x5_1) = true := dT_ c5
         clear c5
         by_cases c6 : x5_1 < (l1.length : Int)
         · rw [if_pos c6] at H
           have c6b0 : decide (x5_1 < (l1.length : Int)) = true := dT_ c6
           clear c6
           replace H := Option.bind_eq_some_iff.mp H
           obtain ⟨t132, A70, H⟩ := H
           replace H : (if t132 = true then (r6_SameLists.l0 k1 l0 l1 (wrap64 (x5_1 + 1))) else (some false)) = some r := H
           have A7 := Aside0.mk A70
           clear A70
           by_cases c8 : t132 = true
           · subst c8
             have H1 : (r6_SameLists.l0 k1 l0 l1 (wrap64 (x5_1 + 1))) = some r := by rw [if_pos rfl] at H; exact H
             clear H
             have H := H1
             clear H1
             have H' := Aside0.mk H
             clear H
             try go_wp2
             have n0_ := Aside0.mk (b1_ HB.out)
             clear HB
             have HB := n0_
             clear n0_
             have p130 : 0 ≤ (x5_1 : Int) := oT_ (by assumption)
             have q130 : x5_1 < (l0.length : Int) := oT_ (by assumption)
             obtain ⟨ad130, A130_0, c130_0, e130, hx130_0, hl130_0, hi130_0⟩ := at_L4 HR0.out x5_1 p130 q130
             have hw130_0 := hx130_0
             cases e130
             replace hx130_0 := (HB.out.cell (bLC_ w _ hx130_0)).trans hx130_0
             have HR130_0 := Aside0.mk hi130_0
             have HC130_0 := Aside0.mk hl130_0
             clear hi130_0 hl130_0
             replace p130 := eq_true p130
             replace q130 := eq_true q130
             have p131 : 0 ≤ (x5_1 : Int) := oT_ (by assumption)
             have q131 : x5_1 < (l1.length : Int) := oT_ (by assumption)
             obtain ⟨ad131, A131_0, c131_0, e131, hx131_0, hl131_0, hi131_0⟩ := at_L4 HR1.out x5_1 p131 q131
             have hw131_0 := hx131_0
             cases e131
             replace hx131_0 := (HB.out.cell (bLC_ w _ hx131_0)).trans hx131_0
             have HR131_0 := Aside0.mk hi131_0
             have HC131_0 := Aside0.mk hl131_0
             clear hi131_0 hl131_0
             replace p131 := eq_true p131
             replace q131 := eq_true q131
             refine start_ (n := 10) (S := fun w' => w'.cell? (ad130.add (x5_1).toNat) = some (.slice A130_0 (rd_L4 l0 x5_1).length c130_0) ∧ w'.cell? (ad131.add (x5_1).toNat) = some (.slice A131_0 (rd_L4 l1 x5_1).length c131_0)) (ds := []) #[X_,X_,X_,X_,X_,X_,X_,X_,X_,X_] (by kernel_rfl) rfl rfl ⟨((HB.out.cell (bLC_ w _ hw130_0)).trans hw130_0), ((HB.out.cell (bLC_ w _ hw131_0)).trans hw131_0)⟩ (fun hHeld => ?_); refine with_tabW r6_SameLists.tab6 r6_SameLists.bits6 (fun HT_ HW_ => ?_)
             generalize wr.drew = w9 at HB HR130_0 HR131_0 hx130_0 hx131_0 hHeld ⊢
             refine pure_ (i := 0) (N := some 17) (v := ?_) (a' := ?_) #[Y_,X_,X_,X_,X_,X_,X_,X_,X_,X_] rfl rfl (any_of HT_.out (by kernel_rfl)) (fun _ _ _ h => h) (Or.inl ⟨by rfl, ?_⟩) ?_ ?_
             rotate_left
             · intro w'
               go_simp
               with_reducible rfl
             rotate_left
             · simp only [Act.put, sTA_, sCZ_, sCS_, i64_w, i32_w]
               rfl
             refine pure_ (i := 1) (N := some 18) (v := ?_) (a' := ?_) #[Y_,Y_,X_,X_,X_,X_,X_,X_,X_,X_] rfl rfl (any_of HT_.out (by kernel_rfl)) (fun _ _ _ h => h) (Or.inl ⟨by rfl, ?_⟩) ?_ ?_
             rotate_left
             · intro w'
               go_simp
               with_reducible rfl
             rotate_left
             · simp only [Act.put, sTA_, sCZ_, sCS_, i64_w, i32_w]
               rfl
             refine pure_ (i := 2) (N := some 19) (v := ?_) (a' := ?_) #[Y_,Y_,Y_,X_,X_,X_,X_,X_,X_,X_] rfl rfl (any_of HT_.out (by kernel_rfl)) (fun _ _ _ h => h) (Or.inl ⟨by rfl, ?_⟩) ?_ ?_
             rotate_left
             · intro w'
               go_simp
               with_reducible rfl
             rotate_left
             · simp only [Act.put, sTA_, sCZ_, sCS_, i64_w, i32_w]
               rfl
             refine pure_ (i := 4) (N := some 21) (v := ?_) (a' := ?_) #[Y_,Y_,Y_,X_,Y_,X_,X_,X_,X_,X_] rfl rfl (any_of HT_.out (by kernel_rfl)) (fun _ _ _ h => h) (Or.inl ⟨by rfl, ?_⟩) ?_ ?_
             rotate_left
             · intro w'
               go_simp
               with_reducible rfl
             rotate_left
             · simp only [Act.put, sTA_, sCZ_, sCS_, i64_w, i32_w]
               rfl
             refine pure_ (i := 5) (N := some 22) (v := ?_) (a' := ?_) #[Y_,Y_,Y_,X_,Y_,Y_,X_,X_,X_,X_] rfl rfl (any_of HT_.out (by kernel_rfl)) (fun _ _ _ h => h) (Or.inl ⟨by rfl, ?_⟩) ?_ ?_
             rotate_left
             · intro w'
               go_simp
               with_reducible rfl
             rotate_left
             · simp only [Act.put, sTA_, sCZ_, sCS_, i64_w, i32_w]
               rfl
             refine pure_ (i := 6) (N := some 23) (v := ?_) (a' := ?_) #[Y_,Y_,Y_,X_,Y_,Y_,Y_,X_,X_,X_] rfl rfl (any_of HT_.out (by kernel_rfl)) (fun _ _ _ h => h) (Or.inl ⟨by rfl, ?_⟩) ?_ ?_
             rotate_left
             · intro w'
               go_simp
               with_reducible rfl
             rotate_left
             · simp only [Act.put, sTA_, sCZ_, sCS_, i64_w, i32_w]
               rfl
             refine take_ (i := 3) (N := some 20) (v := ?_) (a' := ?_) #[Y_,Y_,Y_,Y_,Y_,Y_,Y_,X_,X_,X_] rfl rfl (take_ofW HT_.out HW_.out (by kernel_rfl)) (fun _ _ _ h => h) (Or.inl ⟨by rfl, ?_⟩) hHeld ?_ ?_
             rotate_left
             · rintro w' ⟨s0, s1⟩
               go_simp
               with_reducible rfl
             rotate_left
             · simp only [Act.put, sTA_, sCZ_, sCS_, i64_w, i32_w]
               rfl
             refine take_ (i := 7) (N := some 24) (v := ?_) (a' := ?_) #[Y_,Y_,Y_,Y_,Y_,Y_,Y_,Y_,X_,X_] rfl rfl (take_ofW HT_.out HW_.out (by kernel_rfl)) (fun _ _ _ h => h) (Or.inl ⟨by rfl, ?_⟩) hHeld ?_ ?_
             rotate_left
             · rintro w' ⟨s0, s1⟩
               go_simp
               with_reducible rfl
             rotate_left
             · simp only [Act.put, sTA_, sCZ_, sCS_, i64_w, i32_w]
               rfl
             refine one_ (i := 8) (N := some 25) #[Y_,Y_,Y_,Y_,Y_,Y_,Y_,Y_,Y_,X_] rfl rfl (one_of HT_.out (by kernel_rfl)) (by decide) (fun K hK => ?_)
             refine goes_ Tryz.func50 (by kernel_rfl) rfl #[.slice A130_0 (rd_L4 l0 x5_1).length c130_0, .slice A131_0 (rd_L4 l1 x5_1).length c131_0] (by rfl) rfl rfl (by (try simp only [List.map_toArray, List.map_cons, List.map_nil]); first | done | rfl | (simp only [List.length_drop, List.length_take]; rfl)) ?_
             with_reducible refine (r1_SameRows.calls k1 _ _ (rd_L4 l0 x5_1) _ _ (rd_L4 l1 x5_1) true _ ?side1 ?side2 ?side3 ?side4 A7.out).mono ?_
             (case side1 => repeat (first | exact (Kd.C_below HR130_0.out HB.out) | (with_reducible refine Kd.cA_ ?_ _) | (with_reducible refine Kd.cN_ ?_ _) | (with_reducible refine Kd.cD_ ?_)))
             (case side2 => exact HC130_0.out)
             (case side3 => repeat (first | exact (Kd.C_below HR131_0.out HB.out) | (with_reducible refine Kd.cA_ ?_ _) | (with_reducible refine Kd.cN_ ?_ _) | (with_reducible refine Kd.cD_ ?_)))
             (case side4 => exact HC131_0.out)
             rintro e w10 ⟨rfl, hb⟩
             refine ⟨_, rfl, ?_⟩
             have n0_ := Aside0.mk (below_step (by repeat (first | (with_reducible first | exact HB.out | apply bA_ | apply bN_ | apply b1_) | exact HB.out)) hb)
             clear HB
             have HB := n0_
             clear n0_
             (try clear hb)
             (try clear hb2)
             (try clear hk)
             (try clear hi)
             refine hK.out _ _ ⟨((HB.out.cell (bLC_ w _ hw130_0)).trans hw130_0), ((HB.out.cell (bLC_ w _ hw131_0)).trans hw131_0)⟩ (fun hHeld => ?_)
             clear hK K
             refine norm_ (a' := ?_) ?_ ?_
             rotate_left
             · show Act.put _ (some 25) _ = _
               simp only [Act.put, sTA_, sCZ_, sCS_, i64_w, i32_w]
               rfl
             refine pure_ (i := 9) (N := some 26) (v := ?_) (a' := ?_) #[Y_,Y_,Y_,Y_,Y_,Y_,Y_,Y_,Y_,Y_] rfl rfl (any_of HT_.out (by kernel_rfl)) (fun _ _ _ h => h) (Or.inl ⟨by rfl, ?_⟩) ?_ ?_
             rotate_left
             · intro w'
               go_simp
               with_reducible rfl
             rotate_left
             · simp only [Act.put, sTA_, sCZ_, sCS_, i64_w, i32_w]
               rfl
             refine done_ (done_of HT_.out (by kernel_rfl)) ?_
             try go_wp2
             go_roundg k1
             case measure => have := HK1.out; omega
             case rel => exact ⟨(wrap64 (x5_1 + 1)), (by first | rfl | (simp; done) | (simp [*]; done)), H', ⟨by have := HK1.out; omega⟩, ⟨by repeat (first | (with_reducible first | exact HB.out | apply bA_ | apply bN_ | apply b1_) | exact HB.out)⟩⟩
           · replace c8 := Bool.eq_false_iff.mpr c8
             subst c8
             have H1 : (some false) = some r := by rw [if_neg (show ¬ (false = true) by decide)] at H; exact H
             clear H
             have H := H1
             clear H1
             obtain rfl := Option.some.inj H
             try go_wp2
             have n0_ := Aside0.mk (b1_ HB.out)
             clear HB
             have HB := n0_
             clear n0_
             have p130 : 0 ≤ (x5_1 : Int) := oT_ (by assumption)
             have q130 : x5_1 < (l0.length : Int) := oT_ (by assumption)
             obtain ⟨ad130, A130_0, c130_0, e130, hx130_0, hl130_0, hi130_0⟩ := at_L4 HR0.out x5_1 p130 q130
             have hw130_0 := hx130_0
             cases e130
             replace hx130_0 := (HB.out.cell (bLC_ w _ hx130_0)).trans hx130_0
             have HR130_0 := Aside0.mk hi130_0
             have HC130_0 := Aside0.mk hl130_0
             clear hi130_0 hl130_0
             replace p130 := eq_true p130
             replace q130 := eq_true q130
             have p131 : 0 ≤ (x5_1 : Int) := oT_ (by assumption)
             have q131 : x5_1 < (l1.length : Int) := oT_ (by assumption)
             obtain ⟨ad131, A131_0, c131_0, e131, hx131_0, hl131_0, hi131_0⟩ := at_L4 HR1.out x5_1 p131 q131
             have hw131_0 := hx131_0
             cases e131
             replace hx131_0 := (HB.out.cell (bLC_ w _ hx131_0)).trans hx131_0
             have HR131_0 := Aside0.mk hi131_0
             have HC131_0 := Aside0.mk hl131_0
             clear hi131_0 hl131_0
             replace p131 := eq_true p131
             replace q131 := eq_true q131
             refine start_ (n := 10) (S := fun w' => w'.cell? (ad130.add (x5_1).toNat) = some (.slice A130_0 (rd_L4 l0 x5_1).length c130_0) ∧ w'.cell? (ad131.add (x5_1).toNat) = some (.slice A131_0 (rd_L4 l1 x5_1).length c131_0)) (ds := []) #[X_,X_,X_,X_,X_,X_,X_,X_,X_,X_] (by kernel_rfl) rfl rfl ⟨((HB.out.cell (bLC_ w _ hw130_0)).trans hw130_0), ((HB.out.cell (bLC_ w _ hw131_0)).trans hw131_0)⟩ (fun hHeld => ?_); refine with_tabW r6_SameLists.tab6 r6_SameLists.bits6 (fun HT_ HW_ => ?_)
             generalize wr.drew = w11 at HB HR130_0 HR131_0 hx130_0 hx131_0 hHeld ⊢
             refine pure_ (i := 0) (N := some 17) (v := ?_) (a' := ?_) #[Y_,X_,X_,X_,X_,X_,X_,X_,X_,X_] rfl rfl (any_of HT_.out (by kernel_rfl)) (fun _ _ _ h => h) (Or.inl ⟨by rfl, ?_⟩) ?_ ?_
             rotate_left
             · intro w'
               go_simp
               with_reducible rfl
             rotate_left
             · simp only [Act.put, sTA_, sCZ_, sCS_, i64_w, i32_w]
               rfl
             refine pure_ (i := 1) (N := some 18) (v := ?_) (a' := ?_) #[Y_,Y_,X_,X_,X_,X_,X_,X_,X_,X_] rfl rfl (any_of HT_.out (by kernel_rfl)) (fun _ _ _ h => h) (Or.inl ⟨by rfl, ?_⟩) ?_ ?_
             rotate_left
             · intro w'
               go_simp
               with_reducible rfl
             rotate_left
             · simp only [Act.put, sTA_, sCZ_, sCS_, i64_w, i32_w]
               rfl
             refine pure_ (i := 2) (N := some 19) (v := ?_) (a' := ?_) #[Y_,Y_,Y_,X_,X_,X_,X_,X_,X_,X_] rfl rfl (any_of HT_.out (by kernel_rfl)) (fun _ _ _ h => h) (Or.inl ⟨by rfl, ?_⟩) ?_ ?_
             rotate_left
             · intro w'
               go_simp
               with_reducible rfl
             rotate_left
             · simp only [Act.put, sTA_, sCZ_, sCS_, i64_w, i32_w]
               rfl
             refine pure_ (i := 4) (N := some 21) (v := ?_) (a' := ?_) #[Y_,Y_,Y_,X_,Y_,X_,X_,X_,X_,X_] rfl rfl (any_of HT_.out (by kernel_rfl)) (fun _ _ _ h => h) (Or.inl ⟨by rfl, ?_⟩) ?_ ?_
             rotate_left
             · intro w'
               go_simp
               with_reducible rfl
             rotate_left
             · simp only [Act.put, sTA_, sCZ_, sCS_, i64_w, i32_w]
               rfl
             refine pure_ (i := 5) (N := some 22) (v := ?_) (a' := ?_) #[Y_,Y_,Y_,X_,Y_,Y_,X_,X_,X_,X_] rfl rfl (any_of HT_.out (by kernel_rfl)) (fun _ _ _ h => h) (Or.inl ⟨by rfl, ?_⟩) ?_ ?_
             rotate_left
             · intro w'
               go_simp
               with_reducible rfl
             rotate_left
             · simp only [Act.put, sTA_, sCZ_, sCS_, i64_w, i32_w]
               rfl
             refine pure_ (i := 6) (N := some 23) (v := ?_) (a' := ?_) #[Y_,Y_,Y_,X_,Y_,Y_,Y_,X_,X_,X_] rfl rfl (any_of HT_.out (by kernel_rfl)) (fun _ _ _ h => h) (Or.inl ⟨by rfl, ?_⟩) ?_ ?_
             rotate_left
             · intro w'
               go_simp
               with_reducible rfl
             rotate_left
             · simp only [Act.put, sTA_, sCZ_, sCS_, i64_w, i32_w]
               rfl
             refine take_ (i := 3) (N := some 20) (v := ?_) (a' := ?_) #[Y_,Y_,Y_,Y_,Y_,Y_,Y_,X_,X_,X_] rfl rfl (take_ofW HT_.out HW_.out (by kernel_rfl)) (fun _ _ _ h => h) (Or.inl ⟨by rfl, ?_⟩) hHeld ?_ ?_
             rotate_left
             · rintro w' ⟨s0, s1⟩
               go_simp
               with_reducible rfl
             rotate_left
             · simp only [Act.put, sTA_, sCZ_, sCS_, i64_w, i32_w]
               rfl
             refine take_ (i := 7) (N := some 24) (v := ?_) (a' := ?_) #[Y_,Y_,Y_,Y_,Y_,Y_,Y_,Y_,X_,X_] rfl rfl (take_ofW HT_.out HW_.out (by kernel_rfl)) (fun _ _ _ h => h) (Or.inl ⟨by rfl, ?_⟩) hHeld ?_ ?_
             rotate_left
             · rintro w' ⟨s0, s1⟩
               go_simp
               with_reducible rfl
             rotate_left
             · simp only [Act.put, sTA_, sCZ_, sCS_, i64_w, i32_w]
               rfl
             refine one_ (i := 8) (N := some 25) #[Y_,Y_,Y_,Y_,Y_,Y_,Y_,Y_,Y_,X_] rfl rfl (one_of HT_.out (by kernel_rfl)) (by decide) (fun K hK => ?_)
             refine goes_ Tryz.func50 (by kernel_rfl) rfl #[.slice A130_0 (rd_L4 l0 x5_1).length c130_0, .slice A131_0 (rd_L4 l1 x5_1).length c131_0] (by rfl) rfl rfl (by (try simp only [List.map_toArray, List.map_cons, List.map_nil]); first | done | rfl | (simp only [List.length_drop, List.length_take]; rfl)) ?_
             with_reducible refine (r1_SameRows.calls k1 _ _ (rd_L4 l0 x5_1) _ _ (rd_L4 l1 x5_1) false _ ?side1 ?side2 ?side3 ?side4 A7.out).mono ?_
             (case side1 => repeat (first | exact (Kd.C_below HR130_0.out HB.out) | (with_reducible refine Kd.cA_ ?_ _) | (with_reducible refine Kd.cN_ ?_ _) | (with_reducible refine Kd.cD_ ?_)))
             (case side2 => exact HC130_0.out)
             (case side3 => repeat (first | exact (Kd.C_below HR131_0.out HB.out) | (with_reducible refine Kd.cA_ ?_ _) | (with_reducible refine Kd.cN_ ?_ _) | (with_reducible refine Kd.cD_ ?_)))
             (case side4 => exact HC131_0.out)
             rintro e w12 ⟨rfl, hb⟩
             refine ⟨_, rfl, ?_⟩
             have n0_ := Aside0.mk (below_step (by repeat (first | (with_reducible first | exact HB.out | apply bA_ | apply bN_ | apply b1_) | exact HB.out)) hb)
             clear HB
             have HB := n0_
             clear n0_
             (try clear hb)
             (try clear hb2)
             (try clear hk)
             (try clear hi)
             refine hK.out _ _ ⟨((HB.out.cell (bLC_ w _ hw130_0)).trans hw130_0), ((HB.out.cell (bLC_ w _ hw131_0)).trans hw131_0)⟩ (fun hHeld => ?_)
             clear hK K
             refine norm_ (a' := ?_) ?_ ?_
             rotate_left
             · show Act.put _ (some 25) _ = _
               simp only [Act.put, sTA_, sCZ_, sCS_, i64_w, i32_w]
               rfl
             refine pure_ (i := 9) (N := some 26) (v := ?_) (a' := ?_) #[Y_,Y_,Y_,Y_,Y_,Y_,Y_,Y_,Y_,Y_] rfl rfl (any_of HT_.out (by kernel_rfl)) (fun _ _ _ h => h) (Or.inl ⟨by rfl, ?_⟩) ?_ ?_
             rotate_left
             · intro w'
               go_simp
               with_reducible rfl
             rotate_left
             · simp only [Act.put, sTA_, sCZ_, sCS_, i64_w, i32_w]
               rfl
             refine done_ (done_of HT_.out (by kernel_rfl)) ?_
             try go_wp2
             go_ret
             exact ⟨by first | rfl | (simp [*, errW_none, errW_some] <;> rfl), by repeat (first | (with_reducible first | exact HB.out | apply bA_ | apply bN_ | apply b1_) | exact HB.out)⟩
         · rw [if_neg c6] at H
           exact absurd H (by simp)
       · rw [if_neg c5] at H
         exact absurd H (by simp)
     · rw [if_neg c4] at H
       have c4b0 : decide (x5_1 < (l0.length : Int)) = false := dF_ c4
       clear c4
       obtain rfl := Option.some.inj H
       go_wp2
       go_ret
       exact ⟨by first | rfl | (simp [*, errW_none, errW_some] <;> rfl), by repeat (first | (with_reducible first | exact HB.out | apply bA_ | apply bN_ | apply b1_) | exact HB.out)⟩
 · rw [if_neg c3] at H
   have c3b0 : ((l0.length : Int) == (l1.length : Int)) = false := beq_eq_false_iff_ne.mpr c3
   have c3b1 : ((l0.length : Int) != (l1.length : Int)) = true := bne_iff_ne.mpr c3
   have c3b2 : (l0.length == l1.length) = false := by first | simpa using c3 | (simp at c3 ⊢; omega)
   obtain rfl := Option.some.inj H
   go_enter Tryz.func19, Tryz.ntmps19
   go_wp2
   go_ret
   exact ⟨by first | rfl | (simp [*, errW_none, errW_some] <;> rfl), by repeat (first | (with_reducible first | exact HB.out | apply bA_ | apply bN_ | apply b1_) | exact HB.out)⟩
end Go.Proofs.YtecgkcgfeghhgaaGreatDoor.PAll
set_option linter.unusedVariables false
set_option linter.unusedSimpArgs false
namespace Go.Proofs.YtecgkcgfeghhgaaGreatDoor.PAll
open Go.RowKit Go.Proofs.YtecgkcgfeghhgaaGreatDoorW.PrintWords Go.Proofs.YtecgkcgfeghhgaaGreatDoorW.PrintLast Go.Proofs.YtecgkcgfeghhgaaGreatDoorW.PrintMore
open Classical in
theorem sameV_eq (a b : V) : r1_Same.f a.f0 a.f1 a.f2 b.f0 b.f1 b.f2 = some (decide (a = b)) := by
 unfold r1_Same.f
 by_cases h0 : a.f0 = b.f0
 · by_cases h1 : a.f1 = b.f1
   · rw [if_pos h0, if_pos h1]
     congr 1
     by_cases h2 : a.f2 = b.f2
     · rw [decide_eq_true (show a = b by cases a; cases b; simp_all), h2]
       simp
     · rw [decide_eq_false (fun e => h2 (by rw [e])), ByteArray.toList_eq, ByteArray.toList_eq, beq_eq_false_iff_ne]
       exact fun e => h2 (ByteArray.ext (Array.toList_inj.1 e))
   · rw [if_pos h0, if_neg h1, decide_eq_false (fun e => h1 (by rw [e]))]
 · rw [if_neg h0, decide_eq_false (fun e => h0 (by rw [e]))]
open Classical in
theorem sameRows_l0 (a b : List V) (hl : a.length = b.length) (hn : a.length ≤ 1099511627776) : ∀ (d i : Nat), i + d = a.length → Ev (fun k => r1_SameRows.l0 k a b (i : Int)) (decide (a.drop i = b.drop i)) := by
 intro d
 induction d with
 | zero =>
  intro i hi
  rw [List.drop_eq_nil_of_le (by omega), List.drop_eq_nil_of_le (by omega), decide_eq_true rfl]
  refine Ev.step (f := fun _ => some true) (fun k => ?_) (Ev.now _)
  simp only [r1_SameRows.l0]
  rw [if_neg (by omega)]
 | succ d ih =>
  intro i hi
  have h1 : i < a.length := by omega
  have h2 : i < b.length := by omega
  rw [drop_cons a i h1, drop_cons b i h2]
  have one : ∀ k, r1_SameRows.l0 (k + 1) a b (i : Int) = if decide (a[i] = b[i]) = true then r1_SameRows.l0 k a b ((i + 1 : Nat) : Int) else some false := fun k => by
   simp only [r1_SameRows.l0]
   rw [if_pos (by omega), if_pos (by omega), if_pos (by omega), rdV_at h1, rdV_at h2, sameV_eq, w64 _ (by omega) (by omega)]
   rfl
  by_cases c : a[i] = b[i]
  · refine Ev.step (f := fun k => r1_SameRows.l0 k a b ((i + 1 : Nat) : Int)) (fun k => by rw [one, if_pos (decide_eq_true c)]) ?_
    have h3 := ih (i + 1) (by omega)
    have e : decide (a[i] :: a.drop (i + 1) = b[i] :: b.drop (i + 1)) = decide (a.drop (i + 1) = b.drop (i + 1)) := by
     rw [decide_eq_decide, List.cons.injEq]
     exact ⟨fun h => h.2, fun h => ⟨c, h⟩⟩
    rw [e]
    exact h3
  · refine Ev.step (f := fun _ => some false) (fun k => by rw [one, if_neg (by simpa using c)]) ?_
    rw [decide_eq_false (fun e => c (List.cons.inj e).1)]
    exact Ev.now _
open Classical in
theorem sameRows_ev (a b : List V) (hn : a.length ≤ 1099511627776) : Ev (fun k => r1_SameRows.f k a b) (decide (a = b)) := by
 by_cases hl : a.length = b.length
 · have := sameRows_l0 a b hl hn a.length 0 (by omega)
   simp only [List.drop_zero] at this
   exact Ev.congr (fun k => by unfold r1_SameRows.f; rw [if_pos (by omega)]; rfl) this
 · rw [decide_eq_false (fun e => hl (by rw [e]))]
   exact Ev.congr (f := fun _ => some false) (fun k => by unfold r1_SameRows.f; rw [if_neg (by omega)]) (Ev.now _)
open Classical in
theorem sameLists_l0 (a b : List (List V)) (hl : a.length = b.length) (hn : a.length ≤ 1099511627776) (hr : ∀ r ∈ a, r.length ≤ 1099511627776) : ∀ (d i : Nat), i + d = a.length → Ev (fun k => r6_SameLists.l0 k a b (i : Int)) (decide (a.drop i = b.drop i)) := by
 intro d
 induction d with
 | zero =>
  intro i hi
  rw [List.drop_eq_nil_of_le (by omega), List.drop_eq_nil_of_le (by omega), decide_eq_true rfl]
  refine Ev.step (f := fun _ => some true) (fun k => ?_) (Ev.now _)
  simp only [r6_SameLists.l0]
  rw [if_neg (by omega)]
 | succ d ih =>
  intro i hi
  have h1 : i < a.length := by omega
  have h2 : i < b.length := by omega
  rw [drop_cons a i h1, drop_cons b i h2]
  have one : ∀ k, r6_SameLists.l0 (k + 1) a b (i : Int) = (r1_SameRows.f k a[i] b[i]).bind fun t => if t = true then r6_SameLists.l0 k a b ((i + 1 : Nat) : Int) else some false := fun k => by
   simp only [r6_SameLists.l0]
   rw [if_pos (by omega), if_pos (by omega), if_pos (by omega), rdL_at h1, rdL_at h2, w64 _ (by omega) (by omega)]
   rfl
  have hs := sameRows_ev a[i] b[i] (hr _ (List.getElem_mem h1))
  refine Ev.step one (Ev.bind hs ?_)
  by_cases c : a[i] = b[i]
  · refine Ev.congr (f := fun k => r6_SameLists.l0 k a b ((i + 1 : Nat) : Int)) (fun k => by rw [if_pos (decide_eq_true c)]) ?_
    have h3 := ih (i + 1) (by omega)
    have e : decide (a[i] :: a.drop (i + 1) = b[i] :: b.drop (i + 1)) = decide (a.drop (i + 1) = b.drop (i + 1)) := by
     rw [decide_eq_decide, List.cons.injEq]
     exact ⟨fun h => h.2, fun h => ⟨c, h⟩⟩
    rw [e]
    exact h3
  · refine Ev.congr (f := fun _ => some false) (fun k => by rw [if_neg (by simpa using c)]) ?_
    rw [decide_eq_false (fun e => c (List.cons.inj e).1)]
    exact Ev.now _
open Classical in
theorem sameLists_ev (a b : List (List V)) (hn : a.length ≤ 1099511627776) (hr : ∀ r ∈ a, r.length ≤ 1099511627776) : Ev (fun k => r6_SameLists.f k a b) (decide (a = b)) := by
 by_cases hl : a.length = b.length
 · have := sameLists_l0 a b hl hn hr a.length 0 (by omega)
   simp only [List.drop_zero] at this
   exact Ev.congr (fun k => by unfold r6_SameLists.f; rw [if_pos (by omega)]; rfl) this
 · rw [decide_eq_false (fun e => hl (by rw [e]))]
   exact Ev.congr (f := fun _ => some false) (fun k => by unfold r6_SameLists.f; rw [if_neg (by omega)]) (Ev.now _)
theorem sameLists_refl (a : List (List V)) (hn : a.length ≤ 1099511627776) (hr : ∀ r ∈ a, r.length ≤ 1099511627776) : Ev (fun k => r6_SameLists.f k a a) true := by
 classical
 have h := sameLists_ev a a hn hr
 rwa [decide_eq_true rfl] at h
end Go.Proofs.YtecgkcgfeghhgaaGreatDoor.PAll
namespace Go.Proofs.YtecgkcgfeghhgaaGreatDoor.PAll
open Go.RowKit Go.Proofs.YtecgkcgfeghhgaaGreatDoorW.PrintWords Go.Proofs.YtecgkcgfeghhgaaGreatDoorW.PrintLast Go.Proofs.YtecgkcgfeghhgaaGreatDoorW.PrintMore
attribute [local go_sem] max2_int min2_int max_two min_two max_three min_three max_four min_four
set_option linter.unusedVariables false
set_option linter.unusedSimpArgs false
def r1_Valid.f (a0_0 : Int) (a0_1 : Int) (a0_2 : ByteArray) : Option (Bool) := if a0_0 = 0 then (if a0_1 = 0 then (some (a0_2.toList == ([] : List UInt8))) else (some false)) else (if a0_0 = 1 then (some (a0_2.toList == ([] : List UInt8))) else (if a0_0 = 2 then (if a0_1 = 0 then (some (decide ((a0_2.size : Int) ≤ 100))) else (some false)) else (if a0_0 = 3 then (if a0_1 = 0 then (some (a0_2.toList == ([] : List UInt8))) else (if a0_1 = 1 then (some (a0_2.toList == ([] : List UInt8))) else (some false))) else (some false))))
theorem r1_Valid.calls (a0_0 : Int) (a0_1 : Int) (a0_2 : ByteArray) (r : Bool) (w : World) (h : r1_Valid.f a0_0 a0_1 a0_2 = some r) :
 Calls Tryz.prog 40 #[.agg #[.int .u8 a0_0, .int .i64 a0_1, .string a0_2]] w fun e w' => e = .returned (.bool r) ∧ Below w.heap.size w w' := by
 have hu36 := Tryz.underlying36
 have HB := Aside0.mk (Below.refl w.heap.size w)
 have H : (if a0_0 = 0 then (if a0_1 = 0 then (some (a0_2.toList == ([] : List UInt8))) else (some false)) else (if a0_0 = 1 then (some (a0_2.toList == ([] : List UInt8))) else (if a0_0 = 2 then (if a0_1 = 0 then (some (decide ((a0_2.size : Int) ≤ 100))) else (some false)) else (if a0_0 = 3 then (if a0_1 = 0 then (some (a0_2.toList == ([] : List UInt8))) else (if a0_1 = 1 then (some (a0_2.toList == ([] : List UInt8))) else (some false))) else (some false))))) = some r := h
 clear h
 by_cases c2 : a0_0 = 0
 · rw [if_pos c2] at H
   have c2b0 : (a0_0 == 0) = true := beq_iff_eq.mpr c2
   have c2b1 : (a0_0 != 0) = false := bne_eq_false_iff_eq.mpr c2
   clear c2
   by_cases c3 : a0_1 = 0
   · rw [if_pos c3] at H
     have c3b0 : (a0_1 == 0) = true := beq_iff_eq.mpr c3
     have c3b1 : (a0_1 != 0) = false := bne_eq_false_iff_eq.mpr c3
     clear c3
     obtain rfl := Option.some.inj H
     go_enter Tryz.func40, Tryz.ntmps40
     go_wp2_with (first | ((with_reducible refine gate_dst (N := 1) rfl ?_); (try (refine gate_guard (by rfl) ?_; dsimp only)); refine box_event ?hg (N := 1) ?hd (cs := #[.int .u8 a0_0, .int .i64 a0_1, .string a0_2]) (t := 36) ?hr ?_; (case hd => rfl); (case hg => rfl); (case hr => first | (go_simp; done) | (go_simp; rfl)); intro gb133 hg w4 hbox hb; have n0_ := Aside0.mk (below_step (by repeat (first | (with_reducible first | exact HB.out | apply bA_ | apply bN_ | apply b1_) | exact HB.out)) hb); have n1_ := Aside0.mk (hbox); have n2_ := Aside0.mk ((by rw [hg]; exact (below_size (by repeat (first | (with_reducible first | exact HB.out | apply bA_ | apply bN_ | apply b1_) | exact HB.out))) : w.heap.size ≤ gb133)); have n3_ := Aside0.mk ((by rw [hg]; exact (below_size (by repeat (first | (with_reducible first | exact HB.out | apply bA_ | apply bN_ | apply b1_) | exact HB.out))) : w.heap.size ≤ gb133)); clear HB; have HB := n0_; have BK133 := n1_; have GW133 := n2_; have GE133 := n3_; clear n0_ n1_ n2_ n3_; clear hb hbox hg; have hcz5_0 : w4.cell? ⟨gb133, 0, none⟩ = some (.int .u8 a0_0) := (blk_cell BK133.out 0).trans rfl; have hcz5_1 : w4.cell? ⟨gb133, 1, none⟩ = some (.int .i64 a0_1) := (blk_cell BK133.out 1).trans rfl; have hcz5_2 : w4.cell? ⟨gb133, 2, none⟩ = some (.string a0_2) := (blk_cell BK133.out 2).trans rfl; have hfz5_0 := blk_frozen BK133.out 0; have hfz5_1 := blk_frozen BK133.out 1; have hfz5_2 := blk_frozen BK133.out 2))
     go_ret
     exact ⟨by first | rfl | (simp [*, errW_none, errW_some] <;> rfl), by repeat (first | (with_reducible first | exact HB.out | apply bA_ | apply bN_ | apply b1_ | refine below_set ?_ GE133.out) | exact HB.out)⟩
   · rw [if_neg c3] at H
     have c3b0 : (a0_1 == 0) = false := beq_eq_false_iff_ne.mpr c3
     have c3b1 : (a0_1 != 0) = true := bne_iff_ne.mpr c3
     obtain rfl := Option.some.inj H
     go_enter Tryz.func40, Tryz.ntmps40
     go_wp2_with (first | ((with_reducible refine gate_dst (N := 1) rfl ?_); (try (refine gate_guard (by rfl) ?_; dsimp only)); refine box_event ?hg (N := 1) ?hd (cs := #[.int .u8 a0_0, .int .i64 a0_1, .string a0_2]) (t := 36) ?hr ?_; (case hd => rfl); (case hg => rfl); (case hr => first | (go_simp; done) | (go_simp; rfl)); intro gb133 hg w6 hbox hb; have n0_ := Aside0.mk (below_step (by repeat (first | (with_reducible first | exact HB.out | apply bA_ | apply bN_ | apply b1_) | exact HB.out)) hb); have n1_ := Aside0.mk (hbox); have n2_ := Aside0.mk ((by rw [hg]; exact (below_size (by repeat (first | (with_reducible first | exact HB.out | apply bA_ | apply bN_ | apply b1_) | exact HB.out))) : w.heap.size ≤ gb133)); have n3_ := Aside0.mk ((by rw [hg]; exact (below_size (by repeat (first | (with_reducible first | exact HB.out | apply bA_ | apply bN_ | apply b1_) | exact HB.out))) : w.heap.size ≤ gb133)); clear HB; have HB := n0_; have BK133 := n1_; have GW133 := n2_; have GE133 := n3_; clear n0_ n1_ n2_ n3_; clear hb hbox hg; have hcz7_0 : w6.cell? ⟨gb133, 0, none⟩ = some (.int .u8 a0_0) := (blk_cell BK133.out 0).trans rfl; have hcz7_1 : w6.cell? ⟨gb133, 1, none⟩ = some (.int .i64 a0_1) := (blk_cell BK133.out 1).trans rfl; have hcz7_2 : w6.cell? ⟨gb133, 2, none⟩ = some (.string a0_2) := (blk_cell BK133.out 2).trans rfl; have hfz7_0 := blk_frozen BK133.out 0; have hfz7_1 := blk_frozen BK133.out 1; have hfz7_2 := blk_frozen BK133.out 2))
     go_ret
     exact ⟨by first | rfl | (simp [*, errW_none, errW_some] <;> rfl), by repeat (first | (with_reducible first | exact HB.out | apply bA_ | apply bN_ | apply b1_ | refine below_set ?_ GE133.out) | exact HB.out)⟩
 · rw [if_neg c2] at H
   have c2b0 : (a0_0 == 0) = false := beq_eq_false_iff_ne.mpr c2
   have c2b1 : (a0_0 != 0) = true := bne_iff_ne.mpr c2
   by_cases c8 : a0_0 = 1
   · rw [if_pos c8] at H
     have c8b0 : (a0_0 == 1) = true := beq_iff_eq.mpr c8
     have c8b1 : (a0_0 != 1) = false := bne_eq_false_iff_eq.mpr c8
     clear c8
     obtain rfl := Option.some.inj H
     go_enter Tryz.func40, Tryz.ntmps40
     go_wp2_with (first | ((with_reducible refine gate_dst (N := 1) rfl ?_); (try (refine gate_guard (by rfl) ?_; dsimp only)); refine box_event ?hg (N := 1) ?hd (cs := #[.int .u8 a0_0, .int .i64 a0_1, .string a0_2]) (t := 36) ?hr ?_; (case hd => rfl); (case hg => rfl); (case hr => first | (go_simp; done) | (go_simp; rfl)); intro gb133 hg w9 hbox hb; have n0_ := Aside0.mk (below_step (by repeat (first | (with_reducible first | exact HB.out | apply bA_ | apply bN_ | apply b1_) | exact HB.out)) hb); have n1_ := Aside0.mk (hbox); have n2_ := Aside0.mk ((by rw [hg]; exact (below_size (by repeat (first | (with_reducible first | exact HB.out | apply bA_ | apply bN_ | apply b1_) | exact HB.out))) : w.heap.size ≤ gb133)); have n3_ := Aside0.mk ((by rw [hg]; exact (below_size (by repeat (first | (with_reducible first | exact HB.out | apply bA_ | apply bN_ | apply b1_) | exact HB.out))) : w.heap.size ≤ gb133)); clear HB; have HB := n0_; have BK133 := n1_; have GW133 := n2_; have GE133 := n3_; clear n0_ n1_ n2_ n3_; clear hb hbox hg; have hcz10_0 : w9.cell? ⟨gb133, 0, none⟩ = some (.int .u8 a0_0) := (blk_cell BK133.out 0).trans rfl; have hcz10_1 : w9.cell? ⟨gb133, 1, none⟩ = some (.int .i64 a0_1) := (blk_cell BK133.out 1).trans rfl; have hcz10_2 : w9.cell? ⟨gb133, 2, none⟩ = some (.string a0_2) := (blk_cell BK133.out 2).trans rfl; have hfz10_0 := blk_frozen BK133.out 0; have hfz10_1 := blk_frozen BK133.out 1; have hfz10_2 := blk_frozen BK133.out 2))
     go_ret
     exact ⟨by first | rfl | (simp [*, errW_none, errW_some] <;> rfl), by repeat (first | (with_reducible first | exact HB.out | apply bA_ | apply bN_ | apply b1_ | refine below_set ?_ GE133.out) | exact HB.out)⟩
   · rw [if_neg c8] at H
     have c8b0 : (a0_0 == 1) = false := beq_eq_false_iff_ne.mpr c8
     have c8b1 : (a0_0 != 1) = true := bne_iff_ne.mpr c8
     by_cases c11 : a0_0 = 2
     · rw [if_pos c11] at H
       have c11b0 : (a0_0 == 2) = true := beq_iff_eq.mpr c11
       have c11b1 : (a0_0 != 2) = false := bne_eq_false_iff_eq.mpr c11
       clear c11
       by_cases c12 : a0_1 = 0
       · rw [if_pos c12] at H
         have c12b0 : (a0_1 == 0) = true := beq_iff_eq.mpr c12
         have c12b1 : (a0_1 != 0) = false := bne_eq_false_iff_eq.mpr c12
         clear c12
         obtain rfl := Option.some.inj H
         go_enter Tryz.func40, Tryz.ntmps40
         go_wp2_with (first | ((with_reducible refine gate_dst (N := 1) rfl ?_); (try (refine gate_guard (by rfl) ?_; dsimp only)); refine box_event ?hg (N := 1) ?hd (cs := #[.int .u8 a0_0, .int .i64 a0_1, .string a0_2]) (t := 36) ?hr ?_; (case hd => rfl); (case hg => rfl); (case hr => first | (go_simp; done) | (go_simp; rfl)); intro gb133 hg w13 hbox hb; have n0_ := Aside0.mk (below_step (by repeat (first | (with_reducible first | exact HB.out | apply bA_ | apply bN_ | apply b1_) | exact HB.out)) hb); have n1_ := Aside0.mk (hbox); have n2_ := Aside0.mk ((by rw [hg]; exact (below_size (by repeat (first | (with_reducible first | exact HB.out | apply bA_ | apply bN_ | apply b1_) | exact HB.out))) : w.heap.size ≤ gb133)); have n3_ := Aside0.mk ((by rw [hg]; exact (below_size (by repeat (first | (with_reducible first | exact HB.out | apply bA_ | apply bN_ | apply b1_) | exact HB.out))) : w.heap.size ≤ gb133)); clear HB; have HB := n0_; have BK133 := n1_; have GW133 := n2_; have GE133 := n3_; clear n0_ n1_ n2_ n3_; clear hb hbox hg; have hcz14_0 : w13.cell? ⟨gb133, 0, none⟩ = some (.int .u8 a0_0) := (blk_cell BK133.out 0).trans rfl; have hcz14_1 : w13.cell? ⟨gb133, 1, none⟩ = some (.int .i64 a0_1) := (blk_cell BK133.out 1).trans rfl; have hcz14_2 : w13.cell? ⟨gb133, 2, none⟩ = some (.string a0_2) := (blk_cell BK133.out 2).trans rfl; have hfz14_0 := blk_frozen BK133.out 0; have hfz14_1 := blk_frozen BK133.out 1; have hfz14_2 := blk_frozen BK133.out 2))
         go_ret
         exact ⟨by first | rfl | (simp [*, errW_none, errW_some] <;> rfl), by repeat (first | (with_reducible first | exact HB.out | apply bA_ | apply bN_ | apply b1_ | refine below_set ?_ GE133.out) | exact HB.out)⟩
       · rw [if_neg c12] at H
         have c12b0 : (a0_1 == 0) = false := beq_eq_false_iff_ne.mpr c12
         have c12b1 : (a0_1 != 0) = true := bne_iff_ne.mpr c12
         obtain rfl := Option.some.inj H
         go_enter Tryz.func40, Tryz.ntmps40
         go_wp2_with (first | ((with_reducible refine gate_dst (N := 1) rfl ?_); (try (refine gate_guard (by rfl) ?_; dsimp only)); refine box_event ?hg (N := 1) ?hd (cs := #[.int .u8 a0_0, .int .i64 a0_1, .string a0_2]) (t := 36) ?hr ?_; (case hd => rfl); (case hg => rfl); (case hr => first | (go_simp; done) | (go_simp; rfl)); intro gb133 hg w15 hbox hb; have n0_ := Aside0.mk (below_step (by repeat (first | (with_reducible first | exact HB.out | apply bA_ | apply bN_ | apply b1_) | exact HB.out)) hb); have n1_ := Aside0.mk (hbox); have n2_ := Aside0.mk ((by rw [hg]; exact (below_size (by repeat (first | (with_reducible first | exact HB.out | apply bA_ | apply bN_ | apply b1_) | exact HB.out))) : w.heap.size ≤ gb133)); have n3_ := Aside0.mk ((by rw [hg]; exact (below_size (by repeat (first | (with_reducible first | exact HB.out | apply bA_ | apply bN_ | apply b1_) | exact HB.out))) : w.heap.size ≤ gb133)); clear HB; have HB := n0_; have BK133 := n1_; have GW133 := n2_; have GE133 := n3_; clear n0_ n1_ n2_ n3_; clear hb hbox hg; have hcz16_0 : w15.cell? ⟨gb133, 0, none⟩ = some (.int .u8 a0_0) := (blk_cell BK133.out 0).trans rfl; have hcz16_1 : w15.cell? ⟨gb133, 1, none⟩ = some (.int .i64 a0_1) := (blk_cell BK133.out 1).trans rfl; have hcz16_2 : w15.cell? ⟨gb133, 2, none⟩ = some (.string a0_2) := (blk_cell BK133.out 2).trans rfl; have hfz16_0 := blk_frozen BK133.out 0; have hfz16_1 := blk_frozen BK133.out 1; have hfz16_2 := blk_frozen BK133.out 2))
         go_ret
         exact ⟨by first | rfl | (simp [*, errW_none, errW_some] <;> rfl), by repeat (first | (with_reducible first | exact HB.out | apply bA_ | apply bN_ | apply b1_ | refine below_set ?_ GE133.out) | exact HB.out)⟩
     · rw [if_neg c11] at H
       have c11b0 : (a0_0 == 2) = false := beq_eq_false_iff_ne.mpr c11
       have c11b1 : (a0_0 != 2) = true := bne_iff_ne.mpr c11
       by_cases c17 : a0_0 = 3
       · rw [if_pos c17] at H
         have c17b0 : (a0_0 == 3) = true := beq_iff_eq.mpr c17
         have c17b1 : (a0_0 != 3) = false := bne_eq_false_iff_eq.mpr c17
         clear c17
         by_cases c18 : a0_1 = 0
         · rw [if_pos c18] at H
           have c18b0 : (a0_1 == 0) = true := beq_iff_eq.mpr c18
           have c18b1 : (a0_1 != 0) = false := bne_eq_false_iff_eq.mpr c18
           clear c18
           obtain rfl := Option.some.inj H
           go_enter Tryz.func40, Tryz.ntmps40
           go_wp2_with (first | ((with_reducible refine gate_dst (N := 1) rfl ?_); (try (refine gate_guard (by rfl) ?_; dsimp only)); refine box_event ?hg (N := 1) ?hd (cs := #[.int .u8 a0_0, .int .i64 a0_1, .string a0_2]) (t := 36) ?hr ?_; (case hd => rfl); (case hg => rfl); (case hr => first | (go_simp; done) | (go_simp; rfl)); intro gb133 hg w19 hbox hb; have n0_ := Aside0.mk (below_step (by repeat (first | (with_reducible first | exact HB.out | apply bA_ | apply bN_ | apply b1_) | exact HB.out)) hb); have n1_ := Aside0.mk (hbox); have n2_ := Aside0.mk ((by rw [hg]; exact (below_size (by repeat (first | (with_reducible first | exact HB.out | apply bA_ | apply bN_ | apply b1_) | exact HB.out))) : w.heap.size ≤ gb133)); have n3_ := Aside0.mk ((by rw [hg]; exact (below_size (by repeat (first | (with_reducible first | exact HB.out | apply bA_ | apply bN_ | apply b1_) | exact HB.out))) : w.heap.size ≤ gb133)); clear HB; have HB := n0_; have BK133 := n1_; have GW133 := n2_; have GE133 := n3_; clear n0_ n1_ n2_ n3_; clear hb hbox hg; have hcz20_0 : w19.cell? ⟨gb133, 0, none⟩ = some (.int .u8 a0_0) := (blk_cell BK133.out 0).trans rfl; have hcz20_1 : w19.cell? ⟨gb133, 1, none⟩ = some (.int .i64 a0_1) := (blk_cell BK133.out 1).trans rfl; have hcz20_2 : w19.cell? ⟨gb133, 2, none⟩ = some (.string a0_2) := (blk_cell BK133.out 2).trans rfl; have hfz20_0 := blk_frozen BK133.out 0; have hfz20_1 := blk_frozen BK133.out 1; have hfz20_2 := blk_frozen BK133.out 2))
           go_ret
           exact ⟨by first | rfl | (simp [*, errW_none, errW_some] <;> rfl), by repeat (first | (with_reducible first | exact HB.out | apply bA_ | apply bN_ | apply b1_ | refine below_set ?_ GE133.out) | exact HB.out)⟩
         · rw [if_neg c18] at H
           have c18b0 : (a0_1 == 0) = false := beq_eq_false_iff_ne.mpr c18
           have c18b1 : (a0_1 != 0) = true := bne_iff_ne.mpr c18
           by_cases c21 : a0_1 = 1
           · rw [if_pos c21] at H
             have c21b0 : (a0_1 == 1) = true := beq_iff_eq.mpr c21
             have c21b1 : (a0_1 != 1) = false := bne_eq_false_iff_eq.mpr c21
             clear c21
             obtain rfl := Option.some.inj H
             go_enter Tryz.func40, Tryz.ntmps40
             go_wp2_with (first | ((with_reducible refine gate_dst (N := 1) rfl ?_); (try (refine gate_guard (by rfl) ?_; dsimp only)); refine box_event ?hg (N := 1) ?hd (cs := #[.int .u8 a0_0, .int .i64 a0_1, .string a0_2]) (t := 36) ?hr ?_; (case hd => rfl); (case hg => rfl); (case hr => first | (go_simp; done) | (go_simp; rfl)); intro gb133 hg w22 hbox hb; have n0_ := Aside0.mk (below_step (by repeat (first | (with_reducible first | exact HB.out | apply bA_ | apply bN_ | apply b1_) | exact HB.out)) hb); have n1_ := Aside0.mk (hbox); have n2_ := Aside0.mk ((by rw [hg]; exact (below_size (by repeat (first | (with_reducible first | exact HB.out | apply bA_ | apply bN_ | apply b1_) | exact HB.out))) : w.heap.size ≤ gb133)); have n3_ := Aside0.mk ((by rw [hg]; exact (below_size (by repeat (first | (with_reducible first | exact HB.out | apply bA_ | apply bN_ | apply b1_) | exact HB.out))) : w.heap.size ≤ gb133)); clear HB; have HB := n0_; have BK133 := n1_; have GW133 := n2_; have GE133 := n3_; clear n0_ n1_ n2_ n3_; clear hb hbox hg; have hcz23_0 : w22.cell? ⟨gb133, 0, none⟩ = some (.int .u8 a0_0) := (blk_cell BK133.out 0).trans rfl; have hcz23_1 : w22.cell? ⟨gb133, 1, none⟩ = some (.int .i64 a0_1) := (blk_cell BK133.out 1).trans rfl; have hcz23_2 : w22.cell? ⟨gb133, 2, none⟩ = some (.string a0_2) := (blk_cell BK133.out 2).trans rfl; have hfz23_0 := blk_frozen BK133.out 0; have hfz23_1 := blk_frozen BK133.out 1; have hfz23_2 := blk_frozen BK133.out 2))
             go_ret
             exact ⟨by first | rfl | (simp [*, errW_none, errW_some] <;> rfl), by repeat (first | (with_reducible first | exact HB.out | apply bA_ | apply bN_ | apply b1_ | refine below_set ?_ GE133.out) | exact HB.out)⟩
           · rw [if_neg c21] at H
             have c21b0 : (a0_1 == 1) = false := beq_eq_false_iff_ne.mpr c21
             have c21b1 : (a0_1 != 1) = true := bne_iff_ne.mpr c21
             obtain rfl := Option.some.inj H
             go_enter Tryz.func40, Tryz.ntmps40
             go_wp2_with (first | ((with_reducible refine gate_dst (N := 1) rfl ?_); (try (refine gate_guard (by rfl) ?_; dsimp only)); refine box_event ?hg (N := 1) ?hd (cs := #[.int .u8 a0_0, .int .i64 a0_1, .string a0_2]) (t := 36) ?hr ?_; (case hd => rfl); (case hg => rfl); (case hr => first | (go_simp; done) | (go_simp; rfl)); intro gb133 hg w24 hbox hb; have n0_ := Aside0.mk (below_step (by repeat (first | (with_reducible first | exact HB.out | apply bA_ | apply bN_ | apply b1_) | exact HB.out)) hb); have n1_ := Aside0.mk (hbox); have n2_ := Aside0.mk ((by rw [hg]; exact (below_size (by repeat (first | (with_reducible first | exact HB.out | apply bA_ | apply bN_ | apply b1_) | exact HB.out))) : w.heap.size ≤ gb133)); have n3_ := Aside0.mk ((by rw [hg]; exact (below_size (by repeat (first | (with_reducible first | exact HB.out | apply bA_ | apply bN_ | apply b1_) | exact HB.out))) : w.heap.size ≤ gb133)); clear HB; have HB := n0_; have BK133 := n1_; have GW133 := n2_; have GE133 := n3_; clear n0_ n1_ n2_ n3_; clear hb hbox hg; have hcz25_0 : w24.cell? ⟨gb133, 0, none⟩ = some (.int .u8 a0_0) := (blk_cell BK133.out 0).trans rfl; have hcz25_1 : w24.cell? ⟨gb133, 1, none⟩ = some (.int .i64 a0_1) := (blk_cell BK133.out 1).trans rfl; have hcz25_2 : w24.cell? ⟨gb133, 2, none⟩ = some (.string a0_2) := (blk_cell BK133.out 2).trans rfl; have hfz25_0 := blk_frozen BK133.out 0; have hfz25_1 := blk_frozen BK133.out 1; have hfz25_2 := blk_frozen BK133.out 2))
             go_ret
             exact ⟨by first | rfl | (simp [*, errW_none, errW_some] <;> rfl), by repeat (first | (with_reducible first | exact HB.out | apply bA_ | apply bN_ | apply b1_ | refine below_set ?_ GE133.out) | exact HB.out)⟩
       · rw [if_neg c17] at H
         have c17b0 : (a0_0 == 3) = false := beq_eq_false_iff_ne.mpr c17
         have c17b1 : (a0_0 != 3) = true := bne_iff_ne.mpr c17
         obtain rfl := Option.some.inj H
         go_enter Tryz.func40, Tryz.ntmps40
         go_wp2_with (first | ((with_reducible refine gate_dst (N := 1) rfl ?_); (try (refine gate_guard (by rfl) ?_; dsimp only)); refine box_event ?hg (N := 1) ?hd (cs := #[.int .u8 a0_0, .int .i64 a0_1, .string a0_2]) (t := 36) ?hr ?_; (case hd => rfl); (case hg => rfl); (case hr => first | (go_simp; done) | (go_simp; rfl)); intro gb133 hg w26 hbox hb; have n0_ := Aside0.mk (below_step (by repeat (first | (with_reducible first | exact HB.out | apply bA_ | apply bN_ | apply b1_) | exact HB.out)) hb); have n1_ := Aside0.mk (hbox); have n2_ := Aside0.mk ((by rw [hg]; exact (below_size (by repeat (first | (with_reducible first | exact HB.out | apply bA_ | apply bN_ | apply b1_) | exact HB.out))) : w.heap.size ≤ gb133)); have n3_ := Aside0.mk ((by rw [hg]; exact (below_size (by repeat (first | (with_reducible first | exact HB.out | apply bA_ | apply bN_ | apply b1_) | exact HB.out))) : w.heap.size ≤ gb133)); clear HB; have HB := n0_; have BK133 := n1_; have GW133 := n2_; have GE133 := n3_; clear n0_ n1_ n2_ n3_; clear hb hbox hg; have hcz27_0 : w26.cell? ⟨gb133, 0, none⟩ = some (.int .u8 a0_0) := (blk_cell BK133.out 0).trans rfl; have hcz27_1 : w26.cell? ⟨gb133, 1, none⟩ = some (.int .i64 a0_1) := (blk_cell BK133.out 1).trans rfl; have hcz27_2 : w26.cell? ⟨gb133, 2, none⟩ = some (.string a0_2) := (blk_cell BK133.out 2).trans rfl; have hfz27_0 := blk_frozen BK133.out 0; have hfz27_1 := blk_frozen BK133.out 1; have hfz27_2 := blk_frozen BK133.out 2))
         go_ret
         exact ⟨by first | rfl | (simp [*, errW_none, errW_some] <;> rfl), by repeat (first | (with_reducible first | exact HB.out | apply bA_ | apply bN_ | apply b1_ | refine below_set ?_ GE133.out) | exact HB.out)⟩
def r6_fits.f (a0_0 : Int) (a0_1 : Int) (a0_2 : ByteArray) (a1 : Int) : Option (Bool) := if a0_0 = 0 then (some true) else (if a1 = 0 then (some true) else (some (a0_0 == a1)))
theorem r6_fits.calls (a0_0 : Int) (a0_1 : Int) (a0_2 : ByteArray) (a1 : Int) (r : Bool) (w : World) (h : r6_fits.f a0_0 a0_1 a0_2 a1 = some r) :
 Calls Tryz.prog 41 #[.agg #[.int .u8 a0_0, .int .i64 a0_1, .string a0_2], .int .u8 a1] w fun e w' => e = .returned (.bool r) ∧ Below w.heap.size w w' := by
 have hu36 := Tryz.underlying36
 have HB := Aside0.mk (Below.refl w.heap.size w)
 have H : (if a0_0 = 0 then (some true) else (if a1 = 0 then (some true) else (some (a0_0 == a1)))) = some r := h
 clear h
 by_cases c3 : a0_0 = 0
 · rw [if_pos c3] at H
   have c3b0 : (a0_0 == 0) = true := beq_iff_eq.mpr c3
   have c3b1 : (a0_0 != 0) = false := bne_eq_false_iff_eq.mpr c3
   clear c3
   obtain rfl := Option.some.inj H
   go_enter Tryz.func41, Tryz.ntmps41
   go_wp2_with (first | ((with_reducible refine gate_dst (N := 2) rfl ?_); refine box_event ?hg (N := 2) ?hd (cs := #[.int .u8 a0_0, .int .i64 a0_1, .string a0_2]) (t := 36) ?hr ?_; (case hd => rfl); (case hg => rfl); (case hr => first | (go_simp; done) | (go_simp; rfl)); intro gb134 hg w4 hbox hb; have n0_ := Aside0.mk (below_step (by repeat (first | (with_reducible first | exact HB.out | apply bA_ | apply bN_ | apply b1_) | exact HB.out)) hb); have n1_ := Aside0.mk (hbox); have n2_ := Aside0.mk ((by rw [hg]; exact (below_size (by repeat (first | (with_reducible first | exact HB.out | apply bA_ | apply bN_ | apply b1_) | exact HB.out))) : w.heap.size ≤ gb134)); have n3_ := Aside0.mk ((by rw [hg]; exact (below_size (by repeat (first | (with_reducible first | exact HB.out | apply bA_ | apply bN_ | apply b1_) | exact HB.out))) : w.heap.size ≤ gb134)); clear HB; have HB := n0_; have BK134 := n1_; have GW134 := n2_; have GE134 := n3_; clear n0_ n1_ n2_ n3_; clear hb hbox hg; have hcz5_0 : w4.cell? ⟨gb134, 0, none⟩ = some (.int .u8 a0_0) := (blk_cell BK134.out 0).trans rfl; have hcz5_1 : w4.cell? ⟨gb134, 1, none⟩ = some (.int .i64 a0_1) := (blk_cell BK134.out 1).trans rfl; have hcz5_2 : w4.cell? ⟨gb134, 2, none⟩ = some (.string a0_2) := (blk_cell BK134.out 2).trans rfl; have hfz5_0 := blk_frozen BK134.out 0; have hfz5_1 := blk_frozen BK134.out 1; have hfz5_2 := blk_frozen BK134.out 2))
   go_ret
   exact ⟨by first | rfl | (simp [*, errW_none, errW_some] <;> rfl), by repeat (first | (with_reducible first | exact HB.out | apply bA_ | apply bN_ | apply b1_ | refine below_set ?_ GE134.out) | exact HB.out)⟩
 · rw [if_neg c3] at H
   have c3b0 : (a0_0 == 0) = false := beq_eq_false_iff_ne.mpr c3
   have c3b1 : (a0_0 != 0) = true := bne_iff_ne.mpr c3
   by_cases c6 : a1 = 0
   · rw [if_pos c6] at H
     have c6b0 : (a1 == 0) = true := beq_iff_eq.mpr c6
     have c6b1 : (a1 != 0) = false := bne_eq_false_iff_eq.mpr c6
     clear c6
     obtain rfl := Option.some.inj H
     go_enter Tryz.func41, Tryz.ntmps41
     go_wp2_with (first | ((with_reducible refine gate_dst (N := 2) rfl ?_); refine box_event ?hg (N := 2) ?hd (cs := #[.int .u8 a0_0, .int .i64 a0_1, .string a0_2]) (t := 36) ?hr ?_; (case hd => rfl); (case hg => rfl); (case hr => first | (go_simp; done) | (go_simp; rfl)); intro gb134 hg w7 hbox hb; have n0_ := Aside0.mk (below_step (by repeat (first | (with_reducible first | exact HB.out | apply bA_ | apply bN_ | apply b1_) | exact HB.out)) hb); have n1_ := Aside0.mk (hbox); have n2_ := Aside0.mk ((by rw [hg]; exact (below_size (by repeat (first | (with_reducible first | exact HB.out | apply bA_ | apply bN_ | apply b1_) | exact HB.out))) : w.heap.size ≤ gb134)); have n3_ := Aside0.mk ((by rw [hg]; exact (below_size (by repeat (first | (with_reducible first | exact HB.out | apply bA_ | apply bN_ | apply b1_) | exact HB.out))) : w.heap.size ≤ gb134)); clear HB; have HB := n0_; have BK134 := n1_; have GW134 := n2_; have GE134 := n3_; clear n0_ n1_ n2_ n3_; clear hb hbox hg; have hcz8_0 : w7.cell? ⟨gb134, 0, none⟩ = some (.int .u8 a0_0) := (blk_cell BK134.out 0).trans rfl; have hcz8_1 : w7.cell? ⟨gb134, 1, none⟩ = some (.int .i64 a0_1) := (blk_cell BK134.out 1).trans rfl; have hcz8_2 : w7.cell? ⟨gb134, 2, none⟩ = some (.string a0_2) := (blk_cell BK134.out 2).trans rfl; have hfz8_0 := blk_frozen BK134.out 0; have hfz8_1 := blk_frozen BK134.out 1; have hfz8_2 := blk_frozen BK134.out 2))
     go_ret
     exact ⟨by first | rfl | (simp [*, errW_none, errW_some] <;> rfl), by repeat (first | (with_reducible first | exact HB.out | apply bA_ | apply bN_ | apply b1_ | refine below_set ?_ GE134.out) | exact HB.out)⟩
   · rw [if_neg c6] at H
     have c6b0 : (a1 == 0) = false := beq_eq_false_iff_ne.mpr c6
     have c6b1 : (a1 != 0) = true := bne_iff_ne.mpr c6
     obtain rfl := Option.some.inj H
     go_enter Tryz.func41, Tryz.ntmps41
     go_wp2_with (first | ((with_reducible refine gate_dst (N := 2) rfl ?_); refine box_event ?hg (N := 2) ?hd (cs := #[.int .u8 a0_0, .int .i64 a0_1, .string a0_2]) (t := 36) ?hr ?_; (case hd => rfl); (case hg => rfl); (case hr => first | (go_simp; done) | (go_simp; rfl)); intro gb134 hg w9 hbox hb; have n0_ := Aside0.mk (below_step (by repeat (first | (with_reducible first | exact HB.out | apply bA_ | apply bN_ | apply b1_) | exact HB.out)) hb); have n1_ := Aside0.mk (hbox); have n2_ := Aside0.mk ((by rw [hg]; exact (below_size (by repeat (first | (with_reducible first | exact HB.out | apply bA_ | apply bN_ | apply b1_) | exact HB.out))) : w.heap.size ≤ gb134)); have n3_ := Aside0.mk ((by rw [hg]; exact (below_size (by repeat (first | (with_reducible first | exact HB.out | apply bA_ | apply bN_ | apply b1_) | exact HB.out))) : w.heap.size ≤ gb134)); clear HB; have HB := n0_; have BK134 := n1_; have GW134 := n2_; have GE134 := n3_; clear n0_ n1_ n2_ n3_; clear hb hbox hg; have hcz10_0 : w9.cell? ⟨gb134, 0, none⟩ = some (.int .u8 a0_0) := (blk_cell BK134.out 0).trans rfl; have hcz10_1 : w9.cell? ⟨gb134, 1, none⟩ = some (.int .i64 a0_1) := (blk_cell BK134.out 1).trans rfl; have hcz10_2 : w9.cell? ⟨gb134, 2, none⟩ = some (.string a0_2) := (blk_cell BK134.out 2).trans rfl; have hfz10_0 := blk_frozen BK134.out 0; have hfz10_1 := blk_frozen BK134.out 1; have hfz10_2 := blk_frozen BK134.out 2))
     go_ret
     exact ⟨by first | rfl | (simp [*, errW_none, errW_some] <;> rfl), by repeat (first | (with_reducible first | exact HB.out | apply bA_ | apply bN_ | apply b1_ | refine below_set ?_ GE134.out) | exact HB.out)⟩
end Go.Proofs.YtecgkcgfeghhgaaGreatDoor.PAll
set_option linter.unusedVariables false
set_option linter.unusedSimpArgs false
namespace Go.Proofs.YtecgkcgfeghhgaaGreatDoor.PAll
open Go.RowKit Go.Proofs.YtecgkcgfeghhgaaGreatDoorW.PrintWords Go.Proofs.YtecgkcgfeghhgaaGreatDoorW.PrintLast Go.Proofs.YtecgkcgfeghhgaaGreatDoorW.PrintMore
theorem ref_value (v : V) : r1_Valid.f v.f0 v.f1 v.f2 = some (validV v) := by
 unfold r1_Valid.f validV noText
 by_cases c0 : v.f0 = 0
 · by_cases c1 : v.f1 = 0 <;> simp [c0, c1]
 · by_cases c1 : v.f0 = 1
   · simp [c1]
   · by_cases c2 : v.f0 = 2
     · by_cases c3 : v.f1 = 0 <;> simp [c2, c3]
     · by_cases c3 : v.f0 = 3
       · by_cases c4 : v.f1 = 0
         · simp [c3, c4]
         · by_cases c5 : v.f1 = 1
           · simp [c3, c5]
           · have : ¬ (0 ≤ v.f1 ∧ v.f1 ≤ 1) := by omega
             simp [c3, c4, c5, this]
       · simp [c0, c1, c2, c3]
end Go.Proofs.YtecgkcgfeghhgaaGreatDoor.PAll
set_option linter.unusedVariables false
set_option linter.unusedSimpArgs false
namespace Go.Proofs.YtecgkcgfeghhgaaGreatDoor.PAll
open Go.RowKit Go.Proofs.YtecgkcgfeghhgaaGreatDoorW.PrintWords Go.Proofs.YtecgkcgfeghhgaaGreatDoorW.PrintLast Go.Proofs.YtecgkcgfeghhgaaGreatDoorW.PrintMore
attribute [local go_sem] max2_int min2_int max_two min_two
def fitsB (l : List (List V)) (ks : List KeyT) : Bool := validB l && keysB l ks
theorem fits_good {l : List (List V)} {ks : List KeyT} (hv : RowsV l) (h : fitsB l ks = true) : ∀ row ∈ l, RowGood ks row := by
 unfold fitsB at h
 rw [Bool.and_eq_true] at h
 obtain ⟨h1, h2⟩ := h
 intro row hrow
 refine ⟨validB_valid h1 row hrow, fun k hk => ?_, (hv.1 row hrow).2⟩
 have hk2 : hasB l k.f0 = true := List.all_eq_true.1 h2 k hk
 cases l with
 | nil => cases hrow
 | cons r rs =>
  have hl := validB_len h1 row hrow
  have := of_decide_eq_true hk2
  omega
def cutR (l : List (List V)) (a n : Int) : List (List V) := (l.drop a.toNat).take n.toNat
theorem cutR_eq (l : List (List V)) (a n f g : Int) (h0 : 0 ≤ a) (h1 : 0 ≤ n) (hf : (if (l.length : Int) < a then (l.length : Int) else a) = f) (hg : (if (l.length : Int) - f < n then (l.length : Int) - f else n) = g) : (l.take (f + g).toNat).drop f.toNat = cutR l a n := by
 unfold cutR
 rw [List.drop_take]
 by_cases c : (l.length : Int) < a
 · rw [if_pos c] at hf
   subst hf
   rw [List.drop_eq_nil_of_le (by omega), List.drop_eq_nil_of_le (by omega)]
   simp
 · rw [if_neg c] at hf
   subst hf
   by_cases c2 : (l.length : Int) - a < n
   · rw [if_pos c2] at hg
     rw [List.take_of_length_le (by rw [List.length_drop]; omega), List.take_of_length_le (by rw [List.length_drop]; omega)]
   · rw [if_neg c2] at hg
     subst hg
     congr 1
     omega
open Classical in
noncomputable def bag_Cut.f (l0 : List (List V)) (l1 : List KeyT) (a2 a3 : Int) : Option (List (List V) × Int) := if RowsV l0 ∧ l1.length ≤ 1099511627776 ∧ a2 ≤ 9223372036854775807 ∧ a3 ≤ 9223372036854775807 then some (if fitsB l0 l1 = true ∧ 0 ≤ a2 ∧ 0 ≤ a3 then (cutR (sortR l1 l0) a2 a3, 0) else ([], 1)) else none
theorem bag_Cut.calls (A0 : Option Addr) (c0 : Nat) (l0 : List (List V)) (A1 : Option Addr) (c1 : Nat) (l1 : List KeyT) (a2 a3 : Int) (r1 : List (List V)) (r2 : Int) (w : World) (hr0 : Kd.C kRow w A0 l0.length l0) (hc0 : l0.length ≤ c0) (hr1 : Kd.C kKey w A1 l1.length l1) (hc1 : l1.length ≤ c1) (h : bag_Cut.f l0 l1 a2 a3 = some (r1, r2)) :
 Calls Tryz.prog 18 #[.slice A0 l0.length c0, .slice A1 l1.length c1, .int .i64 a2, .int .i64 a3] w fun e w' => ∃ v0_ : Value, e = .returned (.tuple #[v0_, .int .i64 r2]) ∧ Kd.V kRow 53 w' w.heap.size (fun k_ => (w.heap.size ≤ k_)) v0_ r1 ∧ Below w.heap.size w w' := by
 unfold bag_Cut.f at h
 split at h
 case isFalse => cases h
 rename_i hv
 obtain ⟨hv, hk, h2, h3⟩ := hv
 have H := Aside0.mk (Option.some.inj h)
 have HV := Aside0.mk hv
 have HKN := Aside0.mk hk
 have H2 := Aside0.mk h2
 have H3 := Aside0.mk h3
 have HF := Aside0.mk (fits_calls A0 c0 l0 A1 c1 l1 w hr0 hc0 hr1 hc1 hv hk)
 have HR0 := Aside0.mk hr0
 have HR1 := Aside0.mk hr1
 clear h hv hk h2 h3 hr0 hr1 hc0 hc1
 change Aside0 (Calls _ _ _ _ fun e w' => e = .returned (.bool (fitsB l0 l1)) ∧ Below w.heap.size w w') at HF
 have bad : ∀ (P : Prop) [Decidable P], ¬ P → Aside0 ((if P then (cutR (sortR l1 l0) a2 a3, 0) else ([], 1)) = (r1, r2)) → r1 = [] ∧ r2 = 1 := fun P _ hP hh => by
  have := hh.out
  rw [if_neg hP] at this
  obtain ⟨e1, e2⟩ := Prod.mk.inj this
  exact ⟨e1.symm, e2.symm⟩
 cases hq : fitsB l0 l1 with
 | false =>
  have HN := Aside0.mk (bad _ (by rw [hq]; simp) H)
  rw [hq] at HF
  clear hq bad H
  go_enter Tryz.func18, Tryz.ntmps18
  go_wp2_with fail
  refine HF.out.mono ?_
  rintro e w1 ⟨rfl, hb1⟩
  have HB := Aside0.mk hb1
  clear hb1
  go_wp2
  go_ret2
  refine ⟨.slice none 0 0, by rw [HN.out.2]; rfl, ?_, HB.out⟩
  rw [HN.out.1]
  exact Kd.V_nil _ _ _ _ _
 | true =>
  rw [hq] at HF
  by_cases hn2 : a2 < 0
  · have HN := Aside0.mk (bad _ (by omega) H)
    have d2 : decide (a2 < 0) = true := decide_eq_true hn2
    clear hq bad H hn2
    go_enter Tryz.func18, Tryz.ntmps18
    go_wp2_with fail
    refine HF.out.mono ?_
    rintro e w1 ⟨rfl, hb1⟩
    have HB := Aside0.mk hb1
    clear hb1
    go_wp2
    go_ret2
    refine ⟨.slice none 0 0, by rw [HN.out.2]; rfl, ?_, HB.out⟩
    rw [HN.out.1]
    exact Kd.V_nil _ _ _ _ _
  · have d2 : decide (a2 < 0) = false := decide_eq_false hn2
    by_cases hn3 : a3 < 0
    · have HN := Aside0.mk (bad _ (by omega) H)
      have d3 : decide (a3 < 0) = true := decide_eq_true hn3
      clear hq bad H hn2 hn3
      go_enter Tryz.func18, Tryz.ntmps18
      go_wp2_with fail
      refine HF.out.mono ?_
      rintro e w1 ⟨rfl, hb1⟩
      have HB := Aside0.mk hb1
      clear hb1
      go_wp2
      go_ret2
      refine ⟨.slice none 0 0, by rw [HN.out.2]; rfl, ?_, HB.out⟩
      rw [HN.out.1]
      exact Kd.V_nil _ _ _ _ _
    · have d3 : decide (a3 < 0) = false := decide_eq_false hn3
      have hgood : Aside0 (r1 = cutR (sortR l1 l0) a2 a3 ∧ r2 = 0) := ⟨by
       have := H.out
       rw [if_pos ⟨hq, by omega, by omega⟩] at this
       obtain ⟨e1, e2⟩ := Prod.mk.inj this
       exact ⟨e1.symm, e2.symm⟩⟩
      have HG := Aside0.mk (fits_good HV.out hq)
      have HLR : Aside0 ((sortR l1 l0).length ≤ 1099511627776) := ⟨by rw [(sortR_perm l1 l0).length_eq]; exact HV.out.2⟩
      have HN2 := Aside0.mk hn2
      have HN3 := Aside0.mk hn3
      have HA := Aside0.mk (fun w1 (hb : Below w.heap.size w w1) => arranged_calls A0 c0 l0 A1 c1 l1 w1 (Kd.C_below HR0.out hb) (Kd.C_below HR1.out hb) HG.out HV.out.2 HKN.out)
      obtain ⟨rs, hrs⟩ : ∃ rs, rs = sortR l1 l0 := ⟨_, rfl⟩
      rw [← hrs] at hgood HLR
      simp only [← hrs] at HA
      obtain ⟨f, hf⟩ : ∃ f, (if (rs.length : Int) < a2 then (rs.length : Int) else a2) = f := ⟨_, rfl⟩
      obtain ⟨g, hg⟩ : ∃ g, (if (rs.length : Int) - f < a3 then (rs.length : Int) - f else a3) = g := ⟨_, rfl⟩
      have HCUT := Aside0.mk (cutR_eq rs a2 a3 f g (by omega) (by omega) hf hg)
      have hf0 : 0 ≤ f ∧ f ≤ rs.length := by rw [← hf]; split <;> omega
      have hg0 : 0 ≤ g ∧ g ≤ rs.length - f := by rw [← hg]; split <;> omega
      have HFB := Aside0.mk hf0
      have HGB := Aside0.mk hg0
      have hw1 : wrap64 ((rs.length : Int) - f) = (rs.length : Int) - f := by have := HLR.out; unfold wrap64; omega
      have hw2 : wrap64 (f + g) = f + g := by have := HLR.out; unfold wrap64; omega
      clear hq bad H hn2 hn3 hf0 hg0 hrs
      go_enter Tryz.func18, Tryz.ntmps18
      go_wp2_with fail
      refine HF.out.mono ?_
      rintro e w1 ⟨rfl, hb1⟩
      have HB := Aside0.mk hb1
      clear hb1
      go_wp2_with fail
      refine (HA.out w1 HB.out).mono ?_
      rintro e w2 ⟨v2, rfl, hR2, hb2⟩
      obtain ⟨Av, cv, ev, hlc, hC⟩ := Kd.R_reads hR2
      subst ev
      have HB2 := Aside0.mk (HB.out.trans (hb2.mono HB.out.size))
      have HM := Aside0.mk (C_relM hR2)
      obtain ⟨i0, hi, hzz⟩ := Option.map_eq_some_iff.1 infoRow
      simp only [Prod.mk.injEq] at hzz
      have hcut := cut_mid (P := Tryz.prog) 22 53 .i64 .i64 Tryz.underlying22 hi 1 hzz.2.1 Av rs.length cv f (f + g) HFB.out.1 (by have := HGB.out; omega) (by have := HGB.out; omega) hlc
      have hcm := (Kd.C_mid (lo := f.toNat) (hi := (f + g).toNat) HM.out (by have := HGB.out; omega) (by have := HGB.out; have := HFB.out; omega) hlc)
      change Kd.C (relM w2 w1.heap.size).kd w2 (if cv = f.toNat then Av else Av.map (·.add (f.toNat * 1))) _ _ at hcm
      obtain ⟨A', hA'⟩ : ∃ A', A' = (if cv = f.toNat then Av else Av.map (·.add (f.toNat * 1))) := ⟨_, rfl⟩
      have hlm : ((rs.take (f + g).toNat).drop f.toNat).length = (f + g).toNat - f.toNat := by
       rw [List.length_drop, List.length_take]
       have := HGB.out
       have := HFB.out
       omega
      rw [← hA'] at hcm hcut
      rw [hlm, HCUT.out] at hcm
      rw [HCUT.out] at hlm
      obtain ⟨n', hn'⟩ : ∃ n', n' = (f + g).toNat - f.toNat := ⟨_, rfl⟩
      rw [← hn'] at hcm hcut hlm
      have HCM := Aside0.mk hcm
      have HLM : Aside0 ((cutR rs a2 a3).length ≤ 2199023255552) := ⟨by
       have h1 : (cutR rs a2 a3).length ≤ rs.length := by unfold cutR; rw [List.length_take, List.length_drop]; omega
       have := HLR.out
       omega⟩
      have HB1S := Aside0.mk HB.out.size
      have HB2S := Aside0.mk hb2.size
      clear hR2 hb2 hC hlc hzz hi hcm hA' hlm hn'
      go_wp2_with fail
      refine (cloneRows_calls _ A' n' (cv - f.toNat) (cutR rs a2 a3) w2 HCM.out HLM.out).mono ?_
      rintro e w3 ⟨v3, rfl, hR3, hb3⟩
      have HR3 := Aside0.mk (R_relM hR3 hb3 HB2S.out (Nat.le_refl _))
      have HB3 := Aside0.mk (HB2.out.trans (hb3.mono HB2.out.size))
      clear hR3 hb3
      go_wp2
      go_ret2
      refine ⟨v3, by rw [hgood.out.2]; rfl, ?_, HB3.out⟩
      rw [hgood.out.1]
      exact Kd.R_V (base' := w.heap.size) (Kd.R_mono (Kd.R_bound HR3.out) (fun k hk => Nat.le_trans HB1S.out hk.2.1))
end Go.Proofs.YtecgkcgfeghhgaaGreatDoor.PAll
namespace Go.Proofs.YtecgkcgfeghhgaaGreatDoor.PAll
open Go.RowKit Go.Proofs.YtecgkcgfeghhgaaGreatDoorW.PrintWords Go.Proofs.YtecgkcgfeghhgaaGreatDoorW.PrintLast Go.Proofs.YtecgkcgfeghhgaaGreatDoorW.PrintMore
attribute [local go_sem] max2_int min2_int max_two min_two max_three min_three max_four min_four
set_option linter.unusedVariables false
set_option linter.unusedSimpArgs false
def r1_ints.f (a0 : Int) (a1 : Int) : Option (Int) := if a0 < a1 then (some (-1)) else (if a0 > a1 then (some 1) else (some 0))
theorem r1_ints.calls (a0 : Int) (a1 : Int) (r : Int) (w : World) (h : r1_ints.f a0 a1 = some r) :
 Calls Tryz.prog 100 #[.int .i64 a0, .int .i64 a1] w fun e w' => e = .returned (.int .i64 r) ∧ Drawn0 w w' := by
 have H : (if a0 < a1 then (some (-1)) else (if a0 > a1 then (some 1) else (some 0))) = some r := h
 clear h
 by_cases c3 : a0 < a1
 · rw [if_pos c3] at H
   have c3b0 : decide (a0 < a1) = true := dT_ c3
   clear c3
   obtain rfl := Option.some.inj H
   go_enter Tryz.func100, Tryz.ntmps100
   go_wp2
   go_ret
   exact ⟨by first | rfl | (simp; done) | (simp [*]; done), by repeat (first | exact Drawn0.refl _ | apply Drawn0.step)⟩
 · rw [if_neg c3] at H
   have c3b0 : decide (a0 < a1) = false := dF_ c3
   clear c3
   by_cases c4 : a0 > a1
   · rw [if_pos c4] at H
     have c4b0 : decide (a1 < a0) = true := dT_ c4
     clear c4
     obtain rfl := Option.some.inj H
     go_enter Tryz.func100, Tryz.ntmps100
     go_wp2
     go_ret
     exact ⟨by first | rfl | (simp; done) | (simp [*]; done), by repeat (first | exact Drawn0.refl _ | apply Drawn0.step)⟩
   · rw [if_neg c4] at H
     have c4b0 : decide (a1 < a0) = false := dF_ c4
     clear c4
     obtain rfl := Option.some.inj H
     go_enter Tryz.func100, Tryz.ntmps100
     go_wp2
     go_ret
     exact ⟨by first | rfl | (simp; done) | (simp [*]; done), by repeat (first | exact Drawn0.refl _ | apply Drawn0.step)⟩
mutual
def r1_texts.l0 : Nat → ByteArray → ByteArray → Int → Option (Int)
 | 0, _, _, _ => none
 | k + 1, x0, x1, x5 => if x5 < (x0.size : Int) then (r1_texts.j1 k x0 x1 x5 (decide (x5 < (x1.size : Int)))) else (r1_texts.j1 k x0 x1 x5 false)
def r1_texts.j1 : Nat → ByteArray → ByteArray → Int → Bool → Option (Int)
 | 0, _, _, _, _ => none
 | k + 1, x0, x1, x5, x15 => if x15 = true then (if 0 ≤ x5 then (if x5 < (x0.size : Int) then (if x5 < (x1.size : Int) then (if (bt x0 x5) < (bt x1 x5) then (some (-1)) else (if (bt x0 x5) > (bt x1 x5) then (some 1) else (r1_texts.l0 k x0 x1 (wrap64 (x5 + 1))))) else (none)) else (none)) else (none)) else (if (x0.size : Int) < (x1.size : Int) then (some (-1)) else (if (x0.size : Int) > (x1.size : Int) then (some 1) else (some 0)))
end
def r1_texts.f (k : Nat) (a0 : ByteArray) (a1 : ByteArray) : Option (Int) := r1_texts.l0 k a0 a1 0
theorem r1_texts.calls (k : Nat) (a0 : ByteArray) (a1 : ByteArray) (r : Int) (w : World) (h : r1_texts.f k a0 a1 = some r) :
 Calls Tryz.prog 101 #[.string a0, .string a1] w fun e w' => e = .returned (.int .i64 r) ∧ Drawn0 w w' := by
 have H : (r1_texts.l0 k a0 a1 0) = some r := h
 clear h
 have H' := Aside0.mk H
 clear H
 go_enter Tryz.func101, Tryz.ntmps101
 go_wp2
 repeat (go_quiet (fail); try go_wp2)
 go_loopg [5] k (fun kq v5 w' => ∃ (x5_1 : Int), v5 = .int .i64 x5_1 ∧ Aside0 (r1_texts.l0 kq a0 a1 x5_1 = some r) ∧ Aside0 (kq ≤ k) ∧ Drawn0 w w')
 case atStart => exact ⟨(0), (by first | rfl | (simp; done) | (simp [*]; done)), H', ⟨Nat.le_refl _⟩, by repeat (first | exact Drawn0.refl _ | apply Drawn0.step)⟩
 case round =>
  clear H'
  try clear c1
  try clear p2
  obtain ⟨x5_1, rfl, HA, HK1, ⟨m1, rfl⟩⟩ := hrel
  cases gk with
  | zero => exact absurd HA.out (by simp [r1_texts.l0])
  | succ k1 =>
   have H := HA.out
   clear HA
   simp only [r1_texts.l0] at H
   have HC3 := Aside0.mk H
   clear H
   go_upto_region 2 with (fail)
   repeat (go_quiet (fail); go_upto_region 2 with (fail))
   go_cut [15] (fun v15 wc => ∃ (kq : Nat) (x15_2 : Bool), v15 = .bool x15_2 ∧ Aside0 (r1_texts.j1 kq a0 a1 x5_1 x15_2 = some r) ∧ Aside0 (kq ≤ k1) ∧ Drawn0 w wc)
   case first =>
    have H := HC3.out
    clear HC3
    by_cases c4 : x5_1 < (a0.size : Int)
    · rw [if_pos c4] at H
      have c4b0 : decide (x5_1 < (a0.size : Int)) = true := dT_ c4
      clear c4
      (first | rw [c4b0] | (simp only [i64_w, i32_w]; rw [c4b0]) | skip)
      have H' := Aside0.mk H
      clear H
      go_wp2
      repeat (go_quiet (fail); try go_wp2)
      go_meet
      case rel => exact ⟨_, (decide (x5_1 < (a1.size : Int))), (by first | rfl | (simp; done) | (simp [*]; done)), H', ⟨by have := HK1.out; first | omega | exact Nat.le_refl _⟩, by repeat (first | exact Drawn0.refl _ | apply Drawn0.step)⟩
    · rw [if_neg c4] at H
      have c4b0 : decide (x5_1 < (a0.size : Int)) = false := dF_ c4
      clear c4
      (first | rw [c4b0] | (simp only [i64_w, i32_w]; rw [c4b0]) | skip)
      have H' := Aside0.mk H
      clear H
      go_wp2
      repeat (go_quiet (fail); try go_wp2)
      go_meet
      case rel => exact ⟨_, (false), (by first | rfl | (simp; done) | (simp [*]; done)), H', ⟨by have := HK1.out; first | omega | exact Nat.le_refl _⟩, by repeat (first | exact Drawn0.refl _ | apply Drawn0.step)⟩
   case rest =>
    clear HC3
    try clear c1
    try clear p2
    try clear c4
    try clear c4b0
    try clear p2
    obtain ⟨kq, x15_2, rfl, HA, HJ2, ⟨mc2, rfl⟩⟩ := hcut
    cases kq with
    | zero => exact absurd HA.out (by simp [r1_texts.j1])
    | succ kj2 =>
     have H := HA.out
     clear HA
     simp only [r1_texts.j1] at H
     by_cases c5 : x15_2 = true
     · subst c5
       have H1 : (if 0 ≤ x5_1 then (if x5_1 < (a0.size : Int) then (if x5_1 < (a1.size : Int) then (if (bt a0 x5_1) < (bt a1 x5_1) then (some (-1)) else (if (bt a0 x5_1) > (bt a1 x5_1) then (some 1) else (r1_texts.l0 kj2 a0 a1 (wrap64 (x5_1 + 1))))) else (none)) else (none)) else (none)) = some r := by rw [if_pos rfl] at H; exact H
       clear H
       have H := H1
       clear H1
       by_cases c6 : 0 ≤ x5_1
       · rw [if_pos c6] at H
         have c6b0 : decide (0 ≤ x5_1) = true := dT_ c6
         clear c6
         by_cases c7 : x5_1 < (a0.size : Int)
         · rw [if_pos c7] at H
           have c7b0 : decide (x5_1 < (a0.size : Int)) = true := dT_ c7
           clear c7
           by_cases c9 : x5_1 < (a1.size : Int)
           · rw [if_pos c9] at H
             have c9b0 : decide (x5_1 < (a1.size : Int)) = true := dT_ c9
             clear c9
             by_cases c11 : (bt a0 x5_1) < (bt a1 x5_1)
             · rw [if_pos c11] at H
               have c11b0 : decide ((bt a0 x5_1) < (bt a1 x5_1)) = true := dT_ c11
               clear c11
               obtain rfl := Option.some.inj H
               have p8 : 0 ≤ (x5_1 : Int) := oT_ (by assumption)
               have q8 : x5_1 < (a0.size : Int) := oT_ (by assumption)
               have hx8 := bt_at a0 x5_1
               replace p8 := eq_true p8
               replace q8 := eq_true q8
               have p10 : 0 ≤ (x5_1 : Int) := oT_ (by assumption)
               have q10 : x5_1 < (a1.size : Int) := oT_ (by assumption)
               have hx10 := bt_at a1 x5_1
               replace p10 := eq_true p10
               replace q10 := eq_true q10
               go_wp2
               repeat (go_quiet (fail); try go_wp2)
               go_ret
               exact ⟨by first | rfl | (simp; done) | (simp [*]; done), by repeat (first | exact Drawn0.refl _ | apply Drawn0.step)⟩
             · rw [if_neg c11] at H
               have c11b0 : decide ((bt a0 x5_1) < (bt a1 x5_1)) = false := dF_ c11
               clear c11
               by_cases c14 : (bt a0 x5_1) > (bt a1 x5_1)
               · rw [if_pos c14] at H
                 have c14b0 : decide ((bt a1 x5_1) < (bt a0 x5_1)) = true := dT_ c14
                 clear c14
                 obtain rfl := Option.some.inj H
                 have p8 : 0 ≤ (x5_1 : Int) := oT_ (by assumption)
                 have q8 : x5_1 < (a0.size : Int) := oT_ (by assumption)
                 have hx8 := bt_at a0 x5_1
                 replace p8 := eq_true p8
                 replace q8 := eq_true q8
                 have p10 : 0 ≤ (x5_1 : Int) := oT_ (by assumption)
                 have q10 : x5_1 < (a1.size : Int) := oT_ (by assumption)
                 have hx10 := bt_at a1 x5_1
                 replace p10 := eq_true p10
                 replace q10 := eq_true q10
                 have p12 : 0 ≤ (x5_1 : Int) := oT_ (by assumption)
                 have q12 : x5_1 < (a0.size : Int) := oT_ (by assumption)
                 have hx12 := bt_at a0 x5_1
                 replace p12 := eq_true p12
                 replace q12 := eq_true q12
                 have p13 : 0 ≤ (x5_1 : Int) := oT_ (by assumption)
                 have q13 : x5_1 < (a1.size : Int) := oT_ (by assumption)
                 have hx13 := bt_at a1 x5_1
                 replace p13 := eq_true p13
                 replace q13 := eq_true q13
                 go_wp2
                 repeat (go_quiet (fail); try go_wp2)
                 go_ret
                 exact ⟨by first | rfl | (simp; done) | (simp [*]; done), by repeat (first | exact Drawn0.refl _ | apply Drawn0.step)⟩
               · rw [if_neg c14] at H
                 have c14b0 : decide ((bt a1 x5_1) < (bt a0 x5_1)) = false := dF_ c14
                 clear c14
                 have H' := Aside0.mk H
                 clear H
                 have p8 : 0 ≤ (x5_1 : Int) := oT_ (by assumption)
                 have q8 : x5_1 < (a0.size : Int) := oT_ (by assumption)
                 have hx8 := bt_at a0 x5_1
                 replace p8 := eq_true p8
                 replace q8 := eq_true q8
                 have p10 : 0 ≤ (x5_1 : Int) := oT_ (by assumption)
                 have q10 : x5_1 < (a1.size : Int) := oT_ (by assumption)
                 have hx10 := bt_at a1 x5_1
                 replace p10 := eq_true p10
                 replace q10 := eq_true q10
                 have p12 : 0 ≤ (x5_1 : Int) := oT_ (by assumption)
                 have q12 : x5_1 < (a0.size : Int) := oT_ (by assumption)
                 have hx12 := bt_at a0 x5_1
                 replace p12 := eq_true p12
                 replace q12 := eq_true q12
                 have p13 : 0 ≤ (x5_1 : Int) := oT_ (by assumption)
                 have q13 : x5_1 < (a1.size : Int) := oT_ (by assumption)
                 have hx13 := bt_at a1 x5_1
                 replace p13 := eq_true p13
                 replace q13 := eq_true q13
                 go_wp2
                 repeat (go_quiet (fail); try go_wp2)
                 go_roundg kj2
                 case measure => have := HK1.out; have := HJ2.out; omega
                 case rel => exact ⟨(wrap64 (x5_1 + 1)), (by first | rfl | (simp; done) | (simp [*]; done)), H', ⟨by have := HK1.out; have := HJ2.out; omega⟩, by repeat (first | exact Drawn0.refl _ | apply Drawn0.step)⟩
           · rw [if_neg c9] at H
             exact absurd H (by simp)
         · rw [if_neg c7] at H
           exact absurd H (by simp)
       · rw [if_neg c6] at H
         exact absurd H (by simp)
     · replace c5 := Bool.eq_false_iff.mpr c5
       subst c5
       have H1 : (if (a0.size : Int) < (a1.size : Int) then (some (-1)) else (if (a0.size : Int) > (a1.size : Int) then (some 1) else (some 0))) = some r := by rw [if_neg (show ¬ (false = true) by decide)] at H; exact H
       clear H
       have H := H1
       clear H1
       by_cases c15 : (a0.size : Int) < (a1.size : Int)
       · rw [if_pos c15] at H
         have c15b0 : decide ((a0.size : Int) < (a1.size : Int)) = true := dT_ c15
         have c15b1 : decide (a0.size < a1.size) = true := dT_ (Int.ofNat_lt.mp c15)
         clear c15
         obtain rfl := Option.some.inj H
         go_wp2
         repeat (go_quiet (fail); try go_wp2)
         go_ret
         exact ⟨by first | rfl | (simp; done) | (simp [*]; done), by repeat (first | exact Drawn0.refl _ | apply Drawn0.step)⟩
       · rw [if_neg c15] at H
         have c15b0 : decide ((a0.size : Int) < (a1.size : Int)) = false := dF_ c15
         have c15b1 : decide (a0.size < a1.size) = false := dF_ (fun h => c15 (Int.ofNat_lt.mpr h))
         clear c15
         by_cases c16 : (a0.size : Int) > (a1.size : Int)
         · rw [if_pos c16] at H
           have c16b0 : decide ((a1.size : Int) < (a0.size : Int)) = true := dT_ c16
           have c16b1 : decide (a1.size < a0.size) = true := dT_ (Int.ofNat_lt.mp c16)
           clear c16
           obtain rfl := Option.some.inj H
           go_wp2
           repeat (go_quiet (fail); try go_wp2)
           go_ret
           exact ⟨by first | rfl | (simp; done) | (simp [*]; done), by repeat (first | exact Drawn0.refl _ | apply Drawn0.step)⟩
         · rw [if_neg c16] at H
           have c16b0 : decide ((a1.size : Int) < (a0.size : Int)) = false := dF_ c16
           have c16b1 : decide (a1.size < a0.size) = false := dF_ (fun h => c16 (Int.ofNat_lt.mpr h))
           clear c16
           obtain rfl := Option.some.inj H
           go_wp2
           repeat (go_quiet (fail); try go_wp2)
           go_ret
           exact ⟨by first | rfl | (simp; done) | (simp [*]; done), by repeat (first | exact Drawn0.refl _ | apply Drawn0.step)⟩
def r1_Compare.j0 : Nat → Int → Bool → Int → Int → ByteArray → Int → Int → ByteArray → Option (Int)
 | 0, _, _, _, _, _, _, _, _ => none
 | k + 1, x19, x22, x181000, x181001, x181002, x182000, x182001, x182002 => if x22 = true then ((r1_ints.f x181001 x182001).bind fun t183 => (some t183)) else (if x19 = 2 then ((r1_texts.f k x181002 x182002).bind fun t184 => (some t184)) else ((r1_ints.f x181001 x182001).bind fun t185 => (if t185 = 0 then ((r1_texts.f k x181002 x182002).bind fun t186 => (some t186)) else (some t185))))
def r1_Compare.f (k : Nat) (a0_0 : Int) (a0_1 : Int) (a0_2 : ByteArray) (a1_0 : Int) (a1_1 : Int) (a1_2 : ByteArray) : Option (Int) := if a0_0 = a1_0 then (if a0_0 = 0 then (some 0) else (if a0_0 = 1 then (r1_Compare.j0 k a0_0 (a0_0 == 1) a0_0 a0_1 a0_2 a1_0 a1_1 a1_2) else (r1_Compare.j0 k a0_0 (a0_0 == 3) a0_0 a0_1 a0_2 a1_0 a1_1 a1_2))) else ((r1_ints.f (wrap64 (a0_0)) (wrap64 (a1_0))).bind fun t182 => (some t182))
theorem r1_Compare.calls (k : Nat) (a0_0 : Int) (a0_1 : Int) (a0_2 : ByteArray) (a1_0 : Int) (a1_1 : Int) (a1_2 : ByteArray) (r : Int) (w : World) (h : r1_Compare.f k a0_0 a0_1 a0_2 a1_0 a1_1 a1_2 = some r) :
 Calls Tryz.prog 85 #[.agg #[.int .u8 a0_0, .int .i64 a0_1, .string a0_2], .agg #[.int .u8 a1_0, .int .i64 a1_1, .string a1_2]] w fun e w' => e = .returned (.int .i64 r) ∧ Below w.heap.size w w' := by
 have hu36 := Tryz.underlying36
 have HB := Aside0.mk (Below.refl w.heap.size w)
 have H : (if a0_0 = a1_0 then (if a0_0 = 0 then (some 0) else (if a0_0 = 1 then (r1_Compare.j0 k a0_0 (a0_0 == 1) a0_0 a0_1 a0_2 a1_0 a1_1 a1_2) else (r1_Compare.j0 k a0_0 (a0_0 == 3) a0_0 a0_1 a0_2 a1_0 a1_1 a1_2))) else ((r1_ints.f (wrap64 (a0_0)) (wrap64 (a1_0))).bind fun t182 => (some t182))) = some r := h
 clear h
 by_cases c3 : a0_0 = a1_0
 · rw [if_pos c3] at H
   have c3b0 : (a0_0 == a1_0) = true := beq_iff_eq.mpr c3
   have c3b1 : (a0_0 != a1_0) = false := bne_eq_false_iff_eq.mpr c3
   clear c3
   by_cases c4 : a0_0 = 0
   · rw [if_pos c4] at H
     have c4b0 : (a0_0 == 0) = true := beq_iff_eq.mpr c4
     have c4b1 : (a0_0 != 0) = false := bne_eq_false_iff_eq.mpr c4
     clear c4
     obtain rfl := Option.some.inj H
     go_enter Tryz.func85, Tryz.ntmps85
     go_wp2_with (first | ((with_reducible refine gate_dst (N := 2) rfl ?_); refine box_event ?hg (N := 2) ?hd (cs := #[.int .u8 a0_0, .int .i64 a0_1, .string a0_2]) (t := 36) ?hr ?_; (case hd => rfl); (case hg => rfl); (case hr => first | (go_simp; done) | (go_simp; rfl)); intro gb180 hg w5 hbox hb; have n0_ := Aside0.mk (below_step (by repeat (first | (with_reducible first | exact HB.out | apply bA_ | apply bN_ | apply b1_) | exact HB.out)) hb); have n1_ := Aside0.mk (hbox); have n2_ := Aside0.mk ((by rw [hg]; exact (below_size (by repeat (first | (with_reducible first | exact HB.out | apply bA_ | apply bN_ | apply b1_) | exact HB.out))) : w.heap.size ≤ gb180)); have n3_ := Aside0.mk ((by rw [hg]; exact (below_size (by repeat (first | (with_reducible first | exact HB.out | apply bA_ | apply bN_ | apply b1_) | exact HB.out))) : w.heap.size ≤ gb180)); clear HB; have HB := n0_; have BK180 := n1_; have GW180 := n2_; have GE180 := n3_; clear n0_ n1_ n2_ n3_; clear hb hbox hg) | ((with_reducible refine gate_dst (N := 3) rfl ?_); refine box_event ?hg (N := 3) ?hd (cs := #[.int .u8 a1_0, .int .i64 a1_1, .string a1_2]) (t := 36) ?hr ?_; (case hd => rfl); (case hg => rfl); (case hr => first | (go_simp; done) | (go_simp; rfl)); intro gb181 hg w6 hbox hb; have n0_ := Aside0.mk (blk_below (g := gb180) (o := .cells #[.int .u8 a0_0, .int .i64 a0_1, .string a0_2] 36 (0, 0)) (by (with_reducible repeat (first | refine blk_drewN ?_ _ | refine blk_drew ?_ | refine blk_alloc ?_ _)); exact BK180.out) hb); have n1_ := Aside0.mk (below_step (by repeat (first | (with_reducible first | exact HB.out | apply bA_ | apply bN_ | apply b1_ | refine below_set ?_ GE180.out) | exact HB.out)) hb); have n2_ := Aside0.mk (hbox); have n3_ := Aside0.mk ((by rw [hg]; exact (below_size (by repeat (first | (with_reducible first | exact HB.out | apply bA_ | apply bN_ | apply b1_ | refine below_set ?_ GE180.out) | exact HB.out))) : w.heap.size ≤ gb181)); have n4_ := Aside0.mk ((by rw [hg]; exact (below_size (by repeat (first | (with_reducible first | exact HB.out | apply bA_ | apply bN_ | apply b1_ | refine below_set ?_ GE180.out) | exact HB.out))) : w.heap.size ≤ gb181)); have n5_ := Aside0.mk ((by rw [hg]; exact Nat.ne_of_lt (blk_lt (g := gb180) (o := .cells #[.int .u8 a0_0, .int .i64 a0_1, .string a0_2] 36 (0, 0)) (by (with_reducible repeat (first | refine blk_drewN ?_ _ | refine blk_drew ?_ | refine blk_alloc ?_ _)); exact BK180.out)) : gb180 ≠ gb181)); have n6_ := Aside0.mk ((by rw [hg]; exact Nat.ne_of_gt (blk_lt (g := gb180) (o := .cells #[.int .u8 a0_0, .int .i64 a0_1, .string a0_2] 36 (0, 0)) (by (with_reducible repeat (first | refine blk_drewN ?_ _ | refine blk_drew ?_ | refine blk_alloc ?_ _)); exact BK180.out)) : gb181 ≠ gb180)); clear BK180; clear HB; have BK180 := n0_; have HB := n1_; have BK181 := n2_; have GW181 := n3_; have GE181 := n4_; have NB180_181 := n5_; have NB181_180 := n6_; clear n0_ n1_ n2_ n3_ n4_ n5_ n6_; clear hb hbox hg; have hnb7 := NB180_181.out; have hnc7 := NB181_180.out; have hcz8_0 : w6.cell? ⟨gb180, 0, none⟩ = some (.int .u8 a0_0) := (blk_cell BK180.out 0).trans rfl; have hcz8_1 : w6.cell? ⟨gb180, 1, none⟩ = some (.int .i64 a0_1) := (blk_cell BK180.out 1).trans rfl; have hcz8_2 : w6.cell? ⟨gb180, 2, none⟩ = some (.string a0_2) := (blk_cell BK180.out 2).trans rfl; have hfz8_0 := blk_frozen BK180.out 0; have hfz8_1 := blk_frozen BK180.out 1; have hfz8_2 := blk_frozen BK180.out 2; have hcz9_0 : w6.cell? ⟨gb181, 0, none⟩ = some (.int .u8 a1_0) := (blk_cell BK181.out 0).trans rfl; have hcz9_1 : w6.cell? ⟨gb181, 1, none⟩ = some (.int .i64 a1_1) := (blk_cell BK181.out 1).trans rfl; have hcz9_2 : w6.cell? ⟨gb181, 2, none⟩ = some (.string a1_2) := (blk_cell BK181.out 2).trans rfl; have hfz9_0 := blk_frozen BK181.out 0; have hfz9_1 := blk_frozen BK181.out 1; have hfz9_2 := blk_frozen BK181.out 2))
     go_ret
     exact ⟨by first | rfl | (simp [*, errW_none, errW_some] <;> rfl), by repeat (first | (with_reducible first | exact HB.out | apply bA_ | apply bN_ | apply b1_ | refine below_set ?_ GE180.out | refine below_set ?_ GE181.out) | exact HB.out)⟩
   · rw [if_neg c4] at H
     have c4b0 : (a0_0 == 0) = false := beq_eq_false_iff_ne.mpr c4
     have c4b1 : (a0_0 != 0) = true := bne_iff_ne.mpr c4
     have HC10 := Aside0.mk H
     clear H
     go_enter Tryz.func85, Tryz.ntmps85
     go_upto_if 22 with (first | ((with_reducible refine gate_dst (N := 2) rfl ?_); refine box_event ?hg (N := 2) ?hd (cs := #[.int .u8 a0_0, .int .i64 a0_1, .string a0_2]) (t := 36) ?hr ?_; (case hd => rfl); (case hg => rfl); (case hr => first | (go_simp; done) | (go_simp; rfl)); intro gb180 hg w11 hbox hb; have n0_ := Aside0.mk (below_step (by repeat (first | (with_reducible first | exact HB.out | apply bA_ | apply bN_ | apply b1_) | exact HB.out)) hb); have n1_ := Aside0.mk (hbox); have n2_ := Aside0.mk ((by rw [hg]; exact (below_size (by repeat (first | (with_reducible first | exact HB.out | apply bA_ | apply bN_ | apply b1_) | exact HB.out))) : w.heap.size ≤ gb180)); have n3_ := Aside0.mk ((by rw [hg]; exact (below_size (by repeat (first | (with_reducible first | exact HB.out | apply bA_ | apply bN_ | apply b1_) | exact HB.out))) : w.heap.size ≤ gb180)); clear HB; have HB := n0_; have BK180 := n1_; have GW180 := n2_; have GE180 := n3_; clear n0_ n1_ n2_ n3_; clear hb hbox hg) | ((with_reducible refine gate_dst (N := 3) rfl ?_); refine box_event ?hg (N := 3) ?hd (cs := #[.int .u8 a1_0, .int .i64 a1_1, .string a1_2]) (t := 36) ?hr ?_; (case hd => rfl); (case hg => rfl); (case hr => first | (go_simp; done) | (go_simp; rfl)); intro gb181 hg w12 hbox hb; have n0_ := Aside0.mk (blk_below (g := gb180) (o := .cells #[.int .u8 a0_0, .int .i64 a0_1, .string a0_2] 36 (0, 0)) (by (with_reducible repeat (first | refine blk_drewN ?_ _ | refine blk_drew ?_ | refine blk_alloc ?_ _)); exact BK180.out) hb); have n1_ := Aside0.mk (below_step (by repeat (first | (with_reducible first | exact HB.out | apply bA_ | apply bN_ | apply b1_ | refine below_set ?_ GE180.out) | exact HB.out)) hb); have n2_ := Aside0.mk (hbox); have n3_ := Aside0.mk ((by rw [hg]; exact (below_size (by repeat (first | (with_reducible first | exact HB.out | apply bA_ | apply bN_ | apply b1_ | refine below_set ?_ GE180.out) | exact HB.out))) : w.heap.size ≤ gb181)); have n4_ := Aside0.mk ((by rw [hg]; exact (below_size (by repeat (first | (with_reducible first | exact HB.out | apply bA_ | apply bN_ | apply b1_ | refine below_set ?_ GE180.out) | exact HB.out))) : w.heap.size ≤ gb181)); have n5_ := Aside0.mk ((by rw [hg]; exact Nat.ne_of_lt (blk_lt (g := gb180) (o := .cells #[.int .u8 a0_0, .int .i64 a0_1, .string a0_2] 36 (0, 0)) (by (with_reducible repeat (first | refine blk_drewN ?_ _ | refine blk_drew ?_ | refine blk_alloc ?_ _)); exact BK180.out)) : gb180 ≠ gb181)); have n6_ := Aside0.mk ((by rw [hg]; exact Nat.ne_of_gt (blk_lt (g := gb180) (o := .cells #[.int .u8 a0_0, .int .i64 a0_1, .string a0_2] 36 (0, 0)) (by (with_reducible repeat (first | refine blk_drewN ?_ _ | refine blk_drew ?_ | refine blk_alloc ?_ _)); exact BK180.out)) : gb181 ≠ gb180)); clear BK180; clear HB; have BK180 := n0_; have HB := n1_; have BK181 := n2_; have GW181 := n3_; have GE181 := n4_; have NB180_181 := n5_; have NB181_180 := n6_; clear n0_ n1_ n2_ n3_ n4_ n5_ n6_; clear hb hbox hg; have hnb13 := NB180_181.out; have hnc13 := NB181_180.out; have hcz14_0 : w12.cell? ⟨gb180, 0, none⟩ = some (.int .u8 a0_0) := (blk_cell BK180.out 0).trans rfl; have hcz14_1 : w12.cell? ⟨gb180, 1, none⟩ = some (.int .i64 a0_1) := (blk_cell BK180.out 1).trans rfl; have hcz14_2 : w12.cell? ⟨gb180, 2, none⟩ = some (.string a0_2) := (blk_cell BK180.out 2).trans rfl; have hfz14_0 := blk_frozen BK180.out 0; have hfz14_1 := blk_frozen BK180.out 1; have hfz14_2 := blk_frozen BK180.out 2; have hcz15_0 : w12.cell? ⟨gb181, 0, none⟩ = some (.int .u8 a1_0) := (blk_cell BK181.out 0).trans rfl; have hcz15_1 : w12.cell? ⟨gb181, 1, none⟩ = some (.int .i64 a1_1) := (blk_cell BK181.out 1).trans rfl; have hcz15_2 : w12.cell? ⟨gb181, 2, none⟩ = some (.string a1_2) := (blk_cell BK181.out 2).trans rfl; have hfz15_0 := blk_frozen BK181.out 0; have hfz15_1 := blk_frozen BK181.out 1; have hfz15_2 := blk_frozen BK181.out 2))
     (try simp only [Act.put, sTA_, sCZ_, sCS_])
     go_cut [22] (fun v22 wc => ∃ (kq : Nat) (x22_9 : Bool), v22 = .bool x22_9 ∧ Aside0 (r1_Compare.j0 kq a0_0 x22_9 a0_0 a0_1 a0_2 a1_0 a1_1 a1_2 = some r) ∧ Aside0 (kq ≤ k) ∧ Aside0 (wc.heap[gb180]? = some (.cells #[.int .u8 a0_0, .int .i64 a0_1, .string a0_2] 36 (0, 0))) ∧ Aside0 (wc.heap[gb181]? = some (.cells #[.int .u8 a1_0, .int .i64 a1_1, .string a1_2] 36 (0, 0))) ∧ Aside0 (Below w.heap.size w wc))
     case first =>
      have H := HC10.out
      clear HC10
      by_cases c16 : a0_0 = 1
      · rw [if_pos c16] at H
        have c16b0 : (a0_0 == 1) = true := beq_iff_eq.mpr c16
        have c16b1 : (a0_0 != 1) = false := bne_eq_false_iff_eq.mpr c16
        clear c16
        (first | rw [c16b0] | (simp only [i64_w, i32_w]; rw [c16b0]) | skip)
        have H' := Aside0.mk H
        clear H
        go_wp2
        go_meet
        case rel => exact ⟨_, ((a0_0 == 1)), (by first | rfl | (simp; done) | (simp [*]; done)), H', ⟨by first | omega | exact Nat.le_refl _⟩, ⟨by (with_reducible repeat (first | refine blk_drewN ?_ _ | refine blk_drew ?_ | refine blk_alloc ?_ _)); exact BK180.out⟩, ⟨by (with_reducible repeat (first | refine blk_drewN ?_ _ | refine blk_drew ?_ | refine blk_alloc ?_ _)); exact BK181.out⟩, ⟨by repeat (first | (with_reducible first | exact HB.out | apply bA_ | apply bN_ | apply b1_ | refine below_set ?_ GE180.out | refine below_set ?_ GE181.out) | exact HB.out)⟩⟩
      · rw [if_neg c16] at H
        have c16b0 : (a0_0 == 1) = false := beq_eq_false_iff_ne.mpr c16
        have c16b1 : (a0_0 != 1) = true := bne_iff_ne.mpr c16
        (first | rw [c16b0] | (simp only [i64_w, i32_w]; rw [c16b0]) | skip)
        have H' := Aside0.mk H
        clear H
        go_wp2
        go_meet
        case rel => exact ⟨_, ((a0_0 == 3)), (by first | rfl | (simp; done) | (simp [*]; done)), H', ⟨by first | omega | exact Nat.le_refl _⟩, ⟨by (with_reducible repeat (first | refine blk_drewN ?_ _ | refine blk_drew ?_ | refine blk_alloc ?_ _)); exact BK180.out⟩, ⟨by (with_reducible repeat (first | refine blk_drewN ?_ _ | refine blk_drew ?_ | refine blk_alloc ?_ _)); exact BK181.out⟩, ⟨by repeat (first | (with_reducible first | exact HB.out | apply bA_ | apply bN_ | apply b1_ | refine below_set ?_ GE180.out | refine below_set ?_ GE181.out) | exact HB.out)⟩⟩
     case rest =>
      clear HC10
      try clear c1
      try clear p2
      try clear c3
      try clear c3b0
      try clear c3b1
      try clear c4
      try clear c4b0
      try clear c4b1
      try clear p6
      try clear c7
      try clear c8
      try clear c13
      try clear c16
      try clear c16b0
      try clear c16b1
      try clear hcz14_0
      try clear hcz14_1
      try clear hcz14_2
      try clear hcz15_0
      try clear hcz15_1
      try clear hcz15_2
      try clear hcz8_0
      try clear hcz8_1
      try clear hcz8_2
      try clear hcz9_0
      try clear hcz9_1
      try clear hcz9_2
      try clear hfz14_0
      try clear hfz14_1
      try clear hfz14_2
      try clear hfz15_0
      try clear hfz15_1
      try clear hfz15_2
      try clear hfz8_0
      try clear hfz8_1
      try clear hfz8_2
      try clear hfz9_0
      try clear hfz9_1
      try clear hfz9_2
      obtain ⟨kq, x22_9, rfl, HA, HJ9, BK180, BK181, HB⟩ := hcut
      cases kq with
      | zero => exact absurd HA.out (by simp [r1_Compare.j0])
      | succ kj9 =>
       have H := HA.out
       clear HA
       simp only [r1_Compare.j0] at H
       by_cases c17 : x22_9 = true
       · subst c17
         have H1 : ((r1_ints.f a0_1 a1_1).bind fun t183 => (some t183)) = some r := by rw [if_pos rfl] at H; exact H
         clear H
         have H := H1
         clear H1
         replace H := Option.bind_eq_some_iff.mp H
         obtain ⟨t183, A180, H⟩ := H
         replace H : (some t183) = some r := H
         have A18 := Aside0.mk A180
         clear A180
         obtain rfl := Option.some.inj H
         have hnb19 := NB180_181.out
         have hnc19 := NB181_180.out
         have hcz20_0 : wc.cell? ⟨gb180, 0, none⟩ = some (.int .u8 a0_0) := (blk_cell BK180.out 0).trans rfl
         have hcz20_1 : wc.cell? ⟨gb180, 1, none⟩ = some (.int .i64 a0_1) := (blk_cell BK180.out 1).trans rfl
         have hcz20_2 : wc.cell? ⟨gb180, 2, none⟩ = some (.string a0_2) := (blk_cell BK180.out 2).trans rfl
         have hfz20_0 := blk_frozen BK180.out 0
         have hfz20_1 := blk_frozen BK180.out 1
         have hfz20_2 := blk_frozen BK180.out 2
         have hcz21_0 : wc.cell? ⟨gb181, 0, none⟩ = some (.int .u8 a1_0) := (blk_cell BK181.out 0).trans rfl
         have hcz21_1 : wc.cell? ⟨gb181, 1, none⟩ = some (.int .i64 a1_1) := (blk_cell BK181.out 1).trans rfl
         have hcz21_2 : wc.cell? ⟨gb181, 2, none⟩ = some (.string a1_2) := (blk_cell BK181.out 2).trans rfl
         have hfz21_0 := blk_frozen BK181.out 0
         have hfz21_1 := blk_frozen BK181.out 1
         have hfz21_2 := blk_frozen BK181.out 2
         go_wp2_with (first | ((with_reducible refine gate_callee (f := 100) rfl ?_); refine goesL_ (some 29) rfl rfl Tryz.func100 (by kernel_rfl) rfl #[.int .i64 a0_1, .int .i64 a1_1] rfl (by (try simp only [List.map_toArray, List.map_cons, List.map_nil]); first | done | rfl | (simp only [List.length_drop, List.length_take]; rfl)) ?_; (with_reducible refine (r1_ints.calls a0_1 a1_1 t183 _ A18.out).mono ?_); rintro e w' ⟨rfl, ⟨nd, rfl⟩⟩; refine ⟨_, rfl, ?_⟩))
         go_ret
         exact ⟨by first | rfl | (simp [*, errW_none, errW_some] <;> rfl), by repeat (first | (with_reducible first | exact HB.out | apply bA_ | apply bN_ | apply b1_ | refine below_set ?_ GE180.out | refine below_set ?_ GE181.out) | exact HB.out)⟩
       · replace c17 := Bool.eq_false_iff.mpr c17
         subst c17
         have H1 : (if a0_0 = 2 then ((r1_texts.f kj9 a0_2 a1_2).bind fun t184 => (some t184)) else ((r1_ints.f a0_1 a1_1).bind fun t185 => (if t185 = 0 then ((r1_texts.f kj9 a0_2 a1_2).bind fun t186 => (some t186)) else (some t185)))) = some r := by rw [if_neg (show ¬ (false = true) by decide)] at H; exact H
         clear H
         have H := H1
         clear H1
         by_cases c22 : a0_0 = 2
         · rw [if_pos c22] at H
           have c22b0 : (a0_0 == 2) = true := beq_iff_eq.mpr c22
           have c22b1 : (a0_0 != 2) = false := bne_eq_false_iff_eq.mpr c22
           clear c22
           replace H := Option.bind_eq_some_iff.mp H
           obtain ⟨t184, A230, H⟩ := H
           replace H : (some t184) = some r := H
           have A23 := Aside0.mk A230
           clear A230
           obtain rfl := Option.some.inj H
           have hnb24 := NB180_181.out
           have hnc24 := NB181_180.out
           have hcz25_0 : wc.cell? ⟨gb180, 0, none⟩ = some (.int .u8 a0_0) := (blk_cell BK180.out 0).trans rfl
           have hcz25_1 : wc.cell? ⟨gb180, 1, none⟩ = some (.int .i64 a0_1) := (blk_cell BK180.out 1).trans rfl
           have hcz25_2 : wc.cell? ⟨gb180, 2, none⟩ = some (.string a0_2) := (blk_cell BK180.out 2).trans rfl
           have hfz25_0 := blk_frozen BK180.out 0
           have hfz25_1 := blk_frozen BK180.out 1
           have hfz25_2 := blk_frozen BK180.out 2
           have hcz26_0 : wc.cell? ⟨gb181, 0, none⟩ = some (.int .u8 a1_0) := (blk_cell BK181.out 0).trans rfl
           have hcz26_1 : wc.cell? ⟨gb181, 1, none⟩ = some (.int .i64 a1_1) := (blk_cell BK181.out 1).trans rfl
           have hcz26_2 : wc.cell? ⟨gb181, 2, none⟩ = some (.string a1_2) := (blk_cell BK181.out 2).trans rfl
           have hfz26_0 := blk_frozen BK181.out 0
           have hfz26_1 := blk_frozen BK181.out 1
           have hfz26_2 := blk_frozen BK181.out 2
           go_wp2_with (first | ((with_reducible refine gate_callee (f := 101) rfl ?_); refine goesL_ (some 36) rfl rfl Tryz.func101 (by kernel_rfl) rfl #[.string a0_2, .string a1_2] rfl (by (try simp only [List.map_toArray, List.map_cons, List.map_nil]); first | done | rfl | (simp only [List.length_drop, List.length_take]; rfl)) ?_; (with_reducible refine (r1_texts.calls kj9 a0_2 a1_2 t184 _ A23.out).mono ?_); rintro e w' ⟨rfl, ⟨nd, rfl⟩⟩; refine ⟨_, rfl, ?_⟩))
           go_ret
           exact ⟨by first | rfl | (simp [*, errW_none, errW_some] <;> rfl), by repeat (first | (with_reducible first | exact HB.out | apply bA_ | apply bN_ | apply b1_ | refine below_set ?_ GE180.out | refine below_set ?_ GE181.out) | exact HB.out)⟩
         · rw [if_neg c22] at H
           have c22b0 : (a0_0 == 2) = false := beq_eq_false_iff_ne.mpr c22
           have c22b1 : (a0_0 != 2) = true := bne_iff_ne.mpr c22
           replace H := Option.bind_eq_some_iff.mp H
           obtain ⟨t185, A270, H⟩ := H
           replace H : (if t185 = 0 then ((r1_texts.f kj9 a0_2 a1_2).bind fun t186 => (some t186)) else (some t185)) = some r := H
           have A27 := Aside0.mk A270
           clear A270
           by_cases c28 : t185 = 0
           · rw [if_pos c28] at H
             have c28b0 : (t185 == 0) = true := beq_iff_eq.mpr c28
             have c28b1 : (t185 != 0) = false := bne_eq_false_iff_eq.mpr c28
             clear c28
             replace H := Option.bind_eq_some_iff.mp H
             obtain ⟨t186, A290, H⟩ := H
             replace H : (some t186) = some r := H
             have A29 := Aside0.mk A290
             clear A290
             obtain rfl := Option.some.inj H
             have hnb30 := NB180_181.out
             have hnc30 := NB181_180.out
             have hcz31_0 : wc.cell? ⟨gb180, 0, none⟩ = some (.int .u8 a0_0) := (blk_cell BK180.out 0).trans rfl
             have hcz31_1 : wc.cell? ⟨gb180, 1, none⟩ = some (.int .i64 a0_1) := (blk_cell BK180.out 1).trans rfl
             have hcz31_2 : wc.cell? ⟨gb180, 2, none⟩ = some (.string a0_2) := (blk_cell BK180.out 2).trans rfl
             have hfz31_0 := blk_frozen BK180.out 0
             have hfz31_1 := blk_frozen BK180.out 1
             have hfz31_2 := blk_frozen BK180.out 2
             have hcz32_0 : wc.cell? ⟨gb181, 0, none⟩ = some (.int .u8 a1_0) := (blk_cell BK181.out 0).trans rfl
             have hcz32_1 : wc.cell? ⟨gb181, 1, none⟩ = some (.int .i64 a1_1) := (blk_cell BK181.out 1).trans rfl
             have hcz32_2 : wc.cell? ⟨gb181, 2, none⟩ = some (.string a1_2) := (blk_cell BK181.out 2).trans rfl
             have hfz32_0 := blk_frozen BK181.out 0
             have hfz32_1 := blk_frozen BK181.out 1
             have hfz32_2 := blk_frozen BK181.out 2
             go_wp2_with (first | ((with_reducible refine gate_callee (f := 100) rfl ?_); refine goesL_ (some 41) rfl rfl Tryz.func100 (by kernel_rfl) rfl #[.int .i64 a0_1, .int .i64 a1_1] rfl (by (try simp only [List.map_toArray, List.map_cons, List.map_nil]); first | done | rfl | (simp only [List.length_drop, List.length_take]; rfl)) ?_; (with_reducible refine (r1_ints.calls a0_1 a1_1 t185 _ A27.out).mono ?_); rintro e w' ⟨rfl, ⟨nd, rfl⟩⟩; refine ⟨_, rfl, ?_⟩) | ((with_reducible refine gate_callee (f := 101) rfl ?_); refine goesL_ (some 49) rfl rfl Tryz.func101 (by kernel_rfl) rfl #[.string a0_2, .string a1_2] rfl (by (try simp only [List.map_toArray, List.map_cons, List.map_nil]); first | done | rfl | (simp only [List.length_drop, List.length_take]; rfl)) ?_; (with_reducible refine (r1_texts.calls kj9 a0_2 a1_2 t186 _ A29.out).mono ?_); rintro e w' ⟨rfl, ⟨nd, rfl⟩⟩; refine ⟨_, rfl, ?_⟩))
             go_ret
             exact ⟨by first | rfl | (simp [*, errW_none, errW_some] <;> rfl), by repeat (first | (with_reducible first | exact HB.out | apply bA_ | apply bN_ | apply b1_ | refine below_set ?_ GE180.out | refine below_set ?_ GE181.out) | exact HB.out)⟩
           · rw [if_neg c28] at H
             have c28b0 : (t185 == 0) = false := beq_eq_false_iff_ne.mpr c28
             have c28b1 : (t185 != 0) = true := bne_iff_ne.mpr c28
             obtain rfl := Option.some.inj H
             have hnb33 := NB180_181.out
             have hnc33 := NB181_180.out
             have hcz34_0 : wc.cell? ⟨gb180, 0, none⟩ = some (.int .u8 a0_0) := (blk_cell BK180.out 0).trans rfl
             have hcz34_1 : wc.cell? ⟨gb180, 1, none⟩ = some (.int .i64 a0_1) := (blk_cell BK180.out 1).trans rfl
             have hcz34_2 : wc.cell? ⟨gb180, 2, none⟩ = some (.string a0_2) := (blk_cell BK180.out 2).trans rfl
             have hfz34_0 := blk_frozen BK180.out 0
             have hfz34_1 := blk_frozen BK180.out 1
             have hfz34_2 := blk_frozen BK180.out 2
             have hcz35_0 : wc.cell? ⟨gb181, 0, none⟩ = some (.int .u8 a1_0) := (blk_cell BK181.out 0).trans rfl
             have hcz35_1 : wc.cell? ⟨gb181, 1, none⟩ = some (.int .i64 a1_1) := (blk_cell BK181.out 1).trans rfl
             have hcz35_2 : wc.cell? ⟨gb181, 2, none⟩ = some (.string a1_2) := (blk_cell BK181.out 2).trans rfl
             have hfz35_0 := blk_frozen BK181.out 0
             have hfz35_1 := blk_frozen BK181.out 1
             have hfz35_2 := blk_frozen BK181.out 2
             go_wp2_with (first | ((with_reducible refine gate_callee (f := 100) rfl ?_); refine goesL_ (some 41) rfl rfl Tryz.func100 (by kernel_rfl) rfl #[.int .i64 a0_1, .int .i64 a1_1] rfl (by (try simp only [List.map_toArray, List.map_cons, List.map_nil]); first | done | rfl | (simp only [List.length_drop, List.length_take]; rfl)) ?_; (with_reducible refine (r1_ints.calls a0_1 a1_1 t185 _ A27.out).mono ?_); rintro e w' ⟨rfl, ⟨nd, rfl⟩⟩; refine ⟨_, rfl, ?_⟩))
             go_ret
             exact ⟨by first | rfl | (simp [*, errW_none, errW_some] <;> rfl), by repeat (first | (with_reducible first | exact HB.out | apply bA_ | apply bN_ | apply b1_ | refine below_set ?_ GE180.out | refine below_set ?_ GE181.out) | exact HB.out)⟩
 · rw [if_neg c3] at H
   have c3b0 : (a0_0 == a1_0) = false := beq_eq_false_iff_ne.mpr c3
   have c3b1 : (a0_0 != a1_0) = true := bne_iff_ne.mpr c3
   replace H := Option.bind_eq_some_iff.mp H
   obtain ⟨t182, A360, H⟩ := H
   replace H : (some t182) = some r := H
   have A36 := Aside0.mk A360
   clear A360
   obtain rfl := Option.some.inj H
   go_enter Tryz.func85, Tryz.ntmps85
   go_wp2_with (first | ((with_reducible refine gate_dst (N := 2) rfl ?_); refine box_event ?hg (N := 2) ?hd (cs := #[.int .u8 a0_0, .int .i64 a0_1, .string a0_2]) (t := 36) ?hr ?_; (case hd => rfl); (case hg => rfl); (case hr => first | (go_simp; done) | (go_simp; rfl)); intro gb180 hg w37 hbox hb; have n0_ := Aside0.mk (below_step (by repeat (first | (with_reducible first | exact HB.out | apply bA_ | apply bN_ | apply b1_) | exact HB.out)) hb); have n1_ := Aside0.mk (hbox); have n2_ := Aside0.mk ((by rw [hg]; exact (below_size (by repeat (first | (with_reducible first | exact HB.out | apply bA_ | apply bN_ | apply b1_) | exact HB.out))) : w.heap.size ≤ gb180)); have n3_ := Aside0.mk ((by rw [hg]; exact (below_size (by repeat (first | (with_reducible first | exact HB.out | apply bA_ | apply bN_ | apply b1_) | exact HB.out))) : w.heap.size ≤ gb180)); clear HB; have HB := n0_; have BK180 := n1_; have GW180 := n2_; have GE180 := n3_; clear n0_ n1_ n2_ n3_; clear hb hbox hg) | ((with_reducible refine gate_dst (N := 3) rfl ?_); refine box_event ?hg (N := 3) ?hd (cs := #[.int .u8 a1_0, .int .i64 a1_1, .string a1_2]) (t := 36) ?hr ?_; (case hd => rfl); (case hg => rfl); (case hr => first | (go_simp; done) | (go_simp; rfl)); intro gb181 hg w38 hbox hb; have n0_ := Aside0.mk (blk_below (g := gb180) (o := .cells #[.int .u8 a0_0, .int .i64 a0_1, .string a0_2] 36 (0, 0)) (by (with_reducible repeat (first | refine blk_drewN ?_ _ | refine blk_drew ?_ | refine blk_alloc ?_ _)); exact BK180.out) hb); have n1_ := Aside0.mk (below_step (by repeat (first | (with_reducible first | exact HB.out | apply bA_ | apply bN_ | apply b1_ | refine below_set ?_ GE180.out) | exact HB.out)) hb); have n2_ := Aside0.mk (hbox); have n3_ := Aside0.mk ((by rw [hg]; exact (below_size (by repeat (first | (with_reducible first | exact HB.out | apply bA_ | apply bN_ | apply b1_ | refine below_set ?_ GE180.out) | exact HB.out))) : w.heap.size ≤ gb181)); have n4_ := Aside0.mk ((by rw [hg]; exact (below_size (by repeat (first | (with_reducible first | exact HB.out | apply bA_ | apply bN_ | apply b1_ | refine below_set ?_ GE180.out) | exact HB.out))) : w.heap.size ≤ gb181)); have n5_ := Aside0.mk ((by rw [hg]; exact Nat.ne_of_lt (blk_lt (g := gb180) (o := .cells #[.int .u8 a0_0, .int .i64 a0_1, .string a0_2] 36 (0, 0)) (by (with_reducible repeat (first | refine blk_drewN ?_ _ | refine blk_drew ?_ | refine blk_alloc ?_ _)); exact BK180.out)) : gb180 ≠ gb181)); have n6_ := Aside0.mk ((by rw [hg]; exact Nat.ne_of_gt (blk_lt (g := gb180) (o := .cells #[.int .u8 a0_0, .int .i64 a0_1, .string a0_2] 36 (0, 0)) (by (with_reducible repeat (first | refine blk_drewN ?_ _ | refine blk_drew ?_ | refine blk_alloc ?_ _)); exact BK180.out)) : gb181 ≠ gb180)); clear BK180; clear HB; have BK180 := n0_; have HB := n1_; have BK181 := n2_; have GW181 := n3_; have GE181 := n4_; have NB180_181 := n5_; have NB181_180 := n6_; clear n0_ n1_ n2_ n3_ n4_ n5_ n6_; clear hb hbox hg; have hnb39 := NB180_181.out; have hnc39 := NB181_180.out; have hcz40_0 : w38.cell? ⟨gb180, 0, none⟩ = some (.int .u8 a0_0) := (blk_cell BK180.out 0).trans rfl; have hcz40_1 : w38.cell? ⟨gb180, 1, none⟩ = some (.int .i64 a0_1) := (blk_cell BK180.out 1).trans rfl; have hcz40_2 : w38.cell? ⟨gb180, 2, none⟩ = some (.string a0_2) := (blk_cell BK180.out 2).trans rfl; have hfz40_0 := blk_frozen BK180.out 0; have hfz40_1 := blk_frozen BK180.out 1; have hfz40_2 := blk_frozen BK180.out 2; have hcz41_0 : w38.cell? ⟨gb181, 0, none⟩ = some (.int .u8 a1_0) := (blk_cell BK181.out 0).trans rfl; have hcz41_1 : w38.cell? ⟨gb181, 1, none⟩ = some (.int .i64 a1_1) := (blk_cell BK181.out 1).trans rfl; have hcz41_2 : w38.cell? ⟨gb181, 2, none⟩ = some (.string a1_2) := (blk_cell BK181.out 2).trans rfl; have hfz41_0 := blk_frozen BK181.out 0; have hfz41_1 := blk_frozen BK181.out 1; have hfz41_2 := blk_frozen BK181.out 2) | ((with_reducible refine gate_callee (f := 100) rfl ?_); refine goesL_ (some 17) rfl rfl Tryz.func100 (by kernel_rfl) rfl #[.int .i64 (wrap64 (a0_0)), .int .i64 (wrap64 (a1_0))] rfl (by (try simp only [List.map_toArray, List.map_cons, List.map_nil]); first | done | rfl | (simp only [List.length_drop, List.length_take]; rfl)) ?_; (with_reducible refine (r1_ints.calls (wrap64 (a0_0)) (wrap64 (a1_0)) t182 _ A36.out).mono ?_); rintro e w' ⟨rfl, ⟨nd, rfl⟩⟩; refine ⟨_, rfl, ?_⟩))
   go_ret
   exact ⟨by first | rfl | (simp [*, errW_none, errW_some] <;> rfl), by repeat (first | (with_reducible first | exact HB.out | apply bA_ | apply bN_ | apply b1_ | refine below_set ?_ GE180.out | refine below_set ?_ GE181.out) | exact HB.out)⟩
end Go.Proofs.YtecgkcgfeghhgaaGreatDoor.PAll
set_option linter.unusedVariables false
set_option linter.unusedSimpArgs false
namespace Go.Proofs.YtecgkcgfeghhgaaGreatDoor.PAll
open Go.RowKit Go.Proofs.YtecgkcgfeghhgaaGreatDoorW.PrintWords Go.Proofs.YtecgkcgfeghhgaaGreatDoorW.PrintLast Go.Proofs.YtecgkcgfeghhgaaGreatDoorW.PrintMore
theorem ints_eq (a b : Int) : r1_ints.f a b = some (cmpI a b) := by
 unfold r1_ints.f cmpI
 split
 · rfl
 · split <;> rfl
theorem bt_get (s : ByteArray) (i : Nat) (h : i < s.data.toList.length) : bt s (i : Int) = ((s.data.toList[i]).toNat : Int) := by
 have h2 : i < s.size := by rw [Array.length_toList] at h; exact h
 unfold bt
 rw [dif_pos (show ((i : Nat) : Int).toNat < s.size by rw [Int.toNat_natCast]; exact h2)]
 simp only [Int.toNat_natCast]
 rw [Array.getElem_toList]
 rfl
theorem texts_l0 (a b : ByteArray) (ha : a.size ≤ 1099511627776) : ∀ (d i : Nat), i + d = a.size → i ≤ b.size → Ev (fun k => r1_texts.l0 k a b (i : Int)) (Lib.compareBytes (a.data.toList.drop i) (b.data.toList.drop i)) := by
 have ea : a.data.toList.length = a.size := Array.length_toList
 have eb : b.data.toList.length = b.size := Array.length_toList
 intro d
 induction d with
 | zero =>
  intro i hi hb
  rw [List.drop_eq_nil_of_le (show a.data.toList.length ≤ i by omega)]
  refine Ev.step (f := fun k => r1_texts.j1 k a b (i : Int) false) (fun k => by simp only [r1_texts.l0]; rw [if_neg (by omega)]) ?_
  refine Ev.step (f := fun _ => if (a.size : Int) < (b.size : Int) then (some (-1)) else (if (a.size : Int) > (b.size : Int) then (some 1) else (some 0))) (fun k => by simp only [r1_texts.j1]; rw [if_neg (by simp)]) ?_
  by_cases c : i = b.size
  · rw [List.drop_eq_nil_of_le (show b.data.toList.length ≤ i by omega)]
    exact Ev.congr (f := fun _ => some 0) (fun k => by rw [if_neg (by omega), if_neg (by omega)]) (Ev.now _)
  · rw [drop_cons b.data.toList i (by omega)]
    exact Ev.congr (f := fun _ => some (-1)) (fun k => by rw [if_pos (by omega)]) (Ev.now _)
 | succ d ih =>
  intro i hi hb
  have hia : i < a.data.toList.length := by omega
  rw [drop_cons a.data.toList i hia]
  by_cases c : i = b.size
  · rw [List.drop_eq_nil_of_le (show b.data.toList.length ≤ i by omega)]
    refine Ev.step (f := fun k => r1_texts.j1 k a b (i : Int) false) (fun k => by simp only [r1_texts.l0]; rw [if_pos (by omega), decide_eq_false (by omega)]) ?_
    refine Ev.step (f := fun _ => if (a.size : Int) < (b.size : Int) then (some (-1)) else (if (a.size : Int) > (b.size : Int) then (some 1) else (some 0))) (fun k => by simp only [r1_texts.j1]; rw [if_neg (by simp)]) ?_
    exact Ev.congr (f := fun _ => some 1) (fun k => by rw [if_neg (by omega), if_pos (by omega)]) (Ev.now _)
  · have hib : i < b.data.toList.length := by omega
    rw [drop_cons b.data.toList i hib]
    refine Ev.step (f := fun k => r1_texts.j1 k a b (i : Int) true) (fun k => by simp only [r1_texts.l0]; rw [if_pos (by omega), decide_eq_true (by omega)]) ?_
    refine Ev.step (f := fun k => if ((a.data.toList[i]).toNat : Int) < ((b.data.toList[i]).toNat : Int) then some (-1) else if ((a.data.toList[i]).toNat : Int) > ((b.data.toList[i]).toNat : Int) then some 1 else r1_texts.l0 k a b ((i + 1 : Nat) : Int)) (fun k => ?_) ?_
    · simp only [r1_texts.j1]
      rw [if_pos trivial, if_pos (by omega), if_pos (by omega), if_pos (by omega), bt_get a i hia, bt_get b i hib, w64 _ (by omega) (by omega)]
      rfl
    · simp only [Lib.compareBytes, UInt8.lt_iff_toNat_lt]
      by_cases c1 : (a.data.toList[i]).toNat < (b.data.toList[i]).toNat
      · rw [if_pos c1]
        exact Ev.congr (f := fun _ => some (-1)) (fun k => by rw [if_pos (by omega)]) (Ev.now _)
      · rw [if_neg c1]
        by_cases c2 : (b.data.toList[i]).toNat < (a.data.toList[i]).toNat
        · rw [if_pos c2]
          exact Ev.congr (f := fun _ => some 1) (fun k => by rw [if_neg (by omega), if_pos (by omega)]) (Ev.now _)
        · rw [if_neg c2]
          exact Ev.congr (f := fun k => r1_texts.l0 k a b ((i + 1 : Nat) : Int)) (fun k => by rw [if_neg (by omega), if_neg (by omega)]) (ih (i + 1) (by omega) (by omega))
theorem texts_ev (a b : ByteArray) (ha : a.size ≤ 1099511627776) : Ev (fun k => r1_texts.f k a b) (Lib.compareBytes a.data.toList b.data.toList) := by
 have h := texts_l0 a b ha a.size 0 (by omega) (by omega)
 rw [List.drop_zero, List.drop_zero] at h
 exact h
theorem valid_text {v : V} (h : validV v = true) : v.f2.size ≤ 1099511627776 := by
 rcases valid_kind h with h0 | h0 | h0 | h0
 all_goals
  unfold validV at h
  simp [h0] at h
 · rw [noText_eq h.2]; decide
 · rw [noText_eq h]; decide
 · have := h.2; omega
 · rw [noText_eq h.1]; decide
theorem compare_ev (a b : V) (ha : validV a = true) (h0 : 0 ≤ a.f0 ∧ a.f0 ≤ 255) (h1 : 0 ≤ b.f0 ∧ b.f0 ≤ 255) : Ev (fun k => r1_Compare.f k a.f0 a.f1 a.f2 b.f0 b.f1 b.f2) (compareV a b) := by
 have hk : a.f0 = 0 ∨ a.f0 = 1 ∨ a.f0 = 2 ∨ a.f0 = 3 := valid_kind ha
 unfold compareV
 by_cases c : a.f0 = b.f0
 · have e : cmpI a.f0 b.f0 = 0 := by unfold cmpI; rw [if_neg (by omega), if_neg (by omega)]
   rw [if_pos e]
   by_cases c0 : a.f0 = 0
   · rw [if_pos c0]
     exact Ev.congr (f := fun _ => some 0) (fun k => by unfold r1_Compare.f; rw [if_pos c, if_pos c0]) (Ev.now _)
   · rw [if_neg c0]
     by_cases c2 : a.f0 = 2
     · rw [if_pos c2]
       refine Ev.congr (f := fun k => r1_Compare.j0 k a.f0 false a.f0 a.f1 a.f2 b.f0 b.f1 b.f2) (fun k => by unfold r1_Compare.f; rw [if_pos c, if_neg c0, if_neg (by omega), show (a.f0 == 3) = false by simp [c2]]) ?_
       refine Ev.step (f := fun k => (r1_texts.f k a.f2 b.f2).bind fun t => some t) (fun k => by simp only [r1_Compare.j0]; rw [if_neg (by simp), if_pos c2]) ?_
       exact Ev.bind (texts_ev _ _ (valid_text ha)) (Ev.now _)
     · rw [if_neg c2]
       refine Ev.congr (f := fun k => r1_Compare.j0 k a.f0 true a.f0 a.f1 a.f2 b.f0 b.f1 b.f2) (fun k => ?_) ?_
       · unfold r1_Compare.f
         rw [if_pos c, if_neg c0]
         by_cases c1 : a.f0 = 1
         · rw [if_pos c1, show (a.f0 == 1) = true by simp [c1]]
         · rw [if_neg c1, show (a.f0 == 3) = true by simp; omega]
       · refine Ev.step (f := fun _ => some (cmpI a.f1 b.f1)) (fun k => by simp only [r1_Compare.j0]; rw [if_pos trivial, ints_eq]; rfl) (Ev.now _)
 · have e : ¬ cmpI a.f0 b.f0 = 0 := fun h => c (cmpI_zero h)
   rw [if_neg e]
   have w : ∀ x : Int, 0 ≤ x ∧ x ≤ 255 → wrap64 x = x := fun x hx => by unfold wrap64; omega
   exact Ev.congr (f := fun _ => some (cmpI a.f0 b.f0)) (fun k => by unfold r1_Compare.f; rw [if_neg c, ints_eq, w _ h0, w _ h1]; rfl) (Ev.now _)
theorem valid_f0 {v : V} (h : validV v = true) : 0 ≤ v.f0 ∧ v.f0 ≤ 255 := by
 rcases valid_kind h with h0 | h0 | h0 | h0 <;> omega
end Go.Proofs.YtecgkcgfeghhgaaGreatDoor.PAll
set_option linter.unusedVariables false
set_option linter.unusedSimpArgs false
namespace Go.Proofs.YtecgkcgfeghhgaaGreatDoor.PAll
open Go.RowKit Go.Proofs.YtecgkcgfeghhgaaGreatDoorW.PrintWords Go.Proofs.YtecgkcgfeghhgaaGreatDoorW.PrintLast Go.Proofs.YtecgkcgfeghhgaaGreatDoorW.PrintMore
open Go.Shelf Go.Lib
theorem add64 (x y c : Int) (hx : 0 ≤ x) (hy : 0 ≤ y) (hc : 0 ≤ c) (hc1 : c ≤ 1) (w : World) :
 (callFunc 160 #[.int .u64 x, .int .u64 y, .int .u64 c]).run Tryz.prog w = .ok (.value (.tuple #[.int .u64 ((x + y + c) % 18446744073709551616), .int .u64 ((x + y + c) / 18446744073709551616)])) w := by
 obtain ⟨a, rfl⟩ := Int.eq_ofNat_of_zero_le hx
 obtain ⟨b, rfl⟩ := Int.eq_ofNat_of_zero_le hy
 obtain ⟨d, rfl⟩ := Int.eq_ofNat_of_zero_le hc
 have h := Any7.bits_Add64 add64L a b d (by omega) w
 change (callFunc 160 _).run _ _ = _ at h
 simpa using h
theorem grownBy_set0 {w W : World} {b : Nat} (h : w.grownBy W (some b)) (j : Nat) (u : Value) : w.grownBy (W.setCell ⟨b, j, none⟩ u) (some b) :=
 ⟨h.os, h.tape, h.output, Nat.le_trans h.size (by simp [World.setCell]), fun k hk hne => (Below.heap_setCell W _ _ k (fun e => hne (by rw [e]))).trans (h.block k hk hne)⟩
theorem grownBy_set {w W : World} {b : Nat} (h : w.grownBy W (some b)) (j : Nat) (u : Value) : w.grownBy ((W.setCell ⟨b, j, none⟩ u).drew) (some b) :=
 ⟨h.os, h.tape, h.output, Nat.le_trans h.size (by simp [World.setCell, World.drew]), fun k hk hne => (Below.heap_setCell W _ _ k (fun e => hne (by rw [e]))).trans (h.block k hk hne)⟩
theorem total_take (S : TypeId) (b : Nat) (h l n : Int) (v : V) (w : World) (hb : w.heap[b]? = some (.cells #[.int .u64 h, .int .u64 l, .int .u64 n] S (0, 0))) (h0 : 0 ≤ h) (l0 : 0 ≤ l) (l1 : l < 18446744073709551616) :
 Calls Tryz.prog 158 #[.pointer (some ⟨b, 0, none⟩), .agg #[.int .u8 v.f0, .int .i64 v.f1, .string v.f2]] w fun e w' => e = .returned (.tuple #[]) ∧ w'.heap[b]? = some (.cells #[.int .u64 ((h + IntKind.u64.wrap (v.f1 / 9223372036854775808) + (l + IntKind.u64.wrap v.f1) / 18446744073709551616) % 18446744073709551616), .int .u64 ((l + IntKind.u64.wrap v.f1) % 18446744073709551616), .int .u64 (IntKind.u64.wrap (n + 1))] S (0, 0)) ∧ w.grownBy w' (some b) := by
 have hlt : b < w.heap.size := (Array.getElem?_eq_some_iff.1 hb).1
 have C0 : (w.alloc (.cells #[.int .u8 v.f0, .int .i64 v.f1, .string v.f2] 36)).heap[b]? = some (.cells #[.int .u64 h, .int .u64 l, .int .u64 n] S (0, 0)) := (Below.heap_alloc w _ b hlt).trans hb
 have hg : w.grownBy (w.alloc (.cells #[.int .u8 v.f0, .int .i64 v.f1, .string v.f2] 36)) (some b) := ⟨rfl, rfl, rfl, by simp, fun k hk _ => Below.heap_alloc w _ k hk⟩
 have V1 : (w.alloc (.cells #[.int .u8 v.f0, .int .i64 v.f1, .string v.f2] 36)).heap[w.heap.size]? = some (.cells #[.int .u8 v.f0, .int .i64 v.f1, .string v.f2] 36 (0, 0)) := heap_alloc_new _ _
 have hne : b ≠ w.heap.size := by omega
 have HG := Aside0.mk hg
 have HNE := Aside0.mk hne
 have HLT := Aside0.mk hlt
 have HL1 := Aside0.mk l1
 clear l1
 clear hg hne hb hlt
 obtain ⟨W, hW⟩ : ∃ W, W = w.alloc (.cells #[.int .u8 v.f0, .int .i64 v.f1, .string v.f2] 36) := ⟨_, rfl⟩
 obtain ⟨q, hq⟩ : ∃ q, q = w.heap.size := ⟨_, rfl⟩
 rw [← hW] at C0 V1 HG
 rw [← hq] at V1 HNE
 have HW := Aside0.mk hW
 have HQ := Aside0.mk hq
 clear hW hq
 have F0 : W.cell? ⟨b, 0, none⟩ = some (.int .u64 h) := (blk_cell C0 0).trans rfl
 have F1 : W.cell? ⟨b, 1, none⟩ = some (.int .u64 l) := (blk_cell C0 1).trans rfl
 have F2 : W.cell? ⟨b, 2, none⟩ = some (.int .u64 n) := (blk_cell C0 2).trans rfl
 have F3 : W.cell? ⟨q, 1, none⟩ = some (.int .i64 v.f1) := (blk_cell V1 1).trans rfl
 have F4 : ∀ j, W.frozen? ⟨b, j, none⟩ = false := fun j => by simp [World.frozen?, C0]
 have HC0 := Aside0.mk C0
 have HV1 := Aside0.mk V1
 have A1 : ∀ W, (callFunc 160 #[.int .u64 l, .int .u64 (IntKind.u64.wrap v.f1), .int .u64 0]).run Tryz.prog W = .ok (.value (.tuple #[.int .u64 ((l + IntKind.u64.wrap v.f1 + 0) % 18446744073709551616), .int .u64 ((l + IntKind.u64.wrap v.f1 + 0) / 18446744073709551616)])) W := fun W => add64 _ _ _ l0 (by simp [IntKind.wrap, IntKind.bits, IntKind.signed]; omega) (by omega) (by omega) W
 clear C0 V1
 go_enter Tryz.func158, Tryz.ntmps158
 go_wp2
 rw [← HW.out, ← HQ.out]
 go_region
 obtain ⟨lw, hlw⟩ : ∃ lw, lw = (l + IntKind.u64.wrap v.f1) % 18446744073709551616 := ⟨_, rfl⟩
 obtain ⟨cw, hcw⟩ : ∃ cw, cw = (l + IntKind.u64.wrap v.f1) / 18446744073709551616 := ⟨_, rfl⟩
 obtain ⟨W2, hW2⟩ : ∃ W2, W2 = (W.setCell ⟨b, 1, none⟩ (.int .u64 lw)).drew := ⟨_, rfl⟩
 have hsr : 0 ≤ IntKind.u64.wrap v.f1 ∧ IntKind.u64.wrap v.f1 < 18446744073709551616 := by simp [IntKind.wrap, IntKind.bits, IntKind.signed]; omega
 have hcw0 : 0 ≤ cw := by rw [hcw]; omega
 have hcw1 : cw ≤ 1 := by rw [hcw]; have := HL1.out; omega
 have C2 : W2.heap[b]? = some (.cells #[.int .u64 h, .int .u64 lw, .int .u64 n] S (0, 0)) := by rw [hW2]; exact (blk_set HC0.out 1 _).trans rfl
 have V2 : W2.heap[q]? = some (.cells #[.int .u8 v.f0, .int .i64 v.f1, .string v.f2] 36 (0, 0)) := by rw [hW2]; exact (Below.heap_setCell W _ _ q (Ne.symm HNE.out)).trans HV1.out
 have G2 : Aside0 (w.grownBy W2 (some b)) := ⟨by rw [hW2]; exact grownBy_set HG.out 1 _⟩
 rw [← hlw, ← hcw]
 rw [← hW2]
 have HLW := Aside0.mk hlw
 have HCW := Aside0.mk hcw
 clear hlw hcw hW2 F0 F1 F2 F3 F4 A1 hsr HW HQ HC0 HV1 HG
 have F0 : W2.cell? ⟨b, 0, none⟩ = some (.int .u64 h) := (blk_cell C2 0).trans rfl
 have F3 : W2.cell? ⟨q, 1, none⟩ = some (.int .i64 v.f1) := (blk_cell V2 1).trans rfl
 have F4 : ∀ j, W2.frozen? ⟨b, j, none⟩ = false := fun j => by simp [World.frozen?, C2]
 have A1 : ∀ W, (callFunc 160 #[.int .u64 h, .int .u64 (IntKind.u64.wrap (v.f1 / 9223372036854775808)), .int .u64 cw]).run Tryz.prog W = .ok (.value (.tuple #[.int .u64 ((h + IntKind.u64.wrap (v.f1 / 9223372036854775808) + cw) % 18446744073709551616), .int .u64 ((h + IntKind.u64.wrap (v.f1 / 9223372036854775808) + cw) / 18446744073709551616)])) W := fun W => add64 _ _ _ h0 (by simp [IntKind.wrap, IntKind.bits, IntKind.signed]; omega) hcw0 hcw1 W
 have HC2 := Aside0.mk C2
 clear C2 V2 hcw0 hcw1
 go_wp2
 go_region
 obtain ⟨hw', hhw⟩ : ∃ hw, hw = (h + IntKind.u64.wrap (v.f1 / 9223372036854775808) + cw) % 18446744073709551616 := ⟨_, rfl⟩
 obtain ⟨W3, hW3⟩ : ∃ W3, W3 = (W2.setCell ⟨b, 0, none⟩ (.int .u64 hw')).drew := ⟨_, rfl⟩
 have C3 : W3.heap[b]? = some (.cells #[.int .u64 hw', .int .u64 lw, .int .u64 n] S (0, 0)) := by rw [hW3]; exact (blk_set HC2.out 0 _).trans rfl
 have G3 : Aside0 (w.grownBy W3 (some b)) := ⟨by rw [hW3]; exact grownBy_set G2.out 0 _⟩
 rw [← hhw]
 rw [← hW3]
 have HHW := Aside0.mk hhw
 clear hhw hW3 F0 F3 F4 A1 HC2 G2
 have F2 : W3.cell? ⟨b, 2, none⟩ = some (.int .u64 n) := (blk_cell C3 2).trans rfl
 have F4 : ∀ j, W3.frozen? ⟨b, j, none⟩ = false := fun j => by simp [World.frozen?, C3]
 have HC3 := Aside0.mk C3
 clear C3
 go_wp2
 go_end0
 refine ⟨rfl, ?_, ?_⟩
 · rw [← HCW.out, ← HHW.out, ← HLW.out]
   exact (blk_set HC3.out 2 _).trans rfl
 · exact (grownBy_set0 G3.out 2 _)
end Go.Proofs.YtecgkcgfeghhgaaGreatDoor.PAll
namespace Go.Proofs.YtecgkcgfeghhgaaGreatDoor.PAll
open Go.RowKit Go.Proofs.YtecgkcgfeghhgaaGreatDoorW.PrintWords Go.Proofs.YtecgkcgfeghhgaaGreatDoorW.PrintLast Go.Proofs.YtecgkcgfeghhgaaGreatDoorW.PrintMore
attribute [local go_sem] max2_int min2_int max_two min_two max_three min_three max_four min_four
set_option linter.unusedVariables false
set_option linter.unusedSimpArgs false
def value_Int.f (a0 : Int) : Option (Int × Int × ByteArray) := some (1, a0, (⟨#[]⟩ : ByteArray))
theorem value_Int.calls (a0 : Int) (r1 : Int) (r2 : Int) (r3 : ByteArray) (w : World) (h : value_Int.f a0 = some (r1, r2, r3)) :
 Calls Tryz.prog 159 #[.int .i64 a0] w fun e w' => e = .returned (.agg #[.int .u8 r1, .int .i64 r2, .string r3]) ∧ Below w.heap.size w w' := by
 have hu36 := Tryz.underlying36
 have HB := Aside0.mk (Below.refl w.heap.size w)
 have H : (some (1, a0, (⟨#[]⟩ : ByteArray))) = some (r1, r2, r3) := h
 clear h
 simp only [Option.some.injEq, Prod.mk.injEq] at H
 obtain ⟨rfl, rfl, rfl⟩ := H
 go_enter Tryz.func159, Tryz.ntmps159
 go_wp2_with (first | ((with_reducible refine gate_dst (N := 2) rfl ?_); refine box_event ?hg (N := 2) ?hd (cs := #[.int .u8 0, .int .i64 0, .string (⟨#[]⟩ : ByteArray)]) (t := 36) ?hr ?_; (case hd => rfl); (case hg => rfl); (case hr => first | (go_simp; done) | (go_simp; rfl)); intro gb123 hg w2 hbox hb; have n0_ := Aside0.mk (below_step (by repeat (first | (with_reducible first | exact HB.out | apply bA_ | apply bN_ | apply b1_) | exact HB.out)) hb); have n1_ := Aside0.mk (hbox); have n2_ := Aside0.mk ((by rw [hg]; exact (below_size (by repeat (first | (with_reducible first | exact HB.out | apply bA_ | apply bN_ | apply b1_) | exact HB.out))) : w.heap.size ≤ gb123)); have n3_ := Aside0.mk ((by rw [hg]; exact (below_size (by repeat (first | (with_reducible first | exact HB.out | apply bA_ | apply bN_ | apply b1_) | exact HB.out))) : w.heap.size ≤ gb123)); clear HB; have HB := n0_; have BK123 := n1_; have GW123 := n2_; have GE123 := n3_; clear n0_ n1_ n2_ n3_; clear hb hbox hg; have hcz3_0 : w2.cell? ⟨gb123, 0, none⟩ = some (.int .u8 0) := (blk_cell BK123.out 0).trans rfl; have hcz3_1 : w2.cell? ⟨gb123, 1, none⟩ = some (.int .i64 0) := (blk_cell BK123.out 1).trans rfl; have hcz3_2 : w2.cell? ⟨gb123, 2, none⟩ = some (.string (⟨#[]⟩ : ByteArray)) := (blk_cell BK123.out 2).trans rfl; have hfz3_0 := blk_frozen BK123.out 0; have hfz3_1 := blk_frozen BK123.out 1; have hfz3_2 := blk_frozen BK123.out 2))
 refine bodyPost_ret (results_cell_row rfl _ _ gb123 36 #[.int .u8 1, .int .i64 a0, .string (⟨#[]⟩ : ByteArray)] (0, 0) _ rfl (by (with_reducible repeat (first | refine blk_drewN ?_ _ | refine blk_drew ?_ | refine blk_alloc ?_ _)); refine blk_put (cs := #[.int .u8 1, .int .i64 a0, .string (⟨#[]⟩ : ByteArray)]) ?_ 2 _ rfl; (with_reducible repeat (first | refine blk_drewN ?_ _ | refine blk_drew ?_ | refine blk_alloc ?_ _)); refine blk_put (cs := #[.int .u8 1, .int .i64 0, .string (⟨#[]⟩ : ByteArray)]) ?_ 1 _ rfl; (with_reducible repeat (first | refine blk_drewN ?_ _ | refine blk_drew ?_ | refine blk_alloc ?_ _)); refine blk_put (cs := #[.int .u8 0, .int .i64 0, .string (⟨#[]⟩ : ByteArray)]) ?_ 0 _ rfl; (with_reducible repeat (first | refine blk_drewN ?_ _ | refine blk_drew ?_ | refine blk_alloc ?_ _)); exact BK123.out) Tryz.underlying36 rfl (by kernel_rfl)) rfl ?_
 exact ⟨by first | rfl | (simp [*, errW_none, errW_some] <;> rfl), by repeat (first | (with_reducible first | exact HB.out | apply bA_ | apply bN_ | apply b1_ | refine below_set ?_ GE123.out) | exact HB.out)⟩
end Go.Proofs.YtecgkcgfeghhgaaGreatDoor.PAll
set_option linter.unusedVariables false
set_option linter.unusedSimpArgs false
namespace Go.Proofs.YtecgkcgfeghhgaaGreatDoor.PAll
open Go.RowKit Go.Proofs.YtecgkcgfeghhgaaGreatDoorW.PrintWords Go.Proofs.YtecgkcgfeghhgaaGreatDoorW.PrintLast Go.Proofs.YtecgkcgfeghhgaaGreatDoorW.PrintMore
theorem out_cells {W : World} {q : Nat} {t : TypeId} {a b c d : Value} (h : W.heap[q]? = some (.cells #[a, b, c, d] t (0, 0))) (x0 x1 x2 x3 : Value) : ((((W.setCell ⟨q, 0, none⟩ x0).setCell ⟨q, 1, none⟩ x1).setCell ⟨q, 2, none⟩ x2).setCell ⟨q, 3, none⟩ x3).heap[q]? = some (.cells #[x0, x1, x2, x3] t (0, 0)) :=
 blk_put (cs := #[x0, x1, x2, d]) (blk_put (cs := #[x0, x1, c, d]) (blk_put (cs := #[x0, b, c, d]) (blk_put (cs := #[a, b, c, d]) h 0 _ rfl) 1 _ rfl) 2 _ rfl) 3 _ rfl
theorem out_below {w W : World} {q : Nat} (h : Below w.heap.size w W) (hq : q = w.heap.size) (x0 x1 x2 x3 : Value) : Below w.heap.size w ((((W.setCell ⟨q, 0, none⟩ x0).setCell ⟨q, 1, none⟩ x1).setCell ⟨q, 2, none⟩ x2).setCell ⟨q, 3, none⟩ x3) :=
 (((h.setCell (Nat.le_of_eq hq.symm) _).setCell (Nat.le_of_eq hq.symm) _).setCell (Nat.le_of_eq hq.symm) _).setCell (Nat.le_of_eq hq.symm) _
def totalOut (h l n : Int) : Int × Int × ByteArray × Int :=
 if n = 0 then (0, 0, ⟨#[]⟩, 0) else if h = IntKind.u64.wrap (wrap64 l / 9223372036854775808) then (1, wrap64 l, ⟨#[]⟩, 0) else (0, 0, ⟨#[]⟩, 4)
theorem total_done (b : Nat) (h l n : Int) (w : World) (hb : w.heap[b]? = some (.cells #[.int .u64 h, .int .u64 l, .int .u64 n] 122 (0, 0))) (r1 r2 : Int) (r3 : ByteArray) (r4 : Int) (hr : totalOut h l n = (r1, r2, r3, r4)) :
 Calls Tryz.prog 157 #[.pointer (some ⟨b, 0, none⟩)] w fun e w' => e = .returned (.agg #[.int .u8 r1, .int .i64 r2, .string r3, .int .i64 r4]) ∧ Below w.heap.size w w' := by
 have hlt : b < w.heap.size := (Array.getElem?_eq_some_iff.1 hb).1
 have HLT := Aside0.mk hlt
 have HBK := Aside0.mk hb
 have HR := Aside0.mk hr
 clear hb hlt hr
 by_cases hn : n = 0
 · have hnb : (n == 0) = true := by simp [hn]
   have HRR : Aside0 (r1 = 0 ∧ r2 = 0 ∧ r3 = ⟨#[]⟩ ∧ r4 = 0) := ⟨by
    have h := HR.out
    unfold totalOut at h
    rw [if_pos hn] at h
    simp only [Prod.mk.injEq] at h
    exact ⟨h.1.symm, h.2.1.symm, h.2.2.1.symm, h.2.2.2.symm⟩⟩
   clear hn
   go_enter Tryz.func157, Tryz.ntmps157
   go_wp2_with (first | ((with_reducible refine gate_dst (N := 2) rfl ?_); refine box_event ?hg (N := 2) ?hd (cs := #[.int .u8 0, .int .i64 0, .string (⟨#[]⟩ : ByteArray), .int .i64 0]) (t := 38) ?hr ?_; (case hd => rfl); (case hg => rfl); (case hr => first | (go_simp; done) | (go_simp; rfl)); intro q hq W hN hb1; have C0 := (hb1.block b HLT.out).trans HBK.out; have HB1 := Aside0.mk hb1; have HQ := Aside0.mk hq; have HN0 := Aside0.mk hN; have F0 : W.cell? ⟨b, 0, none⟩ = some (.int .u64 h) := (blk_cell C0 0).trans rfl; have F1 : W.cell? ⟨b, 1, none⟩ = some (.int .u64 l) := (blk_cell C0 1).trans rfl; have F2 : W.cell? ⟨b, 2, none⟩ = some (.int .u64 n) := (blk_cell C0 2).trans rfl; have G0 : W.cell? ⟨q, 0, none⟩ = some (.int .u8 0) := (blk_cell hN 0).trans rfl; have G1 : W.cell? ⟨q, 1, none⟩ = some (.int .i64 0) := (blk_cell hN 1).trans rfl; have G2 : W.cell? ⟨q, 2, none⟩ = some (.string ⟨#[]⟩) := (blk_cell hN 2).trans rfl; have G3 : W.cell? ⟨q, 3, none⟩ = some (.int .i64 0) := (blk_cell hN 3).trans rfl; have F4 : ∀ j, W.frozen? ⟨q, j, none⟩ = false := (fun j => by simp [World.frozen?, hN]); clear hb1 hq hN C0))
   refine bodyPost_ret (results_cell_row rfl _ _ q 38 #[.int .u8 0, .int .i64 0, .string (⟨#[]⟩ : ByteArray), .int .i64 0] (0, 0) _ rfl (out_cells HN0.out _ _ _ _) Tryz.underlying38 rfl (by kernel_rfl)) rfl ?_
   refine ⟨?_, out_below HB1.out HQ.out _ _ _ _⟩
   obtain ⟨rfl, rfl, rfl, rfl⟩ := HRR.out
   rfl
 · have hnb : (n == 0) = false := by simp [hn]
   by_cases hc : h = IntKind.u64.wrap (wrap64 l / 9223372036854775808)
   · have hcb : (h != IntKind.u64.wrap (wrap64 l / 9223372036854775808)) = false := by simp [← hc]
     have HRR : Aside0 (r1 = 1 ∧ r2 = wrap64 l ∧ r3 = ⟨#[]⟩ ∧ r4 = 0) := ⟨by
      have h := HR.out
      unfold totalOut at h
      rw [if_neg hn, if_pos hc] at h
      simp only [Prod.mk.injEq] at h
      exact ⟨h.1.symm, h.2.1.symm, h.2.2.1.symm, h.2.2.2.symm⟩⟩
     clear hn hc
     go_enter Tryz.func157, Tryz.ntmps157
     go_wp2_with (first | ((with_reducible refine gate_dst (N := 2) rfl ?_); refine box_event ?hg (N := 2) ?hd (cs := #[.int .u8 0, .int .i64 0, .string (⟨#[]⟩ : ByteArray), .int .i64 0]) (t := 38) ?hr ?_; (case hd => rfl); (case hg => rfl); (case hr => first | (go_simp; done) | (go_simp; rfl)); intro q hq W hN hb1; have C0 := (hb1.block b HLT.out).trans HBK.out; have HB1 := Aside0.mk hb1; have HQ := Aside0.mk hq; have HN0 := Aside0.mk hN; have F0 : W.cell? ⟨b, 0, none⟩ = some (.int .u64 h) := (blk_cell C0 0).trans rfl; have F1 : W.cell? ⟨b, 1, none⟩ = some (.int .u64 l) := (blk_cell C0 1).trans rfl; have F2 : W.cell? ⟨b, 2, none⟩ = some (.int .u64 n) := (blk_cell C0 2).trans rfl; have G0 : W.cell? ⟨q, 0, none⟩ = some (.int .u8 0) := (blk_cell hN 0).trans rfl; have G1 : W.cell? ⟨q, 1, none⟩ = some (.int .i64 0) := (blk_cell hN 1).trans rfl; have G2 : W.cell? ⟨q, 2, none⟩ = some (.string ⟨#[]⟩) := (blk_cell hN 2).trans rfl; have G3 : W.cell? ⟨q, 3, none⟩ = some (.int .i64 0) := (blk_cell hN 3).trans rfl; have F4 : ∀ j, W.frozen? ⟨q, j, none⟩ = false := (fun j => by simp [World.frozen?, hN]); clear hb1 hq hN C0))
     go_region
     obtain ⟨W2, hW2⟩ : ∃ W2, W2 = W.drew := ⟨_, rfl⟩
     rw [← hW2]
     have HN2 : Aside0 (W2.heap[q]? = some (.cells #[.int .u8 0, .int .i64 0, .string ⟨#[]⟩, .int .i64 0] 38 (0, 0))) := ⟨by rw [hW2]; exact HN0.out⟩
     have HB2 : Aside0 (Below w.heap.size w W2) := ⟨by rw [hW2]; exact HB1.out.drew⟩
     have F1' : W2.cell? ⟨b, 1, none⟩ = some (.int .u64 l) := by rw [hW2]; exact F1
     clear hW2 F0 F1 F2 F4 G0 G1 G2 G3
     go_wp2_with fail
     refine (value_Int.calls (wrap64 l) 1 (wrap64 l) ⟨#[]⟩ W2 rfl).mono ?_
     rintro e W3 ⟨rfl, hb3⟩
     have hN3 := (hb3.block q (blk_lt HN2.out)).trans HN2.out
     have HN3 := Aside0.mk hN3
     have HB3 := Aside0.mk (HB2.out.trans (hb3.mono HB2.out.size))
     have G0 : W3.cell? ⟨q, 0, none⟩ = some (.int .u8 0) := (blk_cell hN3 0).trans rfl
     have G1 : W3.cell? ⟨q, 1, none⟩ = some (.int .i64 0) := (blk_cell hN3 1).trans rfl
     have G2 : W3.cell? ⟨q, 2, none⟩ = some (.string ⟨#[]⟩) := (blk_cell hN3 2).trans rfl
     have G3 : W3.cell? ⟨q, 3, none⟩ = some (.int .i64 0) := (blk_cell hN3 3).trans rfl
     have F4 : ∀ j, W3.frozen? ⟨q, j, none⟩ = false := (fun j => by simp [World.frozen?, hN3])
     clear hb3 hN3 F1'
     go_wp2
     refine bodyPost_ret (results_cell_row rfl _ _ q 38 #[.int .u8 1, .int .i64 (wrap64 l), .string (⟨#[]⟩ : ByteArray), .int .i64 0] (0, 0) _ rfl (out_cells HN3.out _ _ _ _) Tryz.underlying38 rfl (by kernel_rfl)) rfl ?_
     refine ⟨?_, out_below HB3.out HQ.out _ _ _ _⟩
     obtain ⟨rfl, rfl, rfl, rfl⟩ := HRR.out
     rfl
   · have hcb : (h != IntKind.u64.wrap (wrap64 l / 9223372036854775808)) = true := by simpa using hc
     have HRR : Aside0 (r1 = 0 ∧ r2 = 0 ∧ r3 = ⟨#[]⟩ ∧ r4 = 4) := ⟨by
      have h := HR.out
      unfold totalOut at h
      rw [if_neg hn, if_neg hc] at h
      simp only [Prod.mk.injEq] at h
      exact ⟨h.1.symm, h.2.1.symm, h.2.2.1.symm, h.2.2.2.symm⟩⟩
     clear hn hc
     go_enter Tryz.func157, Tryz.ntmps157
     go_wp2_with (first | ((with_reducible refine gate_dst (N := 2) rfl ?_); refine box_event ?hg (N := 2) ?hd (cs := #[.int .u8 0, .int .i64 0, .string (⟨#[]⟩ : ByteArray), .int .i64 0]) (t := 38) ?hr ?_; (case hd => rfl); (case hg => rfl); (case hr => first | (go_simp; done) | (go_simp; rfl)); intro q hq W hN hb1; have C0 := (hb1.block b HLT.out).trans HBK.out; have HB1 := Aside0.mk hb1; have HQ := Aside0.mk hq; have HN0 := Aside0.mk hN; have F0 : W.cell? ⟨b, 0, none⟩ = some (.int .u64 h) := (blk_cell C0 0).trans rfl; have F1 : W.cell? ⟨b, 1, none⟩ = some (.int .u64 l) := (blk_cell C0 1).trans rfl; have F2 : W.cell? ⟨b, 2, none⟩ = some (.int .u64 n) := (blk_cell C0 2).trans rfl; have G0 : W.cell? ⟨q, 0, none⟩ = some (.int .u8 0) := (blk_cell hN 0).trans rfl; have G1 : W.cell? ⟨q, 1, none⟩ = some (.int .i64 0) := (blk_cell hN 1).trans rfl; have G2 : W.cell? ⟨q, 2, none⟩ = some (.string ⟨#[]⟩) := (blk_cell hN 2).trans rfl; have G3 : W.cell? ⟨q, 3, none⟩ = some (.int .i64 0) := (blk_cell hN 3).trans rfl; have F4 : ∀ j, W.frozen? ⟨q, j, none⟩ = false := (fun j => by simp [World.frozen?, hN]); clear hb1 hq hN C0))
     go_region
     obtain ⟨W2, hW2⟩ : ∃ W2, W2 = W.drew := ⟨_, rfl⟩
     rw [← hW2]
     have hN2 : W2.heap[q]? = some (.cells #[.int .u8 0, .int .i64 0, .string ⟨#[]⟩, .int .i64 0] 38 (0, 0)) := by rw [hW2]; exact HN0.out
     have HN2 := Aside0.mk hN2
     have HB2 : Aside0 (Below w.heap.size w W2) := ⟨by rw [hW2]; exact HB1.out.drew⟩
     clear hW2 F0 F1 F2 F4 G0 G1 G2 G3
     have G0 : W2.cell? ⟨q, 0, none⟩ = some (.int .u8 0) := (blk_cell hN2 0).trans rfl
     have G1 : W2.cell? ⟨q, 1, none⟩ = some (.int .i64 0) := (blk_cell hN2 1).trans rfl
     have G2 : W2.cell? ⟨q, 2, none⟩ = some (.string ⟨#[]⟩) := (blk_cell hN2 2).trans rfl
     have G3 : W2.cell? ⟨q, 3, none⟩ = some (.int .i64 0) := (blk_cell hN2 3).trans rfl
     have F4 : ∀ j, W2.frozen? ⟨q, j, none⟩ = false := (fun j => by simp [World.frozen?, hN2])
     clear hN2
     go_wp2
     refine bodyPost_ret (results_cell_row rfl _ _ q 38 #[.int .u8 0, .int .i64 0, .string (⟨#[]⟩ : ByteArray), .int .i64 4] (0, 0) _ rfl (out_cells HN2.out _ _ _ _) Tryz.underlying38 rfl (by kernel_rfl)) rfl ?_
     refine ⟨?_, out_below HB2.out HQ.out _ _ _ _⟩
     obtain ⟨rfl, rfl, rfl, rfl⟩ := HRR.out
     rfl
theorem below_grownBy {w W : World} {row : Option Nat} (h : Below w.heap.size w W) : w.grownBy W row := ⟨h.os, h.tape, h.output, h.size, fun k hk _ => h.block k hk⟩
theorem counter_take (b : Nat) (n : Int) (v : V) (w : World) (hb : w.heap[b]? = some (.cells #[.int .i64 n] 131 (0, 0))) :
 Calls Tryz.prog 168 #[.pointer (some ⟨b, 0, none⟩), .agg #[.int .u8 v.f0, .int .i64 v.f1, .string v.f2]] w fun e w' => e = .returned (.tuple #[]) ∧ w'.heap[b]? = some (.cells #[.int .i64 (wrap64 (n + 1))] 131 (0, 0)) ∧ w.grownBy w' (some b) := by
 have hlt : b < w.heap.size := (Array.getElem?_eq_some_iff.1 hb).1
 have HLT := Aside0.mk hlt
 have HBK := Aside0.mk hb
 clear hb hlt
 go_enter Tryz.func168, Tryz.ntmps168
 go_wp2_with (first | ((with_reducible refine gate_dst (N := 3) rfl ?_); refine box_event ?hg (N := 3) ?hd (cs := #[.int .u8 v.f0, .int .i64 v.f1, .string v.f2]) (t := 36) ?hr ?_; (case hd => rfl); (case hg => rfl); (case hr => first | (go_simp; done) | (go_simp; rfl)); intro q hq W hN hb1; have C0 := (hb1.block b HLT.out).trans HBK.out; have HB1 := Aside0.mk hb1; have HC0 := Aside0.mk C0; have F0 : W.cell? ⟨b, 0, none⟩ = some (.int .i64 n) := (blk_cell C0 0).trans rfl; have F4 : ∀ j, W.frozen? ⟨b, j, none⟩ = false := (fun j => by simp [World.frozen?, C0]); clear hb1 hq hN C0))
 go_end0
 exact ⟨rfl, (blk_set HC0.out 0 _).trans rfl, grownBy_set0 (below_grownBy HB1.out) 0 _⟩
theorem counter_done (b : Nat) (n : Int) (w : World) (hb : w.heap[b]? = some (.cells #[.int .i64 n] 131 (0, 0))) :
 Calls Tryz.prog 167 #[.pointer (some ⟨b, 0, none⟩)] w fun e w' => e = .returned (.agg #[.int .u8 1, .int .i64 n, .string ⟨#[]⟩, .int .i64 0]) ∧ Below w.heap.size w w' := by
 have hlt : b < w.heap.size := (Array.getElem?_eq_some_iff.1 hb).1
 have HLT := Aside0.mk hlt
 have HBK := Aside0.mk hb
 clear hb hlt
 go_enter Tryz.func167, Tryz.ntmps167
 go_wp2_with (first | ((with_reducible refine gate_dst (N := 2) rfl ?_); refine box_event ?hg (N := 2) ?hd (cs := #[.int .u8 0, .int .i64 0, .string (⟨#[]⟩ : ByteArray), .int .i64 0]) (t := 38) ?hr ?_; (case hd => rfl); (case hg => rfl); (case hr => first | (go_simp; done) | (go_simp; rfl)); intro q hq W hN hb1; have C0 := (hb1.block b HLT.out).trans HBK.out; have HB1 := Aside0.mk hb1; have HQ := Aside0.mk hq; have HN0 := Aside0.mk hN; have F0 : W.cell? ⟨b, 0, none⟩ = some (.int .i64 n) := (blk_cell C0 0).trans rfl; have G0 : W.cell? ⟨q, 0, none⟩ = some (.int .u8 0) := (blk_cell hN 0).trans rfl; have G1 : W.cell? ⟨q, 1, none⟩ = some (.int .i64 0) := (blk_cell hN 1).trans rfl; have G2 : W.cell? ⟨q, 2, none⟩ = some (.string ⟨#[]⟩) := (blk_cell hN 2).trans rfl; have G3 : W.cell? ⟨q, 3, none⟩ = some (.int .i64 0) := (blk_cell hN 3).trans rfl; have F4 : ∀ j, W.frozen? ⟨q, j, none⟩ = false := (fun j => by simp [World.frozen?, hN]); clear hb1 hq hN C0) | (go_at_call 159; refine (value_Int.calls n 1 n ⟨#[]⟩ _ rfl).mono ?_; rintro e W3 ⟨rfl, hb3⟩; have hN3 := (hb3.block q (blk_lt HN0.out)).trans HN0.out; have HN3 := Aside0.mk hN3; have HB3 := Aside0.mk (HB1.out.trans (hb3.mono HB1.out.size)); clear G0 G1 G2 G3 F4; have G0 : W3.cell? ⟨q, 0, none⟩ = some (.int .u8 0) := (blk_cell hN3 0).trans rfl; have G1 : W3.cell? ⟨q, 1, none⟩ = some (.int .i64 0) := (blk_cell hN3 1).trans rfl; have G2 : W3.cell? ⟨q, 2, none⟩ = some (.string ⟨#[]⟩) := (blk_cell hN3 2).trans rfl; have G3 : W3.cell? ⟨q, 3, none⟩ = some (.int .i64 0) := (blk_cell hN3 3).trans rfl; have F4 : ∀ j, W3.frozen? ⟨q, j, none⟩ = false := (fun j => by simp [World.frozen?, hN3]); clear hb3 hN3 F0))
 refine bodyPost_ret (results_cell_row rfl _ _ q 38 #[.int .u8 1, .int .i64 n, .string (⟨#[]⟩ : ByteArray), .int .i64 0] (0, 0) _ rfl (out_cells HN3.out _ _ _ _) Tryz.underlying38 rfl (by kernel_rfl)) rfl ?_
 exact ⟨rfl, out_below HB3.out HQ.out _ _ _ _⟩
theorem gath_sum (w : World) : Calls Tryz.prog 57 #[.int .u8 2] w fun e w' => e = .returned (.iface 120 (.pointer (some ⟨w.heap.size, 0, none⟩))) ∧ w' = w.alloc (.cells #[.int .u64 0, .int .u64 0, .int .u64 0] 122) := by
 go_enter Tryz.func57, Tryz.ntmps57
 go_wp2
 go_ret
 exact ⟨rfl, rfl⟩
theorem gath_avg (w : World) : Calls Tryz.prog 57 #[.int .u8 5] w fun e w' => e = .returned (.iface 123 (.pointer (some ⟨w.heap.size, 0, none⟩))) ∧ w' = w.alloc (.cells #[.int .u64 0, .int .u64 0, .int .u64 0] 125) := by
 go_enter Tryz.func57, Tryz.ntmps57
 go_wp2
 go_ret
 exact ⟨rfl, rfl⟩
theorem gath_min (w : World) : Calls Tryz.prog 57 #[.int .u8 3] w fun e w' => e = .returned (.iface 126 (.pointer (some ⟨w.heap.size, 0, none⟩))) ∧ w' = w.alloc (.cells #[.int .i64 1, .bool false, .int .u8 0, .int .i64 0, .string ⟨#[]⟩] 128) := by
 go_enter Tryz.func57, Tryz.ntmps57
 go_wp2
 go_ret
 exact ⟨rfl, rfl⟩
theorem gath_max (w : World) : Calls Tryz.prog 57 #[.int .u8 4] w fun e w' => e = .returned (.iface 126 (.pointer (some ⟨w.heap.size, 0, none⟩))) ∧ w' = w.alloc (.cells #[.int .i64 (-1), .bool false, .int .u8 0, .int .i64 0, .string ⟨#[]⟩] 128) := by
 go_enter Tryz.func57, Tryz.ntmps57
 go_wp2
 go_ret
 exact ⟨rfl, rfl⟩
theorem gath_count (fn : Int) (h : fn = 0 ∨ fn = 1) (w : World) : Calls Tryz.prog 57 #[.int .u8 fn] w fun e w' => e = .returned (.iface 129 (.pointer (some ⟨w.heap.size, 0, none⟩))) ∧ w' = w.alloc (.cells #[.int .i64 0] 131) := by
 rcases h with rfl | rfl
 · go_enter Tryz.func57, Tryz.ntmps57
   go_wp2
   go_ret
   exact ⟨rfl, rfl⟩
 · go_enter Tryz.func57, Tryz.ntmps57
   go_wp2
   go_ret
   exact ⟨rfl, rfl⟩
end Go.Proofs.YtecgkcgfeghhgaaGreatDoor.PAll
namespace Go.Proofs.YtecgkcgfeghhgaaGreatDoor.PAll
open Go.RowKit Go.Proofs.YtecgkcgfeghhgaaGreatDoorW.PrintWords Go.Proofs.YtecgkcgfeghhgaaGreatDoorW.PrintLast Go.Proofs.YtecgkcgfeghhgaaGreatDoorW.PrintMore
attribute [local go_sem] max2_int min2_int max_two min_two max_three min_three max_four min_four
set_option linter.unusedVariables false
set_option linter.unusedSimpArgs false
mutual
def bag_allowed.j0 : Nat → Int → List (S36) → Bool → Option (Bool)
 | 0, _, _, _ => none
 | k + 1, x0, x2, x19 => if x19 = true then (some false) else (bag_allowed.l0 k x0 0 x2 (x2.length : Int) 0)
def bag_allowed.l0 : Nat → Int → Int → List (S36) → Int → Int → Option (Bool)
 | 0, _, _, _, _, _ => none
 | k + 1, x0, x7, x20, x21, x22 => if x22 < x21 then (if 0 ≤ x22 then (if x22 < (x20.length : Int) then ((value_Valid.f ((rd_T36 x20 x22).f0) ((rd_T36 x20 x22).f1) ((rd_T36 x20 x22).f2)).bind fun t114 => (if t114 = true then (if x7 = 0 then (bag_allowed.j2 k x0 x7 x20 x21 x22 false ((rd_T36 x20 x22).f0) ((rd_T36 x20 x22).f1) ((rd_T36 x20 x22).f2)) else (if ((rd_T36 x20 x22).f0) = 0 then (bag_allowed.j2 k x0 x7 x20 x21 x22 false ((rd_T36 x20 x22).f0) ((rd_T36 x20 x22).f1) ((rd_T36 x20 x22).f2)) else (bag_allowed.j2 k x0 x7 x20 x21 x22 (((rd_T36 x20 x22).f0) != x7) ((rd_T36 x20 x22).f0) ((rd_T36 x20 x22).f1) ((rd_T36 x20 x22).f2)))) else (bag_allowed.j2 k x0 x7 x20 x21 x22 true ((rd_T36 x20 x22).f0) ((rd_T36 x20 x22).f1) ((rd_T36 x20 x22).f2)))) else (none)) else (none)) else (if x7 = 0 then (some true) else (if x7 = 1 then (some true) else (if x0 = 2 then (some false) else (some (x0 != 5)))))
def bag_allowed.j2 : Nat → Int → Int → List (S36) → Int → Int → Bool → Int → Int → ByteArray → Option (Bool)
 | 0, _, _, _, _, _, _, _, _, _ => none
 | k + 1, x0, x7, x20, x21, x22, x43, x114000, x114001, x114002 => if x43 = true then (some false) else (if x114000 = 0 then (bag_allowed.l0 k x0 x7 x20 x21 (wrap64 (x22 + 1))) else (bag_allowed.l0 k x0 x114000 x20 x21 (wrap64 (x22 + 1))))
end
def bag_allowed.f (k : Nat) (a0 : Int) (a1 : Bool) (l2 : List (S36)) : Option (Bool) := if a0 > 5 then (bag_allowed.j0 k a0 l2 true) else (if a0 = 0 then (bag_allowed.j0 k a0 l2 a1) else (bag_allowed.j0 k a0 l2 false))
theorem bag_allowed.calls (k : Nat) (a0 : Int) (a1 : Bool) (A2 : Option Addr) (c2 : Nat) (l2 : List (S36)) (r : Bool) (w : World) (hr2 : Kd.C k36 w A2 l2.length l2) (hc2 : l2.length ≤ c2) (h : bag_allowed.f k a0 a1 l2 = some r) :
 Calls Tryz.prog 56 #[.int .u8 a0, .bool a1, .slice A2 l2.length c2] w fun e w' => e = .returned (.bool r) ∧ Below w.heap.size w w' := by
 have hu36 := Tryz.underlying36
 have HR2 := Aside0.mk hr2
 have HC2 := Aside0.mk hc2
 clear hr2 hc2
 have HB := Aside0.mk (Below.refl w.heap.size w)
 have H : (if a0 > 5 then (bag_allowed.j0 k a0 l2 true) else (if a0 = 0 then (bag_allowed.j0 k a0 l2 a1) else (bag_allowed.j0 k a0 l2 false))) = some r := h
 clear h
 have HC4 := Aside0.mk H
 clear H
 go_enter Tryz.func56, Tryz.ntmps56
 go_upto_region 1 with (fail)
 go_cut [19] (fun v19 wc => ∃ (kq : Nat) (x19_3 : Bool), v19 = .bool x19_3 ∧ Aside0 (bag_allowed.j0 kq a0 l2 x19_3 = some r) ∧ Aside0 (kq ≤ k) ∧ Aside0 (Below w.heap.size w wc))
 case first =>
  have H := HC4.out
  clear HC4
  by_cases c5 : a0 > 5
  · rw [if_pos c5] at H
    have c5b0 : decide (5 < a0) = true := dT_ c5
    clear c5
    (first | rw [c5b0] | (simp only [i64_w, i32_w]; rw [c5b0]) | skip)
    have H' := Aside0.mk H
    clear H
    go_wp2
    go_meet
    case rel => exact ⟨_, (true), (by first | rfl | (simp; done) | (simp [*]; done)), H', ⟨by first | omega | exact Nat.le_refl _⟩, ⟨by repeat (first | (with_reducible first | exact HB.out | apply bA_ | apply bN_ | apply b1_) | exact HB.out)⟩⟩
  · rw [if_neg c5] at H
    have c5b0 : decide (5 < a0) = false := dF_ c5
    clear c5
    (first | rw [c5b0] | (simp only [i64_w, i32_w]; rw [c5b0]) | skip)
    by_cases c6 : a0 = 0
    · rw [if_pos c6] at H
      have c6b0 : (a0 == 0) = true := beq_iff_eq.mpr c6
      have c6b1 : (a0 != 0) = false := bne_eq_false_iff_eq.mpr c6
      clear c6
      have H' := Aside0.mk H
      clear H
      go_wp2
      go_meet
      case rel => exact ⟨_, (a1), (by first | rfl | (simp; done) | (simp [*]; done)), H', ⟨by first | omega | exact Nat.le_refl _⟩, ⟨by repeat (first | (with_reducible first | exact HB.out | apply bA_ | apply bN_ | apply b1_) | exact HB.out)⟩⟩
    · rw [if_neg c6] at H
      have c6b0 : (a0 == 0) = false := beq_eq_false_iff_ne.mpr c6
      have c6b1 : (a0 != 0) = true := bne_iff_ne.mpr c6
      have H' := Aside0.mk H
      clear H
      go_wp2
      go_meet
      case rel => exact ⟨_, (false), (by first | rfl | (simp; done) | (simp [*]; done)), H', ⟨by first | omega | exact Nat.le_refl _⟩, ⟨by repeat (first | (with_reducible first | exact HB.out | apply bA_ | apply bN_ | apply b1_) | exact HB.out)⟩⟩
 case rest =>
  clear HC4
  try clear c2
  try clear p2
  try clear c5
  try clear c5b0
  try clear c6
  try clear c6b0
  try clear c6b1
  obtain ⟨kq, x19_3, rfl, HA, HJ3, HB⟩ := hcut
  cases kq with
  | zero => exact absurd HA.out (by simp [bag_allowed.j0])
  | succ kj3 =>
   have H := HA.out
   clear HA
   simp only [bag_allowed.j0] at H
   by_cases c7 : x19_3 = true
   · subst c7
     have H1 : (some false) = some r := by rw [if_pos rfl] at H; exact H
     clear H
     have H := H1
     clear H1
     obtain rfl := Option.some.inj H
     go_wp2
     go_ret
     exact ⟨by first | rfl | (simp [*, errW_none, errW_some] <;> rfl), by repeat (first | (with_reducible first | exact HB.out | apply bA_ | apply bN_ | apply b1_) | exact HB.out)⟩
   · replace c7 := Bool.eq_false_iff.mpr c7
     subst c7
     have H1 : (bag_allowed.l0 kj3 a0 0 l2 (l2.length : Int) 0) = some r := by rw [if_neg (show ¬ (false = true) by decide)] at H; exact H
     clear H
     have H := H1
     clear H1
     have H' := Aside0.mk H
     clear H
     go_wp2
     go_loopg [7, 22] kj3 (fun kq v7 v22 w' => ∃ (x7_2 : Int) (x22_2 : Int), v7 = .int .u8 x7_2 ∧ v22 = .int .i64 x22_2 ∧ Aside0 (bag_allowed.l0 kq a0 x7_2 l2 (l2.length : Int) x22_2 = some r) ∧ Aside0 (kq ≤ kj3) ∧ Aside0 (Below w.heap.size w w'))
     case atStart => exact ⟨(0), (0), (by first | rfl | (simp; done) | (simp [*]; done)), (by first | rfl | (simp; done) | (simp [*]; done)), H', ⟨Nat.le_refl _⟩, ⟨by repeat (first | (with_reducible first | exact HB.out | apply bA_ | apply bN_ | apply b1_) | exact HB.out)⟩⟩
     case round =>
      clear H'
      try clear c2
      try clear p2
      try clear c5
      try clear c5b0
      try clear c6
      try clear c6b0
      try clear c6b1
      try clear c7
      try clear p2
      obtain ⟨x7_2, x22_2, rfl, rfl, HA, HK2, HB⟩ := hrel
      cases gk with
      | zero => exact absurd HA.out (by simp [bag_allowed.l0])
      | succ k2 =>
       have H := HA.out
       clear HA
       simp only [bag_allowed.l0] at H
       by_cases c8 : x22_2 < (l2.length : Int)
       · rw [if_pos c8] at H
         have c8b0 : decide (x22_2 < (l2.length : Int)) = true := dT_ c8
         clear c8
         by_cases c9 : 0 ≤ x22_2
         · rw [if_pos c9] at H
           have c9b0 : decide (0 ≤ x22_2) = true := dT_ c9
           clear c9
           by_cases c10 : x22_2 < (l2.length : Int)
           · rw [if_pos c10] at H
             have c10b0 : decide (x22_2 < (l2.length : Int)) = true := dT_ c10
             clear c10
             have HC11 := Aside0.mk H
             clear H
             have p112 : 0 ≤ (x22_2 : Int) := oT_ (by assumption)
             have q112 : x22_2 < (l2.length : Int) := oT_ (by assumption)
             obtain ⟨ad112, e112, hx112_0, hx112_1, hx112_2⟩ := at_T36 HR2.out x22_2 p112 q112
             cases e112
             replace hx112_0 := (HB.out.cell (bLC_ w _ hx112_0)).trans hx112_0
             replace hx112_1 := (HB.out.cell (bLC_ w _ hx112_1)).trans hx112_1
             replace hx112_2 := (HB.out.cell (bLC_ w _ hx112_2)).trans hx112_2
             replace p112 := eq_true p112
             replace q112 := eq_true q112
             go_upto_region 7 with (first | ((with_reducible refine gate_dst (N := 9) rfl ?_); refine box_event ?hg (N := 9) ?hd (cs := #[.int .u8 0, .int .i64 0, .string (⟨#[]⟩ : ByteArray)]) (t := 36) ?hr ?_; (case hd => rfl); (case hg => rfl); (case hr => first | (go_simp; done) | (go_simp; rfl)); intro gb113 hg w12 hbox hb; have n0_ := Aside0.mk (below_step (by repeat (first | (with_reducible first | exact HB.out | apply bA_ | apply bN_ | apply b1_) | exact HB.out)) hb); have n1_ := Aside0.mk (hbox); have n2_ := Aside0.mk ((by rw [hg]; exact (below_size (by repeat (first | (with_reducible first | exact HB.out | apply bA_ | apply bN_ | apply b1_) | exact HB.out))) : w.heap.size ≤ gb113)); have n3_ := Aside0.mk ((by rw [hg]; exact (below_size (by repeat (first | (with_reducible first | exact HB.out | apply bA_ | apply bN_ | apply b1_) | exact HB.out))) : w.heap.size ≤ gb113)); clear HB; have HB := n0_; have BK113 := n1_; have GW113 := n2_; have GE113 := n3_; clear n0_ n1_ n2_ n3_; clear hb hbox hg; have hcz13_0 : w12.cell? ⟨gb113, 0, none⟩ = some (.int .u8 0) := (blk_cell BK113.out 0).trans rfl; have hcz13_1 : w12.cell? ⟨gb113, 1, none⟩ = some (.int .i64 0) := (blk_cell BK113.out 1).trans rfl; have hcz13_2 : w12.cell? ⟨gb113, 2, none⟩ = some (.string (⟨#[]⟩ : ByteArray)) := (blk_cell BK113.out 2).trans rfl; have hfz13_0 := blk_frozen BK113.out 0; have hfz13_1 := blk_frozen BK113.out 1; have hfz13_2 := blk_frozen BK113.out 2))
             (try simp only [Act.put, sTA_, sCZ_, sCS_])
             go_cut [43] (fun v43 wc => ∃ (kq : Nat) (x43_10 : Bool), v43 = .bool x43_10 ∧ Aside0 (bag_allowed.j2 kq a0 x7_2 l2 (l2.length : Int) x22_2 x43_10 ((rd_T36 l2 x22_2).f0) ((rd_T36 l2 x22_2).f1) ((rd_T36 l2 x22_2).f2) = some r) ∧ Aside0 (kq ≤ k2) ∧ Aside0 (wc.heap[gb113]? = some (.cells #[.int .u8 ((rd_T36 l2 x22_2).f0), .int .i64 ((rd_T36 l2 x22_2).f1), .string ((rd_T36 l2 x22_2).f2)] 36 (0, 0))) ∧ Aside0 (Below w.heap.size w wc))
             case first =>
              have H := HC11.out
              clear HC11
              replace H := Option.bind_eq_some_iff.mp H
              obtain ⟨t114, A140, H⟩ := H
              replace H : (if t114 = true then (if x7_2 = 0 then (bag_allowed.j2 k2 a0 x7_2 l2 (l2.length : Int) x22_2 false ((rd_T36 l2 x22_2).f0) ((rd_T36 l2 x22_2).f1) ((rd_T36 l2 x22_2).f2)) else (if ((rd_T36 l2 x22_2).f0) = 0 then (bag_allowed.j2 k2 a0 x7_2 l2 (l2.length : Int) x22_2 false ((rd_T36 l2 x22_2).f0) ((rd_T36 l2 x22_2).f1) ((rd_T36 l2 x22_2).f2)) else (bag_allowed.j2 k2 a0 x7_2 l2 (l2.length : Int) x22_2 (((rd_T36 l2 x22_2).f0) != x7_2) ((rd_T36 l2 x22_2).f0) ((rd_T36 l2 x22_2).f1) ((rd_T36 l2 x22_2).f2)))) else (bag_allowed.j2 k2 a0 x7_2 l2 (l2.length : Int) x22_2 true ((rd_T36 l2 x22_2).f0) ((rd_T36 l2 x22_2).f1) ((rd_T36 l2 x22_2).f2))) = some r := H
              have A14 := Aside0.mk A140
              clear A140
              by_cases c15 : t114 = true
              · subst c15
                have H1 : (if x7_2 = 0 then (bag_allowed.j2 k2 a0 x7_2 l2 (l2.length : Int) x22_2 false ((rd_T36 l2 x22_2).f0) ((rd_T36 l2 x22_2).f1) ((rd_T36 l2 x22_2).f2)) else (if ((rd_T36 l2 x22_2).f0) = 0 then (bag_allowed.j2 k2 a0 x7_2 l2 (l2.length : Int) x22_2 false ((rd_T36 l2 x22_2).f0) ((rd_T36 l2 x22_2).f1) ((rd_T36 l2 x22_2).f2)) else (bag_allowed.j2 k2 a0 x7_2 l2 (l2.length : Int) x22_2 (((rd_T36 l2 x22_2).f0) != x7_2) ((rd_T36 l2 x22_2).f0) ((rd_T36 l2 x22_2).f1) ((rd_T36 l2 x22_2).f2)))) = some r := by rw [if_pos rfl] at H; exact H
                clear H
                have H := H1
                clear H1
                by_cases c16 : x7_2 = 0
                · rw [if_pos c16] at H
                  have c16b0 : (x7_2 == 0) = true := beq_iff_eq.mpr c16
                  have c16b1 : (x7_2 != 0) = false := bne_eq_false_iff_eq.mpr c16
                  clear c16
                  (first | rw [c16b0] | (simp only [i64_w, i32_w]; rw [c16b0]) | skip)
                  have H' := Aside0.mk H
                  clear H
                  have hcz17_0 : w12.cell? ⟨gb113, 0, none⟩ = some (.int .u8 0) := (blk_cell BK113.out 0).trans rfl
                  have hcz17_1 : w12.cell? ⟨gb113, 1, none⟩ = some (.int .i64 0) := (blk_cell BK113.out 1).trans rfl
                  have hcz17_2 : w12.cell? ⟨gb113, 2, none⟩ = some (.string (⟨#[]⟩ : ByteArray)) := (blk_cell BK113.out 2).trans rfl
                  have hfz17_0 := blk_frozen BK113.out 0
                  have hfz17_1 := blk_frozen BK113.out 1
                  have hfz17_2 := blk_frozen BK113.out 2
                  go_wp2_with (first | ((with_reducible refine gate_callee (f := 42) rfl ?_); refine goesL_ (some 27) rfl rfl Tryz.func42 (by kernel_rfl) rfl #[.agg #[.int .u8 ((rd_T36 l2 x22_2).f0), .int .i64 ((rd_T36 l2 x22_2).f1), .string ((rd_T36 l2 x22_2).f2)]] rfl (by (try simp only [List.map_toArray, List.map_cons, List.map_nil]); first | done | rfl | (simp only [List.length_drop, List.length_take]; rfl)) ?_; (with_reducible refine (value_Valid.calls ((rd_T36 l2 x22_2).f0) ((rd_T36 l2 x22_2).f1) ((rd_T36 l2 x22_2).f2) true _ A14.out).mono ?_); rintro e w18 ⟨rfl, hb⟩; refine ⟨_, rfl, ?_⟩; have n0_ := Aside0.mk (blk_below (g := gb113) (o := .cells #[.int .u8 ((rd_T36 l2 x22_2).f0), .int .i64 ((rd_T36 l2 x22_2).f1), .string ((rd_T36 l2 x22_2).f2)] 36 (0, 0)) (by (with_reducible repeat (first | refine blk_drewN ?_ _ | refine blk_drew ?_ | refine blk_alloc ?_ _)); refine blk_put (cs := #[.int .u8 ((rd_T36 l2 x22_2).f0), .int .i64 ((rd_T36 l2 x22_2).f1), .string (⟨#[]⟩ : ByteArray)]) ?_ 2 _ rfl; (with_reducible repeat (first | refine blk_drewN ?_ _ | refine blk_drew ?_ | refine blk_alloc ?_ _)); refine blk_put (cs := #[.int .u8 ((rd_T36 l2 x22_2).f0), .int .i64 0, .string (⟨#[]⟩ : ByteArray)]) ?_ 1 _ rfl; (with_reducible repeat (first | refine blk_drewN ?_ _ | refine blk_drew ?_ | refine blk_alloc ?_ _)); refine blk_put (cs := #[.int .u8 0, .int .i64 0, .string (⟨#[]⟩ : ByteArray)]) ?_ 0 _ rfl; (with_reducible repeat (first | refine blk_drewN ?_ _ | refine blk_drew ?_ | refine blk_alloc ?_ _)); exact BK113.out) hb); have n1_ := Aside0.mk (below_step (by repeat (first | (with_reducible first | exact HB.out | apply bA_ | apply bN_ | apply b1_ | refine below_set ?_ GE113.out) | exact HB.out)) hb); clear BK113; clear HB; have BK113 := n0_; have HB := n1_; clear n0_ n1_; (try clear hb); (try clear hb2); (try clear hk); (try clear hi)))
                  go_meet
                  case rel => exact ⟨_, (false), (by first | rfl | (simp; done) | (simp [*]; done)), H', ⟨by have := HJ3.out; have := HK2.out; first | omega | exact Nat.le_refl _⟩, ⟨by (with_reducible repeat (first | refine blk_drewN ?_ _ | refine blk_drew ?_ | refine blk_alloc ?_ _)); exact BK113.out⟩, ⟨by repeat (first | (with_reducible first | exact HB.out | apply bA_ | apply bN_ | apply b1_ | refine below_set ?_ GE113.out) | exact HB.out)⟩⟩
                · rw [if_neg c16] at H
                  have c16b0 : (x7_2 == 0) = false := beq_eq_false_iff_ne.mpr c16
                  have c16b1 : (x7_2 != 0) = true := bne_iff_ne.mpr c16
                  (first | rw [c16b0] | (simp only [i64_w, i32_w]; rw [c16b0]) | skip)
                  by_cases c19 : ((rd_T36 l2 x22_2).f0) = 0
                  · rw [if_pos c19] at H
                    have c19b0 : (((rd_T36 l2 x22_2).f0) == 0) = true := beq_iff_eq.mpr c19
                    have c19b1 : (((rd_T36 l2 x22_2).f0) != 0) = false := bne_eq_false_iff_eq.mpr c19
                    clear c19
                    have H' := Aside0.mk H
                    clear H
                    have hcz20_0 : w12.cell? ⟨gb113, 0, none⟩ = some (.int .u8 0) := (blk_cell BK113.out 0).trans rfl
                    have hcz20_1 : w12.cell? ⟨gb113, 1, none⟩ = some (.int .i64 0) := (blk_cell BK113.out 1).trans rfl
                    have hcz20_2 : w12.cell? ⟨gb113, 2, none⟩ = some (.string (⟨#[]⟩ : ByteArray)) := (blk_cell BK113.out 2).trans rfl
                    have hfz20_0 := blk_frozen BK113.out 0
                    have hfz20_1 := blk_frozen BK113.out 1
                    have hfz20_2 := blk_frozen BK113.out 2
                    go_wp2_with (first | ((with_reducible refine gate_callee (f := 42) rfl ?_); refine goesL_ (some 27) rfl rfl Tryz.func42 (by kernel_rfl) rfl #[.agg #[.int .u8 ((rd_T36 l2 x22_2).f0), .int .i64 ((rd_T36 l2 x22_2).f1), .string ((rd_T36 l2 x22_2).f2)]] rfl (by (try simp only [List.map_toArray, List.map_cons, List.map_nil]); first | done | rfl | (simp only [List.length_drop, List.length_take]; rfl)) ?_; (with_reducible refine (value_Valid.calls ((rd_T36 l2 x22_2).f0) ((rd_T36 l2 x22_2).f1) ((rd_T36 l2 x22_2).f2) true _ A14.out).mono ?_); rintro e w21 ⟨rfl, hb⟩; refine ⟨_, rfl, ?_⟩; have n0_ := Aside0.mk (blk_below (g := gb113) (o := .cells #[.int .u8 ((rd_T36 l2 x22_2).f0), .int .i64 ((rd_T36 l2 x22_2).f1), .string ((rd_T36 l2 x22_2).f2)] 36 (0, 0)) (by (with_reducible repeat (first | refine blk_drewN ?_ _ | refine blk_drew ?_ | refine blk_alloc ?_ _)); refine blk_put (cs := #[.int .u8 ((rd_T36 l2 x22_2).f0), .int .i64 ((rd_T36 l2 x22_2).f1), .string (⟨#[]⟩ : ByteArray)]) ?_ 2 _ rfl; (with_reducible repeat (first | refine blk_drewN ?_ _ | refine blk_drew ?_ | refine blk_alloc ?_ _)); refine blk_put (cs := #[.int .u8 ((rd_T36 l2 x22_2).f0), .int .i64 0, .string (⟨#[]⟩ : ByteArray)]) ?_ 1 _ rfl; (with_reducible repeat (first | refine blk_drewN ?_ _ | refine blk_drew ?_ | refine blk_alloc ?_ _)); refine blk_put (cs := #[.int .u8 0, .int .i64 0, .string (⟨#[]⟩ : ByteArray)]) ?_ 0 _ rfl; (with_reducible repeat (first | refine blk_drewN ?_ _ | refine blk_drew ?_ | refine blk_alloc ?_ _)); exact BK113.out) hb); have n1_ := Aside0.mk (below_step (by repeat (first | (with_reducible first | exact HB.out | apply bA_ | apply bN_ | apply b1_ | refine below_set ?_ GE113.out) | exact HB.out)) hb); clear BK113; clear HB; have BK113 := n0_; have HB := n1_; clear n0_ n1_; (try clear hb); (try clear hb2); (try clear hk); (try clear hi); have hcz22_0 : w21.cell? ⟨gb113, 0, none⟩ = some (.int .u8 ((rd_T36 l2 x22_2).f0)) := (blk_cell BK113.out 0).trans rfl; have hcz22_1 : w21.cell? ⟨gb113, 1, none⟩ = some (.int .i64 ((rd_T36 l2 x22_2).f1)) := (blk_cell BK113.out 1).trans rfl; have hcz22_2 : w21.cell? ⟨gb113, 2, none⟩ = some (.string ((rd_T36 l2 x22_2).f2)) := (blk_cell BK113.out 2).trans rfl; have hfz22_0 := blk_frozen BK113.out 0; have hfz22_1 := blk_frozen BK113.out 1; have hfz22_2 := blk_frozen BK113.out 2))
                    go_meet
                    case rel => exact ⟨_, (false), (by first | rfl | (simp; done) | (simp [*]; done)), H', ⟨by have := HJ3.out; have := HK2.out; first | omega | exact Nat.le_refl _⟩, ⟨by (with_reducible repeat (first | refine blk_drewN ?_ _ | refine blk_drew ?_ | refine blk_alloc ?_ _)); exact BK113.out⟩, ⟨by repeat (first | (with_reducible first | exact HB.out | apply bA_ | apply bN_ | apply b1_ | refine below_set ?_ GE113.out) | exact HB.out)⟩⟩
                  · rw [if_neg c19] at H
                    have c19b0 : (((rd_T36 l2 x22_2).f0) == 0) = false := beq_eq_false_iff_ne.mpr c19
                    have c19b1 : (((rd_T36 l2 x22_2).f0) != 0) = true := bne_iff_ne.mpr c19
                    have H' := Aside0.mk H
                    clear H
                    have hcz23_0 : w12.cell? ⟨gb113, 0, none⟩ = some (.int .u8 0) := (blk_cell BK113.out 0).trans rfl
                    have hcz23_1 : w12.cell? ⟨gb113, 1, none⟩ = some (.int .i64 0) := (blk_cell BK113.out 1).trans rfl
                    have hcz23_2 : w12.cell? ⟨gb113, 2, none⟩ = some (.string (⟨#[]⟩ : ByteArray)) := (blk_cell BK113.out 2).trans rfl
                    have hfz23_0 := blk_frozen BK113.out 0
                    have hfz23_1 := blk_frozen BK113.out 1
                    have hfz23_2 := blk_frozen BK113.out 2
                    go_wp2_with (first | ((with_reducible refine gate_callee (f := 42) rfl ?_); refine goesL_ (some 27) rfl rfl Tryz.func42 (by kernel_rfl) rfl #[.agg #[.int .u8 ((rd_T36 l2 x22_2).f0), .int .i64 ((rd_T36 l2 x22_2).f1), .string ((rd_T36 l2 x22_2).f2)]] rfl (by (try simp only [List.map_toArray, List.map_cons, List.map_nil]); first | done | rfl | (simp only [List.length_drop, List.length_take]; rfl)) ?_; (with_reducible refine (value_Valid.calls ((rd_T36 l2 x22_2).f0) ((rd_T36 l2 x22_2).f1) ((rd_T36 l2 x22_2).f2) true _ A14.out).mono ?_); rintro e w24 ⟨rfl, hb⟩; refine ⟨_, rfl, ?_⟩; have n0_ := Aside0.mk (blk_below (g := gb113) (o := .cells #[.int .u8 ((rd_T36 l2 x22_2).f0), .int .i64 ((rd_T36 l2 x22_2).f1), .string ((rd_T36 l2 x22_2).f2)] 36 (0, 0)) (by (with_reducible repeat (first | refine blk_drewN ?_ _ | refine blk_drew ?_ | refine blk_alloc ?_ _)); refine blk_put (cs := #[.int .u8 ((rd_T36 l2 x22_2).f0), .int .i64 ((rd_T36 l2 x22_2).f1), .string (⟨#[]⟩ : ByteArray)]) ?_ 2 _ rfl; (with_reducible repeat (first | refine blk_drewN ?_ _ | refine blk_drew ?_ | refine blk_alloc ?_ _)); refine blk_put (cs := #[.int .u8 ((rd_T36 l2 x22_2).f0), .int .i64 0, .string (⟨#[]⟩ : ByteArray)]) ?_ 1 _ rfl; (with_reducible repeat (first | refine blk_drewN ?_ _ | refine blk_drew ?_ | refine blk_alloc ?_ _)); refine blk_put (cs := #[.int .u8 0, .int .i64 0, .string (⟨#[]⟩ : ByteArray)]) ?_ 0 _ rfl; (with_reducible repeat (first | refine blk_drewN ?_ _ | refine blk_drew ?_ | refine blk_alloc ?_ _)); exact BK113.out) hb); have n1_ := Aside0.mk (below_step (by repeat (first | (with_reducible first | exact HB.out | apply bA_ | apply bN_ | apply b1_ | refine below_set ?_ GE113.out) | exact HB.out)) hb); clear BK113; clear HB; have BK113 := n0_; have HB := n1_; clear n0_ n1_; (try clear hb); (try clear hb2); (try clear hk); (try clear hi); have hcz25_0 : w24.cell? ⟨gb113, 0, none⟩ = some (.int .u8 ((rd_T36 l2 x22_2).f0)) := (blk_cell BK113.out 0).trans rfl; have hcz25_1 : w24.cell? ⟨gb113, 1, none⟩ = some (.int .i64 ((rd_T36 l2 x22_2).f1)) := (blk_cell BK113.out 1).trans rfl; have hcz25_2 : w24.cell? ⟨gb113, 2, none⟩ = some (.string ((rd_T36 l2 x22_2).f2)) := (blk_cell BK113.out 2).trans rfl; have hfz25_0 := blk_frozen BK113.out 0; have hfz25_1 := blk_frozen BK113.out 1; have hfz25_2 := blk_frozen BK113.out 2))
                    go_meet
                    case rel => exact ⟨_, ((((rd_T36 l2 x22_2).f0) != x7_2)), (by first | rfl | (simp; done) | (simp [*]; done)), H', ⟨by have := HJ3.out; have := HK2.out; first | omega | exact Nat.le_refl _⟩, ⟨by (with_reducible repeat (first | refine blk_drewN ?_ _ | refine blk_drew ?_ | refine blk_alloc ?_ _)); exact BK113.out⟩, ⟨by repeat (first | (with_reducible first | exact HB.out | apply bA_ | apply bN_ | apply b1_ | refine below_set ?_ GE113.out) | exact HB.out)⟩⟩
              · replace c15 := Bool.eq_false_iff.mpr c15
                subst c15
                have H1 : (bag_allowed.j2 k2 a0 x7_2 l2 (l2.length : Int) x22_2 true ((rd_T36 l2 x22_2).f0) ((rd_T36 l2 x22_2).f1) ((rd_T36 l2 x22_2).f2)) = some r := by rw [if_neg (show ¬ (false = true) by decide)] at H; exact H
                clear H
                have H := H1
                clear H1
                have H' := Aside0.mk H
                clear H
                have hcz26_0 : w12.cell? ⟨gb113, 0, none⟩ = some (.int .u8 0) := (blk_cell BK113.out 0).trans rfl
                have hcz26_1 : w12.cell? ⟨gb113, 1, none⟩ = some (.int .i64 0) := (blk_cell BK113.out 1).trans rfl
                have hcz26_2 : w12.cell? ⟨gb113, 2, none⟩ = some (.string (⟨#[]⟩ : ByteArray)) := (blk_cell BK113.out 2).trans rfl
                have hfz26_0 := blk_frozen BK113.out 0
                have hfz26_1 := blk_frozen BK113.out 1
                have hfz26_2 := blk_frozen BK113.out 2
                go_wp2_with (first | ((with_reducible refine gate_callee (f := 42) rfl ?_); refine goesL_ (some 27) rfl rfl Tryz.func42 (by kernel_rfl) rfl #[.agg #[.int .u8 ((rd_T36 l2 x22_2).f0), .int .i64 ((rd_T36 l2 x22_2).f1), .string ((rd_T36 l2 x22_2).f2)]] rfl (by (try simp only [List.map_toArray, List.map_cons, List.map_nil]); first | done | rfl | (simp only [List.length_drop, List.length_take]; rfl)) ?_; (with_reducible refine (value_Valid.calls ((rd_T36 l2 x22_2).f0) ((rd_T36 l2 x22_2).f1) ((rd_T36 l2 x22_2).f2) false _ A14.out).mono ?_); rintro e w27 ⟨rfl, hb⟩; refine ⟨_, rfl, ?_⟩; have n0_ := Aside0.mk (blk_below (g := gb113) (o := .cells #[.int .u8 ((rd_T36 l2 x22_2).f0), .int .i64 ((rd_T36 l2 x22_2).f1), .string ((rd_T36 l2 x22_2).f2)] 36 (0, 0)) (by (with_reducible repeat (first | refine blk_drewN ?_ _ | refine blk_drew ?_ | refine blk_alloc ?_ _)); refine blk_put (cs := #[.int .u8 ((rd_T36 l2 x22_2).f0), .int .i64 ((rd_T36 l2 x22_2).f1), .string (⟨#[]⟩ : ByteArray)]) ?_ 2 _ rfl; (with_reducible repeat (first | refine blk_drewN ?_ _ | refine blk_drew ?_ | refine blk_alloc ?_ _)); refine blk_put (cs := #[.int .u8 ((rd_T36 l2 x22_2).f0), .int .i64 0, .string (⟨#[]⟩ : ByteArray)]) ?_ 1 _ rfl; (with_reducible repeat (first | refine blk_drewN ?_ _ | refine blk_drew ?_ | refine blk_alloc ?_ _)); refine blk_put (cs := #[.int .u8 0, .int .i64 0, .string (⟨#[]⟩ : ByteArray)]) ?_ 0 _ rfl; (with_reducible repeat (first | refine blk_drewN ?_ _ | refine blk_drew ?_ | refine blk_alloc ?_ _)); exact BK113.out) hb); have n1_ := Aside0.mk (below_step (by repeat (first | (with_reducible first | exact HB.out | apply bA_ | apply bN_ | apply b1_ | refine below_set ?_ GE113.out) | exact HB.out)) hb); clear BK113; clear HB; have BK113 := n0_; have HB := n1_; clear n0_ n1_; (try clear hb); (try clear hb2); (try clear hk); (try clear hi)))
                go_meet
                case rel => exact ⟨_, (true), (by first | rfl | (simp; done) | (simp [*]; done)), H', ⟨by have := HJ3.out; have := HK2.out; first | omega | exact Nat.le_refl _⟩, ⟨by (with_reducible repeat (first | refine blk_drewN ?_ _ | refine blk_drew ?_ | refine blk_alloc ?_ _)); exact BK113.out⟩, ⟨by repeat (first | (with_reducible first | exact HB.out | apply bA_ | apply bN_ | apply b1_ | refine below_set ?_ GE113.out) | exact HB.out)⟩⟩
             case rest =>
              clear HC11
              try clear c1
              try clear p1
              try clear q1
              try clear hx1
              try clear c2
              try clear p2
              try clear c4
              try clear c5
              try clear c5b0
              try clear c6
              try clear c6b0
              try clear c6b1
              try clear c7
              try clear c8
              try clear c8b0
              try clear c9
              try clear c9b0
              try clear c10
              try clear c10b0
              try clear p11
              try clear q11
              try clear hx11
              try clear c15
              try clear c16
              try clear c16b0
              try clear c16b1
              try clear c19
              try clear c19b0
              try clear c19b1
              try clear hcz13_0
              try clear hcz13_1
              try clear hcz13_2
              try clear hcz17_0
              try clear hcz17_1
              try clear hcz17_2
              try clear hcz20_0
              try clear hcz20_1
              try clear hcz20_2
              try clear hcz22_0
              try clear hcz22_1
              try clear hcz22_2
              try clear hcz23_0
              try clear hcz23_1
              try clear hcz23_2
              try clear hcz25_0
              try clear hcz25_1
              try clear hcz25_2
              try clear hcz26_0
              try clear hcz26_1
              try clear hcz26_2
              try clear hfz13_0
              try clear hfz13_1
              try clear hfz13_2
              try clear hfz17_0
              try clear hfz17_1
              try clear hfz17_2
              try clear hfz20_0
              try clear hfz20_1
              try clear hfz20_2
              try clear hfz22_0
              try clear hfz22_1
              try clear hfz22_2
              try clear hfz23_0
              try clear hfz23_1
              try clear hfz23_2
              try clear hfz25_0
              try clear hfz25_1
              try clear hfz25_2
              try clear hfz26_0
              try clear hfz26_1
              try clear hfz26_2
              try clear hx112_0
              try clear hx112_1
              try clear hx112_2
              try clear p112
              try clear p2
              try clear q112
              obtain ⟨kq, x43_10, rfl, HA, HJ10, BK113, HB⟩ := hcut
              cases kq with
              | zero => exact absurd HA.out (by simp [bag_allowed.j2])
              | succ kj10 =>
               have H := HA.out
               clear HA
               simp only [bag_allowed.j2] at H
               by_cases c28 : x43_10 = true
               · subst c28
                 have H1 : (some false) = some r := by rw [if_pos rfl] at H; exact H
                 clear H
                 have H := H1
                 clear H1
                 obtain rfl := Option.some.inj H
                 go_wp2
                 go_ret
                 exact ⟨by first | rfl | (simp [*, errW_none, errW_some] <;> rfl), by repeat (first | (with_reducible first | exact HB.out | apply bA_ | apply bN_ | apply b1_ | refine below_set ?_ GE113.out) | exact HB.out)⟩
               · replace c28 := Bool.eq_false_iff.mpr c28
                 subst c28
                 have H1 : (if ((rd_T36 l2 x22_2).f0) = 0 then (bag_allowed.l0 kj10 a0 x7_2 l2 (l2.length : Int) (wrap64 (x22_2 + 1))) else (bag_allowed.l0 kj10 a0 ((rd_T36 l2 x22_2).f0) l2 (l2.length : Int) (wrap64 (x22_2 + 1)))) = some r := by rw [if_neg (show ¬ (false = true) by decide)] at H; exact H
                 clear H
                 have H := H1
                 clear H1
                 by_cases c29 : ((rd_T36 l2 x22_2).f0) = 0
                 · rw [if_pos c29] at H
                   have c29b0 : (((rd_T36 l2 x22_2).f0) == 0) = true := beq_iff_eq.mpr c29
                   have c29b1 : (((rd_T36 l2 x22_2).f0) != 0) = false := bne_eq_false_iff_eq.mpr c29
                   clear c29
                   have H' := Aside0.mk H
                   clear H
                   have hcz30_0 : wc.cell? ⟨gb113, 0, none⟩ = some (.int .u8 ((rd_T36 l2 x22_2).f0)) := (blk_cell BK113.out 0).trans rfl
                   have hcz30_1 : wc.cell? ⟨gb113, 1, none⟩ = some (.int .i64 ((rd_T36 l2 x22_2).f1)) := (blk_cell BK113.out 1).trans rfl
                   have hcz30_2 : wc.cell? ⟨gb113, 2, none⟩ = some (.string ((rd_T36 l2 x22_2).f2)) := (blk_cell BK113.out 2).trans rfl
                   have hfz30_0 := blk_frozen BK113.out 0
                   have hfz30_1 := blk_frozen BK113.out 1
                   have hfz30_2 := blk_frozen BK113.out 2
                   go_wp2
                   go_roundg kj10
                   case measure => have := HJ3.out; have := HK2.out; have := HJ10.out; omega
                   case rel => exact ⟨(x7_2), (wrap64 (x22_2 + 1)), (by first | rfl | (simp; done) | (simp [*]; done)), (by first | rfl | (simp; done) | (simp [*]; done)), H', ⟨by have := HJ3.out; have := HK2.out; have := HJ10.out; omega⟩, ⟨by repeat (first | (with_reducible first | exact HB.out | apply bA_ | apply bN_ | apply b1_ | refine below_set ?_ GE113.out) | exact HB.out)⟩⟩
                 · rw [if_neg c29] at H
                   have c29b0 : (((rd_T36 l2 x22_2).f0) == 0) = false := beq_eq_false_iff_ne.mpr c29
                   have c29b1 : (((rd_T36 l2 x22_2).f0) != 0) = true := bne_iff_ne.mpr c29
                   have H' := Aside0.mk H
                   clear H
                   have hcz31_0 : wc.cell? ⟨gb113, 0, none⟩ = some (.int .u8 ((rd_T36 l2 x22_2).f0)) := (blk_cell BK113.out 0).trans rfl
                   have hcz31_1 : wc.cell? ⟨gb113, 1, none⟩ = some (.int .i64 ((rd_T36 l2 x22_2).f1)) := (blk_cell BK113.out 1).trans rfl
                   have hcz31_2 : wc.cell? ⟨gb113, 2, none⟩ = some (.string ((rd_T36 l2 x22_2).f2)) := (blk_cell BK113.out 2).trans rfl
                   have hfz31_0 := blk_frozen BK113.out 0
                   have hfz31_1 := blk_frozen BK113.out 1
                   have hfz31_2 := blk_frozen BK113.out 2
                   go_wp2
                   go_roundg kj10
                   case measure => have := HJ3.out; have := HK2.out; have := HJ10.out; omega
                   case rel => exact ⟨(((rd_T36 l2 x22_2).f0)), (wrap64 (x22_2 + 1)), (by first | rfl | (simp; done) | (simp [*]; done)), (by first | rfl | (simp; done) | (simp [*]; done)), H', ⟨by have := HJ3.out; have := HK2.out; have := HJ10.out; omega⟩, ⟨by repeat (first | (with_reducible first | exact HB.out | apply bA_ | apply bN_ | apply b1_ | refine below_set ?_ GE113.out) | exact HB.out)⟩⟩
           · rw [if_neg c10] at H
             exact absurd H (by simp)
         · rw [if_neg c9] at H
           exact absurd H (by simp)
       · rw [if_neg c8] at H
         have c8b0 : decide (x22_2 < (l2.length : Int)) = false := dF_ c8
         clear c8
         by_cases c32 : x7_2 = 0
         · rw [if_pos c32] at H
           have c32b0 : (x7_2 == 0) = true := beq_iff_eq.mpr c32
           have c32b1 : (x7_2 != 0) = false := bne_eq_false_iff_eq.mpr c32
           clear c32
           obtain rfl := Option.some.inj H
           go_wp2
           go_ret
           exact ⟨by first | rfl | (simp [*, errW_none, errW_some] <;> rfl), by repeat (first | (with_reducible first | exact HB.out | apply bA_ | apply bN_ | apply b1_) | exact HB.out)⟩
         · rw [if_neg c32] at H
           have c32b0 : (x7_2 == 0) = false := beq_eq_false_iff_ne.mpr c32
           have c32b1 : (x7_2 != 0) = true := bne_iff_ne.mpr c32
           by_cases c33 : x7_2 = 1
           · rw [if_pos c33] at H
             have c33b0 : (x7_2 == 1) = true := beq_iff_eq.mpr c33
             have c33b1 : (x7_2 != 1) = false := bne_eq_false_iff_eq.mpr c33
             clear c33
             obtain rfl := Option.some.inj H
             go_wp2
             go_ret
             exact ⟨by first | rfl | (simp [*, errW_none, errW_some] <;> rfl), by repeat (first | (with_reducible first | exact HB.out | apply bA_ | apply bN_ | apply b1_) | exact HB.out)⟩
           · rw [if_neg c33] at H
             have c33b0 : (x7_2 == 1) = false := beq_eq_false_iff_ne.mpr c33
             have c33b1 : (x7_2 != 1) = true := bne_iff_ne.mpr c33
             by_cases c34 : a0 = 2
             · rw [if_pos c34] at H
               have c34b0 : (a0 == 2) = true := beq_iff_eq.mpr c34
               have c34b1 : (a0 != 2) = false := bne_eq_false_iff_eq.mpr c34
               clear c34
               obtain rfl := Option.some.inj H
               go_wp2
               go_ret
               exact ⟨by first | rfl | (simp [*, errW_none, errW_some] <;> rfl), by repeat (first | (with_reducible first | exact HB.out | apply bA_ | apply bN_ | apply b1_) | exact HB.out)⟩
             · rw [if_neg c34] at H
               have c34b0 : (a0 == 2) = false := beq_eq_false_iff_ne.mpr c34
               have c34b1 : (a0 != 2) = true := bne_iff_ne.mpr c34
               obtain rfl := Option.some.inj H
               go_wp2
               go_ret
               exact ⟨by first | rfl | (simp [*, errW_none, errW_some] <;> rfl), by repeat (first | (with_reducible first | exact HB.out | apply bA_ | apply bN_ | apply b1_) | exact HB.out)⟩
end Go.Proofs.YtecgkcgfeghhgaaGreatDoor.PAll
set_option linter.unusedVariables false
set_option linter.unusedSimpArgs false
namespace Go.Proofs.YtecgkcgfeghhgaaGreatDoor.PAll
open Go.RowKit Go.Proofs.YtecgkcgfeghhgaaGreatDoorW.PrintWords Go.Proofs.YtecgkcgfeghhgaaGreatDoorW.PrintLast Go.Proofs.YtecgkcgfeghhgaaGreatDoorW.PrintMore
structure Gath where
 σ : Type
 T : TypeId
 S : TypeId
 take : Nat
 done : Nat
 cells : σ → Array Value
 init : σ
 step : σ → V → σ
 out : σ → Int × Int × ByteArray × Int
 good : V → Prop
 inv : σ → Prop
 inv0 : inv init
 step_inv : ∀ s v, inv s → good v → inv (step s v)
 hmt : ∀ (a : Addr) (w : World), (method 297 T (.pointer (some a)) "jointer/bag.take").run Tryz.prog w = .ok (take, .pointer (some a)) w
 hmd : ∀ (a : Addr) (w : World), (method 297 T (.pointer (some a)) "jointer/bag.done").run Tryz.prog w = .ok (done, .pointer (some a)) w
 het : ∀ args w, (callFunc take args).run Tryz.prog w = .ok (.enter take args) w
 hed : ∀ args w, (callFunc done args).run Tryz.prog w = .ok (.enter done args) w
 htake : ∀ b s v w, inv s → good v → w.heap[b]? = some (.cells (cells s) S (0, 0)) → Calls Tryz.prog take #[.pointer (some ⟨b, 0, none⟩), .agg #[.int .u8 v.f0, .int .i64 v.f1, .string v.f2]] w fun e w' => e = .returned (.tuple #[]) ∧ w'.heap[b]? = some (.cells (cells (step s v)) S (0, 0)) ∧ w.grownBy w' (some b)
 fin : σ → Prop
 hdone : ∀ b s w, inv s → fin s → w.heap[b]? = some (.cells (cells s) S (0, 0)) → Calls Tryz.prog done #[.pointer (some ⟨b, 0, none⟩)] w fun e w' => e = .returned (.agg #[.int .u8 (out s).1, .int .i64 (out s).2.1, .string (out s).2.2.1, .int .i64 (out s).2.2.2]) ∧ Below w.heap.size w w'
open Classical in
theorem seen_put {kv : List (ByteArray × Bool)} {seen : List ByteArray} (h : ∀ s, (KV.get kv s).getD false = decide (s ∈ seen)) (x : ByteArray) : ∀ t, (KV.get (KV.put kv x true) t).getD false = decide (t ∈ x :: seen) := fun t => by
 by_cases ht : t = x
 · subst ht; simp [KV.get_put_same]
 · rw [KV.get_put_other _ ht, h]; simp [ht]
theorem one_CV (W : World) (v : V) (t : TypeId) : Kd.C kV (W.alloc (.cells #[.int .u8 v.f0, .int .i64 v.f1, .string v.f2] t)) (some ⟨W.heap.size, 0, none⟩) [v].length [v] := by
 refine ⟨rfl, by simp, fun _ => ⟨⟨W.heap.size, 0, none⟩, rfl, fun j p hj => ?_⟩⟩
 cases j with
 | succ j => simp at hj
 | zero =>
  obtain rfl : v = p := by simpa using hj
  refine ⟨[.int .u8 v.f0, .int .i64 v.f1, .string v.f2], rfl, kV.K_of_M (base := 0) (ok := fun _ => True) (k36_mkM _ _ _ v), fun i u hi => ?_⟩
  have h := blk_cell (heap_alloc_new W (.cells #[.int .u8 v.f0, .int .i64 v.f1, .string v.f2] t)) i
  rw [add_plain, Nat.zero_mul, Nat.zero_add]
  refine h.trans ?_
  simpa using hi
open Classical in
noncomputable def pickV (fn : Int) (d : Bool) : List ByteArray → List V → List V
 | _, [] => []
 | seen, v :: vs => if fn ≠ 0 ∧ v.f0 = 0 then pickV fn d seen vs else if d = true then (if nameOf [v] ∈ seen then pickV fn d seen vs else v :: pickV fn d (nameOf [v] :: seen) vs) else v :: pickV fn d seen vs
open Classical in
theorem aggregate_walk (G : Gath) (k : Nat) (fn : Int) (d : Bool) (A2 : Option Addr) (c2 : Nat) (l : List V) (w : World) (hT : LaidT w) (hr : Kd.C kV w A2 l.length l) (hc : l.length ≤ c2) (hok : ∀ v ∈ l, RowOk [v]) (hn : l.length ≤ 1099511627776)
 (hall : bag_allowed.f k fn d l = some true) (hgood : ∀ v ∈ pickV fn d [] l, G.good v) (hfin : G.fin ((pickV fn d [] l).foldl G.step G.init))
 (hgath : ∀ w, Calls Tryz.prog 57 #[.int .u8 fn] w fun e w' => e = .returned (.iface G.T (.pointer (some ⟨w.heap.size, 0, none⟩))) ∧ w' = w.alloc (.cells (G.cells G.init) G.S)) :
 Calls Tryz.prog 21 #[.int .u8 fn, .bool d, .slice A2 l.length c2] w fun e w' => e = .returned (.agg #[.int .u8 (G.out ((pickV fn d [] l).foldl G.step G.init)).1, .int .i64 (G.out ((pickV fn d [] l).foldl G.step G.init)).2.1, .string (G.out ((pickV fn d [] l).foldl G.step G.init)).2.2.1, .int .i64 (G.out ((pickV fn d [] l).foldl G.step G.init)).2.2.2]) ∧ Below w.heap.size w w' := by
 have HT := Aside0.mk hT
 have HR := Aside0.mk hr
 have HC := Aside0.mk hc
 have HOK := Aside0.mk hok
 have HN := Aside0.mk hn
 have HA := Aside0.mk hall
 have HG := Aside0.mk hgood
 have HFI := Aside0.mk hfin
 have HGA := Aside0.mk hgath
 clear hT hr hc hok hn hall hgood hgath hfin
 have hmm : ∀ (w : World), (Instr.makeMap 78 none).run Tryz.prog w = .ok (.map (some w.heap.size)) (w.alloc (.map #[] 0)) := fun _ => by kernel_rfl
 go_enter Tryz.func21, Tryz.ntmps21
 go_wp2_with (first | ((with_reducible refine gate_dst (N := 6) rfl ?_); refine box_event ?hg (N := 6) ?hd (cs := #[.int .u8 0, .int .i64 0, .string (⟨#[]⟩ : ByteArray), .int .i64 0]) (t := 38) ?hr ?_; (case hd => rfl); (case hg => rfl); (case hr => first | (go_simp; done) | (go_simp; rfl)); intro q hq W hN hb1; have HB1 := Aside0.mk hb1; have HQ := Aside0.mk hq; have HN0 := Aside0.mk hN; clear hb1 hq hN))
 refine (bag_allowed.calls k fn d A2 c2 l true W (Kd.C_below HR.out HB1.out) HC.out HA.out).mono ?_
 rintro e W1 ⟨rfl, hb2⟩
 have HN1 := Aside0.mk ((hb2.block q (blk_lt HN0.out)).trans HN0.out)
 have HB2 := Aside0.mk (HB1.out.trans (hb2.mono HB1.out.size))
 clear hb2 HN0 HB1
 go_wp2_with fail
 refine (HGA.out W1).mono ?_
 rintro e W2 ⟨rfl, hW2⟩
 have HG0 : Aside0 (W2.heap[W1.heap.size]? = some (.cells (G.cells G.init) G.S (0, 0))) := ⟨by rw [hW2]; exact heap_alloc_new _ _⟩
 have HN2 : Aside0 (W2.heap[q]? = some (.cells #[.int .u8 0, .int .i64 0, .string ⟨#[]⟩, .int .i64 0] 38 (0, 0))) := ⟨by rw [hW2]; exact (Below.heap_alloc W1 _ q (blk_lt HN1.out)).trans HN1.out⟩
 have HB3 : Aside0 (Below w.heap.size w W2) := ⟨by rw [hW2]; exact HB2.out.alloc HB2.out.size _⟩
 have HGE : Aside0 (w.heap.size ≤ W1.heap.size) := ⟨HB2.out.size⟩
 have HNE : Aside0 (q ≠ W1.heap.size) := ⟨fun e => by have := blk_lt HN1.out; omega⟩
 obtain ⟨g, hg⟩ : ∃ g, g = W1.heap.size := ⟨_, rfl⟩
 rw [← hg] at HG0 HGE HNE
 rw [← hg]
 clear hW2 HN1 HB2 hg
 go_wp2
 clear hmm
 have M0 : Aside0 (∃ kv : List (ByteArray × Bool), KV.Is (W2.alloc (.map #[] 0)) W2.heap.size Value.bool kv ∧ ∀ s, (KV.get kv s).getD false = decide (s ∈ ([] : List ByteArray))) := ⟨⟨[], KV.Is.made W2 _, fun s => by simp [KV.get]⟩⟩
 have HMG : Aside0 (W2.heap.size ≠ g ∧ q ≠ W2.heap.size ∧ w.heap.size ≤ W2.heap.size) := ⟨fun e => by have := blk_lt HG0.out; omega, fun e => by have := blk_lt HN2.out; omega, HB3.out.size⟩
 have HG1 : Aside0 ((W2.alloc (.map #[] 0)).heap[g]? = some (.cells (G.cells G.init) G.S (0, 0))) := ⟨(Below.heap_alloc W2 _ g (blk_lt HG0.out)).trans HG0.out⟩
 have HN3 : Aside0 ((W2.alloc (.map #[] 0)).heap[q]? = some (.cells #[.int .u8 0, .int .i64 0, .string ⟨#[]⟩, .int .i64 0] 38 (0, 0))) := ⟨(Below.heap_alloc W2 _ q (blk_lt HN2.out)).trans HN2.out⟩
 have HB4 : Aside0 (Below w.heap.size w (W2.alloc (.map #[] 0))) := ⟨HB3.out.alloc HB3.out.size _⟩
 obtain ⟨m, hm⟩ : ∃ m, m = W2.heap.size := ⟨_, rfl⟩
 rw [← hm] at M0 HMG
 simp only [← hm]
 clear hm HG0 HN2 HB3
 go_loopg [23] l.length (fun kq v23 W => ∃ (x : Int) (seen : List ByteArray) (s : G.σ), v23 = .int .i64 x ∧ Aside0 (0 ≤ x ∧ x ≤ l.length ∧ (kq : Int) = l.length - x) ∧ Aside0 (∃ kv : List (ByteArray × Bool), KV.Is W m Value.bool kv ∧ ∀ s, (KV.get kv s).getD false = decide (s ∈ seen)) ∧ Aside0 (W.heap[g]? = some (.cells (G.cells s) G.S (0, 0))) ∧ Aside0 (G.inv s) ∧ Aside0 (W.heap[q]? = some (.cells #[.int .u8 0, .int .i64 0, .string ⟨#[]⟩, .int .i64 0] 38 (0, 0))) ∧ Aside0 ((pickV fn d seen (l.drop x.toNat)).foldl G.step s = (pickV fn d [] l).foldl G.step G.init ∧ ∀ v ∈ pickV fn d seen (l.drop x.toNat), G.good v) ∧ Aside0 (Below w.heap.size w W))
 case atStart => exact ⟨0, [], G.init, rfl, ⟨by omega⟩, M0, HG1, ⟨G.inv0⟩, HN3, ⟨rfl, HG.out⟩, HB4⟩
 case round =>
  clear M0 HG1 HN3 HB4 HG
  obtain ⟨x, seen, s, rfl, HX, HM, HS, HI, HQN, HD, HB⟩ := hrel
  obtain ⟨hx0, hx1, hkq⟩ := HX.out
  by_cases hlt : x < (l.length : Int)
  · have c1 : decide (x < (l.length : Int)) = true := decide_eq_true hlt
    have c2 : decide (0 ≤ x) = true := decide_eq_true hx0
    obtain ⟨ad, e, hx_0, hx_1, hx_2⟩ := at_T36 HR.out x hx0 hlt
    cases e
    replace hx_0 := (HB.out.cell (World.block_lt_of_cell? w _ hx_0)).trans hx_0
    replace hx_1 := (HB.out.cell (World.block_lt_of_cell? w _ hx_1)).trans hx_1
    replace hx_2 := (HB.out.cell (World.block_lt_of_cell? w _ hx_2)).trans hx_2
    have hi : x.toNat < l.length := by omega
    have hrd : rd_T36 l x = l[x.toNat] := by simp [rd_T36, List.getElem?_eq_getElem hi]
    have hok := HOK.out (rd_T36 l x) (by rw [hrd]; exact List.getElem_mem hi)
    have hd := HD.out
    rw [drop_cons l x.toNat hi, ← hrd] at hd
    obtain ⟨v, hv⟩ : ∃ v, v = rd_T36 l x := ⟨_, rfl⟩
    rw [← hv] at hx_0 hx_1 hx_2 hok hd
    have HDV := Aside0.mk hd
    have HOKV := Aside0.mk hok
    have HLT := Aside0.mk hlt
    have HX0 := Aside0.mk hx0
    have HWR : Aside0 (wrap64 (x + 1) = x + 1) := ⟨by have := HN.out; unfold wrap64; omega⟩
    clear hd hok hrd hv hkq hi
    by_cases hsk : fn ≠ 0 ∧ v.f0 = 0
    · have z1 : (fn != 0) = true := by simpa using hsk.1
      have z2 : (v.f0 == 0) = true := by simpa using hsk.2
      have HSK := Aside0.mk hsk
      clear hsk
      go_wp2
      have hlt := HLT.out
      have hk := HX.out.2.2
      have hx0 := HX0.out
      cases gk with
      | zero => omega
      | succ k1 =>
       go_roundg k1
       case measure => omega
       case rel =>
        obtain ⟨kv, hkv1, hkv2⟩ := HM.out
        have hd := HDV.out
        rw [pickV, if_pos HSK.out] at hd
        rw [← show (x + 1).toNat = x.toNat + 1 by omega] at hd
        exact ⟨x + 1, seen, s, by rw [HWR.out], ⟨by omega⟩, ⟨kv, hkv1.below ((Below.refl _ wr).alloc (Nat.le_refl _) _), hkv2⟩, ⟨(Below.heap_alloc wr _ g (blk_lt HS.out)).trans HS.out⟩, HI, ⟨(Below.heap_alloc wr _ q (blk_lt HQN.out)).trans HQN.out⟩, ⟨hd⟩, ⟨HB.out.alloc HB.out.size _⟩⟩
    · by_cases hf : fn = 0
      · have z1 : (fn != 0) = false := by simp [hf]
        have HSK := Aside0.mk hsk
        clear hsk hf
        cases d with
        | false =>
         have hmt := G.hmt
         have het := G.het
         obtain ⟨kv, hkv1, hkv2⟩ := HM.out
         have HK1 := Aside0.mk hkv1
         have HK2 := Aside0.mk hkv2
         have HGD : Aside0 (G.good v) := ⟨by
          have hd := HDV.out.2
          rw [pickV, if_neg HSK.out, if_neg (by simp)] at hd
          exact hd v List.mem_cons_self⟩
         clear hkv1 hkv2
         go_wp2_with fail
         refine (G.htake g s v _ HI.out HGD.out ((Below.heap_alloc wr _ g (blk_lt HS.out)).trans HS.out)).mono ?_
         rintro e w5 ⟨rfl, hcell, hgr⟩
         have HS5 := Aside0.mk hcell
         have HQ5 := Aside0.mk ((hgr.block q (blk_lt ((Below.heap_alloc wr _ q (blk_lt HQN.out)).trans HQN.out)) (fun e => HNE.out (by injection e))).trans ((Below.heap_alloc wr _ q (blk_lt HQN.out)).trans HQN.out))
         have HM5 : Aside0 (KV.Is w5 m Value.bool kv) := ⟨KV.Is.grown (HK1.out.below ((Below.refl _ wr).alloc (Nat.le_refl _) _)) hgr (fun e => HMG.out.1 (by injection e))⟩
         have HB5 : Aside0 (Below w.heap.size w w5) := ⟨((HB.out.alloc HB.out.size (.cells #[.int .u8 v.f0, .int .i64 v.f1, .string v.f2] 36))).grown hgr ((HB.out.alloc HB.out.size (.cells #[.int .u8 v.f0, .int .i64 v.f1, .string v.f2] 36))).size (fun k hk => by cases hk; exact HGE.out)⟩
         have HI5 := Aside0.mk (G.step_inv s v HI.out HGD.out)
         clear hcell hgr hmt het
         go_wp2
         have hlt := HLT.out
         have hk := HX.out.2.2
         have hx0 := HX0.out
         cases gk with
         | zero => omega
         | succ k1 =>
          go_roundg k1
          case measure => omega
          case rel =>
           have hd := HDV.out
           rw [pickV, if_neg HSK.out, if_neg (by simp)] at hd
           rw [← show (x + 1).toNat = x.toNat + 1 by omega] at hd
           exact ⟨x + 1, seen, G.step s v, by rw [HWR.out], ⟨by omega⟩, ⟨kv, HM5.out, HK2.out⟩, HS5, HI5, HQ5, ⟨hd.1, fun u hu => hd.2 u (List.mem_cons_of_mem _ hu)⟩, HB5⟩
        | true =>
         obtain ⟨kv, hkv1, hkv2⟩ := HM.out
         have HK1 := Aside0.mk hkv1
         have HK2 := Aside0.mk hkv2
         have HWB : Aside0 (m < wr.heap.size) := ⟨hkv1.lt⟩
         have HB2 : Aside0 (Below w.heap.size w ((wr.alloc (.cells #[.int .u8 v.f0, .int .i64 v.f1, .string v.f2] 36)).alloc (.cells #[.int .u8 v.f0, .int .i64 v.f1, .string v.f2] 36))) := ⟨(HB.out.alloc HB.out.size _).alloc (Nat.le_trans HB.out.size (by simp)) _⟩
         have HBW : Aside0 (Below wr.heap.size wr ((wr.alloc (.cells #[.int .u8 v.f0, .int .i64 v.f1, .string v.f2] 36)).alloc (.cells #[.int .u8 v.f0, .int .i64 v.f1, .string v.f2] 36))) := ⟨((Below.refl _ wr).alloc (Nat.le_refl _) _).alloc (by simp) _⟩
         have HBX : Aside0 (((wr.alloc (.cells #[.int .u8 v.f0, .int .i64 v.f1, .string v.f2] 36)).alloc (.cells #[.int .u8 v.f0, .int .i64 v.f1, .string v.f2] 36)).heap[wr.heap.size]? = some (.cells #[.int .u8 v.f0, .int .i64 v.f1, .string v.f2] 36 (0, 0))) := ⟨(Below.heap_alloc (wr.alloc (.cells #[.int .u8 v.f0, .int .i64 v.f1, .string v.f2] 36)) _ _ (by simp)).trans (heap_alloc_new _ _)⟩
         clear hkv1 hkv2
         go_wp2_with fail
         have hCV := one_CV (wr.alloc (.cells #[.int .u8 v.f0, .int .i64 v.f1, .string v.f2] 36)) v 36
         rw [show (wr.alloc (.cells #[.int .u8 v.f0, .int .i64 v.f1, .string v.f2] 36)).heap.size = wr.heap.size + 1 by simp] at hCV
         have hcall := name_calls (some ⟨wr.heap.size + 1, 0, none⟩) 1 [v] _ (HT.out.below HB2.out) hCV (by simp) HOKV.out.1 HOKV.out.2.1 HOKV.out.2.2
         clear hCV
         refine hcall.mono ?_
         clear hcall
         rintro e w4 ⟨rfl, hb4⟩
         have HBW4 := Aside0.mk (HBW.out.trans (hb4.mono HBW.out.size))
         have HB4 := Aside0.mk (HB2.out.trans (hb4.mono HB2.out.size))
         have hX4 := (hb4.block _ (blk_lt HBX.out)).trans HBX.out
         have HX4 := Aside0.mk hX4
         have HK4 := Aside0.mk (HK1.out.below HBW4.out)
         have HS4 := Aside0.mk ((HBW4.out.block g (blk_lt HS.out)).trans HS.out)
         have HQ4 := Aside0.mk ((HBW4.out.block q (blk_lt HQN.out)).trans HQN.out)
         have hc : Aside0 ((KV.get kv (nameOf [v])).getD false = decide (nameOf [v] ∈ seen)) := ⟨HK2.out _⟩
         clear hb4 HBX HBW HB2
         by_cases hz : nameOf [v] ∈ seen
         · rw [decide_eq_true hz] at hc
           have HZ := Aside0.mk hz
           clear hz hX4
           go_wp2_with (at_lookup; refine KV.law_lookup _ rfl _ _ 78 rfl 9 4 Tryz.underlying9 Tryz.underlying78 (.bool false) (zeroBool _) m Value.bool kv rfl HK4.out (nameOf [v]) rfl (.bool true) (get_bool hc.out) ?_)
           have hlt := HLT.out
           have hk := HX.out.2.2
           have hx0 := HX0.out
           cases gk with
           | zero => omega
           | succ k1 =>
            go_roundg k1
            case measure => omega
            case rel =>
             have hd := HDV.out
             rw [pickV, if_neg HSK.out, if_pos rfl, if_pos HZ.out] at hd
             rw [← show (x + 1).toNat = x.toNat + 1 by omega] at hd
             exact ⟨x + 1, seen, s, by rw [HWR.out], ⟨by omega⟩, ⟨kv, HK4.out, HK2.out⟩, HS4, HI, HQ4, ⟨hd⟩, HB4⟩
         · rw [decide_eq_false hz] at hc
           have HZ := Aside0.mk hz
           have HGD : Aside0 (G.good v) := ⟨by
            have hd := HDV.out.2
            rw [pickV, if_neg HSK.out, if_pos rfl, if_neg hz] at hd
            exact hd v List.mem_cons_self⟩
           have hmt := G.hmt
           have het := G.het
           clear hz hX4
           go_wp2_with (first
            | (at_lookup; refine KV.law_lookup _ rfl _ _ 78 rfl 9 4 Tryz.underlying9 Tryz.underlying78 (.bool false) (zeroBool _) m Value.bool kv rfl HK4.out (nameOf [v]) rfl (.bool false) (get_bool hc.out) ?_)
            | (at_mapUpdate; refine KV.law_update _ rfl _ _ _ 78 rfl 9 4 Tryz.underlying9 Tryz.underlying78 m Value.bool kv rfl HK4.out (nameOf [v]) rfl true rfl ?_; intro w6 hM6 hg6; have hX6 := (hg6.block _ (blk_lt HX4.out) (fun e => by have := HWB.out; injection e; omega)).trans HX4.out; have HM6 := Aside0.mk hM6; have HB6 := Aside0.mk (HB4.out.grown hg6 HB4.out.size (fun k hk => by cases hk; exact HMG.out.2.2)); have HS6 := Aside0.mk ((hg6.block g (blk_lt HS4.out) (fun e => HMG.out.1 (by injection e with e; exact e.symm))).trans HS4.out); have HQ6 := Aside0.mk ((hg6.block q (blk_lt HQ4.out) (fun e => HMG.out.2.1 (by injection e))).trans HQ4.out); have X0 : w6.cell? ⟨wr.heap.size, 0, none⟩ = some (.int .u8 v.f0) := (blk_cell hX6 0).trans rfl; have X1 : w6.cell? ⟨wr.heap.size, 1, none⟩ = some (.int .i64 v.f1) := (blk_cell hX6 1).trans rfl; have X2 : w6.cell? ⟨wr.heap.size, 2, none⟩ = some (.string v.f2) := (blk_cell hX6 2).trans rfl; clear hM6 hg6 hX6))
           refine (G.htake g s v _ HI.out HGD.out HS6.out).mono ?_
           rintro e w5 ⟨rfl, hcell, hgr⟩
           have HS5 := Aside0.mk hcell
           have HQ5 := Aside0.mk ((hgr.block q (blk_lt HQ6.out) (fun e => HNE.out (by injection e))).trans HQ6.out)
           have HM5 : Aside0 (KV.Is w5 m Value.bool (KV.put kv (nameOf [v]) true)) := ⟨KV.Is.grown HM6.out hgr (fun e => HMG.out.1 (by injection e))⟩
           have HB5 : Aside0 (Below w.heap.size w w5) := ⟨(HB6.out).grown hgr (HB6.out).size (fun k hk => by cases hk; exact HGE.out)⟩
           have HI5 := Aside0.mk (G.step_inv s v HI.out HGD.out)
           clear hcell hgr hmt het
           go_wp2
           have hlt := HLT.out
           have hk := HX.out.2.2
           have hx0 := HX0.out
           cases gk with
           | zero => omega
           | succ k1 =>
            go_roundg k1
            case measure => omega
            case rel =>
             have hd := HDV.out
             rw [pickV, if_neg HSK.out, if_pos rfl, if_neg HZ.out] at hd
             rw [← show (x + 1).toNat = x.toNat + 1 by omega] at hd
             exact ⟨x + 1, nameOf [v] :: seen, G.step s v, by rw [HWR.out], ⟨by omega⟩, ⟨(KV.put kv (nameOf [v]) true), HM5.out, seen_put HK2.out _⟩, HS5, HI5, HQ5, ⟨hd.1, fun u hu => hd.2 u (List.mem_cons_of_mem _ hu)⟩, HB5⟩
      · have z1 : (fn != 0) = true := by simpa using hf
        have z2 : (v.f0 == 0) = false := by
         have : v.f0 ≠ 0 := fun e => hsk ⟨hf, e⟩
         simpa using this
        have HSK := Aside0.mk hsk
        clear hsk hf
        cases d with
        | false =>
         have hmt := G.hmt
         have het := G.het
         obtain ⟨kv, hkv1, hkv2⟩ := HM.out
         have HK1 := Aside0.mk hkv1
         have HK2 := Aside0.mk hkv2
         have HGD : Aside0 (G.good v) := ⟨by
          have hd := HDV.out.2
          rw [pickV, if_neg HSK.out, if_neg (by simp)] at hd
          exact hd v List.mem_cons_self⟩
         clear hkv1 hkv2
         go_wp2_with fail
         refine (G.htake g s v _ HI.out HGD.out ((Below.heap_alloc wr _ g (blk_lt HS.out)).trans HS.out)).mono ?_
         rintro e w5 ⟨rfl, hcell, hgr⟩
         have HS5 := Aside0.mk hcell
         have HQ5 := Aside0.mk ((hgr.block q (blk_lt ((Below.heap_alloc wr _ q (blk_lt HQN.out)).trans HQN.out)) (fun e => HNE.out (by injection e))).trans ((Below.heap_alloc wr _ q (blk_lt HQN.out)).trans HQN.out))
         have HM5 : Aside0 (KV.Is w5 m Value.bool kv) := ⟨KV.Is.grown (HK1.out.below ((Below.refl _ wr).alloc (Nat.le_refl _) _)) hgr (fun e => HMG.out.1 (by injection e))⟩
         have HB5 : Aside0 (Below w.heap.size w w5) := ⟨((HB.out.alloc HB.out.size (.cells #[.int .u8 v.f0, .int .i64 v.f1, .string v.f2] 36))).grown hgr ((HB.out.alloc HB.out.size (.cells #[.int .u8 v.f0, .int .i64 v.f1, .string v.f2] 36))).size (fun k hk => by cases hk; exact HGE.out)⟩
         have HI5 := Aside0.mk (G.step_inv s v HI.out HGD.out)
         clear hcell hgr hmt het
         go_wp2
         have hlt := HLT.out
         have hk := HX.out.2.2
         have hx0 := HX0.out
         cases gk with
         | zero => omega
         | succ k1 =>
          go_roundg k1
          case measure => omega
          case rel =>
           have hd := HDV.out
           rw [pickV, if_neg HSK.out, if_neg (by simp)] at hd
           rw [← show (x + 1).toNat = x.toNat + 1 by omega] at hd
           exact ⟨x + 1, seen, G.step s v, by rw [HWR.out], ⟨by omega⟩, ⟨kv, HM5.out, HK2.out⟩, HS5, HI5, HQ5, ⟨hd.1, fun u hu => hd.2 u (List.mem_cons_of_mem _ hu)⟩, HB5⟩
        | true =>
         obtain ⟨kv, hkv1, hkv2⟩ := HM.out
         have HK1 := Aside0.mk hkv1
         have HK2 := Aside0.mk hkv2
         have HWB : Aside0 (m < wr.heap.size) := ⟨hkv1.lt⟩
         have HB2 : Aside0 (Below w.heap.size w ((wr.alloc (.cells #[.int .u8 v.f0, .int .i64 v.f1, .string v.f2] 36)).alloc (.cells #[.int .u8 v.f0, .int .i64 v.f1, .string v.f2] 36))) := ⟨(HB.out.alloc HB.out.size _).alloc (Nat.le_trans HB.out.size (by simp)) _⟩
         have HBW : Aside0 (Below wr.heap.size wr ((wr.alloc (.cells #[.int .u8 v.f0, .int .i64 v.f1, .string v.f2] 36)).alloc (.cells #[.int .u8 v.f0, .int .i64 v.f1, .string v.f2] 36))) := ⟨((Below.refl _ wr).alloc (Nat.le_refl _) _).alloc (by simp) _⟩
         have HBX : Aside0 (((wr.alloc (.cells #[.int .u8 v.f0, .int .i64 v.f1, .string v.f2] 36)).alloc (.cells #[.int .u8 v.f0, .int .i64 v.f1, .string v.f2] 36)).heap[wr.heap.size]? = some (.cells #[.int .u8 v.f0, .int .i64 v.f1, .string v.f2] 36 (0, 0))) := ⟨(Below.heap_alloc (wr.alloc (.cells #[.int .u8 v.f0, .int .i64 v.f1, .string v.f2] 36)) _ _ (by simp)).trans (heap_alloc_new _ _)⟩
         clear hkv1 hkv2
         go_wp2_with fail
         have hCV := one_CV (wr.alloc (.cells #[.int .u8 v.f0, .int .i64 v.f1, .string v.f2] 36)) v 36
         rw [show (wr.alloc (.cells #[.int .u8 v.f0, .int .i64 v.f1, .string v.f2] 36)).heap.size = wr.heap.size + 1 by simp] at hCV
         have hcall := name_calls (some ⟨wr.heap.size + 1, 0, none⟩) 1 [v] _ (HT.out.below HB2.out) hCV (by simp) HOKV.out.1 HOKV.out.2.1 HOKV.out.2.2
         clear hCV
         refine hcall.mono ?_
         clear hcall
         rintro e w4 ⟨rfl, hb4⟩
         have HBW4 := Aside0.mk (HBW.out.trans (hb4.mono HBW.out.size))
         have HB4 := Aside0.mk (HB2.out.trans (hb4.mono HB2.out.size))
         have hX4 := (hb4.block _ (blk_lt HBX.out)).trans HBX.out
         have HX4 := Aside0.mk hX4
         have HK4 := Aside0.mk (HK1.out.below HBW4.out)
         have HS4 := Aside0.mk ((HBW4.out.block g (blk_lt HS.out)).trans HS.out)
         have HQ4 := Aside0.mk ((HBW4.out.block q (blk_lt HQN.out)).trans HQN.out)
         have hc : Aside0 ((KV.get kv (nameOf [v])).getD false = decide (nameOf [v] ∈ seen)) := ⟨HK2.out _⟩
         clear hb4 HBX HBW HB2
         by_cases hz : nameOf [v] ∈ seen
         · rw [decide_eq_true hz] at hc
           have HZ := Aside0.mk hz
           clear hz hX4
           go_wp2_with (at_lookup; refine KV.law_lookup _ rfl _ _ 78 rfl 9 4 Tryz.underlying9 Tryz.underlying78 (.bool false) (zeroBool _) m Value.bool kv rfl HK4.out (nameOf [v]) rfl (.bool true) (get_bool hc.out) ?_)
           have hlt := HLT.out
           have hk := HX.out.2.2
           have hx0 := HX0.out
           cases gk with
           | zero => omega
           | succ k1 =>
            go_roundg k1
            case measure => omega
            case rel =>
             have hd := HDV.out
             rw [pickV, if_neg HSK.out, if_pos rfl, if_pos HZ.out] at hd
             rw [← show (x + 1).toNat = x.toNat + 1 by omega] at hd
             exact ⟨x + 1, seen, s, by rw [HWR.out], ⟨by omega⟩, ⟨kv, HK4.out, HK2.out⟩, HS4, HI, HQ4, ⟨hd⟩, HB4⟩
         · rw [decide_eq_false hz] at hc
           have HZ := Aside0.mk hz
           have HGD : Aside0 (G.good v) := ⟨by
            have hd := HDV.out.2
            rw [pickV, if_neg HSK.out, if_pos rfl, if_neg hz] at hd
            exact hd v List.mem_cons_self⟩
           have hmt := G.hmt
           have het := G.het
           clear hz hX4
           go_wp2_with (first
            | (at_lookup; refine KV.law_lookup _ rfl _ _ 78 rfl 9 4 Tryz.underlying9 Tryz.underlying78 (.bool false) (zeroBool _) m Value.bool kv rfl HK4.out (nameOf [v]) rfl (.bool false) (get_bool hc.out) ?_)
            | (at_mapUpdate; refine KV.law_update _ rfl _ _ _ 78 rfl 9 4 Tryz.underlying9 Tryz.underlying78 m Value.bool kv rfl HK4.out (nameOf [v]) rfl true rfl ?_; intro w6 hM6 hg6; have hX6 := (hg6.block _ (blk_lt HX4.out) (fun e => by have := HWB.out; injection e; omega)).trans HX4.out; have HM6 := Aside0.mk hM6; have HB6 := Aside0.mk (HB4.out.grown hg6 HB4.out.size (fun k hk => by cases hk; exact HMG.out.2.2)); have HS6 := Aside0.mk ((hg6.block g (blk_lt HS4.out) (fun e => HMG.out.1 (by injection e with e; exact e.symm))).trans HS4.out); have HQ6 := Aside0.mk ((hg6.block q (blk_lt HQ4.out) (fun e => HMG.out.2.1 (by injection e))).trans HQ4.out); have X0 : w6.cell? ⟨wr.heap.size, 0, none⟩ = some (.int .u8 v.f0) := (blk_cell hX6 0).trans rfl; have X1 : w6.cell? ⟨wr.heap.size, 1, none⟩ = some (.int .i64 v.f1) := (blk_cell hX6 1).trans rfl; have X2 : w6.cell? ⟨wr.heap.size, 2, none⟩ = some (.string v.f2) := (blk_cell hX6 2).trans rfl; clear hM6 hg6 hX6))
           refine (G.htake g s v _ HI.out HGD.out HS6.out).mono ?_
           rintro e w5 ⟨rfl, hcell, hgr⟩
           have HS5 := Aside0.mk hcell
           have HQ5 := Aside0.mk ((hgr.block q (blk_lt HQ6.out) (fun e => HNE.out (by injection e))).trans HQ6.out)
           have HM5 : Aside0 (KV.Is w5 m Value.bool (KV.put kv (nameOf [v]) true)) := ⟨KV.Is.grown HM6.out hgr (fun e => HMG.out.1 (by injection e))⟩
           have HB5 : Aside0 (Below w.heap.size w w5) := ⟨(HB6.out).grown hgr (HB6.out).size (fun k hk => by cases hk; exact HGE.out)⟩
           have HI5 := Aside0.mk (G.step_inv s v HI.out HGD.out)
           clear hcell hgr hmt het
           go_wp2
           have hlt := HLT.out
           have hk := HX.out.2.2
           have hx0 := HX0.out
           cases gk with
           | zero => omega
           | succ k1 =>
            go_roundg k1
            case measure => omega
            case rel =>
             have hd := HDV.out
             rw [pickV, if_neg HSK.out, if_pos rfl, if_neg HZ.out] at hd
             rw [← show (x + 1).toNat = x.toNat + 1 by omega] at hd
             exact ⟨x + 1, nameOf [v] :: seen, G.step s v, by rw [HWR.out], ⟨by omega⟩, ⟨(KV.put kv (nameOf [v]) true), HM5.out, seen_put HK2.out _⟩, HS5, HI5, HQ5, ⟨hd.1, fun u hu => hd.2 u (List.mem_cons_of_mem _ hu)⟩, HB5⟩
  · have c1 : decide (x < (l.length : Int)) = false := decide_eq_false hlt
    have hd := HD.out.1
    rw [List.drop_eq_nil_of_le (by omega), pickV, List.foldl_nil] at hd
    subst hd
    have hmd := G.hmd
    have hed := G.hed
    clear hlt hx0 hx1 hkq
    go_wp2_with fail
    refine (G.hdone g _ wr HI.out HFI.out HS.out).mono ?_
    rintro e w3 ⟨rfl, hb3⟩
    have hN3 := (hb3.block q (blk_lt HQN.out)).trans HQN.out
    have HN3 := Aside0.mk hN3
    have HB3 := Aside0.mk (HB.out.trans (hb3.mono HB.out.size))
    have G0 : w3.cell? ⟨q, 0, none⟩ = some (.int .u8 0) := (blk_cell hN3 0).trans rfl
    have G1 : w3.cell? ⟨q, 1, none⟩ = some (.int .i64 0) := (blk_cell hN3 1).trans rfl
    have G2 : w3.cell? ⟨q, 2, none⟩ = some (.string ⟨#[]⟩) := (blk_cell hN3 2).trans rfl
    have G3 : w3.cell? ⟨q, 3, none⟩ = some (.int .i64 0) := (blk_cell hN3 3).trans rfl
    have F4 : ∀ j, w3.frozen? ⟨q, j, none⟩ = false := fun j => by simp [World.frozen?, hN3]
    clear hb3 hN3 hmd hed
    go_wp2
    refine bodyPost_ret (results_cell_row rfl _ _ q 38 _ (0, 0) _ rfl (out_cells HN3.out _ _ _ _) Tryz.underlying38 rfl (by kernel_rfl)) rfl ?_
    exact ⟨rfl, out_below HB3.out HQ.out _ _ _ _⟩
end Go.Proofs.YtecgkcgfeghhgaaGreatDoor.PAll
namespace Go.Proofs.YtecgkcgfeghhgaaGreatDoor.PAll
open Go.RowKit Go.Proofs.YtecgkcgfeghhgaaGreatDoorW.PrintWords Go.Proofs.YtecgkcgfeghhgaaGreatDoorW.PrintLast Go.Proofs.YtecgkcgfeghhgaaGreatDoorW.PrintMore
attribute [local go_sem] max2_int min2_int max_two min_two max_three min_three max_four min_four
set_option linter.unusedVariables false
set_option linter.unusedSimpArgs false
def bag_columnOf.l0 : Nat → Int → List (S36) → List (List (S36)) → Int → Int → Option ((List (S36)))
 | 0, _, _, _, _, _ => none
 | k + 1, x1, x5, x11, x12, x13 => if x13 < x12 then (if 0 ≤ x13 then (if x13 < (x11.length : Int) then (if x1 < ((rd_L4 x11 x13).length : Int) then (if 0 ≤ x1 then (if x13 < (x5.length : Int) then (bag_columnOf.l0 k x1 (x5.set (x13 : Int).toNat (⟨(rd_T36 (rd_L4 x11 x13) x1).f0, (rd_T36 (rd_L4 x11 x13) x1).f1, (rd_T36 (rd_L4 x11 x13) x1).f2⟩ : S36)) x11 x12 (wrap64 (x13 + 1))) else (none)) else (none)) else (bag_columnOf.l0 k x1 x5 x11 x12 (wrap64 (x13 + 1)))) else (none)) else (none)) else (some x5)
def bag_columnOf.f (k : Nat) (l0 : List (List (S36))) (a1 : Int) : Option ((List (S36))) := if 0 ≤ (l0.length : Int) then (if ((l0.length : Int) : Int).toNat ≤ 8796093022208 then (bag_columnOf.l0 k a1 (List.replicate ((l0.length : Int) : Int).toNat z36) l0 (l0.length : Int) 0) else (none)) else (none)
theorem bag_columnOf.calls (k : Nat) (A0 : Option Addr) (c0 : Nat) (l0 : List (List (S36))) (a1 : Int) (r : List (S36)) (w : World) (hr0 : Kd.C (Kd.slice 36 k36) w A0 l0.length l0) (hc0 : l0.length ≤ c0) (h : bag_columnOf.f k l0 a1 = some r) :
 Calls Tryz.prog 63 #[.slice A0 l0.length c0, .int .i64 a1] w fun e w' => ∃ v0_ : Value, e = .returned (v0_) ∧ Kd.R k36 36 w' w.heap.size (fun _ => True) v0_ r ∧ Below w.heap.size w w' := by
 have hu36 := Tryz.underlying36
 have HR0 := Aside0.mk hr0
 have HC0 := Aside0.mk hc0
 clear hr0 hc0
 have HB := Aside0.mk (Below.refl w.heap.size w)
 have H : (if 0 ≤ (l0.length : Int) then (if ((l0.length : Int) : Int).toNat ≤ 8796093022208 then (bag_columnOf.l0 k a1 (List.replicate ((l0.length : Int) : Int).toNat z36) l0 (l0.length : Int) 0) else (none)) else (none)) = some r := h
 clear h
 by_cases c3 : 0 ≤ (l0.length : Int)
 · rw [if_pos c3] at H
   have c3b0 := eq_true c3
   have c3b1 : decide (0 ≤ (l0.length : Int)) = true := dT_ c3
   clear c3
   by_cases c4 : ((l0.length : Int) : Int).toNat ≤ 8796093022208
   · rw [if_pos c4] at H
     have c4b0 := eq_true c4
     have c4b1 : decide (((l0.length : Int) : Int).toNat ≤ 8796093022208) = true := dT_ c4
     clear c4
     obtain ⟨y116, hy116⟩ : ∃ y_ : List (S36), y_ = (List.replicate ((l0.length : Int) : Int).toNat z36) := ⟨_, rfl⟩
     replace H : (bag_columnOf.l0 k a1 y116 l0 (l0.length : Int) 0) = some r := by first | (rw [hy116]; with_reducible exact H) | (have H2_ := (Option.bind_some _ _).symm.trans H; rw [hy116]; with_reducible exact H2_) | (have H2_ := (Option.bind_some _ _).symm.trans H; with_reducible exact H2_) | with_reducible exact H | (rw [hy116]; exact H) | exact H
     have Ny116 := Aside0.mk hy116
     clear hy116
     have H' := Aside0.mk H
     clear H
     go_enter Tryz.func63, Tryz.ntmps63
     go_wp2_with (first | ((with_reducible refine gate_dst (N := 10) rfl ?_); refine Kd.R_make k36 _ 36 rfl (N := 10) rfl 33 _ _ rfl (l0.length : Int) rfl rfl Tryz.underlying33 (.agg #[(.int .u8 0), (.int .i64 0), (.string ⟨#[]⟩)]) 32 info36 rfl (by decide) (by omega) z36 (ok := fun _ => True) (okp := fun _ => True) (k36_mkM _ _ _ z36 ) (fun _ hk => hk) trivial (oT_ (by assumption)) (Nat.le_trans (Nat.mul_le_mul_right _ (oT_ (by assumption) : (l0.length : Int).toNat ≤ 8796093022208)) (by omega)) (Below.refl _ _) (Nat.le_refl _) ?_; intro v117 w5 ho6 hb hg_ hnew_; clear hg_ hnew_; (first | rw [← Ny116.out] at ho6 | (simp only [Int.reduceToNat] at ho6; rw [← Ny116.out] at ho6)); have n0_ := Aside0.mk (Kd.R_lower ho6 (below_size (by repeat (first | (with_reducible first | exact HB.out | apply bA_ | apply bN_ | apply b1_) | exact HB.out)))); have n1_ := Aside0.mk (below_step (by repeat (first | (with_reducible first | exact HB.out | apply bA_ | apply bN_ | apply b1_) | exact HB.out)) hb); clear HB; have HO118 := n0_; have HB := n1_; clear n0_ n1_; clear hb ho6))
     go_loopg [13] k (fun kq v13 w' => ∃ (x5_1 : List (S36)) (x13_1 : Int), v13 = .int .i64 x13_1 ∧ Aside0 (bag_columnOf.l0 kq a1 x5_1 l0 (l0.length : Int) x13_1 = some r) ∧ Aside0 (kq ≤ k) ∧ Aside0 (Kd.R k36 36 w' w.heap.size (fun _ => True) v117 x5_1) ∧ Aside0 (Below w.heap.size w w'))
     case atStart => exact ⟨(y116), (0), (by first | rfl | (simp; done) | (simp [*]; done)), H', ⟨Nat.le_refl _⟩, ⟨by (with_reducible repeat (first | apply Kd.R_alloc | apply Kd.R_drewN | apply Kd.R_drew)); exact HO118.out⟩, ⟨by repeat (first | (with_reducible first | exact HB.out | apply bA_ | apply bN_ | apply b1_) | exact HB.out)⟩⟩
     case round =>
      clear H'
      try clear p2
      try clear c3
      try clear c3b0
      try clear c3b1
      try clear c4
      try clear c4b0
      try clear c4b1
      try clear c6
      obtain ⟨x5_1, x13_1, rfl, HA, HK1, HO_5, HB⟩ := hrel
      cases gk with
      | zero => exact absurd HA.out (by simp [bag_columnOf.l0])
      | succ k1 =>
       have H := HA.out
       clear HA
       simp only [bag_columnOf.l0] at H
       by_cases c7 : x13_1 < (l0.length : Int)
       · rw [if_pos c7] at H
         have c7b0 : decide (x13_1 < (l0.length : Int)) = true := dT_ c7
         clear c7
         by_cases c8 : 0 ≤ x13_1
         · rw [if_pos c8] at H
           have c8b0 : decide (0 ≤ x13_1) = true := dT_ c8
           clear c8
           by_cases c9 : x13_1 < (l0.length : Int)
           · rw [if_pos c9] at H
             have c9b0 : decide (x13_1 < (l0.length : Int)) = true := dT_ c9
             clear c9
             by_cases c10 : a1 < ((rd_L4 l0 x13_1).length : Int)
             · rw [if_pos c10] at H
               have c10b0 : decide (a1 < ((rd_L4 l0 x13_1).length : Int)) = true := dT_ c10
               clear c10
               by_cases c11 : 0 ≤ a1
               · rw [if_pos c11] at H
                 have c11b0 : decide (0 ≤ a1) = true := dT_ c11
                 clear c11
                 by_cases c12 : x13_1 < (x5_1.length : Int)
                 · rw [if_pos c12] at H
                   have c12b0 : decide (x13_1 < (x5_1.length : Int)) = true := dT_ c12
                   clear c12
                   obtain ⟨y121, hy121⟩ : ∃ y_ : List (S36), y_ = (x5_1.set (x13_1 : Int).toNat (⟨(rd_T36 (rd_L4 l0 x13_1) a1).f0, (rd_T36 (rd_L4 l0 x13_1) a1).f1, (rd_T36 (rd_L4 l0 x13_1) a1).f2⟩ : S36)) := ⟨_, rfl⟩
                   replace H : (bag_columnOf.l0 k1 a1 y121 l0 (l0.length : Int) (wrap64 (x13_1 + 1))) = some r := by first | (rw [hy121]; with_reducible exact H) | (have H2_ := (Option.bind_some _ _).symm.trans H; rw [hy121]; with_reducible exact H2_) | (have H2_ := (Option.bind_some _ _).symm.trans H; with_reducible exact H2_) | with_reducible exact H | (rw [hy121]; exact H) | exact H
                   have Ny121 := Aside0.mk hy121
                   clear hy121
                   have H' := Aside0.mk H
                   clear H
                   have p119 : 0 ≤ (x13_1 : Int) := oT_ (by assumption)
                   have q119 : x13_1 < (l0.length : Int) := oT_ (by assumption)
                   obtain ⟨ad119, A119_0, c119_0, e119, hx119_0, hl119_0, hi119_0⟩ := at_L4 HR0.out x13_1 p119 q119
                   cases e119
                   replace hx119_0 := (HB.out.cell (bLC_ w _ hx119_0)).trans hx119_0
                   have HR119_0 := Aside0.mk hi119_0
                   have HC119_0 := Aside0.mk hl119_0
                   clear hi119_0 hl119_0
                   replace p119 := eq_true p119
                   replace q119 := eq_true q119
                   have p120 : 0 ≤ (a1 : Int) := oT_ (by assumption)
                   have q120 : a1 < ((rd_L4 l0 x13_1).length : Int) := oT_ (by assumption)
                   obtain ⟨ad120, e120, hx120_0, hx120_1, hx120_2⟩ := at_T36 HR119_0.out a1 p120 q120
                   cases e120
                   replace hx120_0 := (HB.out.cell (bLC_ w _ hx120_0)).trans hx120_0
                   replace hx120_1 := (HB.out.cell (bLC_ w _ hx120_1)).trans hx120_1
                   replace hx120_2 := (HB.out.cell (bLC_ w _ hx120_2)).trans hx120_2
                   replace p120 := eq_true p120
                   replace q120 := eq_true q120
                   have p13 : 0 ≤ (x13_1 : Int) := oT_ (by assumption)
                   have q13 : (x13_1 : Int) < ((x5_1.length : Int) : Int) := oT_ (by assumption)
                   obtain ⟨go13, co13, eo13, gb13, gl13, cl13, HG13⟩ := Kd.R_form HO_5.out (by omega)
                   (first | cases eo13 | (injection eo13 with ea_ en_ ec_; (first | subst ea_ | (injection ea_ with ea_; subst ea_)); subst ec_; clear en_))
                   have GB13 := Aside0.mk gb13
                   have GG13 := Aside0.mk HG13
                   clear gb13 gl13 HG13
                   obtain ⟨ce13, hcl13, hM13, hcc13, hfr13⟩ := Kd.R_elem HO_5.out z36 (x13_1 : Int) p13 q13
                   obtain rfl := k36_openM hM13
                   have hx13_0 : wr.cell? ⟨go13, (x13_1 : Int).toNat * 3, none⟩ = some (.int .u8 ((rd_T36 x5_1 x13_1).f0)) := hcc13 0 _ rfl
                   have hx13_1 : wr.cell? ⟨go13, (x13_1 : Int).toNat * 3 + 1, none⟩ = some (.int .i64 ((rd_T36 x5_1 x13_1).f1)) := hcc13 1 _ rfl
                   have hx13_2 : wr.cell? ⟨go13, (x13_1 : Int).toNat * 3 + 2, none⟩ = some (.string ((rd_T36 x5_1 x13_1).f2)) := hcc13 2 _ rfl
                   have hf13_0 : wr.frozen? ⟨go13, (x13_1 : Int).toNat * 3, none⟩ = false := hfr13 0
                   have hf13_1 : wr.frozen? ⟨go13, (x13_1 : Int).toNat * 3 + 1, none⟩ = false := hfr13 1
                   have hf13_2 : wr.frozen? ⟨go13, (x13_1 : Int).toNat * 3 + 2, none⟩ = false := hfr13 2
                   clear hcl13 hcc13 hfr13 hM13
                   replace p13 := eq_true p13
                   replace q13 := eq_true q13
                   have HX14 := Aside0.mk (show Kd.R k36 36 wr w.heap.size (fun _ => True) (.slice (some ⟨go13, 0, none⟩) x5_1.length co13) x5_1 from (by (with_reducible repeat (first | apply Kd.R_alloc | apply Kd.R_drewN | apply Kd.R_drew)); exact HO_5.out))
                   obtain ⟨ce14, hcl14, hM14, hcc14, hfr14⟩ := Kd.R_elem HX14.out z36 (x13_1 : Int) (oT_ (by assumption)) (by have h_ : (x13_1 : Int) < ((x5_1.length : Int) : Int) := oT_ (by assumption); first | exact h_ | (have e_ := (Kd.R_reads' HO_5.out).1; omega) | simpa using h_)
                   obtain rfl := k36_openM hM14
                   have HP14 := Kd.R_seg HX14.out (x13_1 : Int) (oT_ (by assumption)) (by have h_ : (x13_1 : Int) < ((x5_1.length : Int) : Int) := oT_ (by assumption); first | exact h_ | (have e_ := (Kd.R_reads' HO_5.out).1; omega) | simpa using h_) (seg := [.int .u8 ((rd_T36 (rd_L4 l0 x13_1) a1).f0), .int .i64 ((rd_T36 (rd_L4 l0 x13_1) a1).f1), .string ((rd_T36 (rd_L4 l0 x13_1) a1).f2)]) (j := 0) hcl14 hcc14 (show 3 ≤ 3 from by decide) (x' := (⟨(rd_T36 (rd_L4 l0 x13_1) a1).f0, (rd_T36 (rd_L4 l0 x13_1) a1).f1, (rd_T36 (rd_L4 l0 x13_1) a1).f2⟩ : S36)) (k36_mkM _ _ _ (⟨(rd_T36 (rd_L4 l0 x13_1) a1).f0, (rd_T36 (rd_L4 l0 x13_1) a1).f1, (rd_T36 (rd_L4 l0 x13_1) a1).f2⟩ : S36) ) (fun _ hk => hk)
                   have hx14_0 := hcc14 0 _ rfl
                   (try simp only [show (k36).sz = 3 from rfl, Nat.mul_one, Nat.add_zero] at hx14_0)
                   have hf14_0 := hfr14 0
                   (try simp only [show (k36).sz = 3 from rfl, Nat.mul_one, Nat.add_zero] at hf14_0)
                   have hx14_1 := hcc14 1 _ rfl
                   (try simp only [show (k36).sz = 3 from rfl, Nat.mul_one, Nat.add_zero] at hx14_1)
                   have hf14_1 := hfr14 1
                   (try simp only [show (k36).sz = 3 from rfl, Nat.mul_one, Nat.add_zero] at hf14_1)
                   have hx14_2 := hcc14 2 _ rfl
                   (try simp only [show (k36).sz = 3 from rfl, Nat.mul_one, Nat.add_zero] at hx14_2)
                   have hf14_2 := hfr14 2
                   (try simp only [show (k36).sz = 3 from rfl, Nat.mul_one, Nat.add_zero] at hf14_2)
                   clear hcl14 hcc14 hfr14 hM14
                   go_wp2_with (first | ((with_reducible refine gate_store (t := 36) (p := 28) rfl ?_); refine store_event (t := 36) (p := 28) (v := ?vo_w15) (w1 := (((wr.setCell ⟨go13, (x13_1 : Int).toNat * 3, none⟩ (.int .u8 ((rd_T36 (rd_L4 l0 x13_1) a1).f0))).setCell ⟨go13, (x13_1 : Int).toNat * 3 + 1, none⟩ (.int .i64 ((rd_T36 (rd_L4 l0 x13_1) a1).f1))).setCell ⟨go13, (x13_1 : Int).toNat * 3 + 2, none⟩ (.string ((rd_T36 (rd_L4 l0 x13_1) a1).f2)))) ?hg ?ho ?hn ?hr ?_; (case ho => rfl); (case hg => rfl); (case hn => rfl); (case hr => first | (go_simp; done) | (go_simp; rfl)); intro w15 hw; have hg : wr.grownBy w15 (some go13) := (by rw [hw]; exact HP14.2); have hp_ : Kd.R k36 36 w15 w.heap.size (fun _ => True) (.slice (some ⟨go13, 0, none⟩) x5_1.length co13) y121 := (by rw [hw, Ny121.out]; exact HP14.1); clear HP14; have n0_ := Aside0.mk (hp_); have n1_ := Aside0.mk ((by rw [hw]; exact below_set (below_set (below_set (HB.out) GB13.out) GB13.out) GB13.out : Below w.heap.size w w15)); clear HO_5; clear HB; have HO_5 := n0_; have HB := n1_; clear n0_ n1_; clear hg hw hp_))
                   go_roundg k1
                   case measure => have := HK1.out; omega
                   case rel => exact ⟨(y121), (wrap64 (x13_1 + 1)), (by first | rfl | (simp; done) | (simp [*]; done)), H', ⟨by have := HK1.out; omega⟩, ⟨by (with_reducible repeat (first | apply Kd.R_alloc | apply Kd.R_drewN | apply Kd.R_drew)); exact HO_5.out⟩, ⟨by repeat (first | (with_reducible first | exact HB.out | apply bA_ | apply bN_ | apply b1_) | exact HB.out)⟩⟩
                 · rw [if_neg c12] at H
                   exact absurd H (by simp)
               · rw [if_neg c11] at H
                 exact absurd H (by simp)
             · rw [if_neg c10] at H
               have c10b0 : decide (a1 < ((rd_L4 l0 x13_1).length : Int)) = false := dF_ c10
               clear c10
               have H' := Aside0.mk H
               clear H
               have p119 : 0 ≤ (x13_1 : Int) := oT_ (by assumption)
               have q119 : x13_1 < (l0.length : Int) := oT_ (by assumption)
               obtain ⟨ad119, A119_0, c119_0, e119, hx119_0, hl119_0, hi119_0⟩ := at_L4 HR0.out x13_1 p119 q119
               cases e119
               replace hx119_0 := (HB.out.cell (bLC_ w _ hx119_0)).trans hx119_0
               have HR119_0 := Aside0.mk hi119_0
               have HC119_0 := Aside0.mk hl119_0
               clear hi119_0 hl119_0
               replace p119 := eq_true p119
               replace q119 := eq_true q119
               go_wp2
               go_roundg k1
               case measure => have := HK1.out; omega
               case rel => exact ⟨(x5_1), (wrap64 (x13_1 + 1)), (by first | rfl | (simp; done) | (simp [*]; done)), H', ⟨by have := HK1.out; omega⟩, ⟨by (with_reducible repeat (first | apply Kd.R_alloc | apply Kd.R_drewN | apply Kd.R_drew)); exact HO_5.out⟩, ⟨by repeat (first | (with_reducible first | exact HB.out | apply bA_ | apply bN_ | apply b1_) | exact HB.out)⟩⟩
           · rw [if_neg c9] at H
             exact absurd H (by simp)
         · rw [if_neg c8] at H
           exact absurd H (by simp)
       · rw [if_neg c7] at H
         have c7b0 : decide (x13_1 < (l0.length : Int)) = false := dF_ c7
         clear c7
         obtain rfl := Option.some.inj H
         go_wp2
         go_ret
         exact ⟨_, by first | rfl | (simp [*, errW_none, errW_some] <;> rfl), by (with_reducible repeat (first | apply Kd.R_alloc | apply Kd.R_drewN | apply Kd.R_drew)); exact HO_5.out, by repeat (first | (with_reducible first | exact HB.out | apply bA_ | apply bN_ | apply b1_) | exact HB.out)⟩
   · rw [if_neg c4] at H
     exact absurd H (by simp)
 · rw [if_neg c3] at H
   exact absurd H (by simp)
end Go.Proofs.YtecgkcgfeghhgaaGreatDoor.PAll
set_option linter.unusedVariables false
set_option linter.unusedSimpArgs false
namespace Go.Proofs.YtecgkcgfeghhgaaGreatDoor.PAll
open Go.RowKit Go.Proofs.YtecgkcgfeghhgaaGreatDoorW.PrintWords Go.Proofs.YtecgkcgfeghhgaaGreatDoorW.PrintLast Go.Proofs.YtecgkcgfeghhgaaGreatDoorW.PrintMore
def columnR (l : List (List V)) (n : Int) : List V := l.map (fun r => rd_T36 r n)
theorem columnOf_l0 (l : List (List V)) (n : Int) (h0 : 0 ≤ n) (hn : l.length ≤ 1099511627776) : ∀ (d i : Nat) (xs : List V), i + d = l.length → xs = (l.take i).map (fun r => rd_T36 r n) ++ List.replicate d z36 →
 Ev (fun k => bag_columnOf.l0 k n xs l (l.length : Int) (i : Int)) (columnR l n) := by
 intro d
 induction d with
 | zero =>
  intro i xs hi hx
  refine Ev.step (f := fun _ => some (columnR l n)) (fun k => ?_) (Ev.now _)
  simp only [bag_columnOf.l0]
  rw [if_neg (by omega), hx, List.take_of_length_le (by omega)]
  simp [columnR]
 | succ d ih =>
  intro i xs hi hx
  have hlt : i < l.length := by omega
  have hxl : xs.length = l.length := by rw [hx]; simp; omega
  have hset : xs.set i (rd_T36 l[i] n) = (l.take (i + 1)).map (fun r => rd_T36 r n) ++ List.replicate d z36 := by
   rw [hx, List.replicate_succ, take_snoc _ _ hlt, List.set_append_right _ _ (by simp; omega)]
   simp only [List.length_map, List.length_take, Nat.min_eq_left (Nat.le_of_lt hlt), Nat.sub_self, List.set_cons_zero, List.map_append]
   simp
  by_cases c : n < (l[i].length : Int)
  · refine Ev.step (f := fun k => bag_columnOf.l0 k n (xs.set i (rd_T36 l[i] n)) l (l.length : Int) ((i + 1 : Nat) : Int)) (fun k => ?_) (ih (i + 1) _ (by omega) hset)
    simp only [bag_columnOf.l0]
    rw [if_pos (by omega), if_pos (by omega), if_pos (by omega), rdL_at hlt, if_pos c, if_pos h0, if_pos (by omega), w64 _ (by omega) (by omega), Int.toNat_natCast]
    rfl
  · have hz : rd_T36 l[i] n = z36 := by
     unfold rd_T36
     rw [List.getD_eq_getElem?_getD, List.getElem?_eq_none (by omega)]
     rfl
    have hsame : xs.set i (rd_T36 l[i] n) = xs := by
     rw [hz, hx, List.replicate_succ, List.set_append_right _ _ (by simp; omega)]
     simp [Nat.min_eq_left (Nat.le_of_lt hlt)]
    refine Ev.step (f := fun k => bag_columnOf.l0 k n xs l (l.length : Int) ((i + 1 : Nat) : Int)) (fun k => ?_) (ih (i + 1) _ (by omega) (by rw [← hset, hsame]))
    simp only [bag_columnOf.l0]
    rw [if_pos (by omega), if_pos (by omega), if_pos (by omega), rdL_at hlt, if_neg c, w64 _ (by omega) (by omega)]
    rfl
theorem columnOf_ev (l : List (List V)) (n : Int) (h0 : 0 ≤ n) (hn : l.length ≤ 1099511627776) : Ev (fun k => bag_columnOf.f k l n) (columnR l n) := by
 refine Ev.congr (f := fun k => bag_columnOf.l0 k n (List.replicate l.length z36) l (l.length : Int) ((0 : Nat) : Int)) (fun k => ?_) (columnOf_l0 l n h0 hn l.length 0 _ (by omega) (by simp))
 unfold bag_columnOf.f
 rw [if_pos (by omega), Int.toNat_natCast, if_pos (by omega)]
 rfl
def kindFrom : Int → List V → Option Int
 | k, [] => some k
 | k, v :: vs => if validV v = true ∧ (k = 0 ∨ v.f0 = 0 ∨ v.f0 = k) then kindFrom (if v.f0 = 0 then k else v.f0) vs else none
def allowedB (fn : Int) (d : Bool) (vs : List V) : Bool :=
 if fn > 5 ∨ fn = 0 ∧ d = true then false else match kindFrom 0 vs with
  | none => false
  | some k => decide (k = 0 ∨ k = 1 ∨ fn ≠ 2 ∧ fn ≠ 5)
theorem allowed_l0 (fn : Int) (vs : List V) (hv : ∀ v ∈ vs, VOk v) (hn : vs.length ≤ 1099511627776) : ∀ (d i : Nat) (k0 : Int), i + d = vs.length →
 Ev (fun k => bag_allowed.l0 k fn k0 vs (vs.length : Int) (i : Int)) (match kindFrom k0 (vs.drop i) with
 | none => false
 | some k => decide (k = 0 ∨ k = 1 ∨ fn ≠ 2 ∧ fn ≠ 5)) := by
 intro d
 induction d with
 | zero =>
  intro i k0 hi
  rw [List.drop_eq_nil_of_le (by omega)]
  refine Ev.step (f := fun _ => some (decide (k0 = 0 ∨ k0 = 1 ∨ fn ≠ 2 ∧ fn ≠ 5))) (fun k => ?_) (Ev.now _)
  simp only [bag_allowed.l0]
  rw [if_neg (by omega)]
  by_cases c0 : k0 = 0
  · simp [c0]
  · by_cases c1 : k0 = 1
    · simp [c1]
    · by_cases c2 : fn = 2
      · simp [c0, c1, c2]
      · by_cases c3 : fn = 5 <;> simp [c0, c1, c2, c3]
 | succ d ih =>
  intro i k0 hi
  have hlt : i < vs.length := by omega
  rw [drop_cons vs i hlt]
  have hvv := valid_value vs[i] (hv _ (List.getElem_mem hlt))
  have one : ∀ k, bag_allowed.l0 (k + 1) fn k0 vs (vs.length : Int) (i : Int) = if validV vs[i] = true then (if k0 = 0 then bag_allowed.j2 k fn k0 vs (vs.length : Int) (i : Int) false vs[i].f0 vs[i].f1 vs[i].f2 else if vs[i].f0 = 0 then bag_allowed.j2 k fn k0 vs (vs.length : Int) (i : Int) false vs[i].f0 vs[i].f1 vs[i].f2 else bag_allowed.j2 k fn k0 vs (vs.length : Int) (i : Int) (vs[i].f0 != k0) vs[i].f0 vs[i].f1 vs[i].f2) else bag_allowed.j2 k fn k0 vs (vs.length : Int) (i : Int) true vs[i].f0 vs[i].f1 vs[i].f2 := fun k => by
   simp only [bag_allowed.l0]
   rw [if_pos (by omega), if_pos (by omega), if_pos (by omega), rdV_at hlt, hvv]
   simp only [Option.bind_some]
  have bad : Ev (fun k => bag_allowed.j2 k fn k0 vs (vs.length : Int) (i : Int) true vs[i].f0 vs[i].f1 vs[i].f2) false :=
   Ev.step (f := fun _ => some false) (fun k => by simp [bag_allowed.j2]) (Ev.now _)
  have good : ∀ b, Ev (fun k => bag_allowed.l0 k fn (if vs[i].f0 = 0 then k0 else vs[i].f0) vs (vs.length : Int) ((i + 1 : Nat) : Int)) b → Ev (fun k => bag_allowed.j2 k fn k0 vs (vs.length : Int) (i : Int) false vs[i].f0 vs[i].f1 vs[i].f2) b := fun b hb =>
   Ev.step (fun k => by
    simp only [bag_allowed.j2]
    rw [if_neg (by simp), w64 _ (by omega) (by omega)]
    by_cases c : vs[i].f0 = 0
    · rw [if_pos c, if_pos c]; rfl
    · rw [if_neg c, if_neg c]; rfl) hb
  simp only [kindFrom]
  by_cases c0 : validV vs[i] = true
  · by_cases c1 : k0 = 0 ∨ vs[i].f0 = 0 ∨ vs[i].f0 = k0
    · rw [if_pos ⟨c0, c1⟩]
      refine Ev.step (f := fun k => bag_allowed.j2 k fn k0 vs (vs.length : Int) (i : Int) false vs[i].f0 vs[i].f1 vs[i].f2) (fun k => ?_) (good _ (ih (i + 1) _ (by omega)))
      rw [one, if_pos c0]
      by_cases d1 : k0 = 0
      · rw [if_pos d1]
      · rw [if_neg d1]
        by_cases d2 : vs[i].f0 = 0
        · rw [if_pos d2]
        · rw [if_neg d2, show (vs[i].f0 != k0) = false by simp; omega]
    · rw [if_neg (fun h => c1 h.2)]
      refine Ev.step (f := fun k => bag_allowed.j2 k fn k0 vs (vs.length : Int) (i : Int) true vs[i].f0 vs[i].f1 vs[i].f2) (fun k => ?_) bad
      rw [one, if_pos c0, if_neg (by omega), if_neg (by omega), show (vs[i].f0 != k0) = true by simp; omega]
  · rw [if_neg (fun h => c0 h.1)]
    refine Ev.step (f := fun k => bag_allowed.j2 k fn k0 vs (vs.length : Int) (i : Int) true vs[i].f0 vs[i].f1 vs[i].f2) (fun k => ?_) bad
    rw [one, if_neg c0]
theorem allowed_ev (fn : Int) (d : Bool) (vs : List V) (hv : ∀ v ∈ vs, VOk v) (hn : vs.length ≤ 1099511627776) : Ev (fun k => bag_allowed.f k fn d vs) (allowedB fn d vs) := by
 have bad : Ev (fun k => bag_allowed.j0 k fn vs true) false := Ev.step (f := fun _ => some false) (fun k => by simp [bag_allowed.j0]) (Ev.now _)
 have good := allowed_l0 fn vs hv hn vs.length 0 0 (by omega)
 rw [List.drop_zero] at good
 have good2 : Ev (fun k => bag_allowed.j0 k fn vs false) (match kindFrom 0 vs with
  | none => false
  | some k => decide (k = 0 ∨ k = 1 ∨ fn ≠ 2 ∧ fn ≠ 5)) := Ev.step (fun k => by simp only [bag_allowed.j0]; rw [if_neg (by simp)]; rfl) good
 unfold allowedB
 by_cases c0 : fn > 5
 · rw [if_pos (.inl c0)]
   exact Ev.congr (fun k => by unfold bag_allowed.f; rw [if_pos c0]) bad
 · by_cases c1 : fn = 0
   · cases d with
     | true =>
      rw [if_pos (.inr ⟨c1, rfl⟩)]
      exact Ev.congr (fun k => by unfold bag_allowed.f; rw [if_neg c0, if_pos c1]) bad
     | false =>
      rw [if_neg (by simp; omega)]
      exact Ev.congr (fun k => by unfold bag_allowed.f; rw [if_neg c0, if_pos c1]) good2
   · rw [if_neg (by omega)]
     exact Ev.congr (fun k => by unfold bag_allowed.f; rw [if_neg c0, if_neg c1]) good2
theorem rowStep_kind : ∀ (ks : List Int) (r : List V) (ks' : List Int), rowStep ks r = some ks' → ks'.length = ks.length ∧ (∀ j : Nat, ks.getD j 0 ≠ 0 → ks'.getD j 0 = ks.getD j 0) ∧ ∀ (j : Nat) (h : j < r.length), r[j].f0 = 0 ∨ r[j].f0 = ks'.getD j 0
 | [], [], ks', h => by
  simp [rowStep] at h; subst h; simp
 | [], _ :: _, _, h => by simp [rowStep] at h
 | _ :: _, [], _, h => by simp [rowStep] at h
 | k :: ks, v :: vs, ks', h => by
  simp only [rowStep] at h
  split at h
  · rename_i hv
    cases hr : rowStep ks vs with
    | none => simp [hr] at h
    | some t =>
     simp [hr] at h
     subst h
     obtain ⟨i1, i2, i3⟩ := rowStep_kind ks vs t hr
     refine ⟨by simp [i1], fun j hj => ?_, fun j hj => ?_⟩
     · cases j with
       | zero =>
        simp only [List.getD_cons_zero] at hj ⊢
        rw [if_neg hj]
       | succ j =>
        simp only [List.getD_cons_succ] at hj ⊢
        exact i2 j hj
     · cases j with
       | zero =>
        simp only [List.getElem_cons_zero, List.getD_cons_zero]
        split
        · exact .inr rfl
        · omega
       | succ j =>
        simp only [List.getElem_cons_succ, List.getD_cons_succ]
        exact i3 j (by simpa using hj)
  · cases h
theorem validFrom_kind : ∀ (l : List (List V)) (ks : List Int), validFrom ks l = true → ∃ K : List Int, (∀ j : Nat, ks.getD j 0 ≠ 0 → K.getD j 0 = ks.getD j 0) ∧ ∀ r ∈ l, ∀ (j : Nat) (h : j < r.length), r[j].f0 = 0 ∨ r[j].f0 = K.getD j 0
 | [], ks, _ => ⟨ks, fun _ _ => rfl, by simp⟩
 | r :: rs, ks, h => by
  simp only [validFrom] at h
  cases hr : rowStep ks r with
  | none => simp [hr] at h
  | some t =>
   rw [hr] at h
   obtain ⟨i1, i2, i3⟩ := rowStep_kind ks r t hr
   obtain ⟨K, k1, k2⟩ := validFrom_kind rs t h
   refine ⟨K, fun j hj => ?_, fun u hu j hj => ?_⟩
   · rw [← i2 j hj]
     exact k1 j (by rw [i2 j hj]; exact hj)
   · rcases List.mem_cons.1 hu with rfl | hu
     · rcases i3 j hj with h0 | h0
       · exact .inl h0
       · by_cases hz : t.getD j 0 = 0
         · exact .inl (h0.trans hz)
         · exact .inr (by rw [k1 j hz]; exact h0)
     · exact k2 u hu j hj
theorem kindFrom_some (K : Int) : ∀ (vs : List V) (k : Int), (∀ v ∈ vs, validV v = true ∧ (v.f0 = 0 ∨ v.f0 = K)) → (k = 0 ∨ k = K) → ∃ r, kindFrom k vs = some r ∧ (r = 0 ∨ r = K)
 | [], k, _, hk => ⟨k, rfl, hk⟩
 | v :: vs, k, h, hk => by
  have hv := h v List.mem_cons_self
  simp only [kindFrom]
  rw [if_pos ⟨hv.1, by omega⟩]
  exact kindFrom_some K vs _ (fun u hu => h u (List.mem_cons_of_mem _ hu)) (by split <;> omega)
theorem col_kind {l : List (List V)} (hv : validB l = true) (n : Int) : ∃ K : Int, ∀ row ∈ l, validV (rd_T36 row n) = true ∧ ((rd_T36 row n).f0 = 0 ∨ (rd_T36 row n).f0 = K) := by
 have hz : validV z36 = true := by
  unfold validV noText z36
  simp [ByteArray.toList_eq]
 cases l with
 | nil => exact ⟨0, by simp⟩
 | cons r rs =>
  obtain ⟨K, _, hK⟩ := validFrom_kind (r :: rs) _ hv
  refine ⟨K.getD n.toNat 0, fun row hrow => ?_⟩
  by_cases h : n.toNat < row.length
  · have e : rd_T36 row n = row[n.toNat] := by simp [rd_T36, List.getElem?_eq_getElem h]
    rw [e]
    exact ⟨validB_valid hv row hrow _ (List.getElem_mem h), hK row hrow n.toNat h⟩
  · have e : rd_T36 row n = z36 := by
     unfold rd_T36
     rw [List.getD_eq_getElem?_getD, List.getElem?_eq_none (by omega)]
     rfl
    rw [e]
    exact ⟨hz, .inl rfl⟩
theorem col_allowed {l ls : List (List V)} (hv : validB l = true) (hs : ∀ row ∈ ls, row ∈ l) (n : Int) : allowedB 0 false (columnR ls n) = true := by
 obtain ⟨K, hK⟩ := col_kind hv n
 obtain ⟨r, hr, _⟩ := kindFrom_some K (columnR ls n) 0 (fun v hv => by
  obtain ⟨row, hrow, rfl⟩ := List.mem_map.1 hv
  exact hK row (hs row hrow)) (.inl rfl)
 unfold allowedB
 rw [if_neg (by simp), hr]
 simp
theorem pickV_all : ∀ (vs : List V) (seen : List ByteArray), pickV 0 false seen vs = vs
 | [], _ => rfl
 | v :: vs, seen => by
  rw [pickV, if_neg (by simp), if_neg (by simp), pickV_all vs seen]
def okInt (v : V) : Prop := -9223372036854775808 ≤ v.f1 ∧ v.f1 ≤ 9223372036854775807
def cStep (n : Int) (_ : V) : Int := wrap64 (n + 1)
def tStep (s : Int × Int × Int) (v : V) : Int × Int × Int := ((s.1 + IntKind.u64.wrap (v.f1 / 9223372036854775808) + (s.2.1 + IntKind.u64.wrap v.f1) / 18446744073709551616) % 18446744073709551616, (s.2.1 + IntKind.u64.wrap v.f1) % 18446744073709551616, IntKind.u64.wrap (s.2.2 + 1))
def countG : Gath where
 σ := Int
 T := 129
 S := 131
 take := 168
 done := 167
 cells := fun n => #[.int .i64 n]
 init := 0
 step := cStep
 out := fun n => (1, n, ⟨#[]⟩, 0)
 good := fun _ => True
 inv := fun _ => True
 inv0 := trivial
 step_inv := fun _ _ _ _ => trivial
 hmt := fun a w => by kernel_rfl
 hmd := fun a w => by kernel_rfl
 het := enters_of Tryz.func168 (by kernel_rfl) rfl
 hed := enters_of Tryz.func167 (by kernel_rfl) rfl
 htake := fun b s v w _ _ hb => counter_take b s v w hb
 fin := fun _ => True
 hdone := fun b s w _ _ hb => counter_done b s w hb
def totalG : Gath where
 σ := Int × Int × Int
 T := 120
 S := 122
 take := 158
 done := 157
 cells := fun s => #[.int .u64 s.1, .int .u64 s.2.1, .int .u64 s.2.2]
 init := (0, 0, 0)
 step := tStep
 out := fun s => totalOut s.1 s.2.1 s.2.2
 good := fun _ => True
 inv := fun s => 0 ≤ s.1 ∧ 0 ≤ s.2.1 ∧ s.2.1 < 18446744073709551616
 inv0 := by decide
 step_inv := fun s v _ _ => by
  simp only [tStep]
  omega
 hmt := fun a w => by kernel_rfl
 hmd := fun a w => by kernel_rfl
 het := enters_of Tryz.func158 (by kernel_rfl) rfl
 hed := enters_of Tryz.func157 (by kernel_rfl) rfl
 htake := fun b s v w hi _ hb => total_take 122 b s.1 s.2.1 s.2.2 v w hb hi.1 hi.2.1 hi.2.2
 fin := fun _ => True
 hdone := fun b s w _ _ hb => total_done b s.1 s.2.1 s.2.2 w hb _ _ _ _ rfl
theorem count_fold : ∀ (vs : List V) (n : Int), 0 ≤ n → n + vs.length ≤ 1099511627776 → vs.foldl cStep n = n + vs.length
 | [], n, _, _ => by simp
 | v :: vs, n, h0, h1 => by
  have hl : ((v :: vs).length : Int) = vs.length + 1 := by simp
  rw [hl] at h1 ⊢
  rw [List.foldl_cons]
  show vs.foldl cStep (wrap64 (n + 1)) = _
  rw [w64 n h0 (by omega), count_fold vs (n + 1) (by omega) (by omega)]
  omega
def sumV : List V → Int
 | [] => 0
 | v :: vs => v.f1 + sumV vs
theorem sumV_bd : ∀ vs : List V, (∀ v ∈ vs, okInt v) → -9223372036854775808 * (vs.length : Int) ≤ sumV vs ∧ sumV vs ≤ 9223372036854775807 * (vs.length : Int)
 | [], _ => by simp [sumV]
 | v :: vs, h => by
  have h1 := h v List.mem_cons_self
  have h2 := sumV_bd vs (fun u hu => h u (List.mem_cons_of_mem _ hu))
  have hl : ((v :: vs).length : Int) = vs.length + 1 := by simp
  unfold okInt at h1
  simp only [sumV, hl]
  omega
theorem u64w (x : Int) : IntKind.u64.wrap x = x % 18446744073709551616 := by
 simp [IntKind.wrap, IntKind.bits, IntKind.signed]
def stOf (S : Int) (n : Int) : Int × Int × Int := ((S / 18446744073709551616) % 18446744073709551616, S % 18446744073709551616, n)
theorem total_step (S n : Int) (v : V) (hv : okInt v) (h0 : 0 ≤ n) (h1 : n ≤ 1099511627776) : tStep (stOf S n) v = stOf (S + v.f1) (n + 1) := by
 unfold okInt at hv
 unfold stOf tStep
 simp only [u64w]
 refine Prod.ext ?_ (Prod.ext ?_ ?_)
 · show (S / 18446744073709551616 % 18446744073709551616 + v.f1 / 9223372036854775808 % 18446744073709551616 + (S % 18446744073709551616 + v.f1 % 18446744073709551616) / 18446744073709551616) % 18446744073709551616 = (S + v.f1) / 18446744073709551616 % 18446744073709551616
   rcases (by omega : v.f1 < 0 ∨ 0 ≤ v.f1) with h | h
   · have e1 : v.f1 / 9223372036854775808 = -1 := by omega
     rw [e1]
     omega
   · have e1 : v.f1 / 9223372036854775808 = 0 := by omega
     rw [e1]
     omega
 · show (S % 18446744073709551616 + v.f1 % 18446744073709551616) % 18446744073709551616 = (S + v.f1) % 18446744073709551616
   omega
 · show (n + 1) % 18446744073709551616 = n + 1
   omega
theorem total_fold : ∀ (vs : List V) (S n : Int), (∀ v ∈ vs, okInt v) → 0 ≤ n → n + vs.length ≤ 1099511627776 → vs.foldl tStep (stOf S n) = stOf (S + sumV vs) (n + vs.length)
 | [], S, n, _, _, _ => by simp [sumV]
 | v :: vs, S, n, h, h0, h1 => by
  have hl : ((v :: vs).length : Int) = vs.length + 1 := by simp
  rw [hl] at h1 ⊢
  rw [List.foldl_cons, total_step S n v (h v List.mem_cons_self) h0 (by omega), total_fold vs _ _ (fun u hu => h u (List.mem_cons_of_mem _ hu)) (by omega) (by omega)]
  simp only [sumV]
  congr 1 <;> omega
def sumR (vs : List V) : Int × Int × ByteArray × Int :=
 if vs = [] then (0, 0, ⟨#[]⟩, 0) else if -9223372036854775808 ≤ sumV vs ∧ sumV vs ≤ 9223372036854775807 then (1, sumV vs, ⟨#[]⟩, 0) else (0, 0, ⟨#[]⟩, 4)
theorem wrap64_eq (x : Int) (h0 : 0 ≤ x) (h1 : x < 18446744073709551616) : wrap64 x = if x < 9223372036854775808 then x else x - 18446744073709551616 := by
 unfold wrap64
 split <;> omega
theorem total_out (vs : List V) (h : ∀ v ∈ vs, okInt v) (hn : vs.length ≤ 1099511627776) : totalG.out (vs.foldl totalG.step totalG.init) = sumR vs := by
 have e := total_fold vs 0 0 h (by omega) (by omega)
 have e0 : stOf 0 0 = (0, 0, 0) := by decide
 rw [e0] at e
 change (fun s : Int × Int × Int => totalOut s.1 s.2.1 s.2.2) (vs.foldl tStep (0, 0, 0)) = _
 rw [e]
 have hb := sumV_bd vs h
 rw [Int.zero_add, Int.zero_add]
 unfold stOf totalOut sumR
 obtain ⟨S, hS⟩ : ∃ S, S = sumV vs := ⟨_, rfl⟩
 rw [← hS] at hb ⊢
 by_cases c0 : vs = []
 · subst c0
   simp
 · have hp : 0 < vs.length := List.length_pos_iff.2 c0
   rw [if_neg c0]
   dsimp only
   rw [if_neg (by omega)]
   rw [wrap64_eq _ (by omega) (by omega), u64w]
   by_cases c : -9223372036854775808 ≤ S ∧ S ≤ 9223372036854775807
   · rw [if_pos c]
     split
     · rw [if_pos (by omega)]
       congr 2
       omega
     · rw [if_pos (by omega)]
       congr 2
       omega
   · rw [if_neg c]
     split
     · rw [if_neg (by omega)]
     · rw [if_neg (by omega)]
end Go.Proofs.YtecgkcgfeghhgaaGreatDoor.PAll
